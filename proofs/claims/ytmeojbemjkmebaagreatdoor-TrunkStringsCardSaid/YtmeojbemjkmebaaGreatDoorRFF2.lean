import Derived.Test.YtmeojbemjkmebaaGreatDoorRFB11
import Derived.Test.YtmeojbemjkmebaaGreatDoorRFB9
import Derived.Test.YtmeojbemjkmebaaGreatDoorRFB10
import Derived.Test.YtmeojbemjkmebaaGreatDoorRFB5
import Derived.Test.YtmeojbemjkmebaaGreatDoorRFB6
set_option linter.unusedSimpArgs false
set_option linter.unusedVariables false
set_option maxRecDepth 4000
set_option maxHeartbeats 1000000
namespace Go.Proofs.YtmeojbemjkmebaaGreatDoor
open K Go Go.Proofs
def cC(k:Nat)(a0:a8)(a1:(List (List Int))):Option Int:=
 (kg k a0).bind fun r2=>
 if¬(r2=0) then(some r2) else((lA k a0 a1).bind fun r4=>
 (QR r4).bind fun q5=>
 if q5.isSome=true then(some (q5.getD 0)) else(some 0))
theorem eE(k:Nat)(a0:a8)(a1:(List (List Int)))(r:Int)(h:cC k a0 a1=some r):
 cm Tryz.prog 42 [.rep aj a0,.rep (.slice (.slice (.int .i64))) a1] [.inv 0 (dF)] (fun _:Unit=>(bz [I r],[.inv 0 (dF)])):=by
 unfold cC at h
 replace h:=be h
 refine cm.of 19 Tryz.func42 rfl Tryz.ntmps42 rfl fun S w0=>?_
 refine sr ?_
 refine bx fun b1=>?_
 refine cq ?_
 refine nt ?_
 refine ae ?_
 refine sr ?_
 refine lo dy ?_
 obtain⟨r2,e,h⟩:=aa h
 have l:=nO k a0 r2 e
 refine ja (ar [.tmp 7] rfl rfl Nl rfl l) ?_
 refine aq ?_
 refine nt ?_
 refine sr ?_
 refine mq ?_
 refine jb (ig rfl) ?_
 refine nt ?_
 refine cn h (fun h=>?_) (fun h=>?_)
 ·
  refine sr (mq ?_);refine aq (nt (rx ?_));refine bh (SE.fin (Γ':=[(4,_)]) [1,0] ⟨rfl,trivial⟩ rfl) ?_;cases h;exact aN () [_] 1 ⟨rfl,trivial⟩ rfl
 ·
  refine sk (sr (aD rfl rfl rfl (bg rfl uF Qx) trivial fun b3=>?_));refine nt (ae (sr (fr 1 ?_)));refine lo dy ?_;refine mq ?_;obtain⟨r4,c,h⟩:=aa h;refine jb (ar [.tmp 12,.tmp 13] rfl rfl RX rfl (rC k a0 a1 r4 c)) ?_;refine ja (GQ rfl S7) ?_;obtain⟨q5,j,h⟩:=aa h;refine fr 2 ?_;refine fr 2 ?_;refine bG (Δ:=[_,_]) (F:=_) (fun _ _ _=>ay rfl _) rfl rfl (ar [.tmp 14,.tmp 15] rfl rfl PV rfl (Qo j)) ⟨rfl,rfl,trivial⟩ fun _=>?_;refine nt (cv h (fun h=>?_) (fun h=>?_))
  ·refine sr (fl J4 ?_);refine lo Q8 ?_;refine aq (nt (rx ?_));refine bh (SE.fin (Γ':=[(4,_)]) [1,0,2] ⟨rfl,trivial⟩ rfl) ?_;cases h;exact aN () [_] 1 ⟨rfl,trivial⟩ rfl
  ·refine sk (sr (cq (nt (aB ?_))));refine bh (SE.fin (Γ':=[(4,_)]) [1,0,2] ⟨rfl,trivial⟩ rfl) ?_;cases h;exact aN () [_] 1 ⟨rfl,trivial⟩ rfl
theorem jI(k:Nat)(a0:a8)(z_a0:Nat)(a1:(List (List Int)))(r:Int)(h:dC k a0 a1=some r):
 cS (jf Tryz.prog) 48 [.at ax (a0,(.map (some z_a0))),.rep (.arr 3 (.arr 5 (.int .i64))) a1] [.inv z_a0 (bN k a0)] (fun _:Unit=>(bz [I r],[.inv z_a0 (bN k a0)])):=by
 have h0:=h
 unfold dC at h
 replace h:=be h
 obtain⟨u1,eg,h⟩:=aa h
 have hg:=av eg
 have gk:=Hy hg
 refine cS.of 28 Tryz.func48 rfl Tryz.ntmps48 rfl fun S w0=>?_
 refine sr ?_
 refine bx fun b1=>?_
 refine cq ?_
 refine nt ?_
 refine ae ?_
 refine jh 1 rfl ?_
 refine CH fun ob hob=>?_
 obtain⟨lnn,lbb,hlR,hlk⟩:=ye (z:=z_a0) QC LI Ah gk EN hob
 refine bK ?_
 refine dm ?_
 refine da (dK rfl) ?_
 refine da (aM 1 false rfl Dp rfl) ?_
 refine da (ao (t:=.val) rfl Ld rfl) ?_
 refine ea 1 (ap rfl f6 (yM) rfl) ?_
 refine eb 0 (EC (kv:=lp a1) (wT _) (mh.calm hob) rfl (fun _ _ _ hh=>vy hh) hlk) ?_
 refine dm ?_
 refine da (c6 rfl rfl) ?_
 refine da (c6 rfl rfl) ?_
 refine da (gh rfl) ?_
 refine df cY ?_
 refine aq ?_
 refine nt ?_
 refine ae ?_
 refine sr ?_
 refine mq ?_
 refine ja (fm rfl) ?_
 refine nt ?_
 refine eA (lG (bN k a0) hob) ?_
 refine bC rfl (fun hb=>?_) (fun hb=>?_)
 ·
  refine sr (mq ?_);refine fr 1 ?_;refine lo f6 ?_;obtain⟨r2,c,h⟩:=aa h;refine jc (dX (N:=[(.tmp 18,.at ax (a0,(.map (some z_a0)))),(.tmp 19,.rep (.arr 3 (.arr 5 (.int .i64))) a1),(.const (.int .i64 (0)),I 0)]) (gU [.tmp 18,.tmp 19,.const (.int .i64 (0))] rfl rfl PX rfl (mz k (a0,()) a1 0 r2 c)) fun _ _ _ hn=>⟨(tN hn.1),hn.2.1,hn.2.2.1,trivial⟩) ?_;refine aq (nt ?_);refine bK ?_;refine dm ?_;refine da (dK rfl) ?_;refine da (aM 1 false rfl Dp rfl) ?_;refine da (ao (t:=.val) rfl Ld rfl) ?_;refine ea 0 (ap rfl f6 (yM) rfl) ?_;refine dm ?_;refine df cY ?_;refine fr 1 ?_;have hl:dC k a0 a1=some r2:=h0.trans (show some r=some r2 from h.symm);refine bj rfl rfl (zB (kv:=lp a1) (wT _) rfl QC Ah (fun _ _ _ hh=>vy hh) gk ⟨a1,hg,rfl,hl⟩) ⟨rfl,rfl,rfl,trivial⟩ ?_;refine nt (sr (mq ?_));refine aq (nt (aB ?_));cases h;exact aN () [_] 1 ⟨rfl,trivial⟩ rfl
 ·
  obtain⟨p,hp,he,hl⟩:=hlR (by simpa using hb);obtain rfl:=wU hg hp he;replace h:some lnn=some r:=hl.symm.trans h0;refine sk (sr (mq ?_));refine aq (nt (aB ?_));cases h;exact aN () [_] 1 ⟨rfl,trivial⟩ rfl
def pL(k:Nat)(a0:a8)(a1:(List (List Int))):Option (Int×Int):=
 (cC k a0 a1).bind fun r2=>
 if¬(r2=0) then(some (0,r2)) else((fA k a1).bind fun r4=>
 (dC k a0 r4).bind fun r5=>
 some (r5,0))
theorem rJ(k:Nat)(a0:a8)(a1:(List (List Int)))(r:Int×Int)(h:pL k a0 a1=some r):
 cS (jf Tryz.prog) 13 [.rep aj a0,.rep (.slice (.slice (.int .i64))) a1] [.inv 0 (dF)] (fun _:Unit=>(bz [I r.1,I r.2],[.inv 0 (dF)])):=by
 unfold pL at h
 replace h:=be h
 refine cS.of 18 Tryz.func13 rfl Tryz.ntmps13 rfl fun S w0=>?_
 refine sr ?_
 refine bx fun b1=>?_
 refine cq ?_
 refine cq ?_
 refine nt ?_
 refine ae ?_
 refine sr ?_
 refine lo dy ?_
 refine mq ?_
 obtain⟨r2,j,h⟩:=aa h
 have l:=eE k a0 a1 r2 j
 refine fr 1 ?_
 refine kb (ar [.tmp 7,.tmp 8] rfl rfl Kr rfl l) ?_
 refine aq ?_
 refine nt ?_
 refine sr ?_
 refine mq ?_
 refine jb (ig rfl) ?_
 refine nt ?_
 refine cn h (fun h=>?_) (fun h=>?_)
 ·
  refine sr (mq ?_);refine cq ?_;refine aq (nt (rx ?_));cases h;exact aN () [_,_] 1 ⟨rfl,rfl,trivial⟩ rfl
 ·
  refine sk (sr (fr 1 ?_));refine lo dy ?_;refine aD rfl rfl rfl (ar [.tmp 13] rfl rfl Kq rfl (ip a0)) ⟨rfl,trivial⟩ fun z3=>?_;refine bZ (lG (bN k a0) nu) ?_;refine mq ?_;obtain⟨r4,e,h⟩:=aa h;refine ja (ar [.tmp 15] rfl rfl E0 rfl (eZ k a1 r4 e)) ?_;obtain⟨r5,c,h⟩:=aa h;refine kb (gU [.tmp 14,.tmp 16] rfl rfl P2 rfl (jI k a0 z3 r4 r5 c)) ?_;refine aq ?_;refine cq (nt (aB ?_));refine bh (SE.fin (Γ':=[(4,_),(5,_)]) [2,0,1] ⟨rfl,rfl,trivial⟩ rfl) ?_;cases h;exact aN () [_,_] 1 ⟨rfl,rfl,trivial⟩ rfl
set_option maxRecDepth 20000
set_option maxHeartbeats 4000000
def N9(b:Nat):List Int→Option Addr
 |[]=>none
 |_::_=>some ⟨b,0,none⟩
def QQ:List Int→Value→Value
 |[],_=>.slice none 0 0
 |_::_,v=>v
theorem NC(b:Nat)(l:List Int):N9 b l=none∨N9 b l=some ⟨b,0,none⟩:=by cases l <;> simp [N9]
theorem Ik(b:Nat)(l:List Int)(c:Int):N9 b (l++[c])=some ⟨b,0,none⟩:=by cases l <;> rfl
theorem Ij(l:List Int)(c:Int)(v:Value):QQ (l++[c]) v=v:=by cases l <;> rfl
theorem Lh:lj Tryz.prog 51 9 1 16:=.of (z:=(.string .empty)) QX (by kernel_rfl) rfl rfl rfl
theorem Ni:ah Tryz.prog 51:=ah.of Tryz.func51 (by kernel_rfl) (by kernel_rfl)
theorem PT:ah Tryz.prog 42:=ah.of Tryz.func42 (by kernel_rfl) (by kernel_rfl)
theorem OE:dG Tryz.prog 27 3 true:=⟨fun w=>by kernel_rfl,fun w=>by kernel_rfl⟩
theorem Lc:dG Tryz.prog 22 1 false:=⟨fun w=>by kernel_rfl,fun w=>by kernel_rfl⟩
theorem OD:dG Tryz.prog 3 1 false:=⟨fun w=>by kernel_rfl,fun w=>by kernel_rfl⟩
def jJ(c:Int):Int:=IntKind.i32.wrap (97+IntKind.i32.wrap c)
def gJ(xs:List Int):Nat→Int×List Int→Option (List Int)
 |0,_=>none
 |n+1,y=>if y.1 < (xs.length:Int) then((aX xs y.1).bind fun c=>if 0≤jJ c∧jJ c≤127∧bO (y.2.length+1) then(ck (y.1+1)).bind fun z=>gJ xs n (z,y.2++[jJ c]) else none) else some y.2
def fB(k:Nat)(a1:List (List Int)):Nat→Int×List ByteArray→Option (List ByteArray)
 |0,_=>none
 |n+1,y=>if y.1 < (a1.length:Int) then((aX a1 y.1).bind fun xs=>(gJ xs k (0,[])).bind fun l=>if bO (y.2.length+1) then(ck (y.1+1)).bind fun z=>fB k a1 n (z,y.2++[di l]) else none) else some y.2
def jv(k:Nat)(a0:a8)(a1:(List (List Int))):Option (Value×Int):=
 (cC k a0 a1).bind fun e=>if¬(e=0) then some (.string .empty,e) else(fB k a1 k (0,[])).bind fun ss=>(pM k ss ⟨#[47]⟩).bind fun r=>some (.string r,0)
theorem rI(k:Nat)(a0:a8)(a1:(List (List Int)))(r:Value×Int)(h:jv k a0 a1=some r):
 cm Tryz.prog 17 [.rep aj a0,.rep (.slice (.slice (.int .i64))) a1] [.inv 0 dF] (fun _:Unit=>(bz [.eq r.1,I r.2],[.inv 0 dF])):=by
 unfold jv at h
 replace h:=be h
 refine cm.of 43 Tryz.func17 rfl Tryz.ntmps17 rfl fun S w0=>?_
 refine sr ?_
 refine bx fun b2=>?_
 refine cq ?_
 refine cq ?_
 refine nt ?_
 refine ae ?_
 refine sr ?_
 obtain⟨e,ee,h⟩:=aa h
 have ce:=eE k a0 a1 e ee
 refine ka (ap rfl OE (yN) rfl) ?_
 refine mq ?_
 refine fr 1 ?_
 refine kb (ar [.tmp 13,.tmp 14] rfl rfl PT rfl ce) ?_
 refine aq ?_
 refine nt ?_
 refine sr ?_
 refine mq ?_
 refine jb (ig rfl) ?_
 refine nt ?_
 refine bC rfl (fun hb=>?_) (fun hb=>?_)
 ·
  replace h:=cI (OR hb) h;refine sr (mq ?_);refine cq ?_;refine aq (nt (rx ?_));cases h;exact aN () [_,_] 1 ⟨rfl,rfl,trivial⟩ rfl
 replace h:=bS (Hj hb) h
 refine sk ?_
 refine sr ?_
 refine cq ?_
 refine nt ?_
 rw [Option.bind_assoc] at h
 refine ae ?_
 refine sr ?_
 refine mq ?_
 refine ol k9 ?_
 refine eU rfl ?_
 refine bZ (SE.nil 9 .str) ?_
 refine nt ?_
 refine an ?_
 refine aJ (fun v y=>[(7,.eq v),(19,.rep (.slice (.slice (.int .i64))) a1),(20,I (a1.length:Int)),(21,I y.1)]) (fun v y=>[.sl v 9 .str y.2,.inv 0 dF]) (fB k a1) k (.slice none 0 0) (0,[]) (fun _=>rfl) h (SE.fin [0,1] ⟨rfl,rfl,rfl,rfl,trivial⟩ rfl) (fun n v7 y h=>?_)
 unfold fB at h
 refine sr ?_
 refine jb (bv rfl) ?_
 refine nt ?_
 refine ae ?_
 refine bC rfl (fun hb=>?_) (fun hb=>?_)
 ·
  replace h:=cI (nG hb) h;refine sk (ae (an ?_));obtain⟨xs,exs,h⟩:=aa h;refine sr (jb (aI (t:=.slice (.int .i64)) rfl k9 Lc exs) ?_);refine ja (ao (t:=.slice (.int .i64)) rfl Lc rfl) ?_;refine aq (nt (sr ?_));refine aD rfl rfl rfl (bg rfl FG LE) trivial fun b=>?_;refine nt ?_;rw [Option.bind_assoc] at h;refine ae (sr (mq ?_));refine ol dQ ?_;refine eU rfl ?_;refine bZ (SE.nil 5 (.int .u8)) ?_;refine nt (an ?_)
  refine aJ (fun v q=>[(7,.eq v7),(10,.eq (bP b)),(19,.rep (.slice (.slice (.int .i64))) a1),(20,I (a1.length:Int)),(21,I y.1),(25,Ri xs),(26,I (xs.length:Int)),(27,I q.1)])
   (fun v q=>[.obj b 92 (bA (.pointer (N9 b q.2)) (QQ q.2 v)),.sl (QQ q.2 v) 5 (.int .u8) q.2,.sl v7 9 .str y.2,.inv 0 dF]) (gJ xs) k undef (0,[]) (fun _=>rfl) h (SE.fin [1,0,2,3] ⟨rfl,rfl,rfl,rfl,rfl,rfl,rfl,rfl,trivial⟩ rfl) (fun n2 v q h=>?_)
  unfold gJ at h;refine sr (jb (bv rfl) ?_);refine nt (ae (bC rfl (fun hb=>?_) (fun hb=>?_)))
  ·replace h:=cI (nG hb) h;refine sk (ae (an ?_));obtain⟨c,ec,h⟩:=aa h;refine sr (jb (aI (t:=.int .i64) rfl dQ OD ec) ?_);refine ja (ao (t:=.int .i64) rfl OD rfl) ?_;refine aq (nt ?_)
   have hk:0≤jJ c∧jJ c≤127∧bO (q.2.length+1):=by
    apply Classical.byContradiction;intro hn;rw [if_neg hn] at h;cases h
   replace h:=cI hk h;refine vV 1 rfl fun hv=>?_;refine ab (mq ?_);refine ja (oW rfl U3 TB) ?_;refine jb (BF rfl) ?_;refine bG (Δ:=[_,_]) (F:=_) (fun _ _ _=>ay rfl _) rfl rfl (ar [.tmp 10,.tmp 33] rfl rfl Nj rfl (xI (b:=b) (p:=N9 b q.2) (v:=QQ q.2 v) (l:=q.2) (r:=jJ c) (NC b q.2) hv hk.1 hk.2.1 hk.2.2)) ⟨rfl,rfl,trivial⟩ fun v2=>?_;refine au (aK (tn (ab ?_)));obtain⟨z3,ez3,h⟩:=aa h;refine jb (bf rfl ez3) ?_;refine mq (nl ?_);exact fq (v2,(z3,q.2++[jJ c])) h (SE.fin [0,1,2,3] ⟨rfl,rfl,rfl,rfl,rfl,rfl,rfl,rfl,trivial⟩ (by simp only [Ik,Ij];rfl))
  replace h:=bS (mW hb) h;refine dk (aP (aP (bL (tn ?_))));replace h:(if bO (y.2.length+1) then(ck (y.1+1)).bind fun z=>fB k a1 n (z,y.2++[di q.2]) else none).bind _=some r:=h
  have hk:bO (y.2.length+1):=by
   apply Classical.byContradiction;intro hn;rw [if_neg hn] at h;cases h
  replace h:=cI hk h;refine ab (mq ?_);refine bG (Δ:=[_,_]) (F:=_) (fun _ _ _=>ay rfl _) rfl rfl (ar [.tmp 10] rfl rfl H3 rfl (wJ (b:=b) (l:=q.2) (fun hn=>by rw [hn];rfl))) ⟨rfl,trivial⟩ fun _=>?_;refine ja (bi (t:=.str) [(.tmp 37,.eq (.string (di q.2)))] [di q.2] rfl rfl Lh (.cons rfl .str .nil) rfl rfl) ?_;refine dz rfl rfl rfl (bQ rfl rfl Lh (by simpa using hk)) ⟨rfl,rfl,trivial⟩ fun v'=>?_;refine aq (au (aK (tn (ab ?_))));obtain⟨z3,ez3,h⟩:=aa h;refine jb (bf rfl ez3) ?_;refine mq (nl ?_);exact jz (v',(z3,y.2++[di q.2])) h [0,1]
 replace h:=bS (mW hb) h
 refine dk ?_
 refine aP ?_
 refine aP ?_
 refine bL ?_
 refine tn ?_
 replace h:((pM k y.2 ⟨#[47]⟩).bind fun r=>some (.string r,0)).bind some=some r:=h
 obtain⟨r1,j,h⟩:=aa h
 cases h
 have cj:=Be k y.2 _ r1 j
 refine sr ?_
 refine bZ (gx [7] ⟨rfl,trivial⟩) ?_
 refine mq ?_
 refine jb (ar [.tmp 41,.const (.string ⟨#[47]⟩)] rfl rfl Ni rfl cj) ?_
 refine aq ?_
 refine cq ?_
 refine nt ?_
 refine aB ?_
 exact aN () [_,_] 1 ⟨rfl,rfl,trivial⟩ rfl
def ie(k:Nat)(a0:a8)(a1:(List (List (List Int)))):Nat→((List (List Int))×Int×Bool×Int)→Option ((List (List Int))×Int×Bool)
 |0,_=>none
 |n+1,y5=>
  if y5.2.2.2 < (a1.length:Int) then((((aX a1 y5.2.2.2).bind fun x9=>
  (dC k a0 x9).bind fun c=>
  ((if¬(y5.2.2.1=true) then(some true) else(some (decide (c < y5.2.1)))):Option (Bool)).bind fun h=>
  if h=true then(some (x9,c,true)) else(some (y5.1,y5.2.1,y5.2.2.1))):Option ((List (List Int))×Int×Bool)).bind fun x7=>
  (ck (y5.2.2.2+1)).bind fun e=>
  ie k a0 a1 n (x7.1,x7.2.1,x7.2.2,e)) else(some (y5.1,y5.2.1,y5.2.2.1))
def lO(k:Nat)(a0:a8)(a1:(List (List (List Int)))):Option ((List (List Int))×Int×Bool):=
 ((ie k a0 a1 k ([[0,0,0,0,0],[0,0,0,0,0],[0,0,0,0,0]],0,false,0)):Option ((List (List Int))×Int×Bool)).bind fun x3=>
 some (x3.1,x3.2.1,x3.2.2)
theorem rG(k:Nat)(a0:a8)(z_a0:Nat)(a1:(List (List (List Int))))(r:(List (List Int))×Int×Bool)(h:lO k a0 a1=some r):
 cS (jf Tryz.prog) 55 [.fn 48 (uJ [.at ax (a0,(.map (some z_a0)))]),.rep (.slice (.arr 3 (.arr 5 (.int .i64)))) a1] [.inv z_a0 (bN k a0)] (fun _:Unit=>(bz [.rep (.arr 3 (.arr 5 (.int .i64))) r.1,I r.2.1,.eq (.bool r.2.2)],[.inv z_a0 (bN k a0)])):=by
 unfold lO at h
 replace h:=be h
 refine cS.of 35 Tryz.func55 rfl Tryz.ntmps55 rfl fun S w0=>?_
 refine sr ?_
 refine aD rfl rfl rfl (bg rfl sQ tP) trivial fun b1=>?_
 refine cq ?_
 refine cq ?_
 refine nt ?_
 refine sr ?_
 refine aD rfl rfl rfl (bg rfl sQ tP) trivial fun b2=>?_
 refine nt ?_
 refine sr ?_
 refine cq ?_
 refine cq ?_
 refine nt ?_
 refine aS (Z:=Unit) (α:=(List (List Int))×Int×Bool) (fun z4 x3=>[(4,Pt b1),(7,Pt b2),(8,I x3.2.1),(9,.eq (.bool x3.2.2))]) (fun z4 x3=>[.obj b1 85 (.rep (.arr 3 (.arr 5 (.int .i64))) [[0,0,0,0,0],[0,0,0,0,0],[0,0,0,0,0]]),.obj b2 85 (.rep (.arr 3 (.arr 5 (.int .i64))) x3.1),.inv z_a0 (bN k a0)]) h (fun K h=>?_) (fun z4 x3 h=>?_)
 ·
  refine sr (mq ?_);refine ol QD ?_;refine eU rfl ?_;refine nt (an (aJ (fun z6 y5=>[(0,.fn 48 (uJ [.at ax (a0,(.map (some z_a0)))])),(4,Pt b1),(7,Pt b2),(8,I y5.2.1),(9,.eq (.bool y5.2.2.1)),(13,.rep (.slice (.arr 3 (.arr 5 (.int .i64)))) a1),(14,I (a1.length:Int)),(15,I y5.2.2.2)]) (fun z6 y5=>[.obj b1 85 (.rep (.arr 3 (.arr 5 (.int .i64))) [[0,0,0,0,0],[0,0,0,0,0],[0,0,0,0,0]]),.obj b2 85 (.rep (.arr 3 (.arr 5 (.int .i64))) y5.1),.inv z_a0 (bN k a0)]) (ie k a0 a1) k () ([[0,0,0,0,0],[0,0,0,0,0],[0,0,0,0,0]],0,false,0) (fun _=>rfl) h (SE.fin [1,0,2] ⟨rfl,rfl,rfl,rfl,rfl,rfl,rfl,rfl,trivial⟩ rfl) (fun n z6 y5 h=>?_)));unfold ie at h;refine sr (jb (bv rfl) ?_);refine nt (ae (ci h (fun h=>?_) (fun h=>?_)))
  ·refine sk (aS (Z:=Unit) (α:=(List (List Int))×Int×Bool) (fun z8 x7=>[(0,.fn 48 (uJ [.at ax (a0,(.map (some z_a0)))])),(4,Pt b1),(7,Pt b2),(8,I x7.2.1),(9,.eq (.bool x7.2.2)),(13,.rep (.slice (.arr 3 (.arr 5 (.int .i64)))) a1),(14,I (a1.length:Int)),(15,I y5.2.2.2)]) (fun z8 x7=>[.obj b1 85 (.rep (.arr 3 (.arr 5 (.int .i64))) [[0,0,0,0,0],[0,0,0,0,0],[0,0,0,0,0]]),.obj b2 85 (.rep (.arr 3 (.arr 5 (.int .i64))) x7.1),.inv z_a0 (bN k a0)]) h (fun K h=>?_) (fun z8 x7 h=>?_))
   ·refine an (sr ?_);obtain⟨x9,D,h⟩:=aa h;refine jb (aI (t:=(.arr 3 (.arr 5 (.int .i64)))) rfl QD f6 D) ?_;refine ja (ao (t:=(.arr 3 (.arr 5 (.int .i64)))) rfl f6 rfl) ?_;refine aD rfl rfl rfl (bg rfl sQ tP) trivial fun x=>?_;refine bj rfl rfl (bm rfl f6 rfl rfl rfl) ⟨rfl,rfl,trivial⟩ ?_;refine nt (sr (mq ?_));refine lo f6 ?_;obtain⟨c,u,h⟩:=aa h;refine fr 3 ?_;refine kb (GX (fs:=[.at ax (a0,(.map (some z_a0)))]) (ags:=[.rep (.arr 3 (.arr 5 (.int .i64))) x9]) [.tmp 20] rfl rfl P2 rfl (jI k a0 z_a0 x9 c u)) ?_;refine aq (nt ?_);refine aS (Z:=Unit) (α:=Bool) (fun j e=>[(0,.fn 48 (uJ [.at ax (a0,(.map (some z_a0)))])),(4,Pt b1),(7,Pt b2),(8,I y5.2.1),(9,.eq (.bool y5.2.2.1)),(11,Pt x),(12,I c),(13,.rep (.slice (.arr 3 (.arr 5 (.int .i64)))) a1),(14,I (a1.length:Int)),(15,I y5.2.2.2),(28,.eq (.bool e))]) (fun j e=>[.obj b1 85 (.rep (.arr 3 (.arr 5 (.int .i64))) [[0,0,0,0,0],[0,0,0,0,0],[0,0,0,0,0]]),.obj b2 85 (.rep (.arr 3 (.arr 5 (.int .i64))) y5.1),.obj x 85 (.rep (.arr 3 (.arr 5 (.int .i64))) x9),.inv z_a0 (bN k a0)]) h (fun K h=>?_) (fun j e h=>?_)
    ·refine ab (mq ?_);refine ja (fm rfl) ?_;refine mq ?_;refine cd (s:=24) rfl (fun hb=>?_) (fun hb=>?_)
     ·replace h:=cI (EF hb) h;iterate 3 refine gn ?_
      refine pt (nl ?_);exact jz ((),true) h [2,3,1,0]
     ·replace h:=bS (wO hb) h;refine gm ?_;refine gm ?_;refine gb (bv rfl) ?_;refine pf (nl ?_);exact jz ((),decide (c < y5.2.1)) h [2,3,1,0]
    ·refine cv h (fun h=>?_) (fun h=>?_)
     ·refine ab (fr 2 ?_);refine lo f6 ?_;refine mq ?_;refine fr 2 ?_;refine bj rfl rfl (bm rfl f6 rfl rfl rfl) ⟨rfl,rfl,trivial⟩ ?_;refine aq ?_;refine cq (au (bn ?_));exact jz ((),(x9,c,true)) h [2,0,3]
     ·refine aY (bn ?_);exact jz ((),(y5.1,y5.2.1,y5.2.2.1)) h [0,1,3]
   ·refine ab ?_;obtain⟨y,l,h⟩:=aa h;refine jb (bf rfl l) ?_;refine mq (nl ?_);exact jz ((),(x7.1,x7.2.1,x7.2.2,y)) h [0,1,2]
  ·refine xa ?_;exact jz ((),(y5.1,y5.2.1,y5.2.2.1)) h [0,1,2]
 ·
  refine sr (fr 1 ?_);refine lo f6 ?_;iterate 2 refine mq ?_
  refine fr 1 ?_;refine bj rfl rfl (bm rfl f6 rfl rfl rfl) ⟨rfl,rfl,trivial⟩ ?_;refine aq ?_;refine aq (nt (aB ?_));refine bh (SE.fin (Γ':=[(4,_),(5,_),(6,_)]) [2,0,1] ⟨rfl,rfl,rfl,trivial⟩ rfl) ?_;cases h;exact aN () [.rep (.arr 3 (.arr 5 (.int .i64))) x3.1,_,_] 1 ⟨⟨_,_,_,_,_,rfl,(.tail _ (.head _)),f6,(yM),rfl⟩,rfl,rfl,trivial⟩ rfl
def uM(k:Nat)(a0:a8):Option ((List (List Int))×Int×Int):=
 (kg k a0).bind fun r2=>
 if¬(r2=0) then(some ([],0,r2)) else((kl k (a0,())).bind fun r5=>
 (lO k a0 r5).bind fun r6=>
 if¬(r6.2.2=true) then(some ([],0,11)) else((im k (a0,()) r6.1).bind fun r8=>
 some (r8,r6.2.1,0)))
theorem ze(k:Nat)(a0:a8)(r:(List (List Int))×Int×Int)(h:uM k a0=some r):
 cS (jf Tryz.prog) 23 [.rep aj a0] [] (fun _:Unit=>(bz [.rep (.slice (.slice (.int .i64))) r.1,I r.2.1,I r.2.2],[])):=by
 unfold uM at h
 replace h:=be h
 refine cS.of 33 Tryz.func23 rfl Tryz.ntmps23 rfl fun S w0=>?_
 refine sr ?_
 refine bx fun b1=>?_
 refine cq ?_
 refine cq ?_
 refine cq ?_
 refine nt ?_
 refine ae ?_
 refine sr ?_
 refine lo dy ?_
 obtain⟨r2,l,h⟩:=aa h
 have n:=nO k a0 r2 l
 refine ja (ar [.tmp 10] rfl rfl Nl rfl n) ?_
 refine aq ?_
 refine nt ?_
 refine sr ?_
 refine mq ?_
 refine jb (ig rfl) ?_
 refine nt ?_
 refine cn h (fun h=>?_) (fun h=>?_)
 ·
  refine sr (mq ?_);refine cq ?_;refine cq ?_;refine aq (nt (rx ?_));refine bh (iJ (t:=(.slice (.slice (.int .i64)))) (x:=[]) 2 rfl .nil rfl rfl) ?_;cases h;exact aN () [_,_,_] 0 ⟨rfl,rfl,rfl,trivial⟩ rfl
 ·
  refine sk (sr (lo dy ?_));refine aD rfl rfl rfl (ar [.tmp 15] rfl rfl Kq rfl (ip a0)) ⟨rfl,trivial⟩ fun z3=>?_;refine bZ (lG (bN k a0) nu) ?_;refine aq (nt (sr ?_));refine mq ?_;refine ja (Jk [.tmp 18] [.at ax (a0,(.map (some z3)))] rfl rfl) ?_;refine mq ?_;refine aD rfl rfl rfl (dX (N:=[(.tmp 20,.at ax (a0,(.map (some z3))))]) (ar [.tmp 20] rfl rfl Sr rfl (oN (a0,()))) fun _ _ _ hn=>⟨tN hn.1,trivial⟩) ⟨rfl,trivial⟩ fun b4=>?_;obtain⟨r5,j,h⟩:=aa h;refine ka (ar [.tmp 21] rfl rfl Ss rfl (qm k (a0,()) b4 r5 j)) ?_;obtain⟨r6,e,h⟩:=aa h;refine fr 1 ?_;refine kb (gU [.tmp 19,.tmp 22] rfl rfl Su rfl (rG k a0 z3 r5 r6 e)) ?_;refine mq ?_;refine xr ?_;refine xr ?_;refine xr ?_;refine aD rfl rfl rfl (bg rfl sQ tP) trivial fun b7=>?_;refine bj rfl rfl (bm rfl f6 rfl rfl rfl) ⟨rfl,rfl,trivial⟩ ?_;refine aq ?_;refine aq (nt (ae (sr ?_)));refine mq ?_;refine ja (fm rfl) ?_;refine nt (cw h (fun h=>?_) (fun h=>?_))
  ·refine sr (cq ?_);refine cq ?_;refine cq (nt (rx ?_));refine bh (iJ (t:=(.slice (.slice (.int .i64)))) (x:=[]) 2 rfl .nil rfl rfl) ?_;cases h;exact aN () [_,_,_] 0 ⟨rfl,rfl,rfl,trivial⟩ rfl
  ·refine sk (sr (mq ?_));refine lo f6 ?_;obtain⟨r8,c,h⟩:=aa h;refine aD rfl rfl rfl (dX (N:=[(.tmp 29,.at ax (a0,(.map (some z3)))),(.tmp 30,.rep (.arr 3 (.arr 5 (.int .i64))) r6.1)]) (ar [.tmp 29,.tmp 30] rfl rfl Np rfl (jH k (a0,()) r6.1 r8 c)) fun _ _ _ hn=>⟨(tN hn.1),hn.2.1,trivial⟩) ⟨rfl,rfl,trivial⟩ fun v9=>?_;refine mq ?_;refine aq ?_;refine aq ?_;refine cq (nt (aB ?_));refine bh (gx [2,31] ⟨rfl,rfl,trivial⟩) ?_;cases h;exact aN () [_,_,_] 0 ⟨rfl,rfl,rfl,trivial⟩ rfl
set_option maxRecDepth 20000
set_option maxHeartbeats 4000000
@[reducible] def eY:Ty:=.agg (.pair (.int .i64) (.int .i64))
def PL(x:Int×Int):Value:=.agg #[.int .i64 x.1,.int .i64 x.2]
theorem J6{S:FS}{w:World}{x:Int×Int}:(A.rep eY x).holds S w (PL x):=⟨[_,_],⟨[_],[_],rfl,rfl,rfl⟩,rfl⟩
theorem HW{S:FS}{w:World}{x:Int×Int}{v:Value}(h:(A.rep eY x).holds S w v):(A.eq (PL x)).holds S w v:=by
 obtain⟨cs,⟨c1,c2,rfl,h1,h2⟩,rfl⟩:=h;have h1:c1=_:=h1;have h2:c2=_:=h2;subst h1 h2;rfl
theorem gK:dG Tryz.prog 114 2 true:=⟨fun w=>by kernel_rfl,fun w=>by kernel_rfl⟩
theorem oy:dG Tryz.prog 28 1 false:=⟨fun w=>by kernel_rfl,fun w=>by kernel_rfl⟩
theorem CP:dG Tryz.prog 22 1 false:=⟨fun w=>by kernel_rfl,fun w=>by kernel_rfl⟩
theorem ue:dG Tryz.prog 3 1 false:=⟨fun w=>by kernel_rfl,fun w=>by kernel_rfl⟩
theorem F4:dG Tryz.prog 80 1 false:=⟨fun w=>by kernel_rfl,fun w=>by kernel_rfl⟩
theorem MV:a9 Tryz.prog 114 0 0:=a9.of (by kernel_rfl)
theorem MU:a9 Tryz.prog 114 1 1:=a9.of (by kernel_rfl)
theorem PK:a9 Tryz.prog 111 0 0:=a9.of (by kernel_rfl)
theorem uk:a9 Tryz.prog 111 1 1:=a9.of (by kernel_rfl)
theorem yp:ah Tryz.prog 95:=ah.of Tryz.func95 (by kernel_rfl) (by kernel_rfl)
def ju(x:Int×Int)(m:Int):Nat→Int×List Int→Option (List Int)
 |0,_=>none
 |n+1,q=>if q.1 < m then((aX q.2 q.1).bind fun c=>if c=x.1 then(ck (q.1+1)).bind fun w=>ju x m n (w,q.2.set q.1.toNat x.2) else if c=x.2 then(ck (q.1+1)).bind fun w=>ju x m n (w,q.2.set q.1.toNat x.1) else(ck (q.1+1)).bind fun w=>ju x m n (w,q.2)) else some q.2
def kK(k:Nat)(x:Int×Int)(m:Int):Nat→Int×List (List Int)→Option (List (List Int))
 |0,_=>none
 |n+1,q=>if q.1 < m then((aX q.2 q.1).bind fun l=>(ju x (l.length:Int) k (0,l)).bind fun l2=>(ck (q.1+1)).bind fun w=>kK k x m n (w,q.2.set q.1.toNat l2)) else some q.2
def na(k:Nat)(x:Int×Int)(ls:List (List Int)):Option (List (List Int)):=kK k x (ls.length:Int) k (0,ls)
theorem my(k:Nat)(x:Int×Int)(ls r:List (List Int))(y:Nat)(d0:ax.den)(z:Value×(Nat→Value))(h:na k x ls=some r):
 cm Tryz.prog 95 [.eq (bP y),.rep eY x] ([.obj y 111 (.agg (.pair (.at ax d0) (.eq z.1)))]++dB 22 z ls) (fun _:Unit=>(bz [],[.obj y 111 (.agg (.pair (.at ax d0) (.eq z.1)))]++dB 22 z r)):=by
 unfold na at h
 replace h:=be h
 refine cm.of 45 Tryz.func95 rfl Tryz.ntmps95 rfl fun S w0=>?_
 refine sr ?_
 refine bx fun b3=>?_
 refine nt ?_
 refine sr ?_
 refine mq ?_
 refine ja (ba rfl) ?_
 refine fl uk ?_
 refine fr 1 ?_
 refine lo oy ?_
 refine bZ (uB (pre:=[.obj y 111 (.agg (.pair (.at ax d0) (.eq z.1))),.obj b3 114 (.rep eY x)])) ?_
 refine ka (cO rfl rfl k9) ?_
 rw [f8]
 refine bZ (Fa (pre:=[.obj y 111 (.agg (.pair (.at ax d0) (.eq z.1))),.obj b3 114 (.rep eY x)])) ?_
 refine eU rfl ?_
 refine nt ?_
 refine an ?_
 refine aJ (Z:=Unit) (α:=Int×List (List Int)) (fun _ q=>[(3,.eq (bP b3)),(11,.eq z.1),(12,I (ls.length:Int)),(13,I q.1)]) (fun _ q=>[.obj y 111 (.agg (.pair (.at ax d0) (.eq z.1))),.obj b3 114 (.rep eY x)]++dB 22 z q.2) (kK k x (ls.length:Int)) k () (0,ls) (fun _=>rfl) h (aV [.obj y 111 (.agg (.pair (.at ax d0) (.eq z.1))),.obj b3 114 (.rep eY x)] (dB 22 z ls) [0,1] ⟨rfl,rfl,rfl,rfl,trivial⟩ rfl) (fun n u q h=>?_)
 unfold kK at h
 refine sr ?_
 refine jb (bv rfl) ?_
 refine nt ?_
 refine ae ?_
 refine bC rfl (fun hb=>?_) (fun hb=>?_)
 ·
  replace h:=cI (nG hb) h;refine sk (ae (an ?_));obtain⟨l,el,h⟩:=aa h;refine eA (nH (pre:=[.obj y 111 (.agg (.pair (.at ax d0) (.eq z.1))),.obj b3 114 (.rep eY x)]) (kJ el).2) ?_;refine sr (fr 1 ?_);refine kb (aW (t:=.val) rfl k9 CP (fh el)) ?_;refine ka (dE (i:=q.1.toNat) (off:=0) rfl CP (fun _=>rfl) rfl (co (fh el)).2.2 rfl) ?_;refine aq (nt ?_);rw [Option.bind_assoc] at h;refine sr (mq ?_);refine fr 1 ?_;refine ka (cO rfl rfl dQ) ?_;refine eU rfl ?_;refine nt (an (aJ (Z:=Unit) (α:=Int×List Int) (fun _ q2=>[(3,.eq (bP b3)),(5,.eq (z.2 q.1.toNat)),(11,.eq z.1),(12,I (ls.length:Int)),(13,I q.1),(17,.eq (z.2 q.1.toNat)),(18,I (l.length:Int)),(19,I q2.1)]) (fun _ q2=>[.sl (z.2 q.1.toNat) 3 (.int .i64) (q2.2),.sl z.1 22 .val (dH z.2 0 q.2),.obj y 111 (.agg (.pair (.at ax d0) (.eq z.1))),.obj b3 114 (.rep eY x)]++((jS z.2 0 q.2).eraseIdx q.1.toNat)) (ju x (l.length:Int)) k () (0,l) (fun _=>rfl) h (aV [.sl (z.2 q.1.toNat) 3 (.int .i64) (l),.sl z.1 22 .val (dH z.2 0 q.2),.obj y 111 (.agg (.pair (.at ax d0) (.eq z.1))),.obj b3 114 (.rep eY x)] ((jS z.2 0 q.2).eraseIdx q.1.toNat) [0,1,2,3] ⟨rfl,rfl,rfl,rfl,rfl,rfl,rfl,rfl,trivial⟩ rfl) (fun n2 u2 q2 h=>?_)));unfold ju at h;refine sr (jb (bv rfl) ?_);refine nt (ae (bC rfl (fun hb=>?_) (fun hb=>?_)))
  ·replace h:=cI (nG hb) h;refine sk (ae (an ?_));obtain⟨c,ec,h⟩:=aa h;refine sr (mq ?_);refine kb (aW (t:=.int .i64) rfl dQ ue ec) ?_;refine ka (dE (i:=q2.1.toNat) (off:=0) rfl ue (fun _=>rfl) rfl (co ec).2.2 rfl) ?_;refine aq ?_;refine aq (nt (sr ?_));refine mq (nt (an (sr ?_)));refine fl MV ?_;refine fr 3 ?_;refine lo ue ?_;refine jb (eh rfl) ?_;refine aq (nt ?_);refine ci h (fun h=>?_) (fun h=>?_)
   ·refine ab ?_;iterate 2 refine mq ?_
    refine fl MU ?_;refine lo ue ?_;refine fr 1 ?_;refine kb (aW (t:=.int .i64) rfl dQ ue ec) ?_;refine bj rfl rfl (cE (i:=q2.1.toNat) rfl ue rfl (gd ec) rfl .int rfl) ⟨rfl,rfl,trivial⟩ ?_;refine au (aK (aK (tn (ab ?_))));obtain⟨w,ew,h⟩:=aa h;refine jb (bf rfl ew) ?_;refine mq (nl ?_);exact fq ((),(w,q2.2.set q2.1.toNat x.2)) h (aV [.sl (z.2 q.1.toNat) 3 (.int .i64) (q2.2.set q2.1.toNat x.2),.obj b3 114 (.rep eY x),.sl z.1 22 .val (dH z.2 0 q.2),.obj y 111 (.agg (.pair (.at ax d0) (.eq z.1)))] ((jS z.2 0 q.2).eraseIdx q.1.toNat) [0,2,3,1] ⟨rfl,rfl,rfl,rfl,rfl,rfl,rfl,rfl,trivial⟩ rfl)
   ·refine sr (fl MU ?_);refine lo ue ?_;refine jb (eh rfl) ?_;refine aq (nt ?_);refine ci h (fun h=>?_) (fun h=>?_)
    ·refine ab ?_;iterate 2 refine mq ?_
     refine fl MV ?_;refine lo ue ?_;refine fr 1 ?_;refine kb (aW (t:=.int .i64) rfl dQ ue ec) ?_;refine bj rfl rfl (cE (i:=q2.1.toNat) rfl ue rfl (gd ec) rfl .int rfl) ⟨rfl,rfl,trivial⟩ ?_;refine au (aK (aK (tn (ab ?_))));obtain⟨w,ew,h⟩:=aa h;refine jb (bf rfl ew) ?_;refine mq (nl ?_);exact fq ((),(w,q2.2.set q2.1.toNat x.1)) h (aV [.sl (z.2 q.1.toNat) 3 (.int .i64) (q2.2.set q2.1.toNat x.1),.obj b3 114 (.rep eY x),.sl z.1 22 .val (dH z.2 0 q.2),.obj y 111 (.agg (.pair (.at ax d0) (.eq z.1)))] ((jS z.2 0 q.2).eraseIdx q.1.toNat) [0,2,3,1] ⟨rfl,rfl,rfl,rfl,rfl,rfl,rfl,rfl,trivial⟩ rfl)
    ·refine aY (aK (aK (tn (ab ?_))));obtain⟨w,ew,h⟩:=aa h;refine jb (bf rfl ew) ?_;refine mq (nl ?_);exact fq ((),(w,q2.2)) h (aV [.obj b3 114 (.rep eY x),.sl (z.2 q.1.toNat) 3 (.int .i64) (q2.2),.sl z.1 22 .val (dH z.2 0 q.2),.obj y 111 (.agg (.pair (.at ax d0) (.eq z.1)))] ((jS z.2 0 q.2).eraseIdx q.1.toNat) [1,2,3,0] ⟨rfl,rfl,rfl,rfl,rfl,rfl,rfl,rfl,trivial⟩ rfl)
  replace h:=bS (mW hb) h;refine dk (aP (aP (bL (aK (tn (eA (AM (pre:=[.obj y 111 (.agg (.pair (.at ax d0) (.eq z.1))),.obj b3 114 (.rep eY x)]) (l':=q2.2) (kJ el).2) ?_))))));refine ab ?_;obtain⟨w,ew,h⟩:=aa (X:=ck (q.1+1)) (f:=fun w=>kK k x (ls.length:Int) n (w,q.2.set q.1.toNat q2.2)) (K:=some) (r:=r) (by simpa using h);refine jb (bf rfl ew) ?_;refine mq (nl ?_);exact fq ((),(w,q.2.set q.1.toNat q2.2)) h (aV [.obj y 111 (.agg (.pair (.at ax d0) (.eq z.1))),.obj b3 114 (.rep eY x)] (dB 22 z (q.2.set q.1.toNat q2.2)) [0,1] ⟨rfl,rfl,rfl,rfl,trivial⟩ rfl)
 replace h:=bS (mW hb) h
 refine dk ?_
 refine aP ?_
 refine aP ?_
 refine bL ?_
 cases h
 refine jg ?_
 refine bh (aV (Γ':=[]) (pre':=[.obj y 111 (.agg (.pair (.at ax d0) (.eq z.1)))]) [.obj y 111 (.agg (.pair (.at ax d0) (.eq z.1))),.obj b3 114 (.rep eY x)] (dB 22 z q.2) [0] trivial rfl) ?_
 exact iU () [] trivial rfl
@[reducible] def I6:Ty:=.agg (.pair (.ptr ax) (.slice (.slice (.int .i64))))
theorem LO{S:FS}{w:World}{y:Nat}{d0:ax.den}{z:Value×(Nat→Value)}{ls:List (List Int)}(h:∀d∈[D.obj y 111 (.agg (.pair (.at ax d0) (.eq z.1)))]++dB 22 z ls,d.holds S w∧∀b,d.foot=some b→S b):(A.at I6 (d0,ls)).holds S w (bP y):=by
 obtain⟨⟨cs,h1,c1,c2,rfl,g1,rfl,g2⟩,h2⟩:=h _ (List.mem_cons_self ..);have h3:=Ht (fun d hd=>h d (List.mem_cons_of_mem _ hd));refine⟨y,0,_,111,(0,0),rfl,h2 y rfl,h1,c1,[z.1],?_,g1,?_⟩
 ·have l1:=aL (.ptr ax) g1;simp only [Ty.cells] at l1;match c1,l1 with
  |[u],_=>rfl
 ·obtain⟨cs,h4,h5⟩:=h3;have l1:=aL (.slice (.slice (.int .i64))) h4;simp only [Ty.cells] at l1;match cs,l1 with
  |[u],_=>rw [h5];exact h4
theorem yZ{S:FS}{w:World}{a:Act}{Γ:Ga}{y:Nat}{d0:ax.den}{z:Value×(Nat→Value)}{ls:List (List Int)}(h:∀d∈[D.obj y 111 (.agg (.pair (.at ax d0) (.eq z.1)))]++dB 22 z ls,d.holds S w∧∀b,d.foot=some b→S b)
 (hk:∀s r,lk Γ s=some r→r.holds S w (a.tmps.getD s undef)) (h0:lk Γ 0=some (.eq (bP y))):∀s r,lk [(0,A.at I6 (d0,ls))] s=some r→r.holds S w (a.tmps.getD s undef):=fun s r hl=>by
 simp only [lk] at hl
 split at hl
 ·
  rename_i e
  cases hl
  subst e
  have e1:a.tmps.getD 0 undef=bP y:=hk 0 _ h0
  rw [e1]
  exact LO h
 ·
  cases hl
theorem Ly{n:Nat}{r0:A}(h:r0.flat=true):∀s r,lk [(n,r0)] s=some r→r.flat=true:=fun s r hl=>by
 simp only [lk] at hl
 split at hl
 ·
  cases hl;exact h
 ·
  cases hl
theorem MY{d0:D}(h:d0.flat=true):∀d∈[d0],d.flat=true:=fun d hd=>by
 simp only [List.mem_cons,List.not_mem_nil,or_false] at hd
 subst hd;exact h
theorem J5{d0 d1:D}(h:d0.flat=true)(h1:d1.flat=true):∀d∈[d0,d1],d.flat=true:=fun d hd=>by
 simp only [List.mem_cons,List.not_mem_nil,or_false] at hd
 rcases hd with rfl |rfl <;> assumption
theorem y8{y:Nat}{x:Int×Int}(S:FS)(w:World):fU S w [.eq (bP y),.rep eY x] [bP y,PL x]:=⟨_,_,rfl,rfl,_,_,rfl,J6,rfl⟩
theorem MS:a9 Tryz.prog 146 0 0:=a9.of (by kernel_rfl)
theorem F3:dG Tryz.prog 27 3 true:=⟨fun w=>by kernel_rfl,fun w=>by kernel_rfl⟩
theorem PP:ah Tryz.prog 81:=ah.of Tryz.func81 (by kernel_rfl) (by kernel_rfl)
theorem PQ:ah Tryz.prog 47:=ah.of Tryz.func47 (by kernel_rfl) (by kernel_rfl)
theorem M6:ah Tryz.prog 48:=ah.of Tryz.func48 (by kernel_rfl) (by kernel_rfl)
def mQ(k:Nat)(t:a8)(x:Int×Int)(ls:List (List Int)):Option (Bool×List (List Int)):=
 (na k x ls).bind fun l1=>(lA k t l1).bind fun e=>if JJ e=true then(na k x l1).bind fun l2=>some (!vC e,l2) else none
theorem sU(k:Nat)(t:a8)(x:Int×Int)(ls:List (List Int))(r:Bool×List (List Int))(y m:Nat)(z:Value×(Nat→Value))(h:mQ k t x ls=some r):
 cm Tryz.prog 60 [.eq (bP y),.rep eY x] ([.obj y 111 (.agg (.pair (.at ax (t,.map (some m))) (.eq z.1)))]++dB 22 z ls) (fun _:Unit=>(bz [.eq (.bool r.1)],[.obj y 111 (.agg (.pair (.at ax (t,.map (some m))) (.eq z.1)))]++dB 22 z r.2)):=by
 unfold mQ at h
 replace h:=be h
 obtain⟨l1,e1,h⟩:=aa h
 obtain⟨e,e2,h⟩:=aa h
 have he:JJ e=true:=by
  apply Classical.byContradiction;intro hn;rw [if_neg hn] at h;cases h
 replace h:=cI he h
 obtain⟨l2,e3,h⟩:=aa h
 cases h
 have cv:=rC k t l1 e e2
 refine K6 23 Tryz.func60 rfl Tryz.ntmps60 rfl fun S w0=>?_
 refine sr ?_
 refine bx fun b3=>?_
 refine cq ?_
 refine nt ?_
 refine sr ?_
 refine mq ?_
 refine ka (ap rfl gK (yN) rfl) ?_
 refine bZ (eu (Δ':=([.obj y 111 (.agg (.pair (.at ax (t,.map (some m))) (.eq z.1)))]++dB 22 z ls)++[.obj b3 114 (.rep eY x)]) (List.perm_append_comm (l₁:=([.obj b3 114 (.rep eY x)]:List D)))) ?_
 refine bG (Δ:=_++_) (F:=[_]) (fun _ _ _=>ay rfl _) rfl rfl (ar [.tmp 5,.tmp 6] rfl rfl yp rfl (my k x ls l1 y (t,.map (some m)) z e1)) ⟨rfl,rfl,trivial⟩ fun _=>?_
 refine nt ?_
 refine sr ?_
 refine mq ?_
 refine bZ (eu (Δ':=[.obj b3 114 (.rep eY x)]++([.obj y 111 (.agg (.pair (.at ax (t,.map (some m))) (.eq z.1)))]++dB 22 z l1)) List.perm_append_comm) ?_
 refine ka (ap rfl gK (yN) rfl) ?_
 refine bZ (sL 9 rfl fun _ _ _ h=>HW h) ?_
 refine xx (vs:=[bP y,PL x]) [.tmp 8,.tmp 9] rfl rfl rfl rfl rfl ⟨rfl,rfl,trivial⟩ ?_
 refine au ?_
 refine ag ?_
 refine bh (eu (Δ':=([.obj y 111 (.agg (.pair (.at ax (t,.map (some m))) (.eq z.1)))]++dB 22 z l1)++[.obj b3 114 (.rep eY x)]) (List.perm_append_comm (l₁:=([.obj b3 114 (.rep eY x)]:List D)))) ?_
 show JC _ _ _ _ _
 refine ae ?_
 refine DL (L:=_++_) (Δ:=[_]) (Γ1:=[(0,.at I6 ((t,.map (some m)),l1))]) (Z:=Unit) (fun _=>[(4,.eq (.bool (!vC e)))]) (fun _=>[.obj b3 114 (.rep eY x)]) (fun S w a hl hk=>yZ hl hk rfl) (fun _=>⟨Ly rfl,MY rfl⟩) (fun S w=>?_) (fun _=>?_)
 ·
  refine bK ?_;refine dm ?_;refine da (dK rfl) ?_;refine da (aM 1 false rfl PK rfl) ?_;refine da (ao (t:=.ptr ax) rfl F4 rfl) ?_;refine da (dK rfl) ?_;refine da (aM 3 true rfl MS rfl) ?_;refine da (ao (t:=aj) rfl F3 rfl) ?_;refine dm ?_;refine da (dK rfl) ?_;refine da (aM 1 false rfl uk rfl) ?_;refine da (ao (t:=.slice (.slice (.int .i64))) rfl oy rfl) ?_;refine tU (by kernel_rfl) qW ?_;refine jb (ar [.tmp 16,.tmp 20] rfl rfl PP rfl cv) ?_;refine jb (rW rfl TS he) ?_;refine aq (au ?_);exact fun a w st=>⟨rfl,(),(SE.fin (Γ':=[(4,.eq (.bool (!vC e)))]) [0] ⟨rfl,trivial⟩ rfl) a w st⟩
 ·
  refine tn (aB (DJ (Δ1:=[.obj y 111 (.agg (.pair (.at ax (t,.map (some m))) (.eq z.1)))]++dB 22 z l1) (F:=[.obj b3 114 (.rep eY x)]) yp (my k x l1 l2 y (t,.map (some m)) z e3 _) y8 (fun _=>?_)));refine bh (eu (Δ':=[.obj b3 114 (.rep eY x)]++([.obj y 111 (.agg (.pair (.at ax (t,.map (some m))) (.eq z.1)))]++dB 22 z l2)) List.perm_append_comm) ?_;refine bh (aV (pre':=[.obj y 111 (.agg (.pair (.at ax (t,.map (some m))) (.eq z.1)))]) (Γ':=[(4,.eq (.bool (!vC e)))]) [.obj b3 114 (.rep eY x),.obj y 111 (.agg (.pair (.at ax (t,.map (some m))) (.eq z.1)))] (dB 22 z l2) [1] ⟨rfl,trivial⟩ rfl) ?_;exact iU () [_] ⟨rfl,trivial⟩ rfl
def mR(k:Nat)(t:a8)(x:Int×Int)(ls:List (List Int)):Option (Int×List (List Int)):=
 (na k x ls).bind fun l1=>(fA k l1).bind fun ld=>(dC k t ld).bind fun n=>(na k x l1).bind fun l2=>some (n,l2)
theorem sV(k:Nat)(t:a8)(x:Int×Int)(ls:List (List Int))(r:Int×List (List Int))(y m:Nat)(z:Value×(Nat→Value))(h:mR k t x ls=some r):
 cS (jf Tryz.prog) 62 [.eq (bP y),.rep eY x] ([.inv m (bN k t)]++([.obj y 111 (.agg (.pair (.at ax (t,.map (some m))) (.eq z.1)))]++dB 22 z ls)) (fun _:Unit=>(bz [I r.1],[.inv m (bN k t)]++([.obj y 111 (.agg (.pair (.at ax (t,.map (some m))) (.eq z.1)))]++dB 22 z r.2))):=by
 unfold mR at h
 replace h:=be h
 obtain⟨l1,e1,h⟩:=aa h
 obtain⟨ld,e2,h⟩:=aa h
 obtain⟨n,e2',h⟩:=aa h
 obtain⟨l2,e3,h⟩:=aa h
 cases h
 have cv:=eZ k l1 ld e2
 have cl:=jI k t m ld n e2'
 refine AU 20 Tryz.func62 rfl Tryz.ntmps62 rfl fun S w0=>?_
 refine sr ?_
 refine bx fun b3=>?_
 refine cq ?_
 refine nt ?_
 refine sr ?_
 refine mq ?_
 refine ka (ap rfl gK (yN) rfl) ?_
 refine bZ (eu (Δ':=([.obj y 111 (.agg (.pair (.at ax (t,.map (some m))) (.eq z.1)))]++dB 22 z ls)++[.obj b3 114 (.rep eY x),.inv m (bN k t)]) (List.perm_append_comm (l₁:=([.obj b3 114 (.rep eY x),.inv m (bN k t)]:List D)))) ?_
 refine bG (Δ:=_++_) (F:=[_,_]) (fun _ _ _=>ay rfl _) rfl rfl (ar [.tmp 5,.tmp 6] rfl rfl yp rfl (my k x ls l1 y (t,.map (some m)) z e1)) ⟨rfl,rfl,trivial⟩ fun _=>?_
 refine nt ?_
 refine sr ?_
 refine mq ?_
 refine bZ (eu (Δ':=[.obj b3 114 (.rep eY x),.inv m (bN k t)]++([.obj y 111 (.agg (.pair (.at ax (t,.map (some m))) (.eq z.1)))]++dB 22 z l1)) List.perm_append_comm) ?_
 refine ka (ap rfl gK (yN) rfl) ?_
 refine bZ (sL 9 rfl fun _ _ _ h=>HW h) ?_
 refine xx (vs:=[bP y,PL x]) [.tmp 8,.tmp 9] rfl rfl rfl rfl rfl ⟨rfl,rfl,trivial⟩ ?_
 refine au ?_
 refine ag ?_
 refine bh (eu (Δ':=([.obj y 111 (.agg (.pair (.at ax (t,.map (some m))) (.eq z.1)))]++dB 22 z l1)++[.obj b3 114 (.rep eY x),.inv m (bN k t)]) (List.perm_append_comm (l₁:=([.obj b3 114 (.rep eY x),.inv m (bN k t)]:List D)))) ?_
 show JC _ _ _ _ _
 refine ae ?_
 refine DL (L:=_++_) (Δ:=[_,_]) (Γ1:=[(0,.at I6 ((t,.map (some m)),l1))]) (Z:=Unit) (fun _=>[(4,I n)]) (fun _=>[.obj b3 114 (.rep eY x),.inv m (bN k t)]) (fun S w a hl hk=>yZ hl hk rfl) (fun _=>⟨Ly rfl,J5 rfl rfl⟩) (fun S w=>?_) (fun _=>?_)
 ·
  refine bK ?_;refine dm ?_;refine da (dK rfl) ?_;refine da (aM 1 false rfl PK rfl) ?_;refine da (ao (t:=.ptr ax) rfl F4 rfl) ?_;refine dm ?_;refine da (dK rfl) ?_;refine da (aM 1 false rfl uk rfl) ?_;refine da (ao (t:=.slice (.slice (.int .i64))) rfl oy rfl) ?_;refine da (ar [.tmp 17] rfl rfl PQ rfl cv) ?_;refine tU (by kernel_rfl) qW ?_;refine fr 1 ?_;refine kb (gU [.tmp 13,.tmp 18] rfl rfl M6 rfl cl) ?_;refine aq (au ?_);exact fun a w st=>⟨rfl,(),(SE.fin (Γ':=[(4,I n)]) [1,0] ⟨rfl,trivial⟩ rfl) a w st⟩
 ·
  refine tn (aB (DJ (Δ1:=[.obj y 111 (.agg (.pair (.at ax (t,.map (some m))) (.eq z.1)))]++dB 22 z l1) (F:=[.obj b3 114 (.rep eY x),.inv m (bN k t)]) yp (my k x l1 l2 y (t,.map (some m)) z e3 _) y8 (fun _=>?_)));refine bh (eu (Δ':=[.obj b3 114 (.rep eY x),.inv m (bN k t)]++([.obj y 111 (.agg (.pair (.at ax (t,.map (some m))) (.eq z.1)))]++dB 22 z l2)) List.perm_append_comm) ?_;refine bh (aV (pre':=[.inv m (bN k t),.obj y 111 (.agg (.pair (.at ax (t,.map (some m))) (.eq z.1)))]) (Γ':=[(4,I n)]) [.obj b3 114 (.rep eY x),.inv m (bN k t),.obj y 111 (.agg (.pair (.at ax (t,.map (some m))) (.eq z.1)))] (dB 22 z l2) [1,2] ⟨rfl,trivial⟩ rfl) ?_;exact iU () [_] ⟨rfl,trivial⟩ rfl
theorem sP:∀w,(zeroValue 114).run Tryz.prog w= .ok (.agg #[.int .i64 0,.int .i64 0]) w:=fun w=>by kernel_rfl
theorem vL:∀S w,(A.cells S w (.rep eY (0,0)) (Value.cells (.agg #[.int .i64 0,.int .i64 0])).toList):=fun _ _=>⟨[_],[_],rfl,rfl,rfl⟩
theorem M7:ah Tryz.prog 62:=ah.of Tryz.func62 (by kernel_rfl) (by kernel_rfl)
abbrev LD:=Int×(Int×Int)×Int×Bool×List (List Int)
def g9(k:Nat)(t:a8)(xs:List (Int×Int)):Nat→LD→Option ((Int×Int)×Int×Bool×List (List Int))
 |0,_=>none
 |n+1,q=>if q.1 < (xs.length:Int) then((aX xs q.1).bind fun x=>(mR k t x q.2.2.2.2).bind fun r=>(ck (q.1+1)).bind fun w=>g9 k t xs n (if(!q.2.2.2.1 || decide (r.1 < q.2.2.1))=true then(w,x,r.1,true,r.2) else(w,q.2.1,q.2.2.1,q.2.2.2.1,r.2))) else some q.2
def lM(k:Nat)(t:a8)(xs:List (Int×Int))(ls:List (List Int)):Option ((Int×Int)×Int×Bool×List (List Int)):=g9 k t xs k (0,(0,0),0,false,ls)
theorem wb(k:Nat)(t:a8)(xs:List (Int×Int))(ls:List (List Int))(r:(Int×Int)×Int×Bool×List (List Int))(y m:Nat)(z:Value×(Nat→Value))(h:lM k t xs ls=some r):
 cS (jf Tryz.prog) 61 [.eq (.func (.func 62) #[bP y] #[]),Rs eY xs] ([.inv m (bN k t),.obj y 111 (.agg (.pair (.at ax (t,.map (some m))) (.eq z.1)))]++dB 22 z ls) (fun _:Unit=>(bz [.rep eY r.1,I r.2.1,.eq (.bool r.2.2.1)],[.inv m (bN k t),.obj y 111 (.agg (.pair (.at ax (t,.map (some m))) (.eq z.1)))]++dB 22 z r.2.2.2)):=by
 unfold lM at h
 replace h:=be h
 refine cS.of 35 Tryz.func61 rfl Tryz.ntmps61 rfl fun S w0=>?_
 refine sr ?_
 refine aD rfl rfl rfl (bg rfl sP vL) trivial fun b4=>?_
 refine cq ?_
 refine cq ?_
 refine nt ?_
 refine sr ?_
 refine aD rfl rfl rfl (bg rfl sP vL) trivial fun b7=>?_
 refine nt ?_
 refine sr ?_
 refine cq ?_
 refine cq ?_
 refine nt ?_
 refine ae ?_
 refine sr ?_
 refine mq ?_
 refine ol NQ ?_
 refine eU rfl ?_
 refine nt ?_
 refine an ?_
 refine aJ (Z:=Unit) (α:=LD) (fun _ q=>[(0,.eq (.func (.func 62) #[bP y] #[])),(4,.eq (bP b4)),(7,.eq (bP b7)),(8,I q.2.2.1),(9,.eq (.bool q.2.2.2.1)),(13,Rs eY xs),(14,I (xs.length:Int)),(15,I q.1)]) (fun _ q=>[.obj b7 114 (.rep eY q.2.1),.obj b4 114 (.rep eY (0,0)),.inv m (bN k t),.obj y 111 (.agg (.pair (.at ax (t,.map (some m))) (.eq z.1)))]++dB 22 z q.2.2.2.2) (g9 k t xs) k () (0,(0,0),0,false,ls) (fun _=>rfl) h (aV [.obj b7 114 (.rep eY (0,0)),.obj b4 114 (.rep eY (0,0)),.inv m (bN k t),.obj y 111 (.agg (.pair (.at ax (t,.map (some m))) (.eq z.1)))] (dB 22 z ls) [0,1,2,3] ⟨rfl,rfl,rfl,rfl,rfl,rfl,rfl,rfl,trivial⟩ rfl) (fun n u q h=>?_)
 unfold g9 at h
 obtain⟨q1,q2,q3,q4,q5⟩:=q
 refine sr ?_
 refine jb (bv rfl) ?_
 refine nt ?_
 refine ae ?_
 refine bC rfl (fun hb=>?_) (fun hb=>?_)
 ·
  replace h:=cI (nG hb) h;obtain⟨x,ex,h⟩:=aa h;obtain⟨r1,e,h⟩:=aa h;obtain⟨w,ew,h⟩:=aa h;have cl:=sV k t x q5 r1 y m z e;refine sk (ae (an (sr (jb (aI (t:=eY) rfl NQ gK ex) ?_))));refine ja (ao (t:=eY) rfl gK rfl) ?_;refine aD rfl rfl rfl (bg rfl sP vL) trivial fun c=>?_;refine bj rfl rfl (bm rfl gK rfl rfl rfl) ⟨rfl,rfl,trivial⟩ ?_;refine nt (sr (mq ?_));refine ka (ap rfl gK (yN) rfl) ?_;refine bZ (eu (Δ':=([.inv m (bN k t)]++([.obj y 111 (.agg (.pair (.at ax (t,.map (some m))) (.eq z.1)))]++dB 22 z q5))++[.obj c 114 (.rep eY x),.obj b7 114 (.rep eY q2),.obj b4 114 (.rep eY (0,0))]) (List.perm_append_comm (l₁:=([.obj c 114 (.rep eY x),.obj b7 114 (.rep eY q2),.obj b4 114 (.rep eY (0,0))]:List D)))) ?_;refine bG (Δ:=_++_) (F:=[_,_,_]) (fun _ _ _=>ay rfl _) rfl rfl (oY (fs:=[bP y]) (cs:=[]) (ags:=[.rep eY x]) [.tmp 20] rfl rfl M7 rfl cl) ⟨rfl,rfl,trivial⟩ fun _=>?_;refine aq ?_;refine bZ (eu (Δ':=[.obj c 114 (.rep eY x),.obj b7 114 (.rep eY q2),.obj b4 114 (.rep eY (0,0))]++([.inv m (bN k t)]++([.obj y 111 (.agg (.pair (.at ax (t,.map (some m))) (.eq z.1)))]++dB 22 z r1.2))) List.perm_append_comm) ?_;refine nt ?_;cases q4 with
  |false=>
   refine sr (mq ?_);refine ja (fm rfl) ?_;refine mq ?_;iterate 3 refine gn ?_
   refine pt (nt ?_);refine bC rfl (fun hb=>?_) (fun hb=>(by cases hb));refine ab (ka (ap rfl gK (yN) rfl) ?_);refine mq ?_;refine fr 1 ?_;refine bj rfl rfl (bm rfl gK rfl rfl rfl) ⟨rfl,rfl,trivial⟩ ?_;refine aq ?_;refine cq (au (aK (tn (ab ?_))));refine jb (bf rfl ew) ?_;refine mq (nl ?_);exact fq ((),(w,x,r1.1,true,r1.2)) h (aV [.obj b7 114 (.rep eY x),.obj c 114 (.rep eY x),.obj b4 114 (.rep eY (0,0)),.inv m (bN k t),.obj y 111 (.agg (.pair (.at ax (t,.map (some m))) (.eq z.1)))] (dB 22 z r1.2) [0,2,3,4] ⟨rfl,rfl,rfl,rfl,rfl,rfl,rfl,rfl,trivial⟩ rfl)
  |true=>
   refine sr (mq ?_);refine ja (fm rfl) ?_;refine mq ?_;refine gm ?_;refine gm ?_;refine gb (bv rfl) ?_;refine pf (nt ?_);refine bC rfl (fun hb=>?_) (fun hb=>?_)
   ·replace h:(g9 k t xs n (w,x,r1.1,true,r1.2)).bind some=some r:=by
     have hd:r1.1 < q3:=of_decide_eq_true hb;simpa [hd] using h
    refine ab (ka (ap rfl gK (yN) rfl) ?_);refine mq ?_;refine fr 1 ?_;refine bj rfl rfl (bm rfl gK rfl rfl rfl) ⟨rfl,rfl,trivial⟩ ?_;refine aq ?_;refine cq (au (aK (tn (ab ?_))));refine jb (bf rfl ew) ?_;refine mq (nl ?_);exact fq ((),(w,x,r1.1,true,r1.2)) h (aV [.obj b7 114 (.rep eY x),.obj c 114 (.rep eY x),.obj b4 114 (.rep eY (0,0)),.inv m (bN k t),.obj y 111 (.agg (.pair (.at ax (t,.map (some m))) (.eq z.1)))] (dB 22 z r1.2) [0,2,3,4] ⟨rfl,rfl,rfl,rfl,rfl,rfl,rfl,rfl,trivial⟩ rfl)
   ·replace h:(g9 k t xs n (w,q2,q3,true,r1.2)).bind some=some r:=by
     have hd:¬r1.1 < q3:=of_decide_eq_false hb;simpa [hd] using h
    refine aY (aK (tn (ab (jb (bf rfl ew) ?_))));refine mq (nl ?_);exact fq ((),(w,q2,q3,true,r1.2)) h (aV [.obj c 114 (.rep eY x),.obj b7 114 (.rep eY q2),.obj b4 114 (.rep eY (0,0)),.inv m (bN k t),.obj y 111 (.agg (.pair (.at ax (t,.map (some m))) (.eq z.1)))] (dB 22 z r1.2) [1,2,3,4] ⟨rfl,rfl,rfl,rfl,rfl,rfl,rfl,rfl,trivial⟩ rfl)
 replace h:=bS (mW hb) h
 refine dk ?_
 refine aP ?_
 refine aP ?_
 refine bL ?_
 refine tn ?_
 cases h
 refine sr ?_
 refine ka (ap rfl gK (yN) rfl) ?_
 iterate 2 refine mq ?_
 refine fr 1 ?_
 refine bj rfl rfl (bm rfl gK rfl rfl rfl) ⟨rfl,rfl,trivial⟩ ?_
 refine aq ?_
 refine aq ?_
 refine nt ?_
 refine aB ?_
 refine bh (eu (Δ':=([.inv m (bN k t),.obj y 111 (.agg (.pair (.at ax (t,.map (some m))) (.eq z.1)))]++dB 22 z q5)++[.obj b4 114 (.rep eY q2),.obj b7 114 (.rep eY q2)]) (List.perm_append_comm (l₁:=([.obj b4 114 (.rep eY q2),.obj b7 114 (.rep eY q2)]:List D)))) ?_
 exact aN () [_,_,_] ([.inv m (bN k t),.obj y 111 (.agg (.pair (.at ax (t,.map (some m))) (.eq z.1)))]++dB 22 z q5:List D).length ⟨⟨b4,114,.rep eY q2,2,true,rfl,List.mem_append.2 (.inr (List.mem_cons_self ..)),gK,yN,rfl⟩,rfl,rfl,trivial⟩ (by rw [List.take_left])
theorem qB:ah Tryz.prog 59:=ah.of Tryz.func59 (by kernel_rfl) (by kernel_rfl)
theorem PS:ah Tryz.prog 13:=ah.of Tryz.func13 (by kernel_rfl) (by kernel_rfl)
theorem PR:ah Tryz.prog 44:=ah.of Tryz.func44 (by kernel_rfl) (by kernel_rfl)
theorem PO:ah Tryz.prog 60:=ah.of Tryz.func60 (by kernel_rfl) (by kernel_rfl)
theorem PN:ah Tryz.prog 61:=ah.of Tryz.func61 (by kernel_rfl) (by kernel_rfl)
theorem La:dG Tryz.prog 25 1 false:=⟨fun w=>by kernel_rfl,fun w=>by kernel_rfl⟩
theorem Lx:a9 Tryz.prog 27 1 1:=a9.of (by kernel_rfl)
theorem oz:lj Tryz.prog 28 22 1 24:=.of (z:=(.slice none 0 0)) k9 (by kernel_rfl) rfl rfl rfl
theorem F9:lj Tryz.prog 112 114 2 16:=.of (z:=(.agg #[.int .i64 0,.int .i64 0])) NQ (by kernel_rfl) rfl rfl rfl
theorem L0:yK Tryz.prog 111 #[(0,1),(1,1)]:=⟨_,S9,fun _=>by kernel_rfl⟩
theorem LJ:∀w,(zeroValue 111).run Tryz.prog w= .ok (.agg #[.pointer none,.slice none 0 0]) w:=fun w=>by kernel_rfl
theorem NH:∀S w,(A.cells S w (.pair (.eq (.pointer none)) (.eq (.slice none 0 0))) (Value.cells (.agg #[.pointer none,.slice none 0 0])).toList):=fun _ _=>⟨[_],_,rfl,⟨rfl,rfl⟩,rfl,rfl⟩
theorem LZ:yK Tryz.prog 114 #[(0,1),(1,1)]:=⟨_,S8,fun _=>by kernel_rfl⟩
theorem KL:∀S w,(A.cells S w (.pair (I 0) (I 0)) (Value.cells (.agg #[.int .i64 0,.int .i64 0])).toList):=fun _ _=>⟨[_],_,rfl,⟨rfl,rfl⟩,rfl,rfl⟩
def fk:List Bool→Ga→Ga
 |true::l,e::g=>e::fk l g
 |false::l,_::g=>fk l g
 |_,_=>[]
def mB(y:Nat)(z1:Value)(l:List Int)(v v2:Value):Ga:=[(39,.eq (bP y)),(40,.eq (bP y)),(41,.eq (bP y)),(42,.eq (.pointer (some ⟨y,0+1,none⟩))),(43,.eq z1),(44,Ri l),(45,.eq v),(46,.rep (.slice .val) [v]),(47,.eq v2),(48,.eq (bP y)),(49,.eq (.pointer (some ⟨y,0+1,none⟩)))]
def lQ(b2 y:Nat)(n i:Int)(l:List Int)(a1:List (List Int)):Ga:=[(2,.eq (bP b2)),(8,I n),(10,.eq (bP y)),(12,Ri l),(33,.rep (.slice (.slice (.int .i64))) a1),(34,I (a1.length:Int)),(35,I i)]
theorem Qy{i j:Int}:AE (.agg (.pair (I i) (I j))) (.rep eY (i,j)):=fun S w cs h=>by
 obtain⟨c1,c2,e,h1,h2⟩:=h
 exact⟨c1,c2,e,h1.1,h2.1⟩
def mA(k:Nat)(a1:List (List Int)):Nat→Int×List (List Int)→Option (List (List Int))
 |0,_=>none
 |n+1,q=>if q.1 < (a1.length:Int) then((aX a1 q.1).bind fun l=>(kG k l).bind fun l2=>if bO (q.2.length+1) then(ck (q.1+1)).bind fun w=>mA k a1 n (w,q.2++[l2]) else none) else some q.2
def kM(k:Nat)(t:a8)(i:Int):Nat→Int×List (Int×Int)×List (List Int)→Option (List (Int×Int)×List (List Int))
 |0,_=>none
 |n+1,q=>if q.1 < (t.2.1.length:Int) then((mQ k t (i,q.1) q.2.2).bind fun r=>if r.1=true then(if bO (q.2.1.length+1) then(ck (q.1+1)).bind fun w=>kM k t i n (w,q.2.1++[(i,q.1)],r.2) else none) else(ck (q.1+1)).bind fun w=>kM k t i n (w,q.2.1,r.2)) else some q.2
def jw(k:Nat)(t:a8):Nat→Int×List (Int×Int)×List (List Int)→Option (List (Int×Int)×List (List Int))
 |0,_=>none
 |n+1,q=>if q.1 < (t.2.1.length:Int) then((ck (q.1+1)).bind fun w=>(kM k t q.1 k (w,q.2)).bind fun p=>jw k t n (w,p)) else some q.2
def uL(k:Nat)(a0:a8)(a1:(List (List Int))):Option (Int×Int×Int×Int):=
 (pL k a0 a1).bind fun L=>if¬(L.2=0) then some (0,0,0,L.2) else
 (mA k a1 k (0,[])).bind fun ls=>(jw k a0 k (0,[],ls)).bind fun p=>(lM k a0 p.1 p.2).bind fun b=>
 if(!b.2.2.1 || decide (L.1≤b.2.1))=true then some (0,0,0,11) else some (b.1.1,b.1.2,b.2.1,0)
theorem zc(k:Nat)(a0:a8)(a1:(List (List Int)))(r:Int×Int×Int×Int)(h:uL k a0 a1=some r):
 cS (jf Tryz.prog) 29 [.rep aj a0,.rep (.slice (.slice (.int .i64))) a1] [.inv 0 dF] (fun _:Unit=>(bz [.eq (.int .i64 r.1),.eq (.int .i64 r.2.1),.eq (.int .i64 r.2.2.1),.eq (.int .i64 r.2.2.2)],[.inv 0 dF])):=by
 unfold uL at h
 replace h:=be h
 refine cS.of 97 Tryz.func29 rfl Tryz.ntmps29 rfl fun S w0=>?_
 refine ae ?_
 refine ab ?_
 refine aD rfl rfl rfl (oC rfl rfl) ⟨rfl,trivial⟩ fun b2=>?_
 refine dD rfl ?_
 refine dD rfl ?_
 refine dD rfl ?_
 refine dD rfl ?_
 refine au ?_
 refine ag ?_
 show JC _ _ _ _ _
 obtain⟨L,eL,h⟩:=aa h
 have cL:=rJ k a0 a1 L eL
 refine ae ?_
 refine ab ?_
 refine bV rfl rfl rfl (ap rfl F3 (yN) rfl) ⟨rfl,trivial⟩ ?_
 refine aC rfl rfl ?_
 refine bH 1 rfl ?_
 refine bV rfl rfl rfl (gU [.tmp 21,.tmp 22] rfl rfl PS rfl cL) ⟨rfl,rfl,trivial⟩ ?_
 refine aC rfl rfl ?_
 refine aF rfl (c6 rfl rfl) ⟨rfl,trivial⟩ ?_
 refine aF rfl (c6 rfl rfl) ⟨rfl,trivial⟩ ?_
 refine c9 rfl rfl ?_
 refine c9 rfl rfl ?_
 refine au ?_
 refine ag ?_
 show JC _ _ _ _ _
 refine ae ?_
 refine ae ?_
 refine ab ?_
 refine aC rfl rfl ?_
 refine aF rfl (ig rfl) ⟨rfl,rfl,trivial⟩ ?_
 refine au ?_
 refine ag ?_
 show JC _ _ _ _ _
 refine bC rfl (fun hb=>?_) (fun hb=>?_)
 ·
  replace h:=cI (OR hb) h
  refine ae ?_
  refine ab ?_
  refine aC rfl rfl ?_
  refine dD rfl ?_
  refine dD rfl ?_
  refine dD rfl ?_
  refine c9 rfl rfl ?_
  refine au ?_
  refine ag ?_
  show JC _ _ _ _ _
  refine aB ?_
  refine aO ?_
  obtain rfl:=Option.some.inj h
  exact aN () [_,_,_,_] 1 ⟨rfl,rfl,rfl,rfl,trivial⟩ rfl
 replace h:=bS (Hj hb) h
 refine aY ?_
 refine ag ?_
 show JC _ _ _ _ _
 rw [Option.bind_assoc] at h
 refine ae ?_
 refine ab ?_
 refine bH 1 rfl ?_
 refine bV rfl rfl rfl (ap rfl F3 (yN) rfl) ⟨rfl,trivial⟩ ?_
 refine aD rfl rfl rfl (ar [.tmp 29] rfl rfl PR rfl (ip a0)) ⟨rfl,trivial⟩ fun m=>?_
 refine bZ (lG (bN k a0) nu) ?_
 refine aF rfl (cR [(0,.tmp 30,_)] rfl L0 LJ NH (iw ⟨trivial,trivial⟩) rfl) ⟨rfl,trivial⟩ ?_
 refine aD rfl rfl rfl (oC rfl trivial) ⟨rfl,trivial⟩ fun y=>?_
 refine c9 rfl rfl ?_
 refine au ?_
 refine ag ?_
 show JC _ _ _ _ _
 refine ae ?_
 refine ae ?_
 refine ab ?_
 refine aC rfl rfl ?_
 refine aF rfl (kd rfl rfl k9) ⟨rfl,trivial⟩ ?_
 refine eU rfl ?_
 refine bZ (SE.nil 22 .val) ?_
 refine bZ (eu (Δ':=[.obj y 111 (.agg (.pair (.at ax (a0,.map (some m))) (.eq (.slice none 0 0)))),.inv m (bN k a0),.obj b2 27 (.rep aj a0),.inv 0 dF]++dB 22 (.slice none 0 0,fun _=>undef) []) (List.Perm.trans (List.perm_append_comm (l₁:=([.sl (.slice none 0 0) 22 .val []]:List D))) (List.Perm.refl _))) ?_
 refine au ?_
 refine ag ?_
 show JC _ _ _ _ _
 refine an ?_
 refine aJ (Z:=Value×(Nat→Value)) (α:=Int×List (List Int)) (fun z q=>[(2,.eq (bP b2)),(8,.eq (.int .i64 L.1)),(10,.eq (bP y)),(33,.rep (.slice (.slice (.int .i64))) a1),(34,.eq (.int .i64 (a1.length:Int))),(35,.eq (.int .i64 q.1))]) (fun z q=>[.obj y 111 (.agg (.pair (.at ax (a0,.map (some m))) (.eq z.1))),.inv m (bN k a0),.obj b2 27 (.rep aj a0),.inv 0 dF]++dB 22 z q.2) (mA k a1) k (.slice none 0 0,fun _=>undef) (0,[]) (fun _=>rfl) h (aV [.obj y 111 (.agg (.pair (.at ax (a0,.map (some m))) (.eq (.slice none 0 0)))),.inv m (bN k a0),.obj b2 27 (.rep aj a0),.inv 0 dF] (dB 22 (.slice none 0 0,fun _=>undef) []) [0,1,2,3] ⟨rfl,rfl,rfl,rfl,rfl,rfl,trivial⟩ rfl) (fun n z q h=>?_)
 unfold mA at h
 refine ae ?_
 refine ab ?_
 refine aF rfl (bv rfl) ⟨rfl,rfl,trivial⟩ ?_
 refine au ?_
 refine ag ?_
 show JC _ _ _ _ _
 refine ae ?_
 refine bC rfl (fun hb=>?_) (fun hb=>?_)
 ·
  replace h:=cI (nG hb) h
  obtain⟨q1,q2⟩:=q
  obtain⟨l,el,h⟩:=aa h
  obtain⟨l2,el2,h⟩:=aa h
  have hk:bO (q2.length+1):=by
   apply Classical.byContradiction
   intro hn
   rw [if_neg hn] at h
   cases h
  replace h:=cI hk h
  have cc:=ni k l l2 el2
  refine aY ?_
  refine ag ?_
  show JC _ _ _ _ _
  refine ae ?_
  refine an ?_
  refine ae ?_
  refine ab ?_
  refine aF rfl (aI (t:=.slice (.int .i64)) rfl k9 CP el) ⟨rfl,rfl,trivial⟩ ?_
  refine aF rfl (ao (t:=.slice (.int .i64)) rfl CP rfl) ⟨rfl,trivial⟩ ?_
  refine c9 rfl rfl ?_
  refine au ?_
  refine ag ?_
  show JC _ _ _ _ _
  refine eA (uB (pre:=[.obj y 111 (.agg (.pair (.at ax (a0,.map (some m))) (.eq z.1))),.inv m (bN k a0),.obj b2 27 (.rep aj a0),.inv 0 dF])) ?_
  refine jh 1 rfl ?_
  refine eA (SE.sub (Γ':=lQ b2 y L.1 q1 l a1) ⟨rfl,rfl,rfl,rfl,rfl,rfl,rfl,trivial⟩) ?_
  generalize hB:lQ b2 y L.1 q1 l a1=B
  refine pE (Δ:=[.obj y 111 (.agg (.pair (.at ax (a0,.map (some m))) (.eq z.1))),.sl z.1 22 .val (dH z.2 0 q2)]) (F:=[.inv m (bN k a0),.obj b2 27 (.rep aj a0),.inv 0 dF]++jS z.2 0 q2) (Z:=Value×Value) (fun p=>B) (fun p=>[.obj y 111 (.agg (.pair (.at ax (a0,.map (some m))) (.eq p.2))),.sl p.2 22 .val (dH z.2 0 q2++[p.1]),.sl p.1 3 (.int .i64) l2]) (fun S w=>?_) (fun p=>?_)
  ·
   subst hB
   refine vW (I:=Value×Value) (Ge:=fun _=>lQ b2 y L.1 q1 l a1) (De:=fun p=>[.obj y 111 (.agg (.pair (.at ax (a0,.map (some m))) (.eq p.2))),.sl p.2 22 .val (dH z.2 0 q2++[p.1]),.sl p.1 3 (.int .i64) l2]) (L:=[true,true,true,true,true,true,true,true,true,true,true,true]) qW rfl (fun J hJ hE=>?_) (by kernel_rfl) (fun p=>?_)
   ·
    have s2047:∀(v v2:Value),J 1 [true,true,true,true,true,true,true,true,true,true,true,false] (fk [true,true,true,true,true,true,true,true,true,true,true,false] (mB y z.1 l v v2)++lQ b2 y L.1 q1 l a1) [.obj y 111 (.agg (.pair (.at ax (a0,.map (some m))) (.eq z.1))),.sl v2 22 .val (dH z.2 0 q2++[v]),.sl v 3 (.int .i64) l2]:=fun v v2=>by
     subst hJ
     refine JD.step [11] (by kernel_rfl) rfl ?_
     refine bM.cons rfl ?_ ?_
     ·
      refine bH 1 rfl ?_
      refine fg fun hv=>?_
      refine bH 1 rfl ?_
      refine bj rfl rfl (bm rfl oy hv rfl rfl) ⟨rfl,rfl,trivial⟩ ?_
      exact aw (hE (v,v2)) [0,1,2] ⟨rfl,rfl,rfl,rfl,rfl,rfl,rfl,trivial⟩
     exact trivial
    have s1023:∀(v v2:Value),J 2 [true,true,true,true,true,true,true,true,true,true,false,false] (fk [true,true,true,true,true,true,true,true,true,true,false,false] (mB y z.1 l v v2)++lQ b2 y L.1 q1 l a1) [.obj y 111 (.agg (.pair (.at ax (a0,.map (some m))) (.eq z.1))),.sl v2 22 .val (dH z.2 0 q2++[v]),.sl v 3 (.int .i64) l2]:=fun v v2=>by
     subst hJ
     refine JD.step [10] (by kernel_rfl) rfl ?_
     refine bM.cons rfl ?_ ?_
     ·
      refine aF rfl (aA rfl uk) ⟨rfl,trivial⟩ ?_
      exact aw (s2047 v v2) [0,1,2] ⟨rfl,rfl,rfl,rfl,rfl,rfl,rfl,rfl,rfl,rfl,rfl,rfl,rfl,rfl,rfl,rfl,rfl,rfl,trivial⟩
     exact trivial
    have s511:∀(v v2:Value),J 3 [true,true,true,true,true,true,true,true,true,false,false,false] (fk [true,true,true,true,true,true,true,true,true,false,false,false] (mB y z.1 l v v2)++lQ b2 y L.1 q1 l a1) [.obj y 111 (.agg (.pair (.at ax (a0,.map (some m))) (.eq z.1))),.sl v2 22 .val (dH z.2 0 q2++[v]),.sl v 3 (.int .i64) l2]:=fun v v2=>by
     subst hJ
     refine JD.step [9] (by kernel_rfl) rfl ?_
     refine bM.cons rfl ?_ ?_
     ·
      refine aF rfl (ba rfl) ⟨rfl,trivial⟩ ?_
      exact aw (s1023 v v2) [0,1,2] ⟨rfl,rfl,rfl,rfl,rfl,rfl,rfl,rfl,rfl,rfl,rfl,rfl,rfl,rfl,rfl,rfl,rfl,trivial⟩
     exact trivial
    have s255:∀(v:Value),J 4 [true,true,true,true,true,true,true,true,false,false,false,false] (fk [true,true,true,true,true,true,true,true,false,false,false,false] (mB y z.1 l v undef)++lQ b2 y L.1 q1 l a1) [.obj y 111 (.agg (.pair (.at ax (a0,.map (some m))) (.eq z.1))),.sl z.1 22 .val (dH z.2 0 q2),.sl v 3 (.int .i64) l2]:=fun v=>by
     subst hJ
     refine JD.step [8] (by kernel_rfl) rfl ?_
     refine bM.cons rfl ?_ ?_
     ·
      refine bH 1 rfl ?_
      refine dz rfl rfl rfl (bQ rfl rfl oz (by simpa [f8] using hk)) ⟨rfl,rfl,trivial⟩ fun v2=>?_
      exact aw (s511 v v2) [1,0,2] ⟨rfl,rfl,rfl,rfl,rfl,rfl,rfl,rfl,rfl,rfl,rfl,rfl,rfl,rfl,rfl,rfl,trivial⟩
     exact trivial
    have s510:∀(v v2:Value),J 4 [false,true,true,true,true,true,true,true,true,false,false,false] (fk [false,true,true,true,true,true,true,true,true,false,false,false] (mB y z.1 l v v2)++lQ b2 y L.1 q1 l a1) [.obj y 111 (.agg (.pair (.at ax (a0,.map (some m))) (.eq z.1))),.sl v2 22 .val (dH z.2 0 q2++[v]),.sl v 3 (.int .i64) l2]:=fun v v2=>by
     subst hJ
     refine JD.step [0] (by kernel_rfl) rfl ?_
     refine bM.cons rfl ?_ ?_
     ·
      refine aC rfl rfl ?_
      exact aw (s511 v v2) [0,1,2] ⟨rfl,rfl,rfl,rfl,rfl,rfl,rfl,rfl,rfl,rfl,rfl,rfl,rfl,rfl,rfl,rfl,trivial⟩
     exact trivial
    have s127:∀(v:Value),J 5 [true,true,true,true,true,true,true,false,false,false,false,false] (fk [true,true,true,true,true,true,true,false,false,false,false,false] (mB y z.1 l v undef)++lQ b2 y L.1 q1 l a1) [.obj y 111 (.agg (.pair (.at ax (a0,.map (some m))) (.eq z.1))),.sl z.1 22 .val (dH z.2 0 q2),.sl v 3 (.int .i64) l2]:=fun v=>by
     subst hJ
     refine JD.step [7] (by kernel_rfl) rfl ?_
     refine bM.cons rfl ?_ ?_
     ·
      refine bH 2 rfl ?_
      refine fg fun hv=>?_
      refine aF rfl (bi (t:=.val) [(.tmp 45,.eq v)] [v] rfl rfl oz (.cons hv (.val hv) .nil) rfl rfl) ⟨rfl,trivial⟩ ?_
      exact aw (s255 v) [1,2,0] ⟨rfl,rfl,rfl,rfl,rfl,rfl,rfl,rfl,rfl,rfl,rfl,rfl,rfl,rfl,rfl,trivial⟩
     exact trivial
    have s239:∀(v:Value),J 5 [true,true,true,true,false,true,true,true,false,false,false,false] (fk [true,true,true,true,false,true,true,true,false,false,false,false] (mB y z.1 l v undef)++lQ b2 y L.1 q1 l a1) [.obj y 111 (.agg (.pair (.at ax (a0,.map (some m))) (.eq z.1))),.sl z.1 22 .val (dH z.2 0 q2),.sl v 3 (.int .i64) l2]:=fun v=>by
     subst hJ
     refine JD.step [4] (by kernel_rfl) rfl ?_
     refine bM.cons rfl ?_ ?_
     ·
      refine bV rfl rfl rfl (ap rfl oy lg rfl) ⟨rfl,trivial⟩ ?_
      exact aw (s255 v) [0,1,2] ⟨rfl,rfl,rfl,rfl,rfl,rfl,rfl,rfl,rfl,rfl,rfl,rfl,rfl,rfl,rfl,trivial⟩
     exact trivial
    have s254:∀(v:Value),J 5 [false,true,true,true,true,true,true,true,false,false,false,false] (fk [false,true,true,true,true,true,true,true,false,false,false,false] (mB y z.1 l v undef)++lQ b2 y L.1 q1 l a1) [.obj y 111 (.agg (.pair (.at ax (a0,.map (some m))) (.eq z.1))),.sl z.1 22 .val (dH z.2 0 q2),.sl v 3 (.int .i64) l2]:=fun v=>by
     subst hJ
     refine JD.step [0,8] (by kernel_rfl) rfl ?_
     refine bM.cons rfl ?_ ?_
     ·
      refine aC rfl rfl ?_
      exact aw (s255 v) [0,1,2] ⟨rfl,rfl,rfl,rfl,rfl,rfl,rfl,rfl,rfl,rfl,rfl,rfl,rfl,rfl,rfl,trivial⟩
     refine bM.cons rfl ?_ ?_
     ·
      refine bH 1 rfl ?_
      refine dz rfl rfl rfl (bQ rfl rfl oz (by simpa [f8] using hk)) ⟨rfl,rfl,trivial⟩ fun v2=>?_
      exact aw (s510 v v2) [1,0,2] ⟨rfl,rfl,rfl,rfl,rfl,rfl,rfl,rfl,rfl,rfl,rfl,rfl,rfl,rfl,rfl,trivial⟩
     exact trivial
    have s63:J 6 [true,true,true,true,true,true,false,false,false,false,false,false] (fk [true,true,true,true,true,true,false,false,false,false,false,false] (mB y z.1 l undef undef)++lQ b2 y L.1 q1 l a1) [.obj y 111 (.agg (.pair (.at ax (a0,.map (some m))) (.eq z.1))),.sl z.1 22 .val (dH z.2 0 q2)]:=by
     subst hJ
     refine JD.step [6] (by kernel_rfl) rfl ?_
     refine bM.cons rfl ?_ ?_
     ·
      refine aD rfl rfl rfl (ar [.tmp 44] rfl rfl qB rfl cc) ⟨rfl,trivial⟩ fun v=>?_
      exact aw (s127 v) [1,2,0] ⟨rfl,rfl,rfl,rfl,rfl,rfl,rfl,rfl,rfl,rfl,rfl,rfl,rfl,rfl,trivial⟩
     exact trivial
    have s111:∀(v:Value),J 6 [true,true,true,true,false,true,true,false,false,false,false,false] (fk [true,true,true,true,false,true,true,false,false,false,false,false] (mB y z.1 l v undef)++lQ b2 y L.1 q1 l a1) [.obj y 111 (.agg (.pair (.at ax (a0,.map (some m))) (.eq z.1))),.sl z.1 22 .val (dH z.2 0 q2),.sl v 3 (.int .i64) l2]:=fun v=>by
     subst hJ
     refine JD.step [4,7] (by kernel_rfl) rfl ?_
     refine bM.cons rfl ?_ ?_
     ·
      refine bV rfl rfl rfl (ap rfl oy lg rfl) ⟨rfl,trivial⟩ ?_
      exact aw (s127 v) [0,1,2] ⟨rfl,rfl,rfl,rfl,rfl,rfl,rfl,rfl,rfl,rfl,rfl,rfl,rfl,rfl,trivial⟩
     refine bM.cons rfl ?_ ?_
     ·
      refine bH 2 rfl ?_
      refine fg fun hv=>?_
      refine aF rfl (bi (t:=.val) [(.tmp 45,.eq v)] [v] rfl rfl oz (.cons hv (.val hv) .nil) rfl rfl) ⟨rfl,trivial⟩ ?_
      exact aw (s239 v) [1,2,0] ⟨rfl,rfl,rfl,rfl,rfl,rfl,rfl,rfl,rfl,rfl,rfl,rfl,rfl,rfl,trivial⟩
     exact trivial
    have s126:∀(v:Value),J 6 [false,true,true,true,true,true,true,false,false,false,false,false] (fk [false,true,true,true,true,true,true,false,false,false,false,false] (mB y z.1 l v undef)++lQ b2 y L.1 q1 l a1) [.obj y 111 (.agg (.pair (.at ax (a0,.map (some m))) (.eq z.1))),.sl z.1 22 .val (dH z.2 0 q2),.sl v 3 (.int .i64) l2]:=fun v=>by
     subst hJ
     refine JD.step [0,7] (by kernel_rfl) rfl ?_
     refine bM.cons rfl ?_ ?_
     ·
      refine aC rfl rfl ?_
      exact aw (s127 v) [0,1,2] ⟨rfl,rfl,rfl,rfl,rfl,rfl,rfl,rfl,rfl,rfl,rfl,rfl,rfl,rfl,trivial⟩
     refine bM.cons rfl ?_ ?_
     ·
      refine bH 2 rfl ?_
      refine fg fun hv=>?_
      refine aF rfl (bi (t:=.val) [(.tmp 45,.eq v)] [v] rfl rfl oz (.cons hv (.val hv) .nil) rfl rfl) ⟨rfl,trivial⟩ ?_
      exact aw (s254 v) [1,2,0] ⟨rfl,rfl,rfl,rfl,rfl,rfl,rfl,rfl,rfl,rfl,rfl,rfl,rfl,rfl,trivial⟩
     exact trivial
    have s231:∀(v:Value),J 6 [true,true,true,false,false,true,true,true,false,false,false,false] (fk [true,true,true,false,false,true,true,true,false,false,false,false] (mB y z.1 l v undef)++lQ b2 y L.1 q1 l a1) [.obj y 111 (.agg (.pair (.at ax (a0,.map (some m))) (.eq z.1))),.sl z.1 22 .val (dH z.2 0 q2),.sl v 3 (.int .i64) l2]:=fun v=>by
     subst hJ
     refine JD.step [3] (by kernel_rfl) rfl ?_
     refine bM.cons rfl ?_ ?_
     ·
      refine aF rfl (aA rfl uk) ⟨rfl,trivial⟩ ?_
      exact aw (s239 v) [0,1,2] ⟨rfl,rfl,rfl,rfl,rfl,rfl,rfl,rfl,rfl,rfl,rfl,rfl,rfl,rfl,trivial⟩
     exact trivial
    have s238:∀(v:Value),J 6 [false,true,true,true,false,true,true,true,false,false,false,false] (fk [false,true,true,true,false,true,true,true,false,false,false,false] (mB y z.1 l v undef)++lQ b2 y L.1 q1 l a1) [.obj y 111 (.agg (.pair (.at ax (a0,.map (some m))) (.eq z.1))),.sl z.1 22 .val (dH z.2 0 q2),.sl v 3 (.int .i64) l2]:=fun v=>by
     subst hJ
     refine JD.step [0,4] (by kernel_rfl) rfl ?_
     refine bM.cons rfl ?_ ?_
     ·
      refine aC rfl rfl ?_
      exact aw (s239 v) [0,1,2] ⟨rfl,rfl,rfl,rfl,rfl,rfl,rfl,rfl,rfl,rfl,rfl,rfl,rfl,rfl,trivial⟩
     refine bM.cons rfl ?_ ?_
     ·
      refine bV rfl rfl rfl (ap rfl oy lg rfl) ⟨rfl,trivial⟩ ?_
      exact aw (s254 v) [0,1,2] ⟨rfl,rfl,rfl,rfl,rfl,rfl,rfl,rfl,rfl,rfl,rfl,rfl,rfl,rfl,trivial⟩
     exact trivial
    have s31:J 7 [true,true,true,true,true,false,false,false,false,false,false,false] (fk [true,true,true,true,true,false,false,false,false,false,false,false] (mB y z.1 l undef undef)++lQ b2 y L.1 q1 l a1) [.obj y 111 (.agg (.pair (.at ax (a0,.map (some m))) (.eq z.1))),.sl z.1 22 .val (dH z.2 0 q2)]:=by
     subst hJ
     refine JD.step [5] (by kernel_rfl) rfl ?_
     refine bM.cons rfl ?_ ?_
     ·
      refine aC rfl rfl ?_
      exact aw (s63) [0,1] ⟨rfl,rfl,rfl,rfl,rfl,rfl,rfl,rfl,rfl,rfl,rfl,rfl,rfl,trivial⟩
     exact trivial
    have s47:J 7 [true,true,true,true,false,true,false,false,false,false,false,false] (fk [true,true,true,true,false,true,false,false,false,false,false,false] (mB y z.1 l undef undef)++lQ b2 y L.1 q1 l a1) [.obj y 111 (.agg (.pair (.at ax (a0,.map (some m))) (.eq z.1))),.sl z.1 22 .val (dH z.2 0 q2)]:=by
     subst hJ
     refine JD.step [4,6] (by kernel_rfl) rfl ?_
     refine bM.cons rfl ?_ ?_
     ·
      refine bV rfl rfl rfl (ap rfl oy lg rfl) ⟨rfl,trivial⟩ ?_
      exact aw (s63) [0,1] ⟨rfl,rfl,rfl,rfl,rfl,rfl,rfl,rfl,rfl,rfl,rfl,rfl,rfl,trivial⟩
     refine bM.cons rfl ?_ ?_
     ·
      refine aD rfl rfl rfl (ar [.tmp 44] rfl rfl qB rfl cc) ⟨rfl,trivial⟩ fun v=>?_
      exact aw (s111 v) [1,2,0] ⟨rfl,rfl,rfl,rfl,rfl,rfl,rfl,rfl,rfl,rfl,rfl,rfl,rfl,trivial⟩
     exact trivial
    have s62:J 7 [false,true,true,true,true,true,false,false,false,false,false,false] (fk [false,true,true,true,true,true,false,false,false,false,false,false] (mB y z.1 l undef undef)++lQ b2 y L.1 q1 l a1) [.obj y 111 (.agg (.pair (.at ax (a0,.map (some m))) (.eq z.1))),.sl z.1 22 .val (dH z.2 0 q2)]:=by
     subst hJ
     refine JD.step [0,6] (by kernel_rfl) rfl ?_
     refine bM.cons rfl ?_ ?_
     ·
      refine aC rfl rfl ?_
      exact aw (s63) [0,1] ⟨rfl,rfl,rfl,rfl,rfl,rfl,rfl,rfl,rfl,rfl,rfl,rfl,rfl,trivial⟩
     refine bM.cons rfl ?_ ?_
     ·
      refine aD rfl rfl rfl (ar [.tmp 44] rfl rfl qB rfl cc) ⟨rfl,trivial⟩ fun v=>?_
      exact aw (s126 v) [1,2,0] ⟨rfl,rfl,rfl,rfl,rfl,rfl,rfl,rfl,rfl,rfl,rfl,rfl,rfl,trivial⟩
     exact trivial
    have s103:∀(v:Value),J 7 [true,true,true,false,false,true,true,false,false,false,false,false] (fk [true,true,true,false,false,true,true,false,false,false,false,false] (mB y z.1 l v undef)++lQ b2 y L.1 q1 l a1) [.obj y 111 (.agg (.pair (.at ax (a0,.map (some m))) (.eq z.1))),.sl z.1 22 .val (dH z.2 0 q2),.sl v 3 (.int .i64) l2]:=fun v=>by
     subst hJ
     refine JD.step [3,7] (by kernel_rfl) rfl ?_
     refine bM.cons rfl ?_ ?_
     ·
      refine aF rfl (aA rfl uk) ⟨rfl,trivial⟩ ?_
      exact aw (s111 v) [0,1,2] ⟨rfl,rfl,rfl,rfl,rfl,rfl,rfl,rfl,rfl,rfl,rfl,rfl,rfl,trivial⟩
     refine bM.cons rfl ?_ ?_
     ·
      refine bH 2 rfl ?_
      refine fg fun hv=>?_
      refine aF rfl (bi (t:=.val) [(.tmp 45,.eq v)] [v] rfl rfl oz (.cons hv (.val hv) .nil) rfl rfl) ⟨rfl,trivial⟩ ?_
      exact aw (s231 v) [1,2,0] ⟨rfl,rfl,rfl,rfl,rfl,rfl,rfl,rfl,rfl,rfl,rfl,rfl,rfl,trivial⟩
     exact trivial
    have s110:∀(v:Value),J 7 [false,true,true,true,false,true,true,false,false,false,false,false] (fk [false,true,true,true,false,true,true,false,false,false,false,false] (mB y z.1 l v undef)++lQ b2 y L.1 q1 l a1) [.obj y 111 (.agg (.pair (.at ax (a0,.map (some m))) (.eq z.1))),.sl z.1 22 .val (dH z.2 0 q2),.sl v 3 (.int .i64) l2]:=fun v=>by
     subst hJ
     refine JD.step [0,4,7] (by kernel_rfl) rfl ?_
     refine bM.cons rfl ?_ ?_
     ·
      refine aC rfl rfl ?_
      exact aw (s111 v) [0,1,2] ⟨rfl,rfl,rfl,rfl,rfl,rfl,rfl,rfl,rfl,rfl,rfl,rfl,rfl,trivial⟩
     refine bM.cons rfl ?_ ?_
     ·
      refine bV rfl rfl rfl (ap rfl oy lg rfl) ⟨rfl,trivial⟩ ?_
      exact aw (s126 v) [0,1,2] ⟨rfl,rfl,rfl,rfl,rfl,rfl,rfl,rfl,rfl,rfl,rfl,rfl,rfl,trivial⟩
     refine bM.cons rfl ?_ ?_
     ·
      refine bH 2 rfl ?_
      refine fg fun hv=>?_
      refine aF rfl (bi (t:=.val) [(.tmp 45,.eq v)] [v] rfl rfl oz (.cons hv (.val hv) .nil) rfl rfl) ⟨rfl,trivial⟩ ?_
      exact aw (s238 v) [1,2,0] ⟨rfl,rfl,rfl,rfl,rfl,rfl,rfl,rfl,rfl,rfl,rfl,rfl,rfl,trivial⟩
     exact trivial
    have s227:∀(v:Value),J 7 [true,true,false,false,false,true,true,true,false,false,false,false] (fk [true,true,false,false,false,true,true,true,false,false,false,false] (mB y z.1 l v undef)++lQ b2 y L.1 q1 l a1) [.obj y 111 (.agg (.pair (.at ax (a0,.map (some m))) (.eq z.1))),.sl z.1 22 .val (dH z.2 0 q2),.sl v 3 (.int .i64) l2]:=fun v=>by
     subst hJ
     refine JD.step [2] (by kernel_rfl) rfl ?_
     refine bM.cons rfl ?_ ?_
     ·
      refine aF rfl (ba rfl) ⟨rfl,trivial⟩ ?_
      exact aw (s231 v) [0,1,2] ⟨rfl,rfl,rfl,rfl,rfl,rfl,rfl,rfl,rfl,rfl,rfl,rfl,rfl,trivial⟩
     exact trivial
    have s230:∀(v:Value),J 7 [false,true,true,false,false,true,true,true,false,false,false,false] (fk [false,true,true,false,false,true,true,true,false,false,false,false] (mB y z.1 l v undef)++lQ b2 y L.1 q1 l a1) [.obj y 111 (.agg (.pair (.at ax (a0,.map (some m))) (.eq z.1))),.sl z.1 22 .val (dH z.2 0 q2),.sl v 3 (.int .i64) l2]:=fun v=>by
     subst hJ
     refine JD.step [0,3] (by kernel_rfl) rfl ?_
     refine bM.cons rfl ?_ ?_
     ·
      refine aC rfl rfl ?_
      exact aw (s231 v) [0,1,2] ⟨rfl,rfl,rfl,rfl,rfl,rfl,rfl,rfl,rfl,rfl,rfl,rfl,rfl,trivial⟩
     refine bM.cons rfl ?_ ?_
     ·
      refine aF rfl (aA rfl uk) ⟨rfl,trivial⟩ ?_
      exact aw (s238 v) [0,1,2] ⟨rfl,rfl,rfl,rfl,rfl,rfl,rfl,rfl,rfl,rfl,rfl,rfl,rfl,trivial⟩
     exact trivial
    have s15:J 8 [true,true,true,true,false,false,false,false,false,false,false,false] (fk [true,true,true,true,false,false,false,false,false,false,false,false] (mB y z.1 l undef undef)++lQ b2 y L.1 q1 l a1) [.obj y 111 (.agg (.pair (.at ax (a0,.map (some m))) (.eq z.1))),.sl z.1 22 .val (dH z.2 0 q2)]:=by
     subst hJ
     refine JD.step [4,5] (by kernel_rfl) rfl ?_
     refine bM.cons rfl ?_ ?_
     ·
      refine bV rfl rfl rfl (ap rfl oy lg rfl) ⟨rfl,trivial⟩ ?_
      exact aw (s31) [0,1] ⟨rfl,rfl,rfl,rfl,rfl,rfl,rfl,rfl,rfl,rfl,rfl,rfl,trivial⟩
     refine bM.cons rfl ?_ ?_
     ·
      refine aC rfl rfl ?_
      exact aw (s47) [0,1] ⟨rfl,rfl,rfl,rfl,rfl,rfl,rfl,rfl,rfl,rfl,rfl,rfl,trivial⟩
     exact trivial
    have s30:J 8 [false,true,true,true,true,false,false,false,false,false,false,false] (fk [false,true,true,true,true,false,false,false,false,false,false,false] (mB y z.1 l undef undef)++lQ b2 y L.1 q1 l a1) [.obj y 111 (.agg (.pair (.at ax (a0,.map (some m))) (.eq z.1))),.sl z.1 22 .val (dH z.2 0 q2)]:=by
     subst hJ
     refine JD.step [0,5] (by kernel_rfl) rfl ?_
     refine bM.cons rfl ?_ ?_
     ·
      refine aC rfl rfl ?_
      exact aw (s31) [0,1] ⟨rfl,rfl,rfl,rfl,rfl,rfl,rfl,rfl,rfl,rfl,rfl,rfl,trivial⟩
     refine bM.cons rfl ?_ ?_
     ·
      refine aC rfl rfl ?_
      exact aw (s62) [0,1] ⟨rfl,rfl,rfl,rfl,rfl,rfl,rfl,rfl,rfl,rfl,rfl,rfl,trivial⟩
     exact trivial
    have s39:J 8 [true,true,true,false,false,true,false,false,false,false,false,false] (fk [true,true,true,false,false,true,false,false,false,false,false,false] (mB y z.1 l undef undef)++lQ b2 y L.1 q1 l a1) [.obj y 111 (.agg (.pair (.at ax (a0,.map (some m))) (.eq z.1))),.sl z.1 22 .val (dH z.2 0 q2)]:=by
     subst hJ
     refine JD.step [3,6] (by kernel_rfl) rfl ?_
     refine bM.cons rfl ?_ ?_
     ·
      refine aF rfl (aA rfl uk) ⟨rfl,trivial⟩ ?_
      exact aw (s47) [0,1] ⟨rfl,rfl,rfl,rfl,rfl,rfl,rfl,rfl,rfl,rfl,rfl,rfl,trivial⟩
     refine bM.cons rfl ?_ ?_
     ·
      refine aD rfl rfl rfl (ar [.tmp 44] rfl rfl qB rfl cc) ⟨rfl,trivial⟩ fun v=>?_
      exact aw (s103 v) [1,2,0] ⟨rfl,rfl,rfl,rfl,rfl,rfl,rfl,rfl,rfl,rfl,rfl,rfl,trivial⟩
     exact trivial
    have s46:J 8 [false,true,true,true,false,true,false,false,false,false,false,false] (fk [false,true,true,true,false,true,false,false,false,false,false,false] (mB y z.1 l undef undef)++lQ b2 y L.1 q1 l a1) [.obj y 111 (.agg (.pair (.at ax (a0,.map (some m))) (.eq z.1))),.sl z.1 22 .val (dH z.2 0 q2)]:=by
     subst hJ
     refine JD.step [0,4,6] (by kernel_rfl) rfl ?_
     refine bM.cons rfl ?_ ?_
     ·
      refine aC rfl rfl ?_
      exact aw (s47) [0,1] ⟨rfl,rfl,rfl,rfl,rfl,rfl,rfl,rfl,rfl,rfl,rfl,rfl,trivial⟩
     refine bM.cons rfl ?_ ?_
     ·
      refine bV rfl rfl rfl (ap rfl oy lg rfl) ⟨rfl,trivial⟩ ?_
      exact aw (s62) [0,1] ⟨rfl,rfl,rfl,rfl,rfl,rfl,rfl,rfl,rfl,rfl,rfl,rfl,trivial⟩
     refine bM.cons rfl ?_ ?_
     ·
      refine aD rfl rfl rfl (ar [.tmp 44] rfl rfl qB rfl cc) ⟨rfl,trivial⟩ fun v=>?_
      exact aw (s110 v) [1,2,0] ⟨rfl,rfl,rfl,rfl,rfl,rfl,rfl,rfl,rfl,rfl,rfl,rfl,trivial⟩
     exact trivial
    have s99:∀(v:Value),J 8 [true,true,false,false,false,true,true,false,false,false,false,false] (fk [true,true,false,false,false,true,true,false,false,false,false,false] (mB y z.1 l v undef)++lQ b2 y L.1 q1 l a1) [.obj y 111 (.agg (.pair (.at ax (a0,.map (some m))) (.eq z.1))),.sl z.1 22 .val (dH z.2 0 q2),.sl v 3 (.int .i64) l2]:=fun v=>by
     subst hJ
     refine JD.step [2,7] (by kernel_rfl) rfl ?_
     refine bM.cons rfl ?_ ?_
     ·
      refine aF rfl (ba rfl) ⟨rfl,trivial⟩ ?_
      exact aw (s103 v) [0,1,2] ⟨rfl,rfl,rfl,rfl,rfl,rfl,rfl,rfl,rfl,rfl,rfl,rfl,trivial⟩
     refine bM.cons rfl ?_ ?_
     ·
      refine bH 2 rfl ?_
      refine fg fun hv=>?_
      refine aF rfl (bi (t:=.val) [(.tmp 45,.eq v)] [v] rfl rfl oz (.cons hv (.val hv) .nil) rfl rfl) ⟨rfl,trivial⟩ ?_
      exact aw (s227 v) [1,2,0] ⟨rfl,rfl,rfl,rfl,rfl,rfl,rfl,rfl,rfl,rfl,rfl,rfl,trivial⟩
     exact trivial
    have s102:∀(v:Value),J 8 [false,true,true,false,false,true,true,false,false,false,false,false] (fk [false,true,true,false,false,true,true,false,false,false,false,false] (mB y z.1 l v undef)++lQ b2 y L.1 q1 l a1) [.obj y 111 (.agg (.pair (.at ax (a0,.map (some m))) (.eq z.1))),.sl z.1 22 .val (dH z.2 0 q2),.sl v 3 (.int .i64) l2]:=fun v=>by
     subst hJ
     refine JD.step [0,3,7] (by kernel_rfl) rfl ?_
     refine bM.cons rfl ?_ ?_
     ·
      refine aC rfl rfl ?_
      exact aw (s103 v) [0,1,2] ⟨rfl,rfl,rfl,rfl,rfl,rfl,rfl,rfl,rfl,rfl,rfl,rfl,trivial⟩
     refine bM.cons rfl ?_ ?_
     ·
      refine aF rfl (aA rfl uk) ⟨rfl,trivial⟩ ?_
      exact aw (s110 v) [0,1,2] ⟨rfl,rfl,rfl,rfl,rfl,rfl,rfl,rfl,rfl,rfl,rfl,rfl,trivial⟩
     refine bM.cons rfl ?_ ?_
     ·
      refine bH 2 rfl ?_
      refine fg fun hv=>?_
      refine aF rfl (bi (t:=.val) [(.tmp 45,.eq v)] [v] rfl rfl oz (.cons hv (.val hv) .nil) rfl rfl) ⟨rfl,trivial⟩ ?_
      exact aw (s230 v) [1,2,0] ⟨rfl,rfl,rfl,rfl,rfl,rfl,rfl,rfl,rfl,rfl,rfl,rfl,trivial⟩
     exact trivial
    have s225:∀(v:Value),J 8 [true,false,false,false,false,true,true,true,false,false,false,false] (fk [true,false,false,false,false,true,true,true,false,false,false,false] (mB y z.1 l v undef)++lQ b2 y L.1 q1 l a1) [.obj y 111 (.agg (.pair (.at ax (a0,.map (some m))) (.eq z.1))),.sl z.1 22 .val (dH z.2 0 q2),.sl v 3 (.int .i64) l2]:=fun v=>by
     subst hJ
     refine JD.step [1] (by kernel_rfl) rfl ?_
     refine bM.cons rfl ?_ ?_
     ·
      refine aC rfl rfl ?_
      exact aw (s227 v) [0,1,2] ⟨rfl,rfl,rfl,rfl,rfl,rfl,rfl,rfl,rfl,rfl,rfl,rfl,trivial⟩
     exact trivial
    have s226:∀(v:Value),J 8 [false,true,false,false,false,true,true,true,false,false,false,false] (fk [false,true,false,false,false,true,true,true,false,false,false,false] (mB y z.1 l v undef)++lQ b2 y L.1 q1 l a1) [.obj y 111 (.agg (.pair (.at ax (a0,.map (some m))) (.eq z.1))),.sl z.1 22 .val (dH z.2 0 q2),.sl v 3 (.int .i64) l2]:=fun v=>by
     subst hJ
     refine JD.step [0,2] (by kernel_rfl) rfl ?_
     refine bM.cons rfl ?_ ?_
     ·
      refine aC rfl rfl ?_
      exact aw (s227 v) [0,1,2] ⟨rfl,rfl,rfl,rfl,rfl,rfl,rfl,rfl,rfl,rfl,rfl,rfl,trivial⟩
     refine bM.cons rfl ?_ ?_
     ·
      refine aF rfl (ba rfl) ⟨rfl,trivial⟩ ?_
      exact aw (s230 v) [0,1,2] ⟨rfl,rfl,rfl,rfl,rfl,rfl,rfl,rfl,rfl,rfl,rfl,rfl,trivial⟩
     exact trivial
    have s7:J 9 [true,true,true,false,false,false,false,false,false,false,false,false] (fk [true,true,true,false,false,false,false,false,false,false,false,false] (mB y z.1 l undef undef)++lQ b2 y L.1 q1 l a1) [.obj y 111 (.agg (.pair (.at ax (a0,.map (some m))) (.eq z.1))),.sl z.1 22 .val (dH z.2 0 q2)]:=by
     subst hJ
     refine JD.step [3,5] (by kernel_rfl) rfl ?_
     refine bM.cons rfl ?_ ?_
     ·
      refine aF rfl (aA rfl uk) ⟨rfl,trivial⟩ ?_
      exact aw (s15) [0,1] ⟨rfl,rfl,rfl,rfl,rfl,rfl,rfl,rfl,rfl,rfl,rfl,trivial⟩
     refine bM.cons rfl ?_ ?_
     ·
      refine aC rfl rfl ?_
      exact aw (s39) [0,1] ⟨rfl,rfl,rfl,rfl,rfl,rfl,rfl,rfl,rfl,rfl,rfl,trivial⟩
     exact trivial
    have s14:J 9 [false,true,true,true,false,false,false,false,false,false,false,false] (fk [false,true,true,true,false,false,false,false,false,false,false,false] (mB y z.1 l undef undef)++lQ b2 y L.1 q1 l a1) [.obj y 111 (.agg (.pair (.at ax (a0,.map (some m))) (.eq z.1))),.sl z.1 22 .val (dH z.2 0 q2)]:=by
     subst hJ
     refine JD.step [0,4,5] (by kernel_rfl) rfl ?_
     refine bM.cons rfl ?_ ?_
     ·
      refine aC rfl rfl ?_
      exact aw (s15) [0,1] ⟨rfl,rfl,rfl,rfl,rfl,rfl,rfl,rfl,rfl,rfl,rfl,trivial⟩
     refine bM.cons rfl ?_ ?_
     ·
      refine bV rfl rfl rfl (ap rfl oy lg rfl) ⟨rfl,trivial⟩ ?_
      exact aw (s30) [0,1] ⟨rfl,rfl,rfl,rfl,rfl,rfl,rfl,rfl,rfl,rfl,rfl,trivial⟩
     refine bM.cons rfl ?_ ?_
     ·
      refine aC rfl rfl ?_
      exact aw (s46) [0,1] ⟨rfl,rfl,rfl,rfl,rfl,rfl,rfl,rfl,rfl,rfl,rfl,trivial⟩
     exact trivial
    have s35:J 9 [true,true,false,false,false,true,false,false,false,false,false,false] (fk [true,true,false,false,false,true,false,false,false,false,false,false] (mB y z.1 l undef undef)++lQ b2 y L.1 q1 l a1) [.obj y 111 (.agg (.pair (.at ax (a0,.map (some m))) (.eq z.1))),.sl z.1 22 .val (dH z.2 0 q2)]:=by
     subst hJ
     refine JD.step [2,6] (by kernel_rfl) rfl ?_
     refine bM.cons rfl ?_ ?_
     ·
      refine aF rfl (ba rfl) ⟨rfl,trivial⟩ ?_
      exact aw (s39) [0,1] ⟨rfl,rfl,rfl,rfl,rfl,rfl,rfl,rfl,rfl,rfl,rfl,trivial⟩
     refine bM.cons rfl ?_ ?_
     ·
      refine aD rfl rfl rfl (ar [.tmp 44] rfl rfl qB rfl cc) ⟨rfl,trivial⟩ fun v=>?_
      exact aw (s99 v) [1,2,0] ⟨rfl,rfl,rfl,rfl,rfl,rfl,rfl,rfl,rfl,rfl,rfl,trivial⟩
     exact trivial
    have s38:J 9 [false,true,true,false,false,true,false,false,false,false,false,false] (fk [false,true,true,false,false,true,false,false,false,false,false,false] (mB y z.1 l undef undef)++lQ b2 y L.1 q1 l a1) [.obj y 111 (.agg (.pair (.at ax (a0,.map (some m))) (.eq z.1))),.sl z.1 22 .val (dH z.2 0 q2)]:=by
     subst hJ
     refine JD.step [0,3,6] (by kernel_rfl) rfl ?_
     refine bM.cons rfl ?_ ?_
     ·
      refine aC rfl rfl ?_
      exact aw (s39) [0,1] ⟨rfl,rfl,rfl,rfl,rfl,rfl,rfl,rfl,rfl,rfl,rfl,trivial⟩
     refine bM.cons rfl ?_ ?_
     ·
      refine aF rfl (aA rfl uk) ⟨rfl,trivial⟩ ?_
      exact aw (s46) [0,1] ⟨rfl,rfl,rfl,rfl,rfl,rfl,rfl,rfl,rfl,rfl,rfl,trivial⟩
     refine bM.cons rfl ?_ ?_
     ·
      refine aD rfl rfl rfl (ar [.tmp 44] rfl rfl qB rfl cc) ⟨rfl,trivial⟩ fun v=>?_
      exact aw (s102 v) [1,2,0] ⟨rfl,rfl,rfl,rfl,rfl,rfl,rfl,rfl,rfl,rfl,rfl,trivial⟩
     exact trivial
    have s97:∀(v:Value),J 9 [true,false,false,false,false,true,true,false,false,false,false,false] (fk [true,false,false,false,false,true,true,false,false,false,false,false] (mB y z.1 l v undef)++lQ b2 y L.1 q1 l a1) [.obj y 111 (.agg (.pair (.at ax (a0,.map (some m))) (.eq z.1))),.sl z.1 22 .val (dH z.2 0 q2),.sl v 3 (.int .i64) l2]:=fun v=>by
     subst hJ
     refine JD.step [1,7] (by kernel_rfl) rfl ?_
     refine bM.cons rfl ?_ ?_
     ·
      refine aC rfl rfl ?_
      exact aw (s99 v) [0,1,2] ⟨rfl,rfl,rfl,rfl,rfl,rfl,rfl,rfl,rfl,rfl,rfl,trivial⟩
     refine bM.cons rfl ?_ ?_
     ·
      refine bH 2 rfl ?_
      refine fg fun hv=>?_
      refine aF rfl (bi (t:=.val) [(.tmp 45,.eq v)] [v] rfl rfl oz (.cons hv (.val hv) .nil) rfl rfl) ⟨rfl,trivial⟩ ?_
      exact aw (s225 v) [1,2,0] ⟨rfl,rfl,rfl,rfl,rfl,rfl,rfl,rfl,rfl,rfl,rfl,trivial⟩
     exact trivial
    have s98:∀(v:Value),J 9 [false,true,false,false,false,true,true,false,false,false,false,false] (fk [false,true,false,false,false,true,true,false,false,false,false,false] (mB y z.1 l v undef)++lQ b2 y L.1 q1 l a1) [.obj y 111 (.agg (.pair (.at ax (a0,.map (some m))) (.eq z.1))),.sl z.1 22 .val (dH z.2 0 q2),.sl v 3 (.int .i64) l2]:=fun v=>by
     subst hJ
     refine JD.step [0,2,7] (by kernel_rfl) rfl ?_
     refine bM.cons rfl ?_ ?_
     ·
      refine aC rfl rfl ?_
      exact aw (s99 v) [0,1,2] ⟨rfl,rfl,rfl,rfl,rfl,rfl,rfl,rfl,rfl,rfl,rfl,trivial⟩
     refine bM.cons rfl ?_ ?_
     ·
      refine aF rfl (ba rfl) ⟨rfl,trivial⟩ ?_
      exact aw (s102 v) [0,1,2] ⟨rfl,rfl,rfl,rfl,rfl,rfl,rfl,rfl,rfl,rfl,rfl,trivial⟩
     refine bM.cons rfl ?_ ?_
     ·
      refine bH 2 rfl ?_
      refine fg fun hv=>?_
      refine aF rfl (bi (t:=.val) [(.tmp 45,.eq v)] [v] rfl rfl oz (.cons hv (.val hv) .nil) rfl rfl) ⟨rfl,trivial⟩ ?_
      exact aw (s226 v) [1,2,0] ⟨rfl,rfl,rfl,rfl,rfl,rfl,rfl,rfl,rfl,rfl,rfl,trivial⟩
     exact trivial
    have s224:∀(v:Value),J 9 [false,false,false,false,false,true,true,true,false,false,false,false] (fk [false,false,false,false,false,true,true,true,false,false,false,false] (mB y z.1 l v undef)++lQ b2 y L.1 q1 l a1) [.obj y 111 (.agg (.pair (.at ax (a0,.map (some m))) (.eq z.1))),.sl z.1 22 .val (dH z.2 0 q2),.sl v 3 (.int .i64) l2]:=fun v=>by
     subst hJ
     refine JD.step [0,1] (by kernel_rfl) rfl ?_
     refine bM.cons rfl ?_ ?_
     ·
      refine aC rfl rfl ?_
      exact aw (s225 v) [0,1,2] ⟨rfl,rfl,rfl,rfl,rfl,rfl,rfl,rfl,rfl,rfl,rfl,trivial⟩
     refine bM.cons rfl ?_ ?_
     ·
      refine aC rfl rfl ?_
      exact aw (s226 v) [0,1,2] ⟨rfl,rfl,rfl,rfl,rfl,rfl,rfl,rfl,rfl,rfl,rfl,trivial⟩
     exact trivial
    have s3:J 10 [true,true,false,false,false,false,false,false,false,false,false,false] (fk [true,true,false,false,false,false,false,false,false,false,false,false] (mB y z.1 l undef undef)++lQ b2 y L.1 q1 l a1) [.obj y 111 (.agg (.pair (.at ax (a0,.map (some m))) (.eq z.1))),.sl z.1 22 .val (dH z.2 0 q2)]:=by
     subst hJ
     refine JD.step [2,5] (by kernel_rfl) rfl ?_
     refine bM.cons rfl ?_ ?_
     ·
      refine aF rfl (ba rfl) ⟨rfl,trivial⟩ ?_
      exact aw (s7) [0,1] ⟨rfl,rfl,rfl,rfl,rfl,rfl,rfl,rfl,rfl,rfl,trivial⟩
     refine bM.cons rfl ?_ ?_
     ·
      refine aC rfl rfl ?_
      exact aw (s35) [0,1] ⟨rfl,rfl,rfl,rfl,rfl,rfl,rfl,rfl,rfl,rfl,trivial⟩
     exact trivial
    have s6:J 10 [false,true,true,false,false,false,false,false,false,false,false,false] (fk [false,true,true,false,false,false,false,false,false,false,false,false] (mB y z.1 l undef undef)++lQ b2 y L.1 q1 l a1) [.obj y 111 (.agg (.pair (.at ax (a0,.map (some m))) (.eq z.1))),.sl z.1 22 .val (dH z.2 0 q2)]:=by
     subst hJ
     refine JD.step [0,3,5] (by kernel_rfl) rfl ?_
     refine bM.cons rfl ?_ ?_
     ·
      refine aC rfl rfl ?_
      exact aw (s7) [0,1] ⟨rfl,rfl,rfl,rfl,rfl,rfl,rfl,rfl,rfl,rfl,trivial⟩
     refine bM.cons rfl ?_ ?_
     ·
      refine aF rfl (aA rfl uk) ⟨rfl,trivial⟩ ?_
      exact aw (s14) [0,1] ⟨rfl,rfl,rfl,rfl,rfl,rfl,rfl,rfl,rfl,rfl,trivial⟩
     refine bM.cons rfl ?_ ?_
     ·
      refine aC rfl rfl ?_
      exact aw (s38) [0,1] ⟨rfl,rfl,rfl,rfl,rfl,rfl,rfl,rfl,rfl,rfl,trivial⟩
     exact trivial
    have s33:J 10 [true,false,false,false,false,true,false,false,false,false,false,false] (fk [true,false,false,false,false,true,false,false,false,false,false,false] (mB y z.1 l undef undef)++lQ b2 y L.1 q1 l a1) [.obj y 111 (.agg (.pair (.at ax (a0,.map (some m))) (.eq z.1))),.sl z.1 22 .val (dH z.2 0 q2)]:=by
     subst hJ
     refine JD.step [1,6] (by kernel_rfl) rfl ?_
     refine bM.cons rfl ?_ ?_
     ·
      refine aC rfl rfl ?_
      exact aw (s35) [0,1] ⟨rfl,rfl,rfl,rfl,rfl,rfl,rfl,rfl,rfl,rfl,trivial⟩
     refine bM.cons rfl ?_ ?_
     ·
      refine aD rfl rfl rfl (ar [.tmp 44] rfl rfl qB rfl cc) ⟨rfl,trivial⟩ fun v=>?_
      exact aw (s97 v) [1,2,0] ⟨rfl,rfl,rfl,rfl,rfl,rfl,rfl,rfl,rfl,rfl,trivial⟩
     exact trivial
    have s34:J 10 [false,true,false,false,false,true,false,false,false,false,false,false] (fk [false,true,false,false,false,true,false,false,false,false,false,false] (mB y z.1 l undef undef)++lQ b2 y L.1 q1 l a1) [.obj y 111 (.agg (.pair (.at ax (a0,.map (some m))) (.eq z.1))),.sl z.1 22 .val (dH z.2 0 q2)]:=by
     subst hJ
     refine JD.step [0,2,6] (by kernel_rfl) rfl ?_
     refine bM.cons rfl ?_ ?_
     ·
      refine aC rfl rfl ?_
      exact aw (s35) [0,1] ⟨rfl,rfl,rfl,rfl,rfl,rfl,rfl,rfl,rfl,rfl,trivial⟩
     refine bM.cons rfl ?_ ?_
     ·
      refine aF rfl (ba rfl) ⟨rfl,trivial⟩ ?_
      exact aw (s38) [0,1] ⟨rfl,rfl,rfl,rfl,rfl,rfl,rfl,rfl,rfl,rfl,trivial⟩
     refine bM.cons rfl ?_ ?_
     ·
      refine aD rfl rfl rfl (ar [.tmp 44] rfl rfl qB rfl cc) ⟨rfl,trivial⟩ fun v=>?_
      exact aw (s98 v) [1,2,0] ⟨rfl,rfl,rfl,rfl,rfl,rfl,rfl,rfl,rfl,rfl,trivial⟩
     exact trivial
    have s96:∀(v:Value),J 10 [false,false,false,false,false,true,true,false,false,false,false,false] (fk [false,false,false,false,false,true,true,false,false,false,false,false] (mB y z.1 l v undef)++lQ b2 y L.1 q1 l a1) [.obj y 111 (.agg (.pair (.at ax (a0,.map (some m))) (.eq z.1))),.sl z.1 22 .val (dH z.2 0 q2),.sl v 3 (.int .i64) l2]:=fun v=>by
     subst hJ
     refine JD.step [0,1,7] (by kernel_rfl) rfl ?_
     refine bM.cons rfl ?_ ?_
     ·
      refine aC rfl rfl ?_
      exact aw (s97 v) [0,1,2] ⟨rfl,rfl,rfl,rfl,rfl,rfl,rfl,rfl,rfl,rfl,trivial⟩
     refine bM.cons rfl ?_ ?_
     ·
      refine aC rfl rfl ?_
      exact aw (s98 v) [0,1,2] ⟨rfl,rfl,rfl,rfl,rfl,rfl,rfl,rfl,rfl,rfl,trivial⟩
     refine bM.cons rfl ?_ ?_
     ·
      refine bH 2 rfl ?_
      refine fg fun hv=>?_
      refine aF rfl (bi (t:=.val) [(.tmp 45,.eq v)] [v] rfl rfl oz (.cons hv (.val hv) .nil) rfl rfl) ⟨rfl,trivial⟩ ?_
      exact aw (s224 v) [1,2,0] ⟨rfl,rfl,rfl,rfl,rfl,rfl,rfl,rfl,rfl,rfl,trivial⟩
     exact trivial
    have s1:J 11 [true,false,false,false,false,false,false,false,false,false,false,false] (fk [true,false,false,false,false,false,false,false,false,false,false,false] (mB y z.1 l undef undef)++lQ b2 y L.1 q1 l a1) [.obj y 111 (.agg (.pair (.at ax (a0,.map (some m))) (.eq z.1))),.sl z.1 22 .val (dH z.2 0 q2)]:=by
     subst hJ
     refine JD.step [1,5] (by kernel_rfl) rfl ?_
     refine bM.cons rfl ?_ ?_
     ·
      refine aC rfl rfl ?_
      exact aw (s3) [0,1] ⟨rfl,rfl,rfl,rfl,rfl,rfl,rfl,rfl,rfl,trivial⟩
     refine bM.cons rfl ?_ ?_
     ·
      refine aC rfl rfl ?_
      exact aw (s33) [0,1] ⟨rfl,rfl,rfl,rfl,rfl,rfl,rfl,rfl,rfl,trivial⟩
     exact trivial
    have s2:J 11 [false,true,false,false,false,false,false,false,false,false,false,false] (fk [false,true,false,false,false,false,false,false,false,false,false,false] (mB y z.1 l undef undef)++lQ b2 y L.1 q1 l a1) [.obj y 111 (.agg (.pair (.at ax (a0,.map (some m))) (.eq z.1))),.sl z.1 22 .val (dH z.2 0 q2)]:=by
     subst hJ
     refine JD.step [0,2,5] (by kernel_rfl) rfl ?_
     refine bM.cons rfl ?_ ?_
     ·
      refine aC rfl rfl ?_
      exact aw (s3) [0,1] ⟨rfl,rfl,rfl,rfl,rfl,rfl,rfl,rfl,rfl,trivial⟩
     refine bM.cons rfl ?_ ?_
     ·
      refine aF rfl (ba rfl) ⟨rfl,trivial⟩ ?_
      exact aw (s6) [0,1] ⟨rfl,rfl,rfl,rfl,rfl,rfl,rfl,rfl,rfl,trivial⟩
     refine bM.cons rfl ?_ ?_
     ·
      refine aC rfl rfl ?_
      exact aw (s34) [0,1] ⟨rfl,rfl,rfl,rfl,rfl,rfl,rfl,rfl,rfl,trivial⟩
     exact trivial
    have s32:J 11 [false,false,false,false,false,true,false,false,false,false,false,false] (fk [false,false,false,false,false,true,false,false,false,false,false,false] (mB y z.1 l undef undef)++lQ b2 y L.1 q1 l a1) [.obj y 111 (.agg (.pair (.at ax (a0,.map (some m))) (.eq z.1))),.sl z.1 22 .val (dH z.2 0 q2)]:=by
     subst hJ
     refine JD.step [0,1,6] (by kernel_rfl) rfl ?_
     refine bM.cons rfl ?_ ?_
     ·
      refine aC rfl rfl ?_
      exact aw (s33) [0,1] ⟨rfl,rfl,rfl,rfl,rfl,rfl,rfl,rfl,rfl,trivial⟩
     refine bM.cons rfl ?_ ?_
     ·
      refine aC rfl rfl ?_
      exact aw (s34) [0,1] ⟨rfl,rfl,rfl,rfl,rfl,rfl,rfl,rfl,rfl,trivial⟩
     refine bM.cons rfl ?_ ?_
     ·
      refine aD rfl rfl rfl (ar [.tmp 44] rfl rfl qB rfl cc) ⟨rfl,trivial⟩ fun v=>?_
      exact aw (s96 v) [1,2,0] ⟨rfl,rfl,rfl,rfl,rfl,rfl,rfl,rfl,rfl,trivial⟩
     exact trivial
    have s0:J 12 [false,false,false,false,false,false,false,false,false,false,false,false] (fk [false,false,false,false,false,false,false,false,false,false,false,false] (mB y z.1 l undef undef)++lQ b2 y L.1 q1 l a1) [.obj y 111 (.agg (.pair (.at ax (a0,.map (some m))) (.eq z.1))),.sl z.1 22 .val (dH z.2 0 q2)]:=by
     subst hJ
     refine JD.step [0,1,5] (by kernel_rfl) rfl ?_
     refine bM.cons rfl ?_ ?_
     ·
      refine aC rfl rfl ?_
      exact aw (s1) [0,1] ⟨rfl,rfl,rfl,rfl,rfl,rfl,rfl,rfl,trivial⟩
     refine bM.cons rfl ?_ ?_
     ·
      refine aC rfl rfl ?_
      exact aw (s2) [0,1] ⟨rfl,rfl,rfl,rfl,rfl,rfl,rfl,rfl,trivial⟩
     refine bM.cons rfl ?_ ?_
     ·
      refine aC rfl rfl ?_
      exact aw (s32) [0,1] ⟨rfl,rfl,rfl,rfl,rfl,rfl,rfl,rfl,trivial⟩
     exact trivial
    exact s0
   ·
    exact fun a w st=>⟨rfl,p,st⟩
  ·
   subst hB
   refine aK ?_
   refine ag ?_
   refine bh (eu (Δ':=.sl p.1 3 (.int .i64) l2:: .sl p.2 22 .val (dH z.2 0 q2++[p.1])::([.obj y 111 (.agg (.pair (.at ax (a0,.map (some m))) (.eq p.2))),.inv m (bN k a0),.obj b2 27 (.rep aj a0),.inv 0 dF]++jS z.2 0 q2)) ?_) ?_
   ·
    exact List.Perm.trans (List.Perm.swap _ _ _) (List.Perm.trans (List.Perm.cons _ (List.Perm.swap _ _ _)) (List.Perm.swap _ _ _))
   refine bh (qg (pre:=[.obj y 111 (.agg (.pair (.at ax (a0,.map (some m))) (.eq p.2))),.inv m (bN k a0),.obj b2 27 (.rep aj a0),.inv 0 dF])) ?_
   show JC _ _ _ _ _
   refine ab ?_
   obtain⟨w3,ew,h⟩:=aa h
   refine aF rfl (bf rfl ew) ⟨rfl,rfl,trivial⟩ ?_
   refine aC rfl rfl ?_
   refine au ?_
   refine ag ?_
   exact fq ((p.2,j8 z.2 q2.length p.1),(w3,q2++[l2])) h (aV [.obj y 111 (.agg (.pair (.at ax (a0,.map (some m))) (.eq p.2))),.inv m (bN k a0),.obj b2 27 (.rep aj a0),.inv 0 dF] (dB 22 (p.2,j8 z.2 q2.length p.1) (q2++[l2])) [0,1,2,3] ⟨rfl,rfl,rfl,rfl,rfl,rfl,trivial⟩ rfl)
 replace h:=bS (mW hb) h
 refine dk ?_
 refine aP ?_
 refine aP ?_
 refine bL ?_
 refine ag ?_
 show JC _ _ _ _ _
 replace h:((jw k a0 k (0,[],q.2)).bind fun p=>(lM k a0 p.1 p.2).bind fun b=>if(!b.2.2.1 || decide (L.1≤b.2.1))=true then some (0,0,0,11) else some (b.1.1,b.1.2,b.2.1,0)).bind some=some r:=h
 rw [Option.bind_assoc] at h
 generalize q.2=ls at h⊢
 refine ae ?_
 refine ab ?_
 refine dD rfl ?_
 refine bZ (SE.nil 114 eY) ?_
 refine au ?_
 refine ag ?_
 show JC _ _ _ _ _
 refine eA (aV (Γ':=[(2,.eq (bP b2)),(8,.eq (.int .i64 L.1)),(10,.eq (bP y)),(13,.eq (.slice none 0 0))]) (pre':=[.inv m (bN k a0),.obj b2 27 (.rep aj a0),.inv 0 dF,.sl (.slice none 0 0) 114 eY [],.obj y 111 (.agg (.pair (.at ax (a0,.map (some m))) (.eq z.1)))]) [.sl (.slice none 0 0) 114 eY [],.obj y 111 (.agg (.pair (.at ax (a0,.map (some m))) (.eq z.1))),.inv m (bN k a0),.obj b2 27 (.rep aj a0),.inv 0 dF] (dB 22 z ls) [2,3,4,0,1] ⟨rfl,rfl,rfl,rfl,trivial⟩ rfl) ?_
 refine ae ?_
 refine ae ?_
 refine ab ?_
 refine aF rfl (aA rfl Lx) ⟨rfl,trivial⟩ ?_
 refine bH 1 rfl ?_
 refine bV rfl rfl rfl (ap rfl La lg rfl) ⟨rfl,trivial⟩ ?_
 refine aF rfl (kd rfl rfl qD) ⟨rfl,trivial⟩ ?_
 refine eU rfl ?_
 refine au ?_
 refine ag ?_
 show JC _ _ _ _ _
 refine an ?_
 refine aJ (Z:=Value) (α:=Int×List (Int×Int)×List (List Int)) (fun c q=>[(2,.eq (bP b2)),(8,.eq (.int .i64 L.1)),(10,.eq (bP y)),(13,.eq c),(53,.eq (.int .i64 (a0.2.1.length:Int))),(54,.eq (.int .i64 q.1))]) (fun c q=>[.obj b2 27 (.rep aj a0),.inv m (bN k a0),.inv 0 dF,.sl c 114 eY q.2.1,.obj y 111 (.agg (.pair (.at ax (a0,.map (some m))) (.eq z.1)))]++dB 22 z q.2.2) (jw k a0) k (.slice none 0 0) (0,[],ls) (fun _=>rfl) h (aV [.obj b2 27 (.rep aj a0),.inv m (bN k a0),.inv 0 dF,.sl (.slice none 0 0) 114 eY [],.obj y 111 (.agg (.pair (.at ax (a0,.map (some m))) (.eq z.1)))] (dB 22 z ls) [0,1,2,3,4] ⟨rfl,rfl,rfl,rfl,rfl,rfl,trivial⟩ rfl) (fun n c q h=>?_)
 obtain⟨q1,qp,ql⟩:=q
 unfold jw at h
 refine ae ?_
 refine ab ?_
 refine aF rfl (bv rfl) ⟨rfl,rfl,trivial⟩ ?_
 refine au ?_
 refine ag ?_
 show JC _ _ _ _ _
 refine ae ?_
 refine bC rfl (fun hb=>?_) (fun hb=>?_)
 ·
  replace h:=cI (nG hb) h
  obtain⟨w,ew,h⟩:=aa h
  rw [Option.bind_assoc] at h
  refine aY ?_
  refine ag ?_
  show JC _ _ _ _ _
  refine ae ?_
  refine an ?_
  refine ae ?_
  refine ab ?_
  refine aC rfl rfl ?_
  refine c9 rfl rfl ?_
  refine au ?_
  refine ag ?_
  show JC _ _ _ _ _
  refine ae ?_
  refine ab ?_
  refine aC rfl rfl ?_
  refine aF rfl (bf rfl ew) ⟨rfl,rfl,trivial⟩ ?_
  refine c9 rfl rfl ?_
  refine au ?_
  refine ag ?_
  show JC _ _ _ _ _
  refine an ?_
  refine aJ (Z:=Value) (α:=Int×List (Int×Int)×List (List Int)) (fun c q=>[(2,.eq (bP b2)),(8,.eq (.int .i64 L.1)),(10,.eq (bP y)),(13,.eq c),(14,.eq (.int .i64 q1)),(15,.eq (.int .i64 q.1)),(53,.eq (.int .i64 (a0.2.1.length:Int))),(54,.eq (.int .i64 q1))]) (fun c q=>[.obj b2 27 (.rep aj a0),.inv m (bN k a0),.inv 0 dF,.sl c 114 eY q.2.1,.obj y 111 (.agg (.pair (.at ax (a0,.map (some m))) (.eq z.1)))]++dB 22 z q.2.2) (kM k a0 q1) k c (w,qp,ql) (fun _=>rfl) h (aV [.obj b2 27 (.rep aj a0),.inv m (bN k a0),.inv 0 dF,.sl c 114 eY qp,.obj y 111 (.agg (.pair (.at ax (a0,.map (some m))) (.eq z.1)))] (dB 22 z ql) [0,1,2,3,4] ⟨rfl,rfl,rfl,rfl,rfl,rfl,rfl,rfl,trivial⟩ rfl) (fun n3 c q h=>?_)
  obtain⟨j,rp,rl⟩:=q
  unfold kM at h
  refine ae ?_
  refine ae ?_
  refine ab ?_
  refine aC rfl rfl ?_
  refine aF rfl (aA rfl Lx) ⟨rfl,trivial⟩ ?_
  refine bV rfl rfl rfl (ap rfl La lg rfl) ⟨rfl,trivial⟩ ?_
  refine aF rfl (kd rfl rfl qD) ⟨rfl,trivial⟩ ?_
  refine aF rfl (bv rfl) ⟨rfl,rfl,trivial⟩ ?_
  refine au ?_
  refine ag ?_
  show JC _ _ _ _ _
  refine bC rfl (fun hb=>?_) (fun hb=>?_)
  ·
   replace h:=cI (nG hb) h
   obtain⟨r1,Q,h⟩:=aa h
   have cv:=sU k a0 (q1,j) rl r1 y m z Q
   refine aY ?_
   refine ag ?_
   show JC _ _ _ _ _
   refine ae ?_
   refine an ?_
   refine ae ?_
   refine ab ?_
   refine aC rfl rfl ?_
   refine aC rfl rfl ?_
   refine aF rfl (cR [(0,.tmp 66,_),(1,.tmp 67,_)] rfl LZ sP KL (iw ⟨rfl,rfl,trivial⟩) rfl) ⟨rfl,rfl,trivial⟩ ?_
   refine aD rfl rfl rfl (bg rfl sP vL) trivial fun e=>?_
   refine bj rfl rfl (bm rfl gK trivial rfl rfl) ⟨rfl,rfl,trivial⟩ ?_
   refine bZ (qf (a':=.rep eY (q1,j)) Qy) ?_
   refine au ?_
   refine ag ?_
   show JC _ _ _ _ _
   refine ae ?_
   refine ab ?_
   refine aC rfl rfl ?_
   refine bV rfl rfl rfl (ap rfl gK (yN) rfl) ⟨rfl,trivial⟩ ?_
   refine bZ (eu (Δ':=([.obj y 111 (.agg (.pair (.at ax (a0,.map (some m))) (.eq z.1)))]++dB 22 z rl)++[.obj e 114 (.rep eY (q1,j)),.obj b2 27 (.rep aj a0),.inv m (bN k a0),.inv 0 dF,.sl c 114 eY rp]) (List.perm_append_comm (l₁:=([.obj e 114 (.rep eY (q1,j)),.obj b2 27 (.rep aj a0),.inv m (bN k a0),.inv 0 dF,.sl c 114 eY rp]:List D)))) ?_
   refine bG (Δ:=_++_) (F:=[_,_,_,_,_]) (fun _ _ _=>ay rfl _) rfl rfl (ar [.tmp 69,.tmp 70] rfl rfl PO rfl cv) ⟨rfl,rfl,trivial⟩ fun _=>?_
   refine bZ (eu (Δ':=[.obj e 114 (.rep eY (q1,j)),.obj b2 27 (.rep aj a0),.inv m (bN k a0),.inv 0 dF,.sl c 114 eY rp]++([.obj y 111 (.agg (.pair (.at ax (a0,.map (some m))) (.eq z.1)))]++dB 22 z r1.2)) List.perm_append_comm) ?_
   refine au ?_
   refine ag ?_
   show JC _ _ _ _ _
   refine bC rfl (fun hb=>?_) (fun hb=>?_)
   ·
    replace h:=cI (D7 hb) h
    have hk:bO (rp.length+1):=by
     apply Classical.byContradiction
     intro hn
     rw [if_neg hn] at h
     cases h
    replace h:=cI hk h
    refine ab ?_
    refine aC rfl rfl ?_
    refine bV rfl rfl rfl (ap rfl gK (yN) rfl) ⟨rfl,trivial⟩ ?_
    refine aF rfl (bi (t:=eY) [(.tmp 73,_)] [(q1,j)] rfl rfl F9 (.cons rfl .rep .nil) rfl rfl) ⟨rfl,trivial⟩ ?_
    refine bH 4 rfl ?_
    refine dz rfl rfl rfl (bQ rfl rfl F9 (by simpa using hk)) ⟨rfl,rfl,trivial⟩ fun v'=>?_
    refine c9 rfl rfl ?_
    refine au ?_
    refine aK ?_
    refine ag ?_
    show JC _ _ _ _ _
    refine ab ?_
    refine aC rfl rfl ?_
    obtain⟨w2,ew2,h⟩:=aa h
    refine aF rfl (bf rfl ew2) ⟨rfl,rfl,trivial⟩ ?_
    refine c9 rfl rfl ?_
    refine au ?_
    refine ag ?_
    exact fq (v',(w2,rp++[(q1,j)],r1.2)) h (aV [.sl v' 114 eY (rp++[(q1,j)]),.obj e 114 (.rep eY (q1,j)),.obj b2 27 (.rep aj a0),.inv m (bN k a0),.inv 0 dF,.obj y 111 (.agg (.pair (.at ax (a0,.map (some m))) (.eq z.1)))] (dB 22 z r1.2) [2,3,4,0,5] ⟨rfl,rfl,rfl,rfl,rfl,rfl,rfl,rfl,trivial⟩ rfl)
   ·
    replace h:=bS (D8 hb) h
    refine aY ?_
    refine aK ?_
    refine ag ?_
    show JC _ _ _ _ _
    refine ab ?_
    refine aC rfl rfl ?_
    obtain⟨w2,ew2,h⟩:=aa h
    refine aF rfl (bf rfl ew2) ⟨rfl,rfl,trivial⟩ ?_
    refine c9 rfl rfl ?_
    refine au ?_
    refine ag ?_
    exact fq (c,(w2,rp,r1.2)) h (aV [.obj e 114 (.rep eY (q1,j)),.obj b2 27 (.rep aj a0),.inv m (bN k a0),.inv 0 dF,.sl c 114 eY rp,.obj y 111 (.agg (.pair (.at ax (a0,.map (some m))) (.eq z.1)))] (dB 22 z r1.2) [1,2,3,4,5] ⟨rfl,rfl,rfl,rfl,rfl,rfl,rfl,rfl,trivial⟩ rfl)
  replace h:=bS (mW hb) h
  refine dk ?_
  refine aP ?_
  refine aP ?_
  refine bL ?_
  refine aK ?_
  refine ag ?_
  show JC _ _ _ _ _
  replace h:(jw k a0 n (w,rp,rl)).bind _=some r:=h
  refine ab ?_
  refine aF rfl (bf rfl ew) ⟨rfl,rfl,trivial⟩ ?_
  refine aC rfl rfl ?_
  refine au ?_
  refine ag ?_
  exact fq (c,(w,rp,rl)) h (aV [.obj b2 27 (.rep aj a0),.inv m (bN k a0),.inv 0 dF,.sl c 114 eY rp,.obj y 111 (.agg (.pair (.at ax (a0,.map (some m))) (.eq z.1)))] (dB 22 z rl) [0,1,2,3,4] ⟨rfl,rfl,rfl,rfl,rfl,rfl,trivial⟩ rfl)
 replace h:=bS (mW hb) h
 refine dk ?_
 refine aP ?_
 refine aP ?_
 refine bL ?_
 refine ag ?_
 show JC _ _ _ _ _
 replace h:((lM k a0 qp ql).bind fun b=>if(!b.2.2.1 || decide (L.1≤b.2.1))=true then some (0,0,0,11) else some (b.1.1,b.1.2,b.2.1,0)).bind some=some r:=h
 obtain⟨b,eb,h⟩:=aa h
 have cx:=wb k a0 qp ql b y m z eb
 refine ae ?_
 refine ab ?_
 refine aC rfl rfl ?_
 refine aF rfl (tg [.tmp 78] [] [bP y] [] rfl rfl rfl) ⟨rfl,trivial⟩ ?_
 refine bH 3 rfl ?_
 refine bZ (gx [13] ⟨rfl,trivial⟩) ?_
 refine aC rfl rfl ?_
 refine bZ (aV (Γ':=[(8,.eq (.int .i64 L.1)),(79,.eq (.func (.func 62) #[bP y] #[])),(80,Rs eY qp)]) (pre':=[.inv 0 dF,.obj b2 27 (.rep aj a0),.inv m (bN k a0),.obj y 111 (.agg (.pair (.at ax (a0,.map (some m))) (.eq z.1)))]) [.obj b2 27 (.rep aj a0),.inv m (bN k a0),.inv 0 dF,.obj y 111 (.agg (.pair (.at ax (a0,.map (some m))) (.eq z.1)))] (dB 22 z ql) [2,0,1,3] ⟨rfl,rfl,rfl,trivial⟩ rfl) ?_
 refine bZ (eu (Δ':=([.inv m (bN k a0),.obj y 111 (.agg (.pair (.at ax (a0,.map (some m))) (.eq z.1)))]++dB 22 z ql)++[.inv 0 dF,.obj b2 27 (.rep aj a0)]) (List.perm_append_comm (l₁:=([.inv 0 dF,.obj b2 27 (.rep aj a0)]:List D)))) ?_
 refine bG (Δ:=_++_) (F:=[_,_]) (fun _ _ _=>ay rfl _) rfl rfl (gU [.tmp 79,.tmp 80] rfl rfl PN rfl cx) ⟨rfl,rfl,trivial⟩ fun _=>?_
 refine bZ (eu (Δ':=[.inv 0 dF,.obj b2 27 (.rep aj a0)]++([.inv m (bN k a0),.obj y 111 (.agg (.pair (.at ax (a0,.map (some m))) (.eq z.1)))]++dB 22 z b.2.2.2)) List.perm_append_comm) ?_
 refine aC rfl rfl ?_
 refine aF rfl (c6 rfl rfl) ⟨rfl,trivial⟩ ?_
 refine aF rfl (c6 rfl rfl) ⟨rfl,trivial⟩ ?_
 refine aF rfl (c6 rfl rfl) ⟨rfl,trivial⟩ ?_
 refine aD rfl rfl rfl (bg rfl sP vL) trivial fun s=>?_
 refine bj rfl rfl (bm rfl gK rfl rfl rfl) ⟨rfl,rfl,trivial⟩ ?_
 refine c9 rfl rfl ?_
 refine c9 rfl rfl ?_
 refine au ?_
 refine ag ?_
 show JC _ _ _ _ _
 obtain⟨bx,bn,bo,bl⟩:=b
 cases bo with
 |false=>
  replace h:some (0,0,0,11)=some r:=by simpa using h
  obtain rfl:=Option.some.inj h
  refine ae ?_
  refine ae ?_
  refine ab ?_
  refine aC rfl rfl ?_
  refine aF rfl (fm rfl) ⟨rfl,trivial⟩ ?_
  refine aC rfl rfl ?_
  refine yG rfl rfl rfl rfl rfl rfl rfl ?_
  refine yG rfl rfl rfl rfl rfl rfl rfl ?_
  refine yG rfl rfl rfl rfl rfl rfl rfl ?_
  refine aF rfl (vp rfl) ⟨rfl,rfl,trivial⟩ ?_
  refine au ?_
  refine ag ?_
  show JC _ _ _ _ _
  refine bC rfl (fun hb=>?_) (fun hb=>(by cases hb))
  refine ae ?_
  refine ab ?_
  refine dD rfl ?_
  refine dD rfl ?_
  refine dD rfl ?_
  refine dD rfl ?_
  refine au ?_
  refine ag ?_
  show JC _ _ _ _ _
  refine aB ?_
  refine aO ?_
  refine de 1 rfl ?_
  exact aN () [_,_,_,_] 1 ⟨rfl,rfl,rfl,rfl,trivial⟩ rfl
 |true=>
  refine ae ?_
  refine ae ?_
  refine ab ?_
  refine aC rfl rfl ?_
  refine aF rfl (fm rfl) ⟨rfl,trivial⟩ ?_
  refine aC rfl rfl ?_
  refine m3 rfl rfl rfl rfl rfl rfl (aR rfl) ⟨rfl,trivial⟩ ?_
  refine m3 rfl rfl rfl rfl rfl rfl (aR rfl) ⟨rfl,trivial⟩ ?_
  refine m3 rfl rfl rfl rfl rfl rfl (oV rfl) ⟨rfl,rfl,trivial⟩ ?_
  refine aF rfl (vq rfl) ⟨rfl,rfl,trivial⟩ ?_
  refine au ?_
  refine ag ?_
  show JC _ _ _ _ _
  refine bC rfl (fun hb=>?_) (fun hb=>?_)
  ·
   have hd:L.1≤bn:=of_decide_eq_true hb
   replace h:some (0,0,0,11)=some r:=by simpa [hd] using h
   obtain rfl:=Option.some.inj h
   refine ae ?_
   refine ab ?_
   refine dD rfl ?_
   refine dD rfl ?_
   refine dD rfl ?_
   refine dD rfl ?_
   refine au ?_
   refine ag ?_
   show JC _ _ _ _ _
   refine aB ?_
   refine aO ?_
   refine de 1 rfl ?_
   exact aN () [_,_,_,_] 1 ⟨rfl,rfl,rfl,rfl,trivial⟩ rfl
  ·
   have hd:¬L.1≤bn:=of_decide_eq_false hb
   replace h:some (bx.1,bx.2,bn,0)=some r:=by simpa [hd] using h
   refine aY ?_
   refine ag ?_
   obtain rfl:=Option.some.inj h
   show JC _ _ _ _ _
   refine ae ?_
   refine pE (Δ:=[.obj s 114 (.rep eY bx)]) (F:=[.inv 0 dF,.obj b2 27 (.rep aj a0),.inv m (bN k a0),.obj y 111 (.agg (.pair (.at ax (a0,.map (some m))) (.eq z.1)))]++dB 22 z bl) (Z:=Unit) (fun _=>[(4,.eq (.int .i64 bx.1)),(5,.eq (.int .i64 bx.2)),(6,.eq (.int .i64 bn)),(7,.eq (.int .i64 0))]) (fun _=>[.obj s 114 (.rep eY bx)]) (fun S w=>?_) (fun _=>?_)
   ·
    refine eA (SE.sub (Γ':=[(17,.eq (bP s)),(18,.eq (.int .i64 bn))]) ⟨rfl,rfl,trivial⟩) ?_
    refine j0 ?_
    refine aH rfl rfl rfl (aA rfl MV) ⟨rfl,trivial⟩ ?_
    refine dh 0 rfl rfl rfl rfl (ap rfl ue lg rfl) ⟨rfl,trivial⟩ ?_
    refine aH rfl rfl rfl (aA rfl MU) ⟨rfl,trivial⟩ ?_
    refine dh 0 rfl rfl rfl rfl (ap rfl ue lg rfl) ⟨rfl,trivial⟩ ?_
    refine aH rfl rfl rfl (aR rfl) ⟨rfl,trivial⟩ ?_
    refine m5 5 [true,true,false,false,false] [4,5,6,7] [0] [.obj s 114 (.rep eY bx)] rfl (by kernel_rfl) (by kernel_rfl) (by kernel_rfl) qW (fun vs hv hB=>?_)
    obtain⟨u0,mc,rfl,O⟩:=ak hv
    obtain⟨u1,ac,rfl,M⟩:=ak O
    obtain⟨u2,Y,rfl,E⟩:=ak M
    obtain⟨u3,X,rfl,x⟩:=ak E
    obtain⟨u4,U,rfl,u⟩:=ak x
    obtain rfl:=kH u
    refine⟨[0],[],by kernel_rfl,by decide,?_⟩
    refine rj rfl rfl rfl rfl (gh rfl) ⟨rfl,trivial⟩ (by kernel_rfl) ?_
    refine rj rfl rfl rfl rfl (gh rfl) ⟨rfl,trivial⟩ (by kernel_rfl) ?_
    refine rj rfl rfl rfl rfl (gh rfl) ⟨rfl,trivial⟩ (by kernel_rfl) ?_
    refine rj rfl rfl rfl rfl (gh rfl) ⟨rfl,trivial⟩ (by kernel_rfl) ?_
    refine rm ?_
    exact fun a w st=>⟨rfl,(),(SE.fin (Γ':=[(4,.eq (.int .i64 bx.1)),(5,.eq (.int .i64 bx.2)),(6,.eq (.int .i64 bn)),(7,.eq (.int .i64 0))]) [0] ⟨rfl,rfl,rfl,rfl,trivial⟩ rfl) a w st⟩
   ·
    refine ag ?_
    show JC _ _ _ _ _
    refine aB ?_
    refine de 1 rfl ?_
    exact aN () [_,_,_,_] 1 ⟨rfl,rfl,rfl,rfl,trivial⟩ rfl
def nN(k:Nat)(a0:a8)(r7:Int×(List (List Int))):Nat→((List Int)×Int)→Option (List Int)
 |0,_=>none
 |n+1,c=>
  if c.2 < (a0.2.1.length:Int) then((((eM k r7.1 c.2).bind fun j=>
  if j=true then((cp (bO (List.length c.1+List.length [c.2]))).bind fun _=>
  some (c.1++[c.2])) else(some c.1)):Option ((List Int))).bind fun h=>
  (ck (c.2+1)).bind fun e=>
  nN k a0 r7 n (h,e)) else(some c.1)
def xC(k:Nat)(a0:a8)(a1:(List (List Int)))(a2:Int):Option ((List Int)×(List (List Int))×Int):=
 (cC k a0 a1).bind fun r2=>
 if¬(r2=0) then(some ([],[],r2)) else((ck (a0.1 - 1)).bind fun x3=>
 (eB k a2 0 x3).bind fun r4=>
 if¬(r4=true) then(some ([],[],3)) else((fA k a1).bind fun r6=>
 (lu k (a0,()) r6 a2).bind fun r7=>
 ((nN k a0 r7 k (([]:(List Int)),0)):Option ((List Int))).bind fun x9=>
 (im k (a0,()) r7.2).bind fun c=>
 some (x9,c,0)))
theorem A7(k:Nat)(a0:a8)(a1:(List (List Int)))(a2:Int)(r:(List Int)×(List (List Int))×Int)(h:xC k a0 a1 a2=some r):
 cm Tryz.prog 34 [.rep aj a0,.rep (.slice (.slice (.int .i64))) a1,I a2] [.inv 0 (dF)] (fun _:Unit=>(bz [Ri r.1,.rep (.slice (.slice (.int .i64))) r.2.1,I r.2.2],[.inv 0 (dF)])):=by
 unfold xC at h
 replace h:=be h
 refine cm.of 55 Tryz.func34 rfl Tryz.ntmps34 rfl fun S w0=>?_
 refine sr ?_
 refine bx fun b1=>?_
 refine cq ?_
 refine cq ?_
 refine cq ?_
 refine nt ?_
 refine ae ?_
 refine sr ?_
 refine lo dy ?_
 refine mq ?_
 obtain⟨r2,ac,h⟩:=aa h
 have mc:=eE k a0 a1 r2 ac
 refine fr 1 ?_
 refine kb (ar [.tmp 15,.tmp 16] rfl rfl Kr rfl mc) ?_
 refine aq ?_
 refine nt ?_
 refine sr ?_
 refine mq ?_
 refine jb (ig rfl) ?_
 refine nt ?_
 refine cn h (fun h=>?_) (fun h=>?_)
 ·
  refine sr (mq ?_);refine cq ?_;refine cq ?_;refine aq (nt (rx ?_));refine bh (iJ (t:=(.slice (.int .i64))) (x:=[]) 6 rfl .nil rfl rfl) ?_;refine bh (iJ (t:=(.slice (.slice (.int .i64)))) (x:=[]) 7 rfl .nil rfl rfl) ?_;cases h;exact aN () [_,_,_] 1 ⟨rfl,rfl,rfl,trivial⟩ rfl
 ·
  refine sk (ae (sr (mq ?_)));refine fl iH ?_;refine fr 1 ?_;refine lo cH ?_;obtain⟨x3,Q,h⟩:=aa h;refine jb (eO rfl Q) ?_;obtain⟨r4,Y,h⟩:=aa h;refine jc (ar [.tmp 21,.const (.int .i64 (0)),.tmp 24] rfl rfl As rfl (eK k a2 0 x3 r4 Y)) ?_;refine ja (fm rfl) ?_;refine nt (cw h (fun h=>?_) (fun h=>?_))
  ·refine sr (cq ?_);refine cq ?_;refine cq (nt (rx ?_));refine bh (iJ (t:=(.slice (.int .i64))) (x:=[]) 6 rfl .nil rfl rfl) ?_;refine bh (iJ (t:=(.slice (.slice (.int .i64)))) (x:=[]) 7 rfl .nil rfl rfl) ?_;refine bh (SE.fin (Γ':=[(6,_),(7,_),(8,_)]) [1,0] ⟨rfl,rfl,rfl,trivial⟩ rfl) ?_;cases h;exact aN () [_,_,_] 1 ⟨rfl,rfl,rfl,trivial⟩ rfl
  ·refine sk (sr (lo dy ?_));refine aD rfl rfl rfl (ar [.tmp 27] rfl rfl Kq rfl (ip a0)) ⟨rfl,trivial⟩ fun z5=>?_;refine bZ (lG (bN k a0) nu) ?_;refine aq (nt (sr ?_));iterate 2 refine mq ?_
   obtain⟨r6,X,h⟩:=aa h;refine ja (ar [.tmp 31] rfl rfl E0 rfl (eZ k a1 r6 X)) ?_;refine mq ?_;obtain⟨r7,U,h⟩:=aa h;refine jc (dX (N:=[(.tmp 30,.at ax (a0,(.map (some z5)))),(.tmp 32,.rep (.arr 3 (.arr 5 (.int .i64))) r6),(.tmp 33,I a2)]) (ar [.tmp 30,.tmp 32,.tmp 33] rfl rfl PY rfl (ox k (a0,()) r6 a2 r7 U)) fun _ _ _ hn=>⟨(tN hn.1),hn.2.1,hn.2.2.1,trivial⟩) ?_;refine mq ?_;refine xr ?_;refine xr ?_;refine aD rfl rfl rfl (bg rfl sQ tP) trivial fun b8=>?_;refine aq ?_;refine bj rfl rfl (bm rfl f6 rfl rfl rfl) ⟨rfl,rfl,trivial⟩ ?_;refine nt (sr (cq (nt ?_)));refine aS (Z:=Value) (α:=(List Int)) (fun l x9=>[(10,.at ax (a0,(.map (some z5)))),(12,Pt b8),(13,.eq l)]) (fun l x9=>[.obj b8 85 (.rep (.arr 3 (.arr 5 (.int .i64))) r7.2),.sl l 3 (.int .i64) x9,.inv 0 (dF),.inv z5 (bN k a0)]) h (fun K h=>?_) (fun l x9 h=>?_)
   ·refine sr (fl cQ ?_);refine fr 2 ?_;refine lo iN ?_;refine ol qD ?_;refine eU rfl ?_;refine nt (an (eA (SE.nil 3 (.int .i64)) ?_));refine aJ (fun e c=>[(10,.at ax (a0,(.map (some z5)))),(11,.eq (.int .u8 r7.1)),(12,Pt b8),(13,.eq e),(39,I (a0.2.1.length:Int)),(40,I c.2)]) (fun e c=>[.obj b8 85 (.rep (.arr 3 (.arr 5 (.int .i64))) r7.2),.sl e 3 (.int .i64) c.1,.inv 0 (dF),.inv z5 (bN k a0)]) (nN k a0 r7) k (.slice none 0 0) (([]:(List Int)),0) (fun _=>rfl) h (SE.fin [2,0,4,3] ⟨rfl,rfl,rfl,rfl,rfl,rfl,trivial⟩ rfl) (fun n e c h=>?_);unfold nN at h;refine sr (jb (bv rfl) ?_);refine nt (ae (ci h (fun h=>?_) (fun h=>?_)))
    ·refine sk (aS (Z:=Value) (α:=(List Int)) (fun j s=>[(10,.at ax (a0,(.map (some z5)))),(11,.eq (.int .u8 r7.1)),(12,Pt b8),(13,.eq j),(39,I (a0.2.1.length:Int)),(40,I c.2)]) (fun j s=>[.obj b8 85 (.rep (.arr 3 (.arr 5 (.int .i64))) r7.2),.sl j 3 (.int .i64) s,.inv 0 (dF),.inv z5 (bN k a0)]) h (fun K h=>?_) (fun j s h=>?_))
     ·refine an (sr (mq ?_));refine aq (nt (sr ?_));iterate 2 refine mq ?_
      obtain⟨O,E,h⟩:=aa h;refine jb (ar [.tmp 43,.tmp 44] rfl rfl Ko rfl (io k r7.1 c.2 O E)) ?_;refine nt (cv h (fun h=>?_) (fun h=>?_))
      ·refine ab ?_;iterate 2 refine mq ?_
       refine ja (bi (t:=(.int .i64)) [(.tmp 47,_)] [c.2] rfl rfl dS (.cons rfl .int .nil) rfl rfl) ?_;obtain⟨u16,y,h⟩:=aa h;refine fr 1 ?_;refine dz rfl rfl rfl (bQ rfl rfl dS (av y)) ⟨rfl,rfl,trivial⟩ fun J=>?_;refine aq (au (bn ?_));exact jz (J,c.1++[c.2]) h [1,0,2,3]
      ·refine aY (bn ?_);exact jz (e,c.1) h [0,1,2,3]
     ·refine ab ?_;obtain⟨F,u,h⟩:=aa h;refine jb (bf rfl u) ?_;refine mq (nl ?_);exact jz (j,(s,F)) h [0,1,2,3]
    ·refine xa ?_;exact jz (e,c.1) h [0,1,2,3]
   ·refine sr ?_;iterate 2 refine mq ?_
    refine lo f6 ?_;obtain⟨M,D,h⟩:=aa h;refine aD rfl rfl rfl (dX (N:=[(.tmp 52,.at ax (a0,(.map (some z5)))),(.tmp 53,.rep (.arr 3 (.arr 5 (.int .i64))) r7.2)]) (ar [.tmp 52,.tmp 53] rfl rfl Np rfl (jH k (a0,()) r7.2 M D)) fun _ _ _ hn=>⟨(tN hn.1),hn.2.1,trivial⟩) ⟨rfl,rfl,trivial⟩ fun pp=>?_;refine aq ?_;refine aq ?_;refine cq (nt (aB ?_));refine de 2 rfl ?_;refine bh (gx [6,13,51] ⟨rfl,rfl,rfl,trivial⟩) ?_;refine bh (gx [7,54] ⟨rfl,rfl,trivial⟩) ?_;refine bh (SE.fin (Γ':=[(6,_),(7,_),(8,_)]) [1,0,2] ⟨rfl,rfl,rfl,trivial⟩ rfl) ?_;cases h;exact aN () [_,_,_] 1 ⟨rfl,rfl,rfl,trivial⟩ rfl
def nM(k:Nat)(a0:(List Int))(a1:dp)(a2:(List (List Int)))(a3:Int)(a4:Int):Option Int:=
 (im k a1 a2).bind fun r1=>
 (aX r1 a3).bind fun x3=>
 (fA k (List.set r1 (Int.toNat a3) a0)).bind fun r4=>
 (i7 k a1 r4 a4).bind fun r5=>
 some r5
theorem ud(k:Nat)(a0:(List Int))(a1:dp)(l:Nat)(a2:(List (List Int)))(j:Nat)(a3:Int)(e:Nat)(a4:Int)(c:Nat)(r:Int)(h:nM k a0 a1 a2 a3 a4=some r):
 cS (jf Tryz.prog) 72 [Ri a0,Pt l,Pt j,Pt e,Pt c] [.obj l 80 (.at bJ a1),.obj j 85 (.rep (.arr 3 (.arr 5 (.int .i64))) a2),.obj e 3 (I a3),.obj c 3 (I a4)] (fun _:Unit=>(bz [I r],[.obj l 80 (.at bJ a1),.obj j 85 (.rep (.arr 3 (.arr 5 (.int .i64))) a2),.obj e 3 (I a3),.obj c 3 (I a4)])):=by
 unfold nM at h
 replace h:=be h
 refine cS.of 20 Tryz.func72 rfl Tryz.ntmps72 rfl fun S w0=>?_
 refine sr ?_
 refine cq ?_
 refine nt ?_
 refine sr ?_
 refine lo xF ?_
 refine fr 1 ?_
 refine lo f6 ?_
 obtain⟨r1,x,h⟩:=aa h
 have E:=jH k a1 a2 r1 x
 refine aD rfl rfl rfl (ar [.tmp 8,.tmp 9] rfl rfl Np rfl E) ⟨rfl,rfl,trivial⟩ fun v2=>?_
 refine aq ?_
 refine nt ?_
 refine sr ?_
 refine mq ?_
 refine fr 3 ?_
 refine lo cH ?_
 refine mq ?_
 obtain⟨x3,n,h⟩:=aa h
 refine fr 1 ?_
 refine kb (aW (t:=(.slice (.int .i64))) rfl k9 bI n) ?_
 refine bj rfl rfl (cE (i:=Int.toNat a3) rfl bI rfl (gd n) rfl .rep rfl) ⟨rfl,rfl,trivial⟩ ?_
 refine nt ?_
 refine ae ?_
 refine eA (gx [7,10,11] ⟨rfl,rfl,rfl,trivial⟩) ?_
 refine bK ?_
 refine ea 2 (ap rfl xF lg rfl) ?_
 refine dm ?_
 obtain⟨r4,u,h⟩:=aa h
 have D:=eZ k (List.set r1 (Int.toNat a3) a0) r4 u
 refine da (ar [.tmp 16] rfl rfl E0 rfl D) ?_
 refine ea 3 (ap rfl cH lg rfl) ?_
 refine df cY ?_
 obtain⟨r5,s,h⟩:=aa h
 have y:=mz k a1 r4 a4 r5 s
 refine jc (gU [.tmp 15,.tmp 17,.tmp 18] rfl rfl PX rfl y) ?_
 refine aq ?_
 refine nt ?_
 refine aB ?_
 refine bh (SE.fin (Γ':=[(6,_)]) [2,1,0,3] ⟨rfl,trivial⟩ rfl) ?_
 cases h
 exact aN () [_] 4 ⟨rfl,trivial⟩ rfl
def ic(k:Nat)(a0_0:dp)(a0_1:(List (List Int)))(a0_2:Int)(a0_3:Int)(a1:(List (List Int))):Nat→((List Int)×Int×Bool×Int)→Option ((List Int)×Int×Bool)
 |0,_=>none
 |n+1,y3=>
  if y3.2.2.2 < (a1.length:Int) then((((aX a1 y3.2.2.2).bind fun x7=>
  (nM k x7 a0_0 a0_1 a0_2 a0_3).bind fun r8=>
  ((if¬(y3.2.2.1=true) then(some true) else(some (decide (r8 < y3.2.1)))):Option (Bool)).bind fun x9=>
  if x9=true then(some (x7,r8,true)) else(some (y3.1,y3.2.1,y3.2.2.1))):Option ((List Int)×Int×Bool)).bind fun x5=>
  (ck (y3.2.2.2+1)).bind fun c=>
  ic k a0_0 a0_1 a0_2 a0_3 a1 n (x5.1,x5.2.1,x5.2.2,c)) else(some (y3.1,y3.2.1,y3.2.2.1))
def lN(k:Nat)(a0_0:dp)(a0_1:(List (List Int)))(a0_2:Int)(a0_3:Int)(a1:(List (List Int))):Option ((List Int)×Int×Bool):=
 ((ic k a0_0 a0_1 a0_2 a0_3 a1 k ([],0,false,0)):Option ((List Int)×Int×Bool)).bind fun x1=>
 some (x1.1,x1.2.1,x1.2.2)
theorem rF(k:Nat)(a0_0:dp)(c_a0_0:Nat)(a0_1:(List (List Int)))(c_a0_1:Nat)(a0_2:Int)(c_a0_2:Nat)(a0_3:Int)(c_a0_3:Nat)(a1:(List (List Int)))(r:(List Int)×Int×Bool)(h:lN k a0_0 a0_1 a0_2 a0_3 a1=some r):
 cS (jf Tryz.prog) 74 [.eq (.func (.func 72) #[] #[(Pv c_a0_0),(Pv c_a0_1),(Pv c_a0_2),(Pv c_a0_3)]),.rep (.slice (.slice (.int .i64))) a1] [.obj c_a0_0 80 (.at bJ a0_0),.obj c_a0_1 85 (.rep (.arr 3 (.arr 5 (.int .i64))) a0_1),.obj c_a0_2 3 (I a0_2),.obj c_a0_3 3 (I a0_3)] (fun _:Unit=>(bz [Ri r.1,I r.2.1,.eq (.bool r.2.2)],[.obj c_a0_0 80 (.at bJ a0_0),.obj c_a0_1 85 (.rep (.arr 3 (.arr 5 (.int .i64))) a0_1),.obj c_a0_2 3 (I a0_2),.obj c_a0_3 3 (I a0_3)])):=by
 unfold lN at h
 replace h:=be h
 refine cS.of 35 Tryz.func74 rfl Tryz.ntmps74 rfl fun S w0=>?_
 refine sr ?_
 refine cq ?_
 refine cq ?_
 refine cq ?_
 refine nt ?_
 refine sr ?_
 refine cq ?_
 refine nt ?_
 refine sr ?_
 refine cq ?_
 refine cq ?_
 refine nt ?_
 refine aS (Z:=Unit) (α:=(List Int)×Int×Bool) (fun z2 x1=>[(7,Ri x1.1),(8,I x1.2.1),(9,.eq (.bool x1.2.2))]) (fun z2 x1=>[.obj c_a0_0 80 (.at bJ a0_0),.obj c_a0_1 85 (.rep (.arr 3 (.arr 5 (.int .i64))) a0_1),.obj c_a0_2 3 (I a0_2),.obj c_a0_3 3 (I a0_3)]) h (fun K h=>?_) (fun z2 x1 h=>?_)
 ·
  refine sr (mq ?_);refine ol k9 ?_;refine eU rfl ?_;refine nt (an (eA (iJ (t:=(.slice (.int .i64))) (x:=[]) 7 rfl .nil rfl rfl) ?_));refine aJ (fun z4 y3=>[(0,.eq (.func (.func 72) #[] #[(Pv c_a0_0),(Pv c_a0_1),(Pv c_a0_2),(Pv c_a0_3)])),(7,Ri y3.1),(8,I y3.2.1),(9,.eq (.bool y3.2.2.1)),(13,.rep (.slice (.slice (.int .i64))) a1),(14,I (a1.length:Int)),(15,I y3.2.2.2)]) (fun z4 y3=>[.obj c_a0_0 80 (.at bJ a0_0),.obj c_a0_1 85 (.rep (.arr 3 (.arr 5 (.int .i64))) a0_1),.obj c_a0_2 3 (I a0_2),.obj c_a0_3 3 (I a0_3)]) (ic k a0_0 a0_1 a0_2 a0_3 a1) k () ([],0,false,0) (fun _=>rfl) h (SE.fin [0,1,2,3] ⟨rfl,rfl,rfl,rfl,rfl,rfl,rfl,trivial⟩ rfl) (fun n z4 y3 h=>?_);unfold ic at h;refine sr (jb (bv rfl) ?_);refine nt (ae (ci h (fun h=>?_) (fun h=>?_)))
  ·refine sk (aS (Z:=Unit) (α:=(List Int)×Int×Bool) (fun z6 x5=>[(0,.eq (.func (.func 72) #[] #[(Pv c_a0_0),(Pv c_a0_1),(Pv c_a0_2),(Pv c_a0_3)])),(7,Ri x5.1),(8,I x5.2.1),(9,.eq (.bool x5.2.2)),(13,.rep (.slice (.slice (.int .i64))) a1),(14,I (a1.length:Int)),(15,I y3.2.2.2)]) (fun z6 x5=>[.obj c_a0_0 80 (.at bJ a0_0),.obj c_a0_1 85 (.rep (.arr 3 (.arr 5 (.int .i64))) a0_1),.obj c_a0_2 3 (I a0_2),.obj c_a0_3 3 (I a0_3)]) h (fun K h=>?_) (fun z6 x5 h=>?_))
   ·refine an (sr ?_);obtain⟨x7,l,h⟩:=aa h;refine jb (aI (t:=(.slice (.int .i64))) rfl k9 bI l) ?_;refine ja (ao (t:=(.slice (.int .i64))) rfl bI rfl) ?_;refine aq (nt (sr ?_));iterate 2 refine mq ?_
    obtain⟨r8,u,h⟩:=aa h;refine fr 3 ?_;refine fr 3 ?_;refine fr 3 ?_;refine fr 3 ?_;refine bG (Δ:=[_,_,_,_]) (F:=_) (fun _ _ _=>ay rfl _) rfl rfl (oY (fs:=[]) (cs:=[(Pv c_a0_0),(Pv c_a0_1),(Pv c_a0_2),(Pv c_a0_3)]) (ags:=[Ri x7]) [.tmp 20] rfl rfl R9 rfl (ud k x7 a0_0 c_a0_0 a0_1 c_a0_1 a0_2 c_a0_2 a0_3 c_a0_3 r8 u)) ⟨rfl,rfl,trivial⟩ fun _=>?_;refine aq (nt ?_);refine aS (Z:=Unit) (α:=Bool) (fun c x9=>[(0,.eq (.func (.func 72) #[] #[(Pv c_a0_0),(Pv c_a0_1),(Pv c_a0_2),(Pv c_a0_3)])),(7,Ri y3.1),(8,I y3.2.1),(9,.eq (.bool y3.2.2.1)),(11,Ri x7),(12,I r8),(13,.rep (.slice (.slice (.int .i64))) a1),(14,I (a1.length:Int)),(15,I y3.2.2.2),(28,.eq (.bool x9))]) (fun c x9=>[.obj c_a0_0 80 (.at bJ a0_0),.obj c_a0_1 85 (.rep (.arr 3 (.arr 5 (.int .i64))) a0_1),.obj c_a0_2 3 (I a0_2),.obj c_a0_3 3 (I a0_3)]) h (fun K h=>?_) (fun c x9 h=>?_)
    ·refine ab (mq ?_);refine ja (fm rfl) ?_;refine mq ?_;refine cd (s:=24) rfl (fun hb=>?_) (fun hb=>?_)
     ·replace h:=cI (EF hb) h;iterate 3 refine gn ?_
      refine pt (nl ?_);exact jz ((),true) h [0,1,2,3]
     ·replace h:=bS (wO hb) h;refine gm ?_;refine gm ?_;refine gb (bv rfl) ?_;refine pf (nl ?_);exact jz ((),decide (r8 < y3.2.1)) h [0,1,2,3]
    ·refine cv h (fun h=>?_) (fun h=>?_)
     ·refine ab ?_;iterate 2 refine mq ?_
      refine aq ?_;refine aq ?_;refine cq (au (bn ?_));exact jz ((),(x7,r8,true)) h [0,1,2,3]
     ·refine aY (bn ?_);exact jz ((),(y3.1,y3.2.1,y3.2.2.1)) h [0,1,2,3]
   ·refine ab ?_;obtain⟨j,e,h⟩:=aa h;refine jb (bf rfl e) ?_;refine mq (nl ?_);exact jz ((),(x5.1,x5.2.1,x5.2.2,j)) h [0,1,2,3]
  ·refine xa ?_;exact jz ((),(y3.1,y3.2.1,y3.2.2.1)) h [0,1,2,3]
 ·
  refine sr ?_;iterate 3 refine mq ?_
  refine aq ?_;refine aq ?_;refine aq (nt (aB ?_));cases h;exact aN () [_,_,_] 4 ⟨rfl,rfl,rfl,trivial⟩ rfl
def qI(k:Nat)(a0:a8)(a1:(List (List Int)))(a2:Int)(a3:Int):Option ((List Int)×Int×Int):=
 (cC k a0 a1).bind fun r4=>
 if¬(r4=0) then(some ([],0,r4)) else((((ck ((a0.2.2.length:Int) - 1)).bind fun x7=>
 (eB k a2 0 x7).bind fun r8=>
 if¬(r8=true) then(some true) else((eB k a3 0 a0.1).bind fun r9=>
 some (!r9))):Option (Bool)).bind fun x5=>
 if x5=true then(some ([],0,3)) else((fA k a1).bind fun n=>
 (lK k (a0,()) n a3).bind fun e=>
 (fV k e a2).bind fun l=>
 (lS k l).bind fun j=>
 (lL k k j).bind fun h=>
 (lN k (a0,()) e a2 a3 h).bind fun c=>
 some (c.1,c.2.1,0)))
theorem wc(k:Nat)(a0:a8)(a1:(List (List Int)))(a2:Int)(a3:Int)(r:(List Int)×Int×Int)(h:qI k a0 a1 a2 a3=some r):
 cS (jf Tryz.prog) 38 [.rep aj a0,.rep (.slice (.slice (.int .i64))) a1,I a2,I a3] [.inv 0 (dF)] (fun _:Unit=>(bz [Ri r.1,I r.2.1,I r.2.2],[.inv 0 (dF)])):=by
 unfold qI at h
 replace h:=be h
 refine cS.of 60 Tryz.func38 rfl Tryz.ntmps38 rfl fun S w0=>?_
 refine sr ?_
 refine bx fun b1=>?_
 refine bx fun b2=>?_
 refine bx fun b3=>?_
 refine cq ?_
 refine cq ?_
 refine cq ?_
 refine nt ?_
 refine ae ?_
 refine sr ?_
 refine fr 2 ?_
 refine lo dy ?_
 refine mq ?_
 obtain⟨r4,T8,h⟩:=aa h
 have T9:=eE k a0 a1 r4 T8
 refine fr 3 ?_
 refine kb (ar [.tmp 18,.tmp 19] rfl rfl Kr rfl T9) ?_
 refine aq ?_
 refine nt ?_
 refine sr ?_
 refine mq ?_
 refine jb (ig rfl) ?_
 refine nt ?_
 refine cn h (fun h=>?_) (fun h=>?_)
 ·
  refine sr (mq ?_);refine cq ?_;refine cq ?_;refine aq (nt (rx ?_));refine bh (iJ (t:=(.slice (.int .i64))) (x:=[]) 8 rfl .nil rfl rfl) ?_;cases h;exact aN () [_,_,_] 1 ⟨rfl,rfl,rfl,trivial⟩ rfl
 ·
  refine sk (ae (aS (Z:=Unit) (α:=Bool) (fun z6 x5=>[(1,.rep (.slice (.slice (.int .i64))) a1),(4,Pt b1),(6,Pt b2),(7,Pt b3),(37,.eq (.bool x5))]) (fun z6 x5=>[.obj b1 27 (.rep aj a0),.obj b2 3 (I a2),.obj b3 3 (I a3),.inv 0 (dF)]) h (fun K h=>?_) (fun z6 x5 h=>?_)))
  ·refine ab (fr 3 ?_);refine lo cH ?_;refine fl cV ?_;refine fr 2 ?_;refine lo bI ?_;refine ol dQ ?_;obtain⟨x7,TX,h⟩:=aa h;refine jb (eO rfl TX) ?_;obtain⟨r8,TZ,h⟩:=aa h;refine jc (ar [.tmp 24,.const (.int .i64 (0)),.tmp 28] rfl rfl As rfl (eK k a2 0 x7 r8 TZ)) ?_;refine ja (fm rfl) ?_;refine mq ?_;refine cd (s:=31) rfl (fun hb=>?_) (fun hb=>?_)
   ·replace h:=cI (EF hb) h;iterate 5 refine gn ?_
    refine pt (nl ?_);exact jz ((),true) h [0,1,3,2]
   ·replace h:=bS (wO hb) h;refine fr 3 ?_;refine mi rfl rfl rfl rfl rfl rfl (ap rfl cH lg rfl) ⟨rfl,trivial⟩ ?_;refine ga (aA rfl iH) ?_;refine fr 1 ?_;refine mi rfl rfl rfl rfl rfl rfl (ap rfl cH lg rfl) ⟨rfl,trivial⟩ ?_;obtain⟨r9,TY,h⟩:=aa h;refine gc (ar [.tmp 32,.const (.int .i64 (0)),.tmp 34] rfl rfl As rfl (eK k a3 0 a0.1 r9 TY)) ?_;refine ga (fm rfl) ?_;refine pf (nl ?_);exact jz ((), !r9) h [0,2,1,3]
  ·refine cv h (fun h=>?_) (fun h=>?_)
   ·refine sr (cq ?_);refine cq ?_;refine cq (nt (rx ?_));refine bh (iJ (t:=(.slice (.int .i64))) (x:=[]) 8 rfl .nil rfl rfl) ?_;refine bh (SE.fin (Γ':=[(8,_),(9,_),(10,_)]) [3,0,1,2] ⟨rfl,rfl,rfl,trivial⟩ rfl) ?_;cases h;exact aN () [_,_,_] 1 ⟨rfl,rfl,rfl,trivial⟩ rfl
   ·refine sk (sr (lo dy ?_));refine aD rfl rfl rfl (ar [.tmp 38] rfl rfl Kq rfl (ip a0)) ⟨rfl,trivial⟩ fun c=>?_;refine bZ (lG (bN k a0) nu) ?_;refine aD rfl rfl rfl (bg rfl Q3 SX) trivial fun j=>?_;refine bj rfl rfl (bm rfl xF trivial rfl rfl) ⟨rfl,rfl,trivial⟩ ?_;refine nt (ae (j0 ?_));refine dh 0 rfl rfl rfl rfl (ap rfl xF lg rfl) ⟨rfl,trivial⟩ ?_;refine aH rfl rfl rfl (aR rfl) ⟨rfl,trivial⟩ ?_;obtain⟨u,U,h⟩:=aa h;refine aH rfl rfl rfl (ar [.tmp 41] rfl rfl E0 rfl (eZ k a1 u U)) ⟨rfl,trivial⟩ ?_;refine dh 4 rfl rfl rfl rfl (ap rfl cH lg rfl) ⟨rfl,trivial⟩ ?_;obtain⟨l,Q,h⟩:=aa h;refine aH rfl rfl rfl (dX (N:=[(.tmp 40,.at ax (a0,(.map (some c)))),(.tmp 42,.rep (.arr 3 (.arr 5 (.int .i64))) u),(.tmp 43,I a3)]) (ar [.tmp 40,.tmp 42,.tmp 43] rfl rfl Sv rfl (rD k (a0,()) u a3 l Q)) fun _ _ _ hn=>⟨(tN hn.1),hn.2.1,hn.2.2.1,trivial⟩) ⟨rfl,rfl,rfl,trivial⟩ ?_;refine DX (LY 85 (.rep (.arr 3 (.arr 5 (.int .i64))) [[0,0,0,0,0],[0,0,0,0,0],[0,0,0,0,0]])) (fun _=>rfl) rfl rfl rfl (bg rfl sQ tP) trivial ?_;refine m5 6 [true,true,true,true,true,true] [] [] [] rfl (by kernel_rfl) (by kernel_rfl) (by kernel_rfl) cY (fun vs hv hB=>?_);obtain⟨w0,Ug,rfl,se⟩:=ak hv;obtain⟨w1,Uf,rfl,qt⟩:=ak se;obtain⟨w2,Ue,rfl,pp⟩:=ak qt;obtain⟨w3,Ud,rfl,mc⟩:=ak pp;obtain⟨w4,Uc,rfl,ac⟩:=ak mc;obtain⟨w5,Ub,rfl,Y⟩:=ak ac;obtain rfl:=kH Y;obtain⟨e,rfl⟩:=LX hB.2.2.2.2.2.1;refine⟨[0,1,2,3,4,5,6],[.obj j 80 (.at ax (a0,(.map (some c)))),.inv c (bN k a0),.obj b1 27 (.rep aj a0),.obj b2 3 (I a2),.obj b3 3 (I a3),.inv 0 (dF),.obj e 85 (.rep (.arr 3 (.arr 5 (.int .i64))) [[0,0,0,0,0],[0,0,0,0,0],[0,0,0,0,0]])],by kernel_rfl,by decide,?_⟩;refine iK 6 rfl ?_;refine pC rfl rfl (bm rfl f6 rfl rfl rfl) ⟨rfl,rfl,trivial⟩ (by kernel_rfl) ?_;refine rm ?_;refine bh (SE.fin (Γ':=[(6,Pt b2),(7,Pt b3),(12,Pt j),(13,Pt e)]) (Δ':=[.obj e 85 (.rep (.arr 3 (.arr 5 (.int .i64))) l),.obj j 80 (.at ax (a0,(.map (some c)))),.inv c (bN k a0),.obj b1 27 (.rep aj a0),.obj b2 3 (I a2),.obj b3 3 (I a3),.inv 0 (dF)]) [0,1,2,3,4,5,6] ⟨rfl,rfl,rfl,rfl,trivial⟩ rfl) ?_;refine tn (sr (aF rfl (tg [] [.tmp 12,.tmp 13,.tmp 6,.tmp 7] [] [(Pv j),(Pv e),(Pv b2),(Pv b3)] rfl rfl rfl) ⟨rfl,rfl,rfl,rfl,trivial⟩ ?_));refine aq (nt (sr ?_));refine mq ?_;refine lo f6 ?_;refine fr 4 ?_;refine lo cH ?_;obtain⟨n,O,h⟩:=aa h;refine jb (ar [.tmp 48,.tmp 49] rfl rfl J9 rfl (gf k l a2 n O)) ?_;refine aD rfl rfl rfl (ar [.tmp 50] rfl rfl RZ rfl (rL n)) ⟨rfl,trivial⟩ fun Ua=>?_;obtain⟨D,M,h⟩:=aa h;refine ka (ar [.tmp 51] rfl rfl R2 rfl (rM k n Ua D M)) ?_;obtain⟨y,J,h⟩:=aa h;refine ja (ar [.tmp 52] rfl rfl PW rfl (wa k k D y J)) ?_;refine fr 3 ?_;refine bZ (qf (a:=.at ax (a0,(.map (some c)))) (a':=.at bJ (a0,())) NN) ?_
    obtain⟨X,E,h⟩:=aa h;refine fr 6 ?_;refine fr 3 ?_;refine fr 4 ?_;refine fr 3 ?_;refine bG (Δ:=[_,_,_,_]) (F:=_) (fun _ _ _=>ay rfl _) rfl rfl (gU [.tmp 47,.tmp 53] rfl rfl R7 rfl (rF k (a0,()) j l e a2 b2 a3 b3 y X E)) ⟨rfl,rfl,trivial⟩ fun _=>?_;refine mq ?_;refine xr ?_;refine xr ?_;refine xr ?_;refine aq ?_;refine aq ?_;refine aq (nt (sr ?_));iterate 2 refine mq ?_
    refine aq ?_;refine aq ?_;refine cq (nt (aB ?_));refine bh (SE.fin (Γ':=[(8,_),(9,_),(10,_)]) [7,0,1,2,3,4,5,6] ⟨rfl,rfl,rfl,trivial⟩ rfl) ?_;cases h;exact aN () [_,_,_] 1 ⟨rfl,rfl,rfl,trivial⟩ rfl
def ku(k:Nat):Option Bool:=
 (kQ k ([]:(List Int))).bind fun r1=>
 (wY k).bind fun r2=>
 (xC k r1 r2 1).bind fun r3=>
 (kQ k ([]:(List Int))).bind fun r4=>
 (wY k).bind fun r5=>
 (pL k r4 r5).bind fun r6=>
 (kQ k ([]:(List Int))).bind fun r7=>
 (uM k r7).bind fun r8=>
 (kQ k ([]:(List Int))).bind fun r9=>
 (Hv k).bind fun E=>
 (uL k r9 E).bind fun c=>
 (kQ k ([]:(List Int))).bind fun D=>
 (wY k).bind fun y=>
 (qI k D y 0 1).bind fun h=>
 (kQ k ([]:(List Int))).bind fun x=>
 (wY k).bind fun u=>
 (jv k x u).bind fun e=>
 ((if r3.2.2=0 then(if r6.2=0 then(if r8.2.2=0 then(if c.2.2.2=0 then(if h.2.2=0 then(if e.2=0 then(if r6.1=3 then(if r8.2.1=0 then(if c.1=0 then(if c.2.1=2 then(if c.2.2.1=1 then(if h.2.1=2 then((cp (bW e.1=true)).bind fun _=>
 if HY e.1 (⟨#[98,97,100,47,99]⟩:ByteArray)=true then((fO k r3.1 [0]).bind fun s=>
 if s=true then((fX k r3.2.1 [[0,1,3],[2]]).bind fun r=>
 if r=true then((fX k r8.1 [[2,0],[1,3]]).bind fun n=>
 if n=true then((fO k h.1 [0,1,3]).bind fun l=>
 some l) else(some false)) else(some false)) else(some false)) else(some false)) else(some false)) else(some false)) else(some false)) else(some false)) else(some false)) else(some false)) else(some false)) else(some false)) else(some false)) else(some false)) else(some false)) else(some false)):Option (Bool)).bind fun j=>
 some j
theorem qA(k:Nat)(r:Bool)(h:ku k=some r):
 cS (jf Tryz.prog) 9 [] [.inv 0 (dF)] (fun _:Unit=>(bz [.eq (.bool r)],[.inv 0 (dF)])):=by
 unfold ku at h
 replace h:=be h
 refine cS.of 132 Tryz.func9 rfl Tryz.ntmps9 rfl fun S w0=>?_
 refine sr ?_
 refine cq ?_
 refine nt ?_
 refine sr ?_
 obtain⟨r1,Up,h⟩:=aa h
 have UA:=jC k ([]:(List Int)) r1 Up
 refine ja (dX (N:=[(.const (.slice none 0 0),.eq (.slice none 0 0))]) (ar [.const (.slice none 0 0)] rfl rfl E1 rfl UA) fun _ _ _ hn=>⟨(kB (t:=(.slice (.int .i64))) (x:=([]:(List Int))) .nil rfl rfl hn.1),trivial⟩) ?_
 obtain⟨r2,Uo,h⟩:=aa h
 have Uz:=sd k r2 Uo
 refine aF rfl (ar [] rfl rfl Ks rfl Uz) trivial ?_
 obtain⟨r3,Un,h⟩:=aa h
 have Uy:=A7 k r1 r2 1 r3 Un
 refine kc (ar [.tmp 19,.tmp 20,.const (.int .i64 (1))] rfl rfl SB rfl Uy) ?_
 refine mq ?_
 refine xr ?_
 refine xr ?_
 refine xr ?_
 refine aq ?_
 refine aq ?_
 refine aq ?_
 refine nt ?_
 refine sr ?_
 obtain⟨r4,Um,h⟩:=aa h
 have Ux:=jC k ([]:(List Int)) r4 Um
 refine ja (dX (N:=[(.const (.slice none 0 0),.eq (.slice none 0 0))]) (ar [.const (.slice none 0 0)] rfl rfl E1 rfl Ux) fun _ _ _ hn=>⟨(kB (t:=(.slice (.int .i64))) (x:=([]:(List Int))) .nil rfl rfl hn.1),trivial⟩) ?_
 obtain⟨r5,Ul,h⟩:=aa h
 have Uw:=sd k r5 Ul
 refine aF rfl (ar [] rfl rfl Ks rfl Uw) trivial ?_
 obtain⟨r6,Uk,h⟩:=aa h
 have Uu:=rJ k r4 r5 r6 Uk
 refine kb (gU [.tmp 26,.tmp 27] rfl rfl SR rfl Uu) ?_
 refine mq ?_
 refine xr ?_
 refine xr ?_
 refine aq ?_
 refine aq ?_
 refine nt ?_
 refine sr ?_
 obtain⟨r7,Uj,h⟩:=aa h
 have Ut:=jC k ([]:(List Int)) r7 Uj
 refine ja (dX (N:=[(.const (.slice none 0 0),.eq (.slice none 0 0))]) (ar [.const (.slice none 0 0)] rfl rfl E1 rfl Ut) fun _ _ _ hn=>⟨(kB (t:=(.slice (.int .i64))) (x:=([]:(List Int))) .nil rfl rfl hn.1),trivial⟩) ?_
 obtain⟨r8,Ui,h⟩:=aa h
 have Us:=ze k r7 r8 Ui
 refine ja (gU [.tmp 32] rfl rfl SH rfl Us) ?_
 refine mq ?_
 refine xr ?_
 refine xr ?_
 refine xr ?_
 refine aq ?_
 refine aq ?_
 refine aq ?_
 refine nt ?_
 refine sr ?_
 obtain⟨r9,Uh,h⟩:=aa h
 have Ur:=jC k ([]:(List Int)) r9 Uh
 refine ja (dX (N:=[(.const (.slice none 0 0),.eq (.slice none 0 0))]) (ar [.const (.slice none 0 0)] rfl rfl E1 rfl Ur) fun _ _ _ hn=>⟨(kB (t:=(.slice (.int .i64))) (x:=([]:(List Int))) .nil rfl rfl hn.1),trivial⟩) ?_
 obtain⟨E,qt,h⟩:=aa h
 have Ub:=Hu k E qt
 refine aF rfl (ar [] rfl rfl SA rfl Ub) trivial ?_
 obtain⟨Ug,pp,h⟩:=aa h
 have Ua:=zc k r9 E Ug pp
 refine kb (gU [.tmp 38,.tmp 39] rfl rfl SD rfl Ua) ?_
 refine mq ?_
 refine xr ?_
 refine xr ?_
 refine xr ?_
 refine xr ?_
 refine aq ?_
 refine aq ?_
 refine aq ?_
 refine aq ?_
 refine nt ?_
 refine sr ?_
 obtain⟨D,mc,h⟩:=aa h
 have T9:=jC k ([]:(List Int)) D mc
 refine ja (dX (N:=[(.const (.slice none 0 0),.eq (.slice none 0 0))]) (ar [.const (.slice none 0 0)] rfl rfl E1 rfl T9) fun _ _ _ hn=>⟨(kB (t:=(.slice (.int .i64))) (x:=([]:(List Int))) .nil rfl rfl hn.1),trivial⟩) ?_
 obtain⟨y,ac,h⟩:=aa h
 have T8:=sd k y ac
 refine aF rfl (ar [] rfl rfl Ks rfl T8) trivial ?_
 obtain⟨u,Y,h⟩:=aa h
 have TZ:=wc k D y 0 1 u Y
 refine bV rfl rfl rfl (gU [.tmp 46,.tmp 47,.const (.int .i64 (0)),.const (.int .i64 (1))] rfl rfl Sz rfl TZ) ⟨rfl,rfl,rfl,rfl,trivial⟩ ?_
 refine mq ?_
 refine xr ?_
 refine xr ?_
 refine xr ?_
 refine aq ?_
 refine aq ?_
 refine aq ?_
 refine nt ?_
 refine sr ?_
 obtain⟨n,X,h⟩:=aa h
 have TY:=jC k ([]:(List Int)) n X
 refine ja (dX (N:=[(.const (.slice none 0 0),.eq (.slice none 0 0))]) (ar [.const (.slice none 0 0)] rfl rfl E1 rfl TY) fun _ _ _ hn=>⟨(kB (t:=(.slice (.int .i64))) (x:=([]:(List Int))) .nil rfl rfl hn.1),trivial⟩) ?_
 obtain⟨l,U,h⟩:=aa h
 have TX:=sd k l U
 refine aF rfl (ar [] rfl rfl Ks rfl TX) trivial ?_
 obtain⟨Uf,Q,h⟩:=aa h
 have se:=rI k n l Uf Q
 refine kb (ar [.tmp 53,.tmp 54] rfl rfl P5 rfl se) ?_
 refine mq ?_
 refine xr ?_
 refine xr ?_
 refine aq ?_
 refine aq ?_
 refine nt ?_
 refine aS (Z:=Unit) (α:=Bool) (fun e c=>[(0,.eq (.bool c))]) (fun e c=>[.inv 0 (dF)]) h (fun K h=>?_) (fun e c h=>?_)
 ·
  refine ab (mq ?_);refine jb (eh rfl) ?_;refine mq ?_;refine cd (s:=60) rfl (fun hb=>?_) (fun hb=>?_)
  ·replace h:=cI (nG hb) h;refine gm ?_;refine gb (eh rfl) ?_;refine pt ?_;refine mq ?_;refine cd (s:=64) rfl (fun hb=>?_) (fun hb=>?_)
   ·replace h:=cI (nG hb) h;refine gm ?_;refine gb (eh rfl) ?_;refine pt ?_;refine mq ?_;refine cd (s:=68) rfl (fun hb=>?_) (fun hb=>?_)
    ·replace h:=cI (nG hb) h;refine gm ?_;refine gb (eh rfl) ?_;refine pt ?_;refine mq ?_;refine cd (s:=72) rfl (fun hb=>?_) (fun hb=>?_)
     ·replace h:=cI (nG hb) h;refine gm ?_;refine gb (eh rfl) ?_;refine pt ?_;refine mq ?_;refine cd (s:=76) rfl (fun hb=>?_) (fun hb=>?_)
      ·replace h:=cI (nG hb) h;refine gm ?_;refine gb (eh rfl) ?_;refine pt ?_;refine mq ?_;refine cd (s:=80) rfl (fun hb=>?_) (fun hb=>?_)
       ·replace h:=cI (nG hb) h;refine gm ?_;refine gb (eh rfl) ?_;refine pt ?_;refine mq ?_;refine cd (s:=84) rfl (fun hb=>?_) (fun hb=>?_)
        ·replace h:=cI (nG hb) h;refine gm ?_;refine gb (eh rfl) ?_;refine pt ?_;refine mq ?_;refine cd (s:=88) rfl (fun hb=>?_) (fun hb=>?_)
         ·replace h:=cI (nG hb) h;refine gm ?_;refine gb (eh rfl) ?_;refine pt ?_;refine mq ?_;refine cd (s:=92) rfl (fun hb=>?_) (fun hb=>?_)
          ·replace h:=cI (nG hb) h;refine gm ?_;refine gb (eh rfl) ?_;refine pt ?_;refine mq ?_;refine cd (s:=96) rfl (fun hb=>?_) (fun hb=>?_)
           ·replace h:=cI (nG hb) h;refine gm ?_;refine gb (eh rfl) ?_;refine pt ?_;refine mq ?_;refine cd (s:=100) rfl (fun hb=>?_) (fun hb=>?_)
            ·replace h:=cI (nG hb) h;refine gm ?_;refine gb (eh rfl) ?_;refine pt ?_;refine mq ?_;refine cd (s:=104) rfl (fun hb=>?_) (fun hb=>?_)
             ·replace h:=cI (nG hb) h;refine gm ?_;obtain⟨UB,F,h⟩:=aa h;refine gb (GV rfl (av F)) ?_;refine pt ?_;refine mq ?_;refine cd (s:=108) rfl (fun hb=>?_) (fun hb=>?_)
              ·replace h:=cI (D7 hb) h;refine gm ?_;refine ga (bi (t:=(.int .i64)) [(.const (.int .i64 (0)),_)] [0] rfl rfl dS (.cons rfl .int .nil) rfl rfl) ?_;obtain⟨Ue,O,h⟩:=aa h;refine gb (ar [.tmp 109,.tmp 110] rfl rfl Nq rfl (li k r3.1 [0] Ue O)) ?_;refine pt ?_;refine mq ?_;refine cd (s:=113) rfl (fun hb=>?_) (fun hb=>?_)
               ·replace h:=cI (D7 hb) h;refine gm ?_;refine gc (bi (t:=(.int .i64)) [(.const (.int .i64 (0)),_),(.const (.int .i64 (1)),_),(.const (.int .i64 (3)),_)] [0,1,3] rfl rfl dS (.cons rfl .int (.cons rfl .int (.cons rfl .int .nil))) rfl rfl) ?_;refine ga (bi (t:=(.int .i64)) [(.const (.int .i64 (2)),_)] [2] rfl rfl dS (.cons rfl .int .nil) rfl rfl) ?_;refine gb (bi (t:=(.slice (.int .i64))) [(.tmp 115,_),(.tmp 116,_)] [[0,1,3],[2]] rfl rfl nR (.cons rfl .rep (.cons rfl .rep .nil)) rfl rfl) ?_;obtain⟨Ud,M,h⟩:=aa h;refine gb (ar [.tmp 114,.tmp 117] rfl rfl Nr rfl (kx k r3.2.1 [[0,1,3],[2]] Ud M)) ?_;refine pt ?_;refine mq ?_;refine cd (s:=120) rfl (fun hb=>?_) (fun hb=>?_)
                ·replace h:=cI (D7 hb) h;refine gm ?_;refine gb (bi (t:=(.int .i64)) [(.const (.int .i64 (2)),_),(.const (.int .i64 (0)),_)] [2,0] rfl rfl dS (.cons rfl .int (.cons rfl .int .nil)) rfl rfl) ?_;refine gb (bi (t:=(.int .i64)) [(.const (.int .i64 (1)),_),(.const (.int .i64 (3)),_)] [1,3] rfl rfl dS (.cons rfl .int (.cons rfl .int .nil)) rfl rfl) ?_;refine gb (bi (t:=(.slice (.int .i64))) [(.tmp 122,_),(.tmp 123,_)] [[2,0],[1,3]] rfl rfl nR (.cons rfl .rep (.cons rfl .rep .nil)) rfl rfl) ?_;obtain⟨Uc,J,h⟩:=aa h;refine gb (ar [.tmp 121,.tmp 124] rfl rfl Nr rfl (kx k r8.1 [[2,0],[1,3]] Uc J)) ?_;refine pt ?_;refine mq ?_;refine cd (s:=127) rfl (fun hb=>?_) (fun hb=>?_)
                 ·replace h:=cI (D7 hb) h;refine gm ?_;refine gc (bi (t:=(.int .i64)) [(.const (.int .i64 (0)),_),(.const (.int .i64 (1)),_),(.const (.int .i64 (3)),_)] [0,1,3] rfl rfl dS (.cons rfl .int (.cons rfl .int (.cons rfl .int .nil))) rfl rfl) ?_;obtain⟨j,I,h⟩:=aa h;refine gb (ar [.tmp 128,.tmp 129] rfl rfl Nq rfl (li k u.1 [0,1,3] j I)) ?_;refine pt ?_;refine aq (nl ?_);exact jz ((),j) h [0]
                 ·replace h:=bS (D8 hb) h;iterate 3 refine gn ?_
                  refine pf ?_;refine aq (nl ?_);exact jz ((),false) h [0]
                ·replace h:=bS (D8 hb) h;iterate 5 refine gn ?_
                 refine pf ?_;refine mq ?_;iterate 3 refine gn ?_
                 refine pf ?_;refine aq (nl ?_);exact jz ((),false) h [0]
               ·replace h:=bS (D8 hb) h;iterate 5 refine gn ?_
                refine pf ?_;refine mq ?_;iterate 5 refine gn ?_
                refine pf ?_;refine mq ?_;iterate 3 refine gn ?_
                refine pf ?_;refine aq (nl ?_);exact jz ((),false) h [0]
              ·replace h:=bS (D8 hb) h;iterate 3 refine gn ?_
               refine pf ?_;refine mq ?_;iterate 5 refine gn ?_
               refine pf ?_;refine mq ?_;iterate 5 refine gn ?_
               refine pf ?_;refine mq ?_;iterate 3 refine gn ?_
               refine pf ?_;refine aq (nl ?_);exact jz ((),false) h [0]
             ·replace h:=bS (mW hb) h;iterate 2 refine gn ?_
              refine pf ?_;refine mq ?_;iterate 3 refine gn ?_
              refine pf ?_;refine mq ?_;iterate 5 refine gn ?_
              refine pf ?_;refine mq ?_;iterate 5 refine gn ?_
              refine pf ?_;refine mq ?_;iterate 3 refine gn ?_
              refine pf ?_;refine aq (nl ?_);exact jz ((),false) h [0]
            ·replace h:=bS (mW hb) h;iterate 2 refine gn ?_
             refine pf ?_;refine mq ?_;iterate 2 refine gn ?_
             refine pf ?_;refine mq ?_;iterate 3 refine gn ?_
             refine pf ?_;refine mq ?_;iterate 5 refine gn ?_
             refine pf ?_;refine mq ?_;iterate 5 refine gn ?_
             refine pf ?_;refine mq ?_;iterate 3 refine gn ?_
             refine pf ?_;refine aq (nl ?_);exact jz ((),false) h [0]
           ·replace h:=bS (mW hb) h;iterate 2 refine gn ?_
            refine pf ?_;refine mq ?_;iterate 2 refine gn ?_
            refine pf ?_;refine mq ?_;iterate 2 refine gn ?_
            refine pf ?_;refine mq ?_;iterate 3 refine gn ?_
            refine pf ?_;refine mq ?_;iterate 5 refine gn ?_
            refine pf ?_;refine mq ?_;iterate 5 refine gn ?_
            refine pf ?_;refine mq ?_;iterate 3 refine gn ?_
            refine pf ?_;refine aq (nl ?_);exact jz ((),false) h [0]
          ·replace h:=bS (mW hb) h;iterate 2 refine gn ?_
           refine pf ?_;refine mq ?_;iterate 2 refine gn ?_
           refine pf ?_;refine mq ?_;iterate 2 refine gn ?_
           refine pf ?_;refine mq ?_;iterate 2 refine gn ?_
           refine pf ?_;refine mq ?_;iterate 3 refine gn ?_
           refine pf ?_;refine mq ?_;iterate 5 refine gn ?_
           refine pf ?_;refine mq ?_;iterate 5 refine gn ?_
           refine pf ?_;refine mq ?_;iterate 3 refine gn ?_
           refine pf ?_;refine aq (nl ?_);exact jz ((),false) h [0]
         ·replace h:=bS (mW hb) h;iterate 2 refine gn ?_
          refine pf ?_;refine mq ?_;iterate 2 refine gn ?_
          refine pf ?_;refine mq ?_;iterate 2 refine gn ?_
          refine pf ?_;refine mq ?_;iterate 2 refine gn ?_
          refine pf ?_;refine mq ?_;iterate 2 refine gn ?_
          refine pf ?_;refine mq ?_;iterate 3 refine gn ?_
          refine pf ?_;refine mq ?_;iterate 5 refine gn ?_
          refine pf ?_;refine mq ?_;iterate 5 refine gn ?_
          refine pf ?_;refine mq ?_;iterate 3 refine gn ?_
          refine pf ?_;refine aq (nl ?_);exact jz ((),false) h [0]
        ·replace h:=bS (mW hb) h;iterate 2 refine gn ?_
         refine pf ?_;refine mq ?_;iterate 2 refine gn ?_
         refine pf ?_;refine mq ?_;iterate 2 refine gn ?_
         refine pf ?_;refine mq ?_;iterate 2 refine gn ?_
         refine pf ?_;refine mq ?_;iterate 2 refine gn ?_
         refine pf ?_;refine mq ?_;iterate 2 refine gn ?_
         refine pf ?_;refine mq ?_;iterate 3 refine gn ?_
         refine pf ?_;refine mq ?_;iterate 5 refine gn ?_
         refine pf ?_;refine mq ?_;iterate 5 refine gn ?_
         refine pf ?_;refine mq ?_;iterate 3 refine gn ?_
         refine pf ?_;refine aq (nl ?_);exact jz ((),false) h [0]
       ·replace h:=bS (mW hb) h;iterate 2 refine gn ?_
        refine pf ?_;refine mq ?_;iterate 2 refine gn ?_
        refine pf ?_;refine mq ?_;iterate 2 refine gn ?_
        refine pf ?_;refine mq ?_;iterate 2 refine gn ?_
        refine pf ?_;refine mq ?_;iterate 2 refine gn ?_
        refine pf ?_;refine mq ?_;iterate 2 refine gn ?_
        refine pf ?_;refine mq ?_;iterate 2 refine gn ?_
        refine pf ?_;refine mq ?_;iterate 3 refine gn ?_
        refine pf ?_;refine mq ?_;iterate 5 refine gn ?_
        refine pf ?_;refine mq ?_;iterate 5 refine gn ?_
        refine pf ?_;refine mq ?_;iterate 3 refine gn ?_
        refine pf ?_;refine aq (nl ?_);exact jz ((),false) h [0]
      ·replace h:=bS (mW hb) h;iterate 2 refine gn ?_
       refine pf ?_;refine mq ?_;iterate 2 refine gn ?_
       refine pf ?_;refine mq ?_;iterate 2 refine gn ?_
       refine pf ?_;refine mq ?_;iterate 2 refine gn ?_
       refine pf ?_;refine mq ?_;iterate 2 refine gn ?_
       refine pf ?_;refine mq ?_;iterate 2 refine gn ?_
       refine pf ?_;refine mq ?_;iterate 2 refine gn ?_
       refine pf ?_;refine mq ?_;iterate 2 refine gn ?_
       refine pf ?_;refine mq ?_;iterate 3 refine gn ?_
       refine pf ?_;refine mq ?_;iterate 5 refine gn ?_
       refine pf ?_;refine mq ?_;iterate 5 refine gn ?_
       refine pf ?_;refine mq ?_;iterate 3 refine gn ?_
       refine pf ?_;refine aq (nl ?_);exact jz ((),false) h [0]
     ·replace h:=bS (mW hb) h;iterate 2 refine gn ?_
      refine pf ?_;refine mq ?_;iterate 2 refine gn ?_
      refine pf ?_;refine mq ?_;iterate 2 refine gn ?_
      refine pf ?_;refine mq ?_;iterate 2 refine gn ?_
      refine pf ?_;refine mq ?_;iterate 2 refine gn ?_
      refine pf ?_;refine mq ?_;iterate 2 refine gn ?_
      refine pf ?_;refine mq ?_;iterate 2 refine gn ?_
      refine pf ?_;refine mq ?_;iterate 2 refine gn ?_
      refine pf ?_;refine mq ?_;iterate 2 refine gn ?_
      refine pf ?_;refine mq ?_;iterate 3 refine gn ?_
      refine pf ?_;refine mq ?_;iterate 5 refine gn ?_
      refine pf ?_;refine mq ?_;iterate 5 refine gn ?_
      refine pf ?_;refine mq ?_;iterate 3 refine gn ?_
      refine pf ?_;refine aq (nl ?_);exact jz ((),false) h [0]
    ·replace h:=bS (mW hb) h;iterate 2 refine gn ?_
     refine pf ?_;refine mq ?_;iterate 2 refine gn ?_
     refine pf ?_;refine mq ?_;iterate 2 refine gn ?_
     refine pf ?_;refine mq ?_;iterate 2 refine gn ?_
     refine pf ?_;refine mq ?_;iterate 2 refine gn ?_
     refine pf ?_;refine mq ?_;iterate 2 refine gn ?_
     refine pf ?_;refine mq ?_;iterate 2 refine gn ?_
     refine pf ?_;refine mq ?_;iterate 2 refine gn ?_
     refine pf ?_;refine mq ?_;iterate 2 refine gn ?_
     refine pf ?_;refine mq ?_;iterate 2 refine gn ?_
     refine pf ?_;refine mq ?_;iterate 3 refine gn ?_
     refine pf ?_;refine mq ?_;iterate 5 refine gn ?_
     refine pf ?_;refine mq ?_;iterate 5 refine gn ?_
     refine pf ?_;refine mq ?_;iterate 3 refine gn ?_
     refine pf ?_;refine aq (nl ?_);exact jz ((),false) h [0]
   ·replace h:=bS (mW hb) h;iterate 2 refine gn ?_
    refine pf ?_;refine mq ?_;iterate 2 refine gn ?_
    refine pf ?_;refine mq ?_;iterate 2 refine gn ?_
    refine pf ?_;refine mq ?_;iterate 2 refine gn ?_
    refine pf ?_;refine mq ?_;iterate 2 refine gn ?_
    refine pf ?_;refine mq ?_;iterate 2 refine gn ?_
    refine pf ?_;refine mq ?_;iterate 2 refine gn ?_
    refine pf ?_;refine mq ?_;iterate 2 refine gn ?_
    refine pf ?_;refine mq ?_;iterate 2 refine gn ?_
    refine pf ?_;refine mq ?_;iterate 2 refine gn ?_
    refine pf ?_;refine mq ?_;iterate 2 refine gn ?_
    refine pf ?_;refine mq ?_;iterate 3 refine gn ?_
    refine pf ?_;refine mq ?_;iterate 5 refine gn ?_
    refine pf ?_;refine mq ?_;iterate 5 refine gn ?_
    refine pf ?_;refine mq ?_;iterate 3 refine gn ?_
    refine pf ?_;refine aq (nl ?_);exact jz ((),false) h [0]
  ·replace h:=bS (mW hb) h;iterate 2 refine gn ?_
   refine pf ?_;refine mq ?_;iterate 2 refine gn ?_
   refine pf ?_;refine mq ?_;iterate 2 refine gn ?_
   refine pf ?_;refine mq ?_;iterate 2 refine gn ?_
   refine pf ?_;refine mq ?_;iterate 2 refine gn ?_
   refine pf ?_;refine mq ?_;iterate 2 refine gn ?_
   refine pf ?_;refine mq ?_;iterate 2 refine gn ?_
   refine pf ?_;refine mq ?_;iterate 2 refine gn ?_
   refine pf ?_;refine mq ?_;iterate 2 refine gn ?_
   refine pf ?_;refine mq ?_;iterate 2 refine gn ?_
   refine pf ?_;refine mq ?_;iterate 2 refine gn ?_
   refine pf ?_;refine mq ?_;iterate 2 refine gn ?_
   refine pf ?_;refine mq ?_;iterate 3 refine gn ?_
   refine pf ?_;refine mq ?_;iterate 5 refine gn ?_
   refine pf ?_;refine mq ?_;iterate 5 refine gn ?_
   refine pf ?_;refine mq ?_;iterate 3 refine gn ?_
   refine pf ?_;refine aq (nl ?_);exact jz ((),false) h [0]
 ·
  refine aB ?_;cases h;exact aN () [_] 1 ⟨rfl,trivial⟩ rfl
def kR(k:Nat)(a0:a8)(a1:gu)(a2:(List (List Int)))(a3:bR):Option ((List a8)×(List (List (List Int)))×bR):=
 (kw k (a3.1,a3.2.1,a3.2.2) 4 3).bind fun r3=>
 (jV k r3.1).bind fun r5=>
 (fP k a1.2).bind fun r8=>
 (cp (bO (List.length r5.2.1+List.length [(a1.1,r8)]))).bind fun _=>
 (eS k (r3.2.1,r3.2.2.1,r3.2.2.2) r3.1).bind fun e=>
 (eS k (e.2.1,e.2.2.1,e.2.2.2) r3.1).bind fun c=>
 (((ck ((r3.1.2.2.length:Int) - 1)).bind fun h=>
 if(r5.2.2.length:Int) < 3 then((aX r5.2.2 h).bind fun u=>
 (ck (u+3)).bind fun s=>
 (aX r5.2.2 h).bind fun y=>
 (aX [a2,e.1,a2,c.1] 3).bind fun r=>
 (je k r).bind fun n=>
 (aX [a2,e.1,a2,c.1] 3).bind fun x=>
 (aX n h).bind fun j=>
 (cp (bO (List.length j+List.length [(r3.1.2.1.length:Int)]))).bind fun _=>
 some (List.set r5.2.2 (Int.toNat h) (jX 9 s),List.set [a2,e.1,a2,c.1] (Int.toNat 3) (List.set n (Int.toNat h) (j++[(r3.1.2.1.length:Int)])))) else(some (r5.2.2,[a2,e.1,a2,c.1]))):Option ((List Int)×(List (List (List Int))))).bind fun l=>
 some ([a0,r3.1,r3.1,(r5.1,r5.2.1++[(a1.1,r8)],l.1)],l.2,(c.2.1,c.2.2.1,c.2.2.2))
theorem vA(k:Nat)(a0:a8)(a1:gu)(a2:(List (List Int)))(a3:bR)(e:Nat)(r:(List a8)×(List (List (List Int)))×bR)(h:kR k a0 a1 a2 a3=some r):
 cm Tryz.prog 16 [.rep aj a0,.rep aG a1,.rep (.slice (.slice (.int .i64))) a2,Pt e] [.obj e 66 (.agg (.pair (Ri a3.1) (.pair (I a3.2.1) (.eq (.int .u64 a3.2.2)))))] (fun _:Unit=>(bz [Rs aj r.1,.rep (.slice (.slice (.slice (.int .i64)))) r.2.1],[.obj e 66 (.agg (.pair (Ri r.2.2.1) (.pair (I r.2.2.2.1) (.eq (.int .u64 r.2.2.2.2)))))])):=by
 unfold kR at h
 replace h:=be h
 refine cm.of 85 Tryz.func16 rfl Tryz.ntmps16 rfl fun S w0=>?_
 refine sr ?_
 refine bx fun b1=>?_
 refine bx fun b2=>?_
 refine cq ?_
 refine cq ?_
 refine nt ?_
 refine sr ?_
 refine mq ?_
 obtain⟨r3,UB,h⟩:=aa h
 have UE:=wx k (a3.1,a3.2.1,a3.2.2) e 4 3 r3 UB
 refine fr 2 ?_
 refine kc (ar [.tmp 14,.const (.int .i64 (4)),.const (.int .i64 (3))] rfl rfl SC rfl UE) ?_
 refine aD rfl rfl rfl (bg rfl lJ oh) trivial fun b4=>?_
 refine bj rfl rfl (bm rfl dy rfl rfl rfl) ⟨rfl,rfl,trivial⟩ ?_
 refine nt ?_
 refine sr ?_
 refine lo dy ?_
 obtain⟨r5,UA,h⟩:=aa h
 have UD:=ui k r3.1 r5 UA
 refine bG (Δ:=[]) (F:=_) (fun _ _ _=>ay rfl _) rfl rfl (ar [.tmp 16] rfl rfl SS rfl UD) ⟨rfl,trivial⟩ fun z6=>?_
 refine aD rfl rfl rfl (bg rfl lJ oh) trivial fun b7=>?_
 refine bj rfl rfl (bm rfl dy trivial rfl rfl) ⟨rfl,rfl,trivial⟩ ?_
 refine nt ?_
 refine ae ?_
 refine bK ?_
 refine da (aA rfl cQ) ?_
 refine ea 0 (ap rfl iN lg rfl) ?_
 refine da (aA rfl mV) ?_
 refine ea 5 (ap rfl cH lg rfl) ?_
 refine da (aA rfl mU) ?_
 refine ea 5 (ap rfl bI lg rfl) ?_
 obtain⟨r8,Uz,h⟩:=aa h
 have UC:=dj k a1.2 r8 Uz
 refine da (DD (ar [.tmp 23] rfl rfl yq rfl UC)) ?_
 refine db (cR [(0,.tmp 21,_),(1,.tmp 24,_)] rfl Bw uE vO (iw ⟨rfl,rfl,trivial⟩) rfl) ?_
 refine da (bi (t:=aG) [(.tmp 25,_)] [(a1.1,r8)] rfl rfl Bg (.cons trivial (.agg (.pair .int .rep)) .nil) rfl rfl) ?_
 refine df cY ?_
 obtain⟨u9,Uy,h⟩:=aa h
 refine fr 1 ?_
 refine dz rfl rfl rfl (bQ rfl rfl Bg (av Uy)) ⟨rfl,rfl,trivial⟩ fun j=>?_
 refine fl cQ ?_
 refine oq fun o11=>?_
 refine fr 1 ?_
 refine bj rfl rfl (bm rfl iN o11 rfl rfl) ⟨rfl,rfl,trivial⟩ ?_
 refine nt ?_
 refine ae ?_
 refine Fq [0,2,4,5,6,1,3,7,8,9] (by kernel_rfl) ?_
 refine aH rfl rfl rfl (aR rfl) ⟨rfl,trivial⟩ ?_
 refine dh 3 rfl rfl rfl rfl (ap rfl dy (yM) rfl) ⟨rfl,trivial⟩ ?_
 refine aH rfl rfl rfl (aR rfl) ⟨rfl,trivial⟩ ?_
 refine aH rfl rfl rfl (aR rfl) ⟨rfl,trivial⟩ ?_
 refine dh 3 rfl rfl rfl rfl (ap rfl dy (yM) rfl) ⟨rfl,trivial⟩ ?_
 refine aH rfl rfl rfl (aR rfl) ⟨rfl,trivial⟩ ?_
 refine m5 6 [false,true,false,false,false,true] [32,36] [3] [.obj b4 27 (.rep aj r3.1)] rfl (by kernel_rfl) (by kernel_rfl) (by kernel_rfl) cY (fun vs hv hB=>?_)
 obtain⟨w0,Ut,rfl,TY⟩:=ak hv
 obtain⟨w1,Us,rfl,TX⟩:=ak TY
 obtain⟨w2,Ur,rfl,se⟩:=ak TX
 obtain⟨w3,Up,rfl,qt⟩:=ak se
 obtain⟨w4,Uo,rfl,pp⟩:=ak qt
 obtain⟨w5,Un,rfl,mc⟩:=ak pp
 obtain rfl:=kH mc
 refine⟨[3,0,1,2,4,5,6],[.obj b7 27 (.agg (.pair (I r5.1) (.pair (.eq j) (.eq z6.2)))),.sl j 35 aG (r5.2.1++[(a1.1,r8)]),.sl z6.2 3 (.int .i64) r5.2.2,.obj e 66 (.agg (.pair (Ri r3.2.1) (.pair (I r3.2.2.1) (.eq (.int .u64 r3.2.2.2))))),.obj b2 35 (.rep aG a1),.obj b1 27 (.rep aj a0)],by kernel_rfl,by decide,?_⟩
 obtain⟨x,Uj,h⟩:=aa h
 have Ul:=nv k (r3.2.1,r3.2.2.1,r3.2.2.2) e r3.1 x Uj
 refine iK 3 rfl ?_
 refine tQ rfl rfl rfl rfl (ar [.tmp 30,.tmp 31] rfl rfl P4 rfl Ul) ⟨rfl,rfl,trivial⟩ (by kernel_rfl) ?_
 obtain⟨c,Ui,h⟩:=aa h
 have Uk:=nv k (x.2.1,x.2.2.1,x.2.2.2) e r3.1 c Ui
 refine tQ rfl rfl rfl rfl (ar [.tmp 34,.tmp 35] rfl rfl P4 rfl Uk) ⟨rfl,rfl,trivial⟩ (by kernel_rfl) ?_
 refine CG (by kernel_rfl) ?_
 refine aD rfl rfl rfl (jt (t:=(.slice (.slice (.int .i64)))) [(.tmp 29,_),(.tmp 32,_),(.tmp 33,_),(.tmp 36,_)] [a2,x.1,a2,c.1] rfl rfl Re (.cons rfl .rep (.cons rfl .rep (.cons rfl .rep (.cons rfl .rep .nil)))) rfl rfl) ⟨rfl,rfl,rfl,rfl,trivial⟩ fun y=>?_
 refine aq ?_
 refine nt ?_
 refine aS (Z:=Unit) (α:=(List Int)×(List (List (List Int)))) (fun TZ U=>[(4,Pt b1),(10,Pt b4),(11,Pt b7),(12,.eq y)]) (fun TZ U=>[.obj b1 27 (.rep aj a0),.obj b4 27 (.rep aj r3.1),.obj b7 27 (.agg (.pair (I r5.1) (.pair (.eq j) (.eq z6.2)))),.sl j 35 aG (r5.2.1++[(a1.1,r8)]),.sl z6.2 3 (.int .i64) U.1,.sl y 28 (.slice (.slice (.int .i64))) U.2,.obj e 66 (.agg (.pair (Ri c.2.1) (.pair (I c.2.2.1) (.eq (.int .u64 c.2.2.2)))))]) h (fun K h=>?_) (fun TZ U h=>?_)
 ·
  refine sr (fl cV ?_);refine fr 1 ?_;refine lo bI ?_;refine ol dQ ?_;obtain⟨s,Uf,h⟩:=aa h;refine jb (eO rfl Uf) ?_;refine aq (nt (sr ?_));refine fl cV ?_;refine fr 3 ?_;refine lo bI ?_;refine fr 5 ?_;refine ka (cO rfl rfl dQ) ?_;refine jb (bv rfl) ?_;refine nt (ci h (fun h=>?_) (fun h=>?_))
  ·refine ae (bK ?_);refine da (aA rfl cV) ?_;refine ea 1 (ap rfl bI lg rfl) ?_;refine dm ?_;refine da (aA rfl cV) ?_;refine ea 1 (ap rfl bI lg rfl) ?_;refine dm ?_;obtain⟨UN,ac,h⟩:=aa h;refine eb 0 (aW (t:=(.int .i64)) rfl dQ cH ac) ?_;refine ea 0 (dE (i:=Int.toNat s) (off:=0) rfl cH (fun _=>rfl) rfl (co ac).2.2 rfl) ?_;obtain⟨D,Ue,h⟩:=aa h;refine db (bf rfl Ue) ?_;refine db (C6 rfl rfl) ?_;refine df cY ?_;obtain⟨UM,Y,h⟩:=aa h;refine kb (aW (t:=(.int .i64)) rfl dQ cH Y) ?_;refine bj rfl rfl (cE (i:=Int.toNat s) rfl cH rfl (gd Y) rfl .int rfl) ⟨rfl,rfl,trivial⟩ ?_;refine nt (sr ?_);iterate 2 refine mq ?_
   obtain⟨Um,X,h⟩:=aa h;refine fr 3 ?_;refine kb (aW (t:=(.slice (.slice (.int .i64)))) rfl Oa uf X) ?_;refine ka (dE (i:=Int.toNat 3) (off:=0) rfl uf (fun _=>rfl) rfl (co X).2.2 rfl) ?_;obtain⟨E,Uh,h⟩:=aa h;refine bG (Δ:=[]) (F:=[.sl y 28 (.slice (.slice (.int .i64))) [a2,x.1,a2,c.1],.sl z6.2 3 (.int .i64) (List.set r5.2.2 (Int.toNat s) (jX 9 D)),.obj b7 27 (.agg (.pair (I r5.1) (.pair (.eq j) (.eq z6.2)))),.obj b4 27 (.rep aj r3.1),.obj e 66 (.agg (.pair (Ri c.2.1) (.pair (I c.2.2.1) (.eq (.int .u64 c.2.2.2))))),.sl j 35 aG (r5.2.1++[(a1.1,r8)]),.obj b2 35 (.rep aG a1),.obj b1 27 (.rep aj a0)]) (fun _ _ _=>ay rfl _) rfl rfl (ar [.tmp 60] rfl rfl SG rfl (si k Um E Uh)) ⟨rfl,trivial⟩ fun n=>?_;refine bZ (eu List.perm_append_comm) ?_;obtain⟨UL,M,h⟩:=aa h;refine kb (aW (t:=(.slice (.slice (.int .i64)))) rfl Oa uf M) ?_;refine IE (pre:=[.sl y 28 (.slice (.slice (.int .i64))) [a2,x.1,a2,c.1],.sl z6.2 3 (.int .i64) (List.set r5.2.2 (Int.toNat s) (jX 9 D)),.obj b7 27 (.agg (.pair (I r5.1) (.pair (.eq j) (.eq z6.2)))),.obj b4 27 (.rep aj r3.1),.obj e 66 (.agg (.pair (Ri c.2.1) (.pair (I c.2.2.1) (.eq (.int .u64 c.2.2.2))))),.sl j 35 aG (r5.2.1++[(a1.1,r8)]),.obj b2 35 (.rep aG a1),.obj b1 27 (.rep aj a0)]) fun oz25=>?_;refine bZ E8 ?_;refine bj rfl rfl (cE (i:=Int.toNat 3) rfl uf rfl (by rw [List.length_map];exact gd M) rfl (.altR oz25) oz25) ⟨rfl,rfl,trivial⟩ ?_;refine nt ?_;obtain⟨Q,J,h⟩:=aa h;refine eA (nH (pre:=[.sl y 28 (.alt (.slice (.slice (.int .i64)))) (List.set (List.map Sum.inl [a2,x.1,a2,c.1]) (Int.toNat 3) (.inr n.1)),.sl z6.2 3 (.int .i64) (List.set r5.2.2 (Int.toNat s) (jX 9 D)),.obj b7 27 (.agg (.pair (I r5.1) (.pair (.eq j) (.eq z6.2)))),.obj b4 27 (.rep aj r3.1),.obj e 66 (.agg (.pair (Ri c.2.1) (.pair (I c.2.2.1) (.eq (.int .u64 c.2.2.2))))),.sl j 35 aG (r5.2.1++[(a1.1,r8)]),.obj b2 35 (.rep aG a1),.obj b1 27 (.rep aj a0)]) (kJ J).2) ?_;obtain⟨UV,Ug,h⟩:=aa h;refine pE (Δ:=[.sl (n.2 (Int.toNat s)) 3 (.int .i64) Q,.sl n.1 22 .val (dH n.2 0 E),.sl y 28 (.alt (.slice (.slice (.int .i64)))) (List.set (List.map Sum.inl [a2,x.1,a2,c.1]) (Int.toNat 3) (.inr n.1)),.sl z6.2 3 (.int .i64) (List.set r5.2.2 (Int.toNat s) (jX 9 D)),.obj b7 27 (.agg (.pair (I r5.1) (.pair (.eq j) (.eq z6.2)))),.obj b4 27 (.rep aj r3.1),.obj e 66 (.agg (.pair (Ri c.2.1) (.pair (I c.2.2.1) (.eq (.int .u64 c.2.2.2))))),.sl j 35 aG (r5.2.1++[(a1.1,r8)]),.obj b2 35 (.rep aG a1),.obj b1 27 (.rep aj a0)]) (F:=(jS n.2 0 E).eraseIdx (Int.toNat s)) (Z:=Value) (fun i=>[(4,Pt b1),(10,Pt b4),(11,Pt b7),(12,.eq y)]) (fun i=>[.sl n.1 22 .val (List.set (dH n.2 0 E) (Int.toNat s) i),.sl i 3 (.int .i64) (Q++[(r3.1.2.1.length:Int)]),.sl y 28 (.alt (.slice (.slice (.int .i64)))) (List.set (List.map Sum.inl [a2,x.1,a2,c.1]) (Int.toNat 3) (.inr n.1)),.sl z6.2 3 (.int .i64) (List.set r5.2.2 (Int.toNat s) (jX 9 D)),.obj b7 27 (.agg (.pair (I r5.1) (.pair (.eq j) (.eq z6.2)))),.obj b4 27 (.rep aj r3.1),.obj e 66 (.agg (.pair (Ri c.2.1) (.pair (I c.2.2.1) (.eq (.int .u64 c.2.2.2))))),.sl j 35 aG (r5.2.1++[(a1.1,r8)]),.obj b2 35 (.rep aG a1),.obj b1 27 (.rep aj a0)]) (fun S w=>?_) (fun O=>?_)
   ·refine j0 ?_;refine aH rfl rfl rfl (aR rfl) ⟨rfl,trivial⟩ ?_;refine dh 2 rfl rfl rfl rfl (aW (t:=.alt (.slice (.slice (.int .i64)))) rfl Oa uf (so M _)) ⟨rfl,rfl,trivial⟩ ?_;refine dh 2 rfl rfl rfl rfl (vr (i:=Int.toNat 3) rfl uf rfl (co (so M _)).2.2) ⟨rfl,trivial⟩ ?_;refine aH rfl rfl rfl (aR rfl) ⟨rfl,trivial⟩ ?_;refine aH rfl rfl rfl (aR rfl) ⟨rfl,trivial⟩ ?_;refine dh 2 rfl rfl rfl rfl (aW (t:=.alt (.slice (.slice (.int .i64)))) rfl Oa uf (so M _)) ⟨rfl,rfl,trivial⟩ ?_;refine dh 2 rfl rfl rfl rfl (vr (i:=Int.toNat 3) rfl uf rfl (co (so M _)).2.2) ⟨rfl,trivial⟩ ?_;refine aH rfl rfl rfl (aR rfl) ⟨rfl,trivial⟩ ?_;refine dh 1 rfl rfl rfl rfl (aW (t:=.val) rfl k9 bI (fh J)) ⟨rfl,rfl,trivial⟩ ?_;refine dh 1 rfl rfl rfl rfl (dE (i:=Int.toNat s) (off:=0) rfl bI (fun _=>rfl) rfl (co (fh J)).2.2 rfl) ⟨rfl,trivial⟩ ?_;refine aH rfl rfl rfl (aA rfl cQ) ⟨rfl,trivial⟩ ?_;refine dh 5 rfl rfl rfl rfl (ap rfl iN lg rfl) ⟨rfl,trivial⟩ ?_;refine aH rfl rfl rfl (kd rfl rfl qD) ⟨rfl,trivial⟩ ?_;refine aH rfl rfl rfl (bi (t:=(.int .i64)) [(.tmp 75,_)] [(r3.1.2.1.length:Int)] rfl rfl dS (.cons rfl .int .nil) rfl rfl) ⟨rfl,trivial⟩ ?_;refine pG 0 rfl (fun v=>[.sl v 3 (.int .i64) (Q++[(r3.1.2.1.length:Int)])]) (fun _=>rfl) rfl rfl rfl (bQ rfl rfl dS (av Ug)) ⟨rfl,rfl,trivial⟩ ?_;refine m5 15 [true,true,true,true,true,true,true,true,true,true,true,true,true,true,true] [78] [] [] rfl (by kernel_rfl) (by kernel_rfl) (by kernel_rfl) cY (fun vs hv hB=>?_);obtain⟨w0,Ut,rfl,TY⟩:=ak hv;obtain⟨w1,Us,rfl,TX⟩:=ak TY;obtain⟨w2,Ur,rfl,se⟩:=ak TX;obtain⟨w3,Up,rfl,qt⟩:=ak se;obtain⟨w4,Uo,rfl,pp⟩:=ak qt;obtain⟨w5,Un,rfl,mc⟩:=ak pp;obtain⟨w6,UU,rfl,Ux⟩:=ak mc;obtain⟨w7,UT,rfl,Uw⟩:=ak Ux;obtain⟨w8,US,rfl,Uu⟩:=ak Uw;obtain⟨w9,UK,rfl,Ud⟩:=ak Uu;obtain⟨UR,UJ,rfl,Uc⟩:=ak Ud;obtain⟨UQ,UI,rfl,Ub⟩:=ak Uc;obtain⟨UP,UH,rfl,Ua⟩:=ak Ub;obtain⟨UO,UG,rfl,T9⟩:=ak Ua;obtain⟨O,UF,rfl,T8⟩:=ak T9;obtain rfl:=kH T8;refine⟨[0,1,2,3,4,5,6,7,8,9],[.sl n.1 22 .val (dH n.2 0 E),.sl y 28 (.alt (.slice (.slice (.int .i64)))) (List.set (List.map Sum.inl [a2,x.1,a2,c.1]) (Int.toNat 3) (.inr n.1)),.sl z6.2 3 (.int .i64) (List.set r5.2.2 (Int.toNat s) (jX 9 D)),.obj b7 27 (.agg (.pair (I r5.1) (.pair (.eq j) (.eq z6.2)))),.obj b4 27 (.rep aj r3.1),.obj e 66 (.agg (.pair (Ri c.2.1) (.pair (I c.2.2.1) (.eq (.int .u64 c.2.2.2))))),.sl j 35 aG (r5.2.1++[(a1.1,r8)]),.obj b2 35 (.rep aG a1),.obj b1 27 (.rep aj a0),.sl O 3 (.int .i64) (Q++[(r3.1.2.1.length:Int)])],by kernel_rfl,by decide,?_⟩;refine tQ rfl rfl rfl rfl (aW (t:=.val) rfl k9 bI (fh J)) ⟨rfl,rfl,trivial⟩ (by kernel_rfl) ?_;refine iK 9 rfl ?_;refine yF fun o29=>?_;refine iK 1 rfl ?_;refine pC rfl rfl (cE (i:=Int.toNat s) rfl bI rfl (gd (fh J)) rfl (.val o29) o29) ⟨rfl,rfl,trivial⟩ (by kernel_rfl) ?_;refine rm ?_;refine bh (SE.fin (Γ':=[(4,Pt b1),(10,Pt b4),(11,Pt b7),(12,.eq y)]) (Δ':=[.sl n.1 22 .val (List.set (dH n.2 0 E) (Int.toNat s) O),.sl O 3 (.int .i64) (Q++[(r3.1.2.1.length:Int)]),.sl y 28 (.alt (.slice (.slice (.int .i64)))) (List.set (List.map Sum.inl [a2,x.1,a2,c.1]) (Int.toNat 3) (.inr n.1)),.sl z6.2 3 (.int .i64) (List.set r5.2.2 (Int.toNat s) (jX 9 D)),.obj b7 27 (.agg (.pair (I r5.1) (.pair (.eq j) (.eq z6.2)))),.obj b4 27 (.rep aj r3.1),.obj e 66 (.agg (.pair (Ri c.2.1) (.pair (I c.2.2.1) (.eq (.int .u64 c.2.2.2))))),.sl j 35 aG (r5.2.1++[(a1.1,r8)]),.obj b2 35 (.rep aG a1),.obj b1 27 (.rep aj a0)]) [0,1,2,3,4,5,6,7,8,9] ⟨rfl,rfl,rfl,rfl,trivial⟩ rfl) ?_
    exact fun a w st=>⟨rfl,(O),(SE.fin (Γ':=[(4,Pt b1),(10,Pt b4),(11,Pt b7),(12,.eq y)]) (Δ':=[.sl n.1 22 .val (List.set (dH n.2 0 E) (Int.toNat s) O),.sl O 3 (.int .i64) (Q++[(r3.1.2.1.length:Int)]),.sl y 28 (.alt (.slice (.slice (.int .i64)))) (List.set (List.map Sum.inl [a2,x.1,a2,c.1]) (Int.toNat 3) (.inr n.1)),.sl z6.2 3 (.int .i64) (List.set r5.2.2 (Int.toNat s) (jX 9 D)),.obj b7 27 (.agg (.pair (I r5.1) (.pair (.eq j) (.eq z6.2)))),.obj b4 27 (.rep aj r3.1),.obj e 66 (.agg (.pair (Ri c.2.1) (.pair (I c.2.2.1) (.eq (.int .u64 c.2.2.2))))),.sl j 35 aG (r5.2.1++[(a1.1,r8)]),.obj b2 35 (.rep aG a1),.obj b1 27 (.rep aj a0)]) [0,1,2,3,4,5,6,7,8,9] ⟨rfl,rfl,rfl,rfl,trivial⟩ rfl) a w st⟩
   ·show JN _ _ [(4,Pt b1),(10,Pt b4),(11,Pt b7),(12,.eq y)] ([.sl n.1 22 .val (List.set (dH n.2 0 E) (Int.toNat s) O),.sl O 3 (.int .i64) (Q++[(r3.1.2.1.length:Int)]),.sl y 28 (.alt (.slice (.slice (.int .i64)))) (List.set (List.map Sum.inl [a2,x.1,a2,c.1]) (Int.toNat 3) (.inr n.1)),.sl z6.2 3 (.int .i64) (List.set r5.2.2 (Int.toNat s) (jX 9 D)),.obj b7 27 (.agg (.pair (I r5.1) (.pair (.eq j) (.eq z6.2)))),.obj b4 27 (.rep aj r3.1),.obj e 66 (.agg (.pair (Ri c.2.1) (.pair (I c.2.2.1) (.eq (.int .u64 c.2.2.2))))),.sl j 35 aG (r5.2.1++[(a1.1,r8)]),.obj b2 35 (.rep aG a1),.obj b1 27 (.rep aj a0)]++(jS n.2 0 E).eraseIdx (Int.toNat s));refine de 1 rfl ?_;refine bh (om (pre:=[.sl y 28 (.alt (.slice (.slice (.int .i64)))) (List.set (List.map Sum.inl [a2,x.1,a2,c.1]) (Int.toNat 3) (.inr n.1)),.sl z6.2 3 (.int .i64) (List.set r5.2.2 (Int.toNat s) (jX 9 D)),.obj b7 27 (.agg (.pair (I r5.1) (.pair (.eq j) (.eq z6.2)))),.obj b4 27 (.rep aj r3.1),.obj e 66 (.agg (.pair (Ri c.2.1) (.pair (I c.2.2.1) (.eq (.int .u64 c.2.2.2))))),.sl j 35 aG (r5.2.1++[(a1.1,r8)]),.obj b2 35 (.rep aG a1),.obj b1 27 (.rep aj a0)]) (z:=n) (i:=Int.toNat s) (kJ J).2) ?_;refine ag (bh (sK (pre:=[.sl y 28 (.alt (.slice (.slice (.int .i64)))) (List.set (List.map Sum.inl [a2,x.1,a2,c.1]) (Int.toNat 3) (.inr n.1)),.sl z6.2 3 (.int .i64) (List.set r5.2.2 (Int.toNat s) (jX 9 D)),.obj b7 27 (.agg (.pair (I r5.1) (.pair (.eq j) (.eq z6.2)))),.obj b4 27 (.rep aj r3.1),.obj e 66 (.agg (.pair (Ri c.2.1) (.pair (I c.2.2.1) (.eq (.int .u64 c.2.2.2))))),.sl j 35 aG (r5.2.1++[(a1.1,r8)]),.obj b2 35 (.rep aG a1),.obj b1 27 (.rep aj a0)])) ?_);refine bh (E9 (u:=.slice (.int .i64)) (l:=[a2,x.1,a2,c.1]) (i:=Int.toNat 3)) ?_;exact jz ((),(List.set r5.2.2 (Int.toNat s) (jX 9 D),List.set [a2,x.1,a2,c.1] (Int.toNat 3) (List.set E (Int.toNat s) (Q++[(r3.1.2.1.length:Int)])))) h [7,3,2,5,1,0,4]
  ·refine aY (ag ?_);exact jz ((),(r5.2.2,[a2,x.1,a2,c.1])) h [7,2,1,5,0,3,4]
 ·
  refine sr (lo dy ?_);refine fr 1 ?_;refine lo dy ?_;refine lo dy ?_;refine fr 2 ?_;refine fr 3 ?_;refine bZ (mg (off:=1) [] trivial rfl rfl) ?_;refine fr 3 ?_;refine bZ (mg (off:=2) [] trivial rfl rfl) ?_;refine lo dy ?_;refine aF rfl (bi (t:=aj) [(.tmp 79,_),(.tmp 80,_),(.tmp 81,_),(.tmp 82,_)] [a0,r3.1,r3.1,(r5.1,r5.2.1++[(a1.1,r8)],U.1)] rfl rfl Rf (.cons rfl .rep (.cons rfl .rep (.cons rfl .rep (.cons trivial (.agg (.pair .int (.pair .rep .rep))) .nil)))) rfl rfl) ⟨rfl,rfl,rfl,rfl,trivial⟩ ?_;refine mq ?_;refine aq ?_;refine aq (nt (aB ?_));refine de 3 rfl ?_;refine bh (gx [9,12,84] ⟨rfl,rfl,rfl,trivial⟩) ?_;refine bh (SE.fin (Γ':=[(8,_),(9,_)]) [3,0,1,2] ⟨rfl,rfl,trivial⟩ rfl) ?_;cases h;exact aN () [_,_] 1 ⟨rfl,rfl,trivial⟩ rfl
def ir(k:Nat)(a1:Value):Nat→(Nat×(List (List Int)))→Option (Except ((List (List Int))×Int) (Nat×(List (List Int))))
 |0,_=>none
 |n+1,y9=>
  if y9.1 < (dq a1).size then(if((Utf8.decode (dq a1) y9.1).1:Int)=47 then((cp (bO (List.length y9.2+List.length [([]:(List Int))]))).bind fun _=>
  ir k a1 n (y9.1+(Utf8.decode (dq a1) y9.1).2,y9.2++[([]:(List Int))])) else(((if 97≤((Utf8.decode (dq a1) y9.1).1:Int) then(some (decide (((Utf8.decode (dq a1) y9.1).1:Int)≤122),y9.2)) else(some (false,y9.2))):Option (Bool×(List (List Int)))).bind fun c=>
  if c.1=true then((ck ((c.2.length:Int) - 1)).bind fun j=>
  (aX c.2 j).bind fun h=>
  (ck (IntKind.i32.wrap (((Utf8.decode (dq a1) y9.1).1:Int) - 97))).bind fun e=>
  (cp (bO (List.length h+List.length [e]))).bind fun _=>
  ir k a1 n (y9.1+(Utf8.decode (dq a1) y9.1).2,List.set c.2 (Int.toNat j) (h++[e]))) else(some (.error ([],2))))) else(some (.ok (y9.1,y9.2)))
def lP(k:Nat)(a0:a8)(a1:Value):Option ((List (List Int))×Int):=
 (kg k a0).bind fun r2=>
 if¬(r2=0) then(some ([],r2)) else((cp (bW a1=true)).bind fun _=>
 if 20 < ((dq a1).size:Int) then(some ([],10)) else(bE (α:=Nat×(List (List Int))) ((cp (bW a1=true)).bind fun _=>
 ir k a1 k (0,[([]:(List Int))])) (some) fun x5=>
 (cC k a0 x5.2).bind fun c=>
 if¬(c=0) then(some ([],c)) else(some (x5.2,0))))
theorem zd(k:Nat)(a0:a8)(a1:Value)(r:(List (List Int))×Int)(h:lP k a0 a1=some r):
 cm Tryz.prog 20 [.rep aj a0,.eq a1] [.inv 0 (dF)] (fun _:Unit=>(bz [.rep (.slice (.slice (.int .i64))) r.1,I r.2],[.inv 0 (dF)])):=by
 unfold lP at h
 replace h:=be h
 refine cm.of 61 Tryz.func20 rfl Tryz.ntmps20 rfl fun S w0=>?_
 refine sr ?_
 refine bx fun b1=>?_
 refine cq ?_
 refine cq ?_
 refine nt ?_
 refine ae ?_
 refine sr ?_
 refine lo dy ?_
 obtain⟨r2,se,h⟩:=aa h
 have TX:=nO k a0 r2 se
 refine ja (ar [.tmp 11] rfl rfl Nl rfl TX) ?_
 refine aq ?_
 refine nt ?_
 refine sr ?_
 refine mq ?_
 refine jb (ig rfl) ?_
 refine nt ?_
 refine cn h (fun h=>?_) (fun h=>?_)
 ·
  refine sr (mq ?_);refine cq ?_;refine aq (nt (rx ?_));refine bh (iJ (t:=(.slice (.slice (.int .i64)))) (x:=[]) 4 rfl .nil rfl rfl) ?_;refine bh (SE.fin (Γ':=[(4,_),(5,_)]) [1,0] ⟨rfl,rfl,trivial⟩ rfl) ?_;cases h;exact aN () [_,_] 1 ⟨rfl,rfl,trivial⟩ rfl
 ·
  refine sk (ae (sr (mq ?_)));obtain⟨u3,qt,h⟩:=aa h;refine ja (pU rfl rfl U9 (av qt)) ?_;refine jb (f5 rfl) ?_;refine nt (ci h (fun h=>?_) (fun h=>?_))
  ·refine sr (cq ?_);refine cq (nt (rx ?_));refine bh (iJ (t:=(.slice (.slice (.int .i64)))) (x:=[]) 4 rfl .nil rfl rfl) ?_;refine bh (SE.fin (Γ':=[(4,_),(5,_)]) [1,0] ⟨rfl,rfl,trivial⟩ rfl) ?_;cases h;exact aN () [_,_] 1 ⟨rfl,rfl,trivial⟩ rfl
  ·refine sk (sr (aD rfl rfl rfl (jt (t:=.val) [(.const (.slice none 0 0),_)] [.slice none 0 0] rfl rfl nR (.cons rfl (.val rfl) .nil) rfl rfl) ⟨rfl,trivial⟩ fun v4=>?_));refine bZ (sJ (n:=1) (F:=[.obj b1 27 (.rep aj a0),.inv 0 (dF)])) ?_;refine aq (nt ?_);refine dn (Z:=Nat×(Value×(Nat→Value))) (α:=Nat×(List (List Int))) (fun z6 x5=>[(2,Pt b1),(7,.eq z6.2.1)]) (fun z6 x5=>[.obj b1 27 (.rep aj a0),.inv 0 (dF),.raw z6.1 (.stringIter (dq a1) x5.1)]++dB 22 z6.2 x5.2) (fun e=>e=r) h (fun e h=>Option.some.inj h) (fun K hR h=>?_) (fun z6 x5 h=>?_)
   ·refine sr (mq ?_);obtain⟨u7,pp,h⟩:=aa h;refine aD rfl rfl rfl (Ey rfl U9 (av pp)) ⟨rfl,trivial⟩ fun z8=>?_;refine nt (an (aJ (Z:=(Value×(Nat→Value))) (α:=Nat×(List (List Int))) (fun c y9=>[(2,Pt b1),(7,.eq c.1),(21,Pt z8)]) (fun c y9=>[.obj b1 27 (.rep aj a0),.raw z8 (.stringIter (dq a1) y9.1),.inv 0 (dF)]++dB 22 c y9.2) (ir k a1) k (v4,fun _=>.slice none 0 0) (0,[([]:(List Int))]) (fun _=>rfl) h (aV [.raw z8 (.stringIter (dq a1) 0),.obj b1 27 (.rep aj a0),.inv 0 (dF)] (dB 22 (v4,fun _=>.slice none 0 0) [([]:(List Int))]) [1,0,2] ⟨rfl,rfl,rfl,trivial⟩ rfl) (fun n c y9 h=>?_)));unfold ir at h;refine sr ?_;rcases Nat.lt_or_ge y9.1 (dq a1).size with hb |hb
    ·replace h:=cI hb h;refine fr 1 ?_;refine ka (GG rfl hb) ?_;refine xr ?_;refine nt (ae (bC rfl (fun hb=>?_) (fun hb=>(by cases hb))));refine sk (an (sr (xr ?_)));refine aq (nt (an (sr ?_)));refine mq ?_;refine jb (eh rfl) ?_;refine aq (nt ?_);refine ci h (fun h=>?_) (fun h=>?_)
     ·refine ab (mq ?_);refine ja (bi (t:=.val) [(.const (.slice none 0 0),_)] [.slice none 0 0] rfl rfl nR (.cons rfl (.val rfl) .nil) rfl rfl) ?_;obtain⟨TZ,Y,h⟩:=aa h;refine bZ (uB (pre:=[.raw z8 (.stringIter (dq a1) (y9.1+(Utf8.decode (dq a1) y9.1).2)),.obj b1 27 (.rep aj a0),.inv 0 (dF)])) ?_;refine dz rfl rfl rfl (bQ rfl rfl nR (vz (av Y))) ⟨rfl,rfl,trivial⟩ fun O=>?_;refine bZ (SE.nil 3 (.int .i64)) ?_;refine bZ (qg (pre:=[.raw z8 (.stringIter (dq a1) (y9.1+(Utf8.decode (dq a1) y9.1).2)),.obj b1 27 (.rep aj a0),.inv 0 (dF)])) ?_;refine aq (au (aK (bn ?_)));exact fq ((O,j8 c.2 (List.length y9.2) (.slice none 0 0)),(y9.1+(Utf8.decode (dq a1) y9.1).2,y9.2++[([]:(List Int))])) h (aV [.raw z8 (.stringIter (dq a1) (y9.1+(Utf8.decode (dq a1) y9.1).2)),.obj b1 27 (.rep aj a0),.inv 0 (dF)] (dB 22 (O,j8 c.2 (List.length y9.2) (.slice none 0 0)) (y9.2++[([]:(List Int))])) [1,0,2] ⟨rfl,rfl,rfl,trivial⟩ rfl)
     ·refine aS (Z:=(Value×(Nat→Value))) (α:=Bool×(List (List Int))) (fun l y=>[(2,Pt b1),(7,.eq l.1),(9,.eq (.int .i32 ((Utf8.decode (dq a1) y9.1).1:Int))),(21,Pt z8),(31,.eq (.bool y.1))]) (fun l y=>[.obj b1 27 (.rep aj a0),.raw z8 (.stringIter (dq a1) (y9.1+(Utf8.decode (dq a1) y9.1).2)),.inv 0 (dF)]++dB 22 l y.2) h (fun K h=>?_) (fun l y h=>?_)
      ·refine ab (mq ?_);refine jb (oV rfl) ?_;refine mq ?_;refine cd (s:=34) rfl (fun hb=>?_) (fun hb=>?_)
       ·replace h:=cI (nG hb) h;refine gm ?_;refine gb (t4 rfl) ?_;refine pt ?_;refine aq (nl ?_);exact fq (c,(decide (((Utf8.decode (dq a1) y9.1).1:Int)≤122),y9.2)) h (aV [.raw z8 (.stringIter (dq a1) (y9.1+(Utf8.decode (dq a1) y9.1).2)),.obj b1 27 (.rep aj a0),.inv 0 (dF)] (dB 22 c y9.2) [1,0,2] ⟨rfl,rfl,rfl,rfl,rfl,trivial⟩ rfl)
       ·replace h:=bS (mW hb) h;iterate 2 refine gn ?_
        refine pf ?_;refine aq (nl ?_);exact fq (c,(false,y9.2)) h (aV [.raw z8 (.stringIter (dq a1) (y9.1+(Utf8.decode (dq a1) y9.1).2)),.obj b1 27 (.rep aj a0),.inv 0 (dF)] (dB 22 c y9.2) [1,0,2] ⟨rfl,rfl,rfl,rfl,rfl,trivial⟩ rfl)
      ·refine cv h (fun h=>?_) (fun h=>?_)
       ·obtain⟨u,D,h⟩:=aa h;obtain⟨J,j,h⟩:=aa h;refine eA (nH (pre:=[.obj b1 27 (.rep aj a0),.raw z8 (.stringIter (dq a1) (y9.1+(Utf8.decode (dq a1) y9.1).2)),.inv 0 (dF)]) (kJ j).2) ?_;refine ab ?_;iterate 2 refine mq ?_
        refine fr 1 ?_;refine ka (zC rfl rfl k9) ?_;refine jb (eO rfl D) ?_;iterate 2 refine mq ?_
        refine ka (zC rfl rfl k9) ?_;refine jb (eO rfl D) ?_;refine kb (aW (t:=.val) rfl k9 bI (fh j)) ?_;refine ka (dE (i:=Int.toNat u) (off:=0) rfl bI (fun _=>rfl) rfl (co (fh j)).2.2 rfl) ?_;refine mq ?_;refine jb (xT rfl) ?_;obtain⟨E,Q,h⟩:=aa h;refine ja (rX rfl TB U3 Q) ?_;refine ja (bi (t:=(.int .i64)) [(.tmp 50,_)] [E] rfl rfl dS (.cons rfl .int .nil) rfl rfl) ?_;obtain⟨TY,U,h⟩:=aa h;refine fr 1 ?_;refine dz rfl rfl rfl (bQ rfl rfl dS (av U)) ⟨rfl,rfl,trivial⟩ fun M=>?_;refine fr 1 ?_;refine kb (aW (t:=.val) rfl k9 bI (fh j)) ?_;refine fr 1 ?_;refine oq fun o20=>?_;refine fr 1 ?_;refine bj rfl rfl (cE (i:=Int.toNat u) rfl bI rfl (gd (fh j)) rfl (.val o20) o20) ⟨rfl,rfl,trivial⟩ ?_;refine au (de 1 rfl ?_);refine bh (om (pre:=[.obj b1 27 (.rep aj a0),.raw z8 (.stringIter (dq a1) (y9.1+(Utf8.decode (dq a1) y9.1).2)),.inv 0 (dF)]) (z:=l) (i:=Int.toNat u) (kJ j).2) ?_;refine aK (bn ?_);exact fq ((l.1,j8 l.2 (Int.toNat u) M),(y9.1+(Utf8.decode (dq a1) y9.1).2,List.set y.2 (Int.toNat u) (J++[E]))) h (aV [.obj b1 27 (.rep aj a0),.raw z8 (.stringIter (dq a1) (y9.1+(Utf8.decode (dq a1) y9.1).2)),.inv 0 (dF)] (dB 22 (l.1,j8 l.2 (Int.toNat u) M) (List.set y.2 (Int.toNat u) (J++[E]))) [0,1,2] ⟨rfl,rfl,rfl,trivial⟩ rfl)
       ·refine sr (cq ?_);refine cq (nt (aB (aZ (aZ (aO (aZ (aO ?_)))))));refine bh (iJ (t:=(.slice (.slice (.int .i64)))) (x:=[]) 4 rfl .nil rfl rfl) ?_;refine bh (SE.fin (Γ':=[(4,_),(5,_)]) [2,0,1] ⟨rfl,rfl,trivial⟩ rfl) ?_;obtain rfl:=hR _ h;exact aN () [_,_] 1 ⟨rfl,rfl,trivial⟩ rfl
    ·replace h:=bS (Nat.not_lt.2 hb) h;refine fr 1 ?_;refine ka (Ez rfl (Nat.not_lt.2 hb)) ?_;refine xr ?_;refine nt (ae (bC rfl (fun hb=>(by cases hb)) (fun hb=>?_)));refine xa ?_;exact fq ((z8,c),(y9.1,y9.2)) h (aV [.raw z8 (.stringIter (dq a1) y9.1),.obj b1 27 (.rep aj a0),.inv 0 (dF)] (dB 22 c y9.2) [1,2,0] ⟨rfl,rfl,trivial⟩ rfl)
   ·refine ae (sr (lo dy ?_));refine mq ?_;obtain⟨mc,ac,h⟩:=aa h;refine fr 1 ?_;refine xw (R0:=[_]) (X:=[_,_]) (N:=[(.tmp 54,.rep aj a0),(.tmp 55,.eq z6.2.1)]) rfl rfl rfl (ar [.tmp 54,.tmp 55] rfl rfl Kr rfl (eE k a0 x5.2 mc ac)) (fun _ _ _ hl hn=>⟨hn.1,(Df hn.2.1 hl),trivial⟩) rfl (HV rfl) ⟨rfl,rfl,trivial⟩ ?_;refine aq (nt (sr ?_));refine mq ?_;refine jb (ig rfl) ?_;refine nt (cn h (fun h=>?_) (fun h=>?_))
    ·refine sr (mq ?_);refine cq ?_;refine aq (nt (rx ?_));refine bh (iJ (t:=(.slice (.slice (.int .i64)))) (x:=[]) 4 rfl .nil rfl rfl) ?_;cases h;exact aN () [_,_] 1 ⟨rfl,rfl,trivial⟩ rfl
    ·refine sk (sr (mq ?_));refine aq ?_;refine cq (nt (aB ?_));refine bh (sK (pre:=[.inv 0 (dF),.obj b1 27 (.rep aj a0),.raw z6.1 (.stringIter (dq a1) x5.1)])) ?_;refine bh (gx [4,7,55,60] ⟨rfl,rfl,rfl,rfl,trivial⟩) ?_;cases h;exact aN () [_,_] 1 ⟨rfl,rfl,trivial⟩ rfl
def jy(k:Nat)(a1:Value):Nat→(Int×(List (List Int)))→Option (Except ((List (List Int))×Int) (List (List Int)))
 |0,_=>none
 |n+1,y7=>
  (cp (bW a1=true)).bind fun _=>
  if y7.1 < ((dq a1).size:Int) then(bE (α:=(List (List Int))) ((zj a1 y7.1).bind fun y=>
  if y=47 then((cp (bO (List.length y7.2+List.length [([]:(List Int))]))).bind fun _=>
  some (.ok (y7.2++[([]:(List Int))]))) else((((zj a1 y7.1).bind fun x=>
  if x < 97 then(some (true,y7.2)) else((zj a1 y7.1).bind fun u=>
  some (decide (122 < u),y7.2))):Option (Bool×(List (List Int)))).bind fun c=>
  if c.1=true then(some (.error ([],2))) else((ck ((c.2.length:Int) - 1)).bind fun l=>
  (aX c.2 l).bind fun j=>
  (zj a1 y7.1).bind fun s=>
  (ck (IntKind.u8.wrap (s - 97))).bind fun h=>
  (cp (bO (List.length j+List.length [h]))).bind fun _=>
  some (.ok (List.set c.2 (Int.toNat l) (j++[h])))))) (fun e=>some (.error e)) fun D=>
  (ck (y7.1+1)).bind fun r=>
  jy k a1 n (r,D)) else(some (.ok y7.2))
def nk(k:Nat)(a0:a8)(a1:Value):Option ((List (List Int))×Int):=
 (lD k a0).bind fun r2=>
 if¬(r2=0) then(some ([],r2)) else((cp (bW a1=true)).bind fun _=>
 if 20 < ((dq a1).size:Int) then(some ([],10)) else(bE (α:=(List (List Int))) (jy k a1 k (0,[([]:(List Int))])) (some) fun x5=>
 (dM k a0 x5).bind fun c=>
 if¬(c=0) then(some ([],c)) else(some (x5,0))))
theorem zn(k:Nat)(a0:a8)(a1:Value)(r:(List (List Int))×Int)(h:nk k a0 a1=some r):
 cm Tryz.prog 21 [.rep aj a0,.eq a1] [] (fun _:Unit=>(bz [.rep (.slice (.slice (.int .i64))) r.1,I r.2],[])):=by
 unfold nk at h
 replace h:=be h
 refine cm.of 67 Tryz.func21 rfl Tryz.ntmps21 rfl fun S w0=>?_
 refine sr ?_
 refine bx fun b1=>?_
 refine cq ?_
 refine cq ?_
 refine nt ?_
 refine ae ?_
 refine sr ?_
 refine lo dy ?_
 obtain⟨r2,Up,h⟩:=aa h
 have Ur:=rQ k a0 r2 Up
 refine ja (ar [.tmp 11] rfl rfl P1 rfl Ur) ?_
 refine aq ?_
 refine nt ?_
 refine sr ?_
 refine mq ?_
 refine jb (ig rfl) ?_
 refine nt ?_
 refine cn h (fun h=>?_) (fun h=>?_)
 ·
  refine sr (mq ?_);refine cq ?_;refine aq (nt (rx ?_));refine bh (iJ (t:=(.slice (.slice (.int .i64)))) (x:=[]) 4 rfl .nil rfl rfl) ?_;cases h;exact rb
 ·
  refine sk (ae (sr (mq ?_)));obtain⟨u3,Uo,h⟩:=aa h;refine ja (pU rfl rfl U9 (av Uo)) ?_;refine jb (f5 rfl) ?_;refine nt (ci h (fun h=>?_) (fun h=>?_))
  ·refine sr (cq ?_);refine cq (nt (rx ?_));refine bh (iJ (t:=(.slice (.slice (.int .i64)))) (x:=[]) 4 rfl .nil rfl rfl) ?_;cases h;exact rb
  ·refine sk (sr (aD rfl rfl rfl (jt (t:=.val) [(.const (.slice none 0 0),_)] [.slice none 0 0] rfl rfl nR (.cons rfl (.val rfl) .nil) rfl rfl) ⟨rfl,trivial⟩ fun v4=>?_));refine bZ (sJ (n:=1) (F:=[.obj b1 27 (.rep aj a0)])) ?_;refine aq (nt ?_);refine dn (Z:=(Value×(Nat→Value))) (α:=(List (List Int))) (fun z6 x5=>[(2,Pt b1),(7,.eq z6.1)]) (fun z6 x5=>[.obj b1 27 (.rep aj a0)]++dB 22 z6 x5) (fun e=>e=r) h (fun e h=>Option.some.inj h) (fun K hR h=>?_) (fun z6 x5 h=>?_)
   ·refine sr (cq (nt (an ?_)));refine aJ (Z:=(Value×(Nat→Value))) (α:=Int×(List (List Int))) (fun z8 y7=>[(1,.eq a1),(2,Pt b1),(7,.eq z8.1),(8,I y7.1)]) (fun z8 y7=>[.obj b1 27 (.rep aj a0)]++dB 22 z8 y7.2) (jy k a1) k (v4,fun _=>.slice none 0 0) (0,[([]:(List Int))]) (fun _=>rfl) h (aV [.obj b1 27 (.rep aj a0)] (dB 22 (v4,fun _=>.slice none 0 0) [([]:(List Int))]) [0] ⟨rfl,rfl,rfl,rfl,trivial⟩ rfl) (fun n z8 y7 h=>?_);unfold jy at h;refine ae (sr ?_);iterate 2 refine mq ?_
    obtain⟨u9,Un,h⟩:=aa h;refine ja (pU rfl rfl U9 (av Un)) ?_;refine jb (bv rfl) ?_;refine nt (ci h (fun h=>?_) (fun h=>?_))
    ·refine sk (dn (Z:=(Value×(Nat→Value))) (α:=(List (List Int))) (fun J M=>[(1,.eq a1),(2,Pt b1),(7,.eq J.1),(8,I y7.1)]) (fun J M=>[.obj b1 27 (.rep aj a0)]++dB 22 J M) (fun e=>e=r) h (fun e h=>hR e h) (fun K hR h=>?_) (fun J M h=>?_))
     ·refine an (ae (sr ?_));iterate 2 refine mq ?_
      obtain⟨Uz,TZ,h⟩:=aa h;refine jb (pV rfl U9 TZ) ?_;refine jb (eh rfl) ?_;refine nt (ci h (fun h=>?_) (fun h=>?_))
      ·refine sr (mq ?_);refine ja (bi (t:=.val) [(.const (.slice none 0 0),_)] [.slice none 0 0] rfl rfl nR (.cons rfl (.val rfl) .nil) rfl rfl) ?_;obtain⟨UM,T9,h⟩:=aa h;refine bZ (uB (pre:=[.obj b1 27 (.rep aj a0)])) ?_;refine dz rfl rfl rfl (bQ rfl rfl nR (vz (av T9))) ⟨rfl,rfl,trivial⟩ fun O=>?_;refine bZ (SE.nil 3 (.int .i64)) ?_;refine bZ (qg (pre:=[.obj b1 27 (.rep aj a0)])) ?_;refine aq (nt (dk (aP (bL (ag ?_)))));exact fq ((O,j8 z8.2 (List.length y7.2) (.slice none 0 0)),y7.2++[([]:(List Int))]) h (aV [.obj b1 27 (.rep aj a0)] (dB 22 (O,j8 z8.2 (List.length y7.2) (.slice none 0 0)) (y7.2++[([]:(List Int))])) [0] ⟨rfl,rfl,rfl,rfl,trivial⟩ rfl)
      ·refine sk (ae (aS (Z:=(Value×(Nat→Value))) (α:=Bool×(List (List Int))) (fun c l=>[(1,.eq a1),(2,Pt b1),(7,.eq c.1),(8,I y7.1),(42,.eq (.bool l.1))]) (fun c l=>[.obj b1 27 (.rep aj a0)]++dB 22 c l.2) h (fun K h=>?_) (fun c l h=>?_)))
       ·refine ab ?_;iterate 2 refine mq ?_
        obtain⟨Uy,TY,h⟩:=aa h;refine jb (pV rfl U9 TY) ?_;refine jb (bv rfl) ?_;refine mq ?_;refine cd (s:=37) rfl (fun hb=>?_) (fun hb=>?_)
        ·replace h:=cI (nG hb) h;iterate 4 refine gn ?_
         refine pt (nl ?_);exact fq (z8,(true,y7.2)) h (aV [.obj b1 27 (.rep aj a0)] (dB 22 z8 y7.2) [0] ⟨rfl,rfl,rfl,rfl,rfl,trivial⟩ rfl)
        ·replace h:=bS (mW hb) h;refine gm ?_;refine gm ?_;obtain⟨Uc,TX,h⟩:=aa h;refine gb (pV rfl U9 TX) ?_;refine gb (f5 rfl) ?_;refine pf (nl ?_);exact fq (z8,(decide (122 < Uc),y7.2)) h (aV [.obj b1 27 (.rep aj a0)] (dB 22 z8 y7.2) [0] ⟨rfl,rfl,rfl,rfl,rfl,trivial⟩ rfl)
       ·refine cv h (fun h=>?_) (fun h=>?_)
        ·refine sr (cq ?_);refine cq (nt (rx (br (aZ (aO ?_)))));refine bh (iJ (t:=(.slice (.slice (.int .i64)))) (x:=[]) 4 rfl .nil rfl rfl) ?_;obtain rfl:=hR _ h;exact rb
        ·refine sk (sr (mq ?_));refine JO.lenLL (pre:=[.obj b1 27 (.rep aj a0)]) rfl rfl rfl rfl rfl k9 ⟨rfl,trivial⟩ ?_;obtain⟨j,se,h⟩:=aa h;refine jb (eO rfl se) ?_;refine aq (nt ?_);obtain⟨E,y,h⟩:=aa h;refine eA (nH (pre:=[.obj b1 27 (.rep aj a0)]) (kJ y).2) ?_;obtain⟨Ux,qt,h⟩:=aa h;obtain⟨D,pp,h⟩:=aa h;obtain⟨UL,T8,h⟩:=aa h;refine pE (Δ:=[.sl (c.2 (Int.toNat j)) 3 (.int .i64) E,.sl c.1 22 .val (dH c.2 0 l.2),.obj b1 27 (.rep aj a0)]) (F:=(jS c.2 0 l.2).eraseIdx (Int.toNat j)) (Z:=Value) (fun i=>[(1,.eq a1),(2,Pt b1),(7,.eq c.1),(8,I y7.1)]) (fun i=>[.sl c.1 22 .val (List.set (dH c.2 0 l.2) (Int.toNat j) i),.sl i 3 (.int .i64) (E++[D]),.obj b1 27 (.rep aj a0)]) (fun S w=>?_) (fun u=>?_)
         ·refine j0 ?_;refine aH rfl rfl rfl (aR rfl) ⟨rfl,trivial⟩ ?_;refine aH rfl rfl rfl (aR rfl) ⟨rfl,trivial⟩ ?_;refine aH rfl rfl rfl (aR rfl) ⟨rfl,trivial⟩ ?_;refine aH rfl rfl rfl (aR rfl) ⟨rfl,trivial⟩ ?_;refine dh 1 rfl rfl rfl rfl (aW (t:=.val) rfl k9 bI (fh y)) ⟨rfl,rfl,trivial⟩ ?_;refine dh 1 rfl rfl rfl rfl (dE (i:=Int.toNat j) (off:=0) rfl bI (fun _=>rfl) rfl (co (fh y)).2.2 rfl) ⟨rfl,trivial⟩ ?_;refine aH rfl rfl rfl (aR rfl) ⟨rfl,trivial⟩ ?_;refine aH rfl rfl rfl (aR rfl) ⟨rfl,trivial⟩ ?_;refine aH rfl rfl rfl (pV rfl U9 qt) ⟨rfl,rfl,trivial⟩ ?_;refine aH rfl rfl rfl (xT rfl) ⟨rfl,rfl,trivial⟩ ?_;refine aH rfl rfl rfl (rX rfl U5 U3 pp) ⟨rfl,trivial⟩ ?_;refine aH rfl rfl rfl (bi (t:=(.int .i64)) [(.tmp 56,_)] [D] rfl rfl dS (.cons rfl .int .nil) rfl rfl) ⟨rfl,trivial⟩ ?_;refine pG 0 rfl (fun v=>[.sl v 3 (.int .i64) (E++[D])]) (fun _=>rfl) rfl rfl rfl (bQ rfl rfl dS (av T8)) ⟨rfl,rfl,trivial⟩ ?_;refine m5 13 [true,true,true,true,true,true,true,true,true,true,true,true,true] [59] [] [] rfl (by kernel_rfl) (by kernel_rfl) (by kernel_rfl) cY (fun vs hv hB=>?_);obtain⟨w0,UK,rfl,Um⟩:=ak hv;obtain⟨w1,UJ,rfl,Ul⟩:=ak Um;obtain⟨w2,UI,rfl,Uk⟩:=ak Ul;obtain⟨w3,UH,rfl,Uj⟩:=ak Uk;obtain⟨w4,UG,rfl,Ui⟩:=ak Uj;obtain⟨w5,UF,rfl,Uh⟩:=ak Ui;obtain⟨w6,UE,rfl,Ug⟩:=ak Uh;obtain⟨w7,UD,rfl,Uf⟩:=ak Ug;obtain⟨w8,UC,rfl,Ue⟩:=ak Uf;obtain⟨w9,Uw,rfl,ac⟩:=ak Ue;obtain⟨UB,Uu,rfl,Y⟩:=ak ac;obtain⟨UA,Ut,rfl,U⟩:=ak Y;obtain⟨u,Us,rfl,Q⟩:=ak U;obtain rfl:=kH Q;refine⟨[0,1,2],[.sl c.1 22 .val (dH c.2 0 l.2),.obj b1 27 (.rep aj a0),.sl u 3 (.int .i64) (E++[D])],by kernel_rfl,by decide,?_⟩;refine tQ rfl rfl rfl rfl (aW (t:=.val) rfl k9 bI (fh y)) ⟨rfl,rfl,trivial⟩ (by kernel_rfl) ?_;refine iK 2 rfl ?_;refine yF fun o25=>?_;refine iK 1 rfl ?_;refine pC rfl rfl (cE (i:=Int.toNat j) rfl bI rfl (gd (fh y)) rfl (.val o25) o25) ⟨rfl,rfl,trivial⟩ (by kernel_rfl) ?_;refine rm ?_;refine bh (SE.fin (Γ':=[(1,.eq a1),(2,Pt b1),(7,.eq c.1),(8,I y7.1)]) (Δ':=[.sl c.1 22 .val (List.set (dH c.2 0 l.2) (Int.toNat j) u),.sl u 3 (.int .i64) (E++[D]),.obj b1 27 (.rep aj a0)]) [0,1,2] ⟨rfl,rfl,rfl,rfl,trivial⟩ rfl) ?_;exact fun a w st=>⟨rfl,(u),(SE.fin (Γ':=[(1,.eq a1),(2,Pt b1),(7,.eq c.1),(8,I y7.1)]) (Δ':=[.sl c.1 22 .val (List.set (dH c.2 0 l.2) (Int.toNat j) u),.sl u 3 (.int .i64) (E++[D]),.obj b1 27 (.rep aj a0)]) [0,1,2] ⟨rfl,rfl,rfl,rfl,trivial⟩ rfl) a w st⟩
         ·show JN _ _ [(1,.eq a1),(2,Pt b1),(7,.eq c.1),(8,I y7.1)] ([.sl c.1 22 .val (List.set (dH c.2 0 l.2) (Int.toNat j) u),.sl u 3 (.int .i64) (E++[D]),.obj b1 27 (.rep aj a0)]++(jS c.2 0 l.2).eraseIdx (Int.toNat j));refine de 1 rfl ?_;refine bh (om (pre:=[.obj b1 27 (.rep aj a0)]) (z:=c) (i:=Int.toNat j) (kJ y).2) ?_;refine bn ?_;exact fq ((c.1,j8 c.2 (Int.toNat j) u),List.set l.2 (Int.toNat j) (E++[D])) h (aV [.obj b1 27 (.rep aj a0)] (dB 22 (c.1,j8 c.2 (Int.toNat j) u) (List.set l.2 (Int.toNat j) (E++[D]))) [0] ⟨rfl,rfl,rfl,rfl,trivial⟩ rfl)
     ·refine ab (mq ?_);obtain⟨Ub,mc,h⟩:=aa h;refine jb (bf rfl mc) ?_;refine aq (nl ?_);exact fq (J,(Ub,M)) h (aV [.obj b1 27 (.rep aj a0)] (dB 22 J M) [0] ⟨rfl,rfl,rfl,rfl,trivial⟩ rfl)
    ·refine xa ?_;exact fq (z8,y7.2) h (aV [.obj b1 27 (.rep aj a0)] (dB 22 z8 y7.2) [0] ⟨rfl,rfl,trivial⟩ rfl)
   ·refine ae (sr (lo dy ?_));refine mq ?_;obtain⟨Ud,Ua,h⟩:=aa h;refine xw (R0:=[]) (X:=[_]) (N:=[(.tmp 60,.rep aj a0),(.tmp 61,.eq z6.1)]) rfl rfl rfl (ar [.tmp 60,.tmp 61] rfl rfl P3 rfl (ln k a0 x5 Ud Ua)) (fun _ _ _ hl hn=>⟨hn.1,(Df hn.2.1 hl),trivial⟩) rfl MX ⟨rfl,rfl,trivial⟩ ?_;refine aq (nt (sr ?_));refine mq ?_;refine jb (ig rfl) ?_;refine nt (cn h (fun h=>?_) (fun h=>?_))
    ·refine sr (mq ?_);refine cq ?_;refine aq (nt (rx ?_));refine bh (iJ (t:=(.slice (.slice (.int .i64)))) (x:=[]) 4 rfl .nil rfl rfl) ?_;cases h;exact rb
    ·refine sk (sr (mq ?_));refine aq ?_;refine cq (nt (aB ?_));refine bh (sK (pre:=[.obj b1 27 (.rep aj a0)])) ?_;refine bh (gx [4,7,61,66] ⟨rfl,rfl,rfl,rfl,trivial⟩) ?_;cases h;exact rb
def cT(k:Nat)(a3:Value)(l:(List a8)×(List (List (List Int)))×bR)(j:Int)(h:Value×Int)(e:Value):Nat→Int→Option (Except Bool Unit)
 |0,_=>none
 |n+1,c=>
  if c < ([a3,h.1,e,(.string ⟨#[97,98,47,99]⟩),(gg a3 (.string ⟨#[47,47,47,47,47,47,47,47,47,47,47,47,47,47,47,47,47,47,47,47,47]⟩))].length:Int) then((aX l.1 j).bind fun F=>
  (aX [a3,h.1,e,(.string ⟨#[97,98,47,99]⟩),(gg a3 (.string ⟨#[47,47,47,47,47,47,47,47,47,47,47,47,47,47,47,47,47,47,47,47,47]⟩))] c).bind fun E=>
  (lP k F E).bind fun s=>
  (aX l.1 j).bind fun D=>
  (aX [a3,h.1,e,(.string ⟨#[97,98,47,99]⟩),(gg a3 (.string ⟨#[47,47,47,47,47,47,47,47,47,47,47,47,47,47,47,47,47,47,47,47,47]⟩))] c).bind fun y=>
  (nk k D y).bind fun r=>
  ((if¬(s.2=r.2) then(some true) else((fX k s.1 r.1).bind fun I=>
  some (!I))):Option (Bool)).bind fun x=>
  if x=true then(some (.error false)) else((ck (c+1)).bind fun u=>
  cT k a3 l j h e n u)) else(some (.ok ()))
def cU(k:Nat)(a3:Value)(a4:Int)(a5:Int)(a6:Int)(h:(List a8)×(List (List (List Int)))×bR):Nat→Int→Option (Except Bool Unit)
 |0,_=>none
 |n+1,c=>
  if c < (h.1.length:Int) then(bE (α:=Unit) ((aX h.1 c).bind fun E=>
  (aX h.2.1 c).bind fun D=>
  (jv k E D).bind fun l=>
  (aX h.1 c).bind fun y=>
  (aX h.2.1 c).bind fun x=>
  (lC k y x).bind fun j=>
  (((cp (bW l.1=true∧bW j.1=true)).bind fun _=>
  if¬(F8 l.1 j.1=true) then(some true) else(some (!decide (l.2=j.2)))):Option (Bool)).bind fun u=>
  if u=true then(some (.error false)) else((kS k j.1 a4 a5 a6).bind fun r=>
  (cp (bW a3=true∧bW (.string ⟨#[47,47,47,47,47,47,47,47,47,47,47,47,47,47,47,47,47,47,47,47,47]⟩)=true∧((dq a3).size+(dq (.string ⟨#[47,47,47,47,47,47,47,47,47,47,47,47,47,47,47,47,47,47,47,47,47]⟩)).size:Int)≤9223372036854775807)).bind fun _=>
  (cp (bW a3=true)).bind fun _=>
  (cp (bW j.1=true)).bind fun _=>
  (cp (bW r=true)).bind fun _=>
  (cp (bW (.string ⟨#[97,98,47,99]⟩)=true)).bind fun _=>
  (cp (bW (gg a3 (.string ⟨#[47,47,47,47,47,47,47,47,47,47,47,47,47,47,47,47,47,47,47,47,47]⟩))=true)).bind fun _=>
  cT k a3 h c j r k 0)) (fun e=>some (.error e)) fun _=>
  (ck (c+1)).bind fun s=>
  cU k a3 a4 a5 a6 h n s) else(some (.ok ()))
def iQ(k:Nat)(a0:a8)(a1:gu)(a2:(List (List Int)))(a3:Value)(a4:Int)(a5:Int)(a6:Int)(a7:(List Int)):Option Bool:=
 (((pe k a0).bind fun r5=>
 if r5=true then(some true) else((o7 k a2).bind fun r6=>
 if r6=true then(some true) else(if 20 < (a1.2.length:Int) then(some true) else((cp (bW a3=true)).bind fun _=>
 some (decide (40 < ((dq a3).size:Int))))))):Option (Bool)).bind fun x3=>
 if x3=true then((ku k).bind fun r8=>
 some r8) else((mH k a7).bind fun r9=>
 (kR k a0 a1 a2 (r9.1,r9.2.1,r9.2.2)).bind fun e=>
 bE (α:=Unit) (cU k a3 a4 a5 a6 e k 0) (some) fun _=>
 (ku k).bind fun c=>
 some c)
theorem qq(k:Nat)(a0:a8)(a1:gu)(a2:(List (List Int)))(a3:Value)(a4:Int)(a5:Int)(a6:Int)(a7:(List Int))(r:Bool)(h:iQ k a0 a1 a2 a3 a4 a5 a6 a7=some r):
 cS (jf Tryz.prog) 4 [.rep aj a0,.rep aG a1,.rep (.slice (.slice (.int .i64))) a2,.eq a3,I a4,I a5,.eq (.int .u8 a6),Ri a7] [.inv 0 (dF)] (fun _:Unit=>(bz [.eq (.bool r)],[.inv 0 (dF)])):=by
 unfold iQ at h
 replace h:=be h
 refine cS.of 145 Tryz.func4 rfl Tryz.ntmps4 rfl fun S w0=>?_
 refine sr ?_
 refine bx fun b1=>?_
 refine bx fun b2=>?_
 refine cq ?_
 refine nt ?_
 refine ae ?_
 refine aS (Z:=Unit) (α:=Bool) (fun z4 x3=>[(2,.rep (.slice (.slice (.int .i64))) a2),(3,.eq a3),(4,I a4),(5,I a5),(6,.eq (.int .u8 a6)),(7,Ri a7),(8,Pt b1),(9,Pt b2),(46,.eq (.bool x3))]) (fun z4 x3=>[.obj b1 27 (.rep aj a0),.obj b2 35 (.rep aG a1),.inv 0 (dF)]) h (fun K h=>?_) (fun z4 x3 h=>?_)
 ·
  refine ab (fr 1 ?_);refine lo dy ?_;obtain⟨r5,UL,h⟩:=aa h;refine ja (ar [.tmp 30] rfl rfl SQ rfl (Ae k a0 r5 UL)) ?_;refine mq ?_;refine cd (s:=32) rfl (fun hb=>?_) (fun hb=>?_)
  ·replace h:=cI (D7 hb) h;iterate 2 refine gn ?_
   refine pt ?_;refine mq ?_;iterate 4 refine gn ?_
   refine pt ?_;refine mq ?_;iterate 3 refine gn ?_
   refine pt (nl ?_);exact jz ((),true) h [0,1,2]
  ·replace h:=bS (D8 hb) h;refine gm ?_;obtain⟨r6,UK,h⟩:=aa h;refine ga (ar [.tmp 33] rfl rfl SO rfl (Ad k a2 r6 UK)) ?_;refine pf ?_;refine mq ?_;refine cd (s:=36) rfl (fun hb=>?_) (fun hb=>?_)
   ·replace h:=cI (D7 hb) h;iterate 4 refine gn ?_
    refine pt ?_;refine mq ?_;iterate 3 refine gn ?_
    refine pt (nl ?_);exact jz ((),true) h [0,1,2]
   ·replace h:=bS (D8 hb) h;refine ga (aA rfl mU) ?_;refine fr 1 ?_;refine mi rfl rfl rfl rfl rfl rfl (ap rfl bI lg rfl) ⟨rfl,trivial⟩ ?_;refine ga (kd rfl rfl dQ) ?_;refine gb (f5 rfl) ?_;refine pf ?_;refine mq ?_;refine cd (s:=42) rfl (fun hb=>?_) (fun hb=>?_)
    ·replace h:=cI (nG hb) h;iterate 3 refine gn ?_
     refine pt (nl ?_);exact jz ((),true) h [1,0,2]
    ·replace h:=bS (mW hb) h;refine gm ?_;obtain⟨u7,UI,h⟩:=aa h;refine ga (pU rfl rfl U9 (av UI)) ?_;refine gb (f5 rfl) ?_;refine pf (nl ?_);exact jz ((),decide (40 < ((dq a3).size:Int))) h [1,0,2]
 ·
  refine cv h (fun h=>?_) (fun h=>?_)
  ·refine sr ?_;obtain⟨r8,UJ,h⟩:=aa h;refine fr 2 ?_;refine bV rfl rfl rfl (gU [] rfl rfl Tv rfl (qA k r8 UJ)) trivial ?_;refine aq (nt (rx ?_));cases h;exact aN () [_] 1 ⟨rfl,trivial⟩ rfl
  ·refine sk (ae ?_);obtain⟨r9,x,h⟩:=aa h;obtain⟨j,Uw,h⟩:=aa h;refine eA (SE.fin (Γ':=[(2,.rep (.slice (.slice (.int .i64))) a2),(3,.eq a3),(4,I a4),(5,I a5),(6,.eq (.int .u8 a6)),(7,Ri a7),(8,Pt b1),(9,Pt b2)]) (Δ':=[.obj b1 27 (.rep aj a0),.obj b2 35 (.rep aG a1),.inv 0 (dF)]) [0,1,2] ⟨rfl,rfl,rfl,rfl,rfl,rfl,rfl,rfl,trivial⟩ rfl) ?_;refine vW (I:=Nat) (Ge:=fun i=>[(3,.eq a3),(4,I a4),(5,I a5),(6,.eq (.int .u8 a6)),(17,Rs aj j.1),(18,.rep (.slice (.slice (.slice (.int .i64)))) j.2.1)]) (De:=fun i=>[.inv 0 (dF),.obj b1 27 (.rep aj a0),.obj b2 35 (.rep aG a1),.obj i 66 (.agg (.pair (Ri j.2.2.1) (.pair (I j.2.2.2.1) (.eq (.int .u64 j.2.2.2.2)))))]) (L:=[true,true,true,true,true,true,true,true,true,true,true]) cY rfl (fun J hJ hE=>?_) (by kernel_rfl) ?_
   ·have s1023:∀(c:Nat),J 1 [true,true,true,true,true,true,true,true,true,true,false] [(3,.eq a3),(4,I a4),(5,I a5),(6,.eq (.int .u8 a6)),(17,Rs aj j.1),(56,.rep (.slice (.slice (.slice (.int .i64)))) j.2.1)] [.inv 0 (dF),.obj b1 27 (.rep aj a0),.obj b2 35 (.rep aG a1),.obj c 66 (.agg (.pair (Ri j.2.2.1) (.pair (I j.2.2.2.1) (.eq (.int .u64 j.2.2.2.2)))))]:=fun c=>by
     subst hJ;refine JD.step [10] (by kernel_rfl) rfl ?_;refine bM.cons rfl ?_ ?_
     ·refine aq ?_;exact aw (hE c) [0,1,2,3] ⟨rfl,rfl,rfl,rfl,rfl,rfl,trivial⟩
     exact trivial
    have s511:∀(c:Nat),J 2 [true,true,true,true,true,true,true,true,true,false,false] [(3,.eq a3),(4,I a4),(5,I a5),(6,.eq (.int .u8 a6)),(55,Rs aj j.1),(56,.rep (.slice (.slice (.slice (.int .i64)))) j.2.1)] [.inv 0 (dF),.obj b1 27 (.rep aj a0),.obj b2 35 (.rep aG a1),.obj c 66 (.agg (.pair (Ri j.2.2.1) (.pair (I j.2.2.2.1) (.eq (.int .u64 j.2.2.2.2)))))]:=fun c=>by
     subst hJ;refine JD.step [9] (by kernel_rfl) rfl ?_;refine bM.cons rfl ?_ ?_
     ·refine aq ?_;exact aw (s1023 c) [0,1,2,3] ⟨rfl,rfl,rfl,rfl,rfl,rfl,trivial⟩
     exact trivial
    have s767:∀(c:Nat),J 2 [true,true,true,true,true,true,true,true,false,true,false] [(3,.eq a3),(4,I a4),(5,I a5),(6,.eq (.int .u8 a6)),(17,Rs aj j.1),(48,.tup (.pair (Rs aj j.1) (.pair (.rep (.slice (.slice (.slice (.int .i64)))) j.2.1) (.any))))] [.inv 0 (dF),.obj b1 27 (.rep aj a0),.obj b2 35 (.rep aG a1),.obj c 66 (.agg (.pair (Ri j.2.2.1) (.pair (I j.2.2.2.1) (.eq (.int .u64 j.2.2.2.2)))))]:=fun c=>by
     subst hJ;refine JD.step [8] (by kernel_rfl) rfl ?_;refine bM.cons rfl ?_ ?_
     ·refine xr ?_;exact aw (s1023 c) [0,1,2,3] ⟨rfl,rfl,rfl,rfl,rfl,rfl,trivial⟩
     exact trivial
    have s255:∀(c:Nat),J 3 [true,true,true,true,true,true,true,true,false,false,false] [(3,.eq a3),(4,I a4),(5,I a5),(6,.eq (.int .u8 a6)),(48,.tup (.pair (Rs aj j.1) (.pair (.rep (.slice (.slice (.slice (.int .i64)))) j.2.1) (.any)))),(55,Rs aj j.1)] [.inv 0 (dF),.obj b1 27 (.rep aj a0),.obj b2 35 (.rep aG a1),.obj c 66 (.agg (.pair (Ri j.2.2.1) (.pair (I j.2.2.2.1) (.eq (.int .u64 j.2.2.2.2)))))]:=fun c=>by
     subst hJ;refine JD.step [8,9] (by kernel_rfl) rfl ?_;refine bM.cons rfl ?_ ?_
     ·refine xr ?_;exact aw (s511 c) [0,1,2,3] ⟨rfl,rfl,rfl,rfl,rfl,rfl,trivial⟩
     refine bM.cons rfl ?_ ?_
     ·refine aq ?_;exact aw (s767 c) [0,1,2,3] ⟨rfl,rfl,rfl,rfl,rfl,rfl,trivial⟩
     exact trivial
    have s383:∀(c:Nat),J 3 [true,true,true,true,true,true,true,false,true,false,false] [(3,.eq a3),(4,I a4),(5,I a5),(6,.eq (.int .u8 a6)),(48,.tup (.pair (Rs aj j.1) (.pair (.rep (.slice (.slice (.slice (.int .i64)))) j.2.1) (.any)))),(56,.rep (.slice (.slice (.slice (.int .i64)))) j.2.1)] [.inv 0 (dF),.obj b1 27 (.rep aj a0),.obj b2 35 (.rep aG a1),.obj c 66 (.agg (.pair (Ri j.2.2.1) (.pair (I j.2.2.2.1) (.eq (.int .u64 j.2.2.2.2)))))]:=fun c=>by
     subst hJ;refine JD.step [7] (by kernel_rfl) rfl ?_;refine bM.cons rfl ?_ ?_
     ·refine xr ?_;exact aw (s511 c) [0,1,2,3] ⟨rfl,rfl,rfl,rfl,rfl,rfl,trivial⟩
     exact trivial
    have s127:∀(c:Nat),J 4 [true,true,true,true,true,true,true,false,false,false,false] [(3,.eq a3),(4,I a4),(5,I a5),(6,.eq (.int .u8 a6)),(48,.tup (.pair (Rs aj j.1) (.pair (.rep (.slice (.slice (.slice (.int .i64)))) j.2.1) (.any))))] [.inv 0 (dF),.obj b1 27 (.rep aj a0),.obj b2 35 (.rep aG a1),.obj c 66 (.agg (.pair (Ri j.2.2.1) (.pair (I j.2.2.2.1) (.eq (.int .u64 j.2.2.2.2)))))]:=fun c=>by
     subst hJ;refine JD.step [7,8] (by kernel_rfl) rfl ?_;refine bM.cons rfl ?_ ?_
     ·refine xr ?_;exact aw (s255 c) [0,1,2,3] ⟨rfl,rfl,rfl,rfl,rfl,rfl,trivial⟩
     refine bM.cons rfl ?_ ?_
     ·refine xr ?_;exact aw (s383 c) [0,1,2,3] ⟨rfl,rfl,rfl,rfl,rfl,rfl,trivial⟩
     exact trivial
    have s63:∀(c:Nat),J 5 [true,true,true,true,true,true,false,false,false,false,false] [(3,.eq a3),(4,I a4),(5,I a5),(6,.eq (.int .u8 a6)),(54,.tup (.pair (Rs aj j.1) (.pair (.rep (.slice (.slice (.slice (.int .i64)))) j.2.1) (.any))))] [.inv 0 (dF),.obj b1 27 (.rep aj a0),.obj b2 35 (.rep aG a1),.obj c 66 (.agg (.pair (Ri j.2.2.1) (.pair (I j.2.2.2.1) (.eq (.int .u64 j.2.2.2.2)))))]:=fun c=>by
     subst hJ;refine JD.step [6] (by kernel_rfl) rfl ?_;refine bM.cons rfl ?_ ?_
     ·refine mq ?_;exact aw (s127 c) [0,1,2,3] ⟨rfl,rfl,rfl,rfl,rfl,trivial⟩
     exact trivial
    have s31:∀(c:Nat),J 6 [true,true,true,true,true,false,false,false,false,false,false] [(3,.eq a3),(4,I a4),(5,I a5),(6,.eq (.int .u8 a6)),(49,.rep aj a0),(50,.rep aG a1),(51,.rep (.slice (.slice (.int .i64))) a2),(53,Pt c)] [.inv 0 (dF),.obj b1 27 (.rep aj a0),.obj b2 35 (.rep aG a1),.obj c 66 (.agg (.pair (Ri r9.1) (.pair (I r9.2.1) (.eq (.int .u64 r9.2.2)))))]:=fun c=>by
     subst hJ;refine JD.step [5] (by kernel_rfl) rfl ?_;refine bM.cons rfl ?_ ?_
     ·refine fr 3 ?_;refine bV rfl rfl rfl (ar [.tmp 49,.tmp 50,.tmp 51,.tmp 53] rfl rfl SN rfl (vA k a0 a1 a2 (r9.1,r9.2.1,r9.2.2) c j Uw)) ⟨rfl,rfl,rfl,rfl,trivial⟩ ?_;exact aw (s63 c) [1,2,3,0] ⟨rfl,rfl,rfl,rfl,rfl,trivial⟩
     exact trivial
    have s15:J 7 [true,true,true,true,false,false,false,false,false,false,false] [(3,.eq a3),(4,I a4),(5,I a5),(6,.eq (.int .u8 a6)),(49,.rep aj a0),(50,.rep aG a1),(51,.rep (.slice (.slice (.int .i64))) a2),(52,Ri a7)] [.inv 0 (dF),.obj b1 27 (.rep aj a0),.obj b2 35 (.rep aG a1)]:=by
     subst hJ;refine JD.step [4] (by kernel_rfl) rfl ?_;refine bM.cons rfl ?_ ?_
     ·refine aD rfl rfl rfl (ar [.tmp 52] rfl rfl LA rfl (dV k a7 r9 x)) ⟨rfl,trivial⟩ fun c=>?_;exact aw (s31 c) [1,2,3,0] ⟨rfl,rfl,rfl,rfl,rfl,rfl,rfl,rfl,trivial⟩
     exact trivial
    have s27:∀(c:Nat),J 7 [true,true,false,true,true,false,false,false,false,false,false] [(2,.rep (.slice (.slice (.int .i64))) a2),(3,.eq a3),(4,I a4),(5,I a5),(6,.eq (.int .u8 a6)),(49,.rep aj a0),(50,.rep aG a1),(53,Pt c)] [.inv 0 (dF),.obj b1 27 (.rep aj a0),.obj b2 35 (.rep aG a1),.obj c 66 (.agg (.pair (Ri r9.1) (.pair (I r9.2.1) (.eq (.int .u64 r9.2.2)))))]:=fun c=>by
     subst hJ;refine JD.step [2] (by kernel_rfl) rfl ?_;refine bM.cons rfl ?_ ?_
     ·refine mq ?_;exact aw (s31 c) [0,1,2,3] ⟨rfl,rfl,rfl,rfl,rfl,rfl,rfl,rfl,trivial⟩
     exact trivial
    have s29:∀(c:Nat),J 7 [true,false,true,true,true,false,false,false,false,false,false] [(3,.eq a3),(4,I a4),(5,I a5),(6,.eq (.int .u8 a6)),(9,Pt b2),(49,.rep aj a0),(51,.rep (.slice (.slice (.int .i64))) a2),(53,Pt c)] [.inv 0 (dF),.obj b1 27 (.rep aj a0),.obj b2 35 (.rep aG a1),.obj c 66 (.agg (.pair (Ri r9.1) (.pair (I r9.2.1) (.eq (.int .u64 r9.2.2)))))]:=fun c=>by
     subst hJ;refine JD.step [1] (by kernel_rfl) rfl ?_;refine bM.cons rfl ?_ ?_
     ·refine fr 2 ?_;refine lo iY ?_;exact aw (s31 c) [1,2,0,3] ⟨rfl,rfl,rfl,rfl,rfl,rfl,rfl,rfl,trivial⟩
     exact trivial
    have s30:∀(c:Nat),J 7 [false,true,true,true,true,false,false,false,false,false,false] [(3,.eq a3),(4,I a4),(5,I a5),(6,.eq (.int .u8 a6)),(8,Pt b1),(50,.rep aG a1),(51,.rep (.slice (.slice (.int .i64))) a2),(53,Pt c)] [.inv 0 (dF),.obj b1 27 (.rep aj a0),.obj b2 35 (.rep aG a1),.obj c 66 (.agg (.pair (Ri r9.1) (.pair (I r9.2.1) (.eq (.int .u64 r9.2.2)))))]:=fun c=>by
     subst hJ;refine JD.step [0] (by kernel_rfl) rfl ?_;refine bM.cons rfl ?_ ?_
     ·refine fr 1 ?_;refine lo dy ?_;exact aw (s31 c) [1,0,2,3] ⟨rfl,rfl,rfl,rfl,rfl,rfl,rfl,rfl,trivial⟩
     exact trivial
    have s7:J 8 [true,true,true,false,false,false,false,false,false,false,false] [(3,.eq a3),(4,I a4),(5,I a5),(6,.eq (.int .u8 a6)),(7,Ri a7),(49,.rep aj a0),(50,.rep aG a1),(51,.rep (.slice (.slice (.int .i64))) a2)] [.inv 0 (dF),.obj b1 27 (.rep aj a0),.obj b2 35 (.rep aG a1)]:=by
     subst hJ;refine JD.step [3] (by kernel_rfl) rfl ?_;refine bM.cons rfl ?_ ?_
     ·refine mq ?_;exact aw s15 [0,1,2] ⟨rfl,rfl,rfl,rfl,rfl,rfl,rfl,rfl,trivial⟩
     exact trivial
    have s11:J 8 [true,true,false,true,false,false,false,false,false,false,false] [(2,.rep (.slice (.slice (.int .i64))) a2),(3,.eq a3),(4,I a4),(5,I a5),(6,.eq (.int .u8 a6)),(49,.rep aj a0),(50,.rep aG a1),(52,Ri a7)] [.inv 0 (dF),.obj b1 27 (.rep aj a0),.obj b2 35 (.rep aG a1)]:=by
     subst hJ;refine JD.step [2,4] (by kernel_rfl) rfl ?_;refine bM.cons rfl ?_ ?_
     ·refine mq ?_;exact aw s15 [0,1,2] ⟨rfl,rfl,rfl,rfl,rfl,rfl,rfl,rfl,trivial⟩
     refine bM.cons rfl ?_ ?_
     ·refine aD rfl rfl rfl (ar [.tmp 52] rfl rfl LA rfl (dV k a7 r9 x)) ⟨rfl,trivial⟩ fun c=>?_;exact aw (s27 c) [1,2,3,0] ⟨rfl,rfl,rfl,rfl,rfl,rfl,rfl,rfl,trivial⟩
     exact trivial
    have s13:J 8 [true,false,true,true,false,false,false,false,false,false,false] [(3,.eq a3),(4,I a4),(5,I a5),(6,.eq (.int .u8 a6)),(9,Pt b2),(49,.rep aj a0),(51,.rep (.slice (.slice (.int .i64))) a2),(52,Ri a7)] [.inv 0 (dF),.obj b1 27 (.rep aj a0),.obj b2 35 (.rep aG a1)]:=by
     subst hJ;refine JD.step [1,4] (by kernel_rfl) rfl ?_;refine bM.cons rfl ?_ ?_
     ·refine fr 2 ?_;refine lo iY ?_;exact aw s15 [1,2,0] ⟨rfl,rfl,rfl,rfl,rfl,rfl,rfl,rfl,trivial⟩
     refine bM.cons rfl ?_ ?_
     ·refine aD rfl rfl rfl (ar [.tmp 52] rfl rfl LA rfl (dV k a7 r9 x)) ⟨rfl,trivial⟩ fun c=>?_;exact aw (s29 c) [1,2,3,0] ⟨rfl,rfl,rfl,rfl,rfl,rfl,rfl,rfl,trivial⟩
     exact trivial
    have s25:∀(c:Nat),J 8 [true,false,false,true,true,false,false,false,false,false,false] [(2,.rep (.slice (.slice (.int .i64))) a2),(3,.eq a3),(4,I a4),(5,I a5),(6,.eq (.int .u8 a6)),(9,Pt b2),(49,.rep aj a0),(53,Pt c)] [.inv 0 (dF),.obj b1 27 (.rep aj a0),.obj b2 35 (.rep aG a1),.obj c 66 (.agg (.pair (Ri r9.1) (.pair (I r9.2.1) (.eq (.int .u64 r9.2.2)))))]:=fun c=>by
     subst hJ;refine JD.step [1,2] (by kernel_rfl) rfl ?_;refine bM.cons rfl ?_ ?_
     ·refine fr 2 ?_;refine lo iY ?_;exact aw (s27 c) [1,2,0,3] ⟨rfl,rfl,rfl,rfl,rfl,rfl,rfl,rfl,trivial⟩
     refine bM.cons rfl ?_ ?_
     ·refine mq ?_;exact aw (s29 c) [0,1,2,3] ⟨rfl,rfl,rfl,rfl,rfl,rfl,rfl,rfl,trivial⟩
     exact trivial
    have s14:J 8 [false,true,true,true,false,false,false,false,false,false,false] [(3,.eq a3),(4,I a4),(5,I a5),(6,.eq (.int .u8 a6)),(8,Pt b1),(50,.rep aG a1),(51,.rep (.slice (.slice (.int .i64))) a2),(52,Ri a7)] [.inv 0 (dF),.obj b1 27 (.rep aj a0),.obj b2 35 (.rep aG a1)]:=by
     subst hJ;refine JD.step [0,4] (by kernel_rfl) rfl ?_;refine bM.cons rfl ?_ ?_
     ·refine fr 1 ?_;refine lo dy ?_;exact aw s15 [1,0,2] ⟨rfl,rfl,rfl,rfl,rfl,rfl,rfl,rfl,trivial⟩
     refine bM.cons rfl ?_ ?_
     ·refine aD rfl rfl rfl (ar [.tmp 52] rfl rfl LA rfl (dV k a7 r9 x)) ⟨rfl,trivial⟩ fun c=>?_;exact aw (s30 c) [1,2,3,0] ⟨rfl,rfl,rfl,rfl,rfl,rfl,rfl,rfl,trivial⟩
     exact trivial
    have s26:∀(c:Nat),J 8 [false,true,false,true,true,false,false,false,false,false,false] [(2,.rep (.slice (.slice (.int .i64))) a2),(3,.eq a3),(4,I a4),(5,I a5),(6,.eq (.int .u8 a6)),(8,Pt b1),(50,.rep aG a1),(53,Pt c)] [.inv 0 (dF),.obj b1 27 (.rep aj a0),.obj b2 35 (.rep aG a1),.obj c 66 (.agg (.pair (Ri r9.1) (.pair (I r9.2.1) (.eq (.int .u64 r9.2.2)))))]:=fun c=>by
     subst hJ;refine JD.step [0,2] (by kernel_rfl) rfl ?_;refine bM.cons rfl ?_ ?_
     ·refine fr 1 ?_;refine lo dy ?_;exact aw (s27 c) [1,0,2,3] ⟨rfl,rfl,rfl,rfl,rfl,rfl,rfl,rfl,trivial⟩
     refine bM.cons rfl ?_ ?_
     ·refine mq ?_;exact aw (s30 c) [0,1,2,3] ⟨rfl,rfl,rfl,rfl,rfl,rfl,rfl,rfl,trivial⟩
     exact trivial
    have s28:∀(c:Nat),J 8 [false,false,true,true,true,false,false,false,false,false,false] [(3,.eq a3),(4,I a4),(5,I a5),(6,.eq (.int .u8 a6)),(8,Pt b1),(9,Pt b2),(51,.rep (.slice (.slice (.int .i64))) a2),(53,Pt c)] [.inv 0 (dF),.obj b1 27 (.rep aj a0),.obj b2 35 (.rep aG a1),.obj c 66 (.agg (.pair (Ri r9.1) (.pair (I r9.2.1) (.eq (.int .u64 r9.2.2)))))]:=fun c=>by
     subst hJ;refine JD.step [0,1] (by kernel_rfl) rfl ?_;refine bM.cons rfl ?_ ?_
     ·refine fr 1 ?_;refine lo dy ?_;exact aw (s29 c) [1,0,2,3] ⟨rfl,rfl,rfl,rfl,rfl,rfl,rfl,rfl,trivial⟩
     refine bM.cons rfl ?_ ?_
     ·refine fr 2 ?_;refine lo iY ?_;exact aw (s30 c) [1,2,0,3] ⟨rfl,rfl,rfl,rfl,rfl,rfl,rfl,rfl,trivial⟩
     exact trivial
    have s3:J 9 [true,true,false,false,false,false,false,false,false,false,false] [(2,.rep (.slice (.slice (.int .i64))) a2),(3,.eq a3),(4,I a4),(5,I a5),(6,.eq (.int .u8 a6)),(7,Ri a7),(49,.rep aj a0),(50,.rep aG a1)] [.inv 0 (dF),.obj b1 27 (.rep aj a0),.obj b2 35 (.rep aG a1)]:=by
     subst hJ;refine JD.step [2,3] (by kernel_rfl) rfl ?_;refine bM.cons rfl ?_ ?_
     ·refine mq ?_;exact aw s7 [0,1,2] ⟨rfl,rfl,rfl,rfl,rfl,rfl,rfl,rfl,trivial⟩
     refine bM.cons rfl ?_ ?_
     ·refine mq ?_;exact aw s11 [0,1,2] ⟨rfl,rfl,rfl,rfl,rfl,rfl,rfl,rfl,trivial⟩
     exact trivial
    have s5:J 9 [true,false,true,false,false,false,false,false,false,false,false] [(3,.eq a3),(4,I a4),(5,I a5),(6,.eq (.int .u8 a6)),(7,Ri a7),(9,Pt b2),(49,.rep aj a0),(51,.rep (.slice (.slice (.int .i64))) a2)] [.inv 0 (dF),.obj b1 27 (.rep aj a0),.obj b2 35 (.rep aG a1)]:=by
     subst hJ;refine JD.step [1,3] (by kernel_rfl) rfl ?_;refine bM.cons rfl ?_ ?_
     ·refine fr 2 ?_;refine lo iY ?_;exact aw s7 [1,2,0] ⟨rfl,rfl,rfl,rfl,rfl,rfl,rfl,rfl,trivial⟩
     refine bM.cons rfl ?_ ?_
     ·refine mq ?_;exact aw s13 [0,1,2] ⟨rfl,rfl,rfl,rfl,rfl,rfl,rfl,rfl,trivial⟩
     exact trivial
    have s9:J 9 [true,false,false,true,false,false,false,false,false,false,false] [(2,.rep (.slice (.slice (.int .i64))) a2),(3,.eq a3),(4,I a4),(5,I a5),(6,.eq (.int .u8 a6)),(9,Pt b2),(49,.rep aj a0),(52,Ri a7)] [.inv 0 (dF),.obj b1 27 (.rep aj a0),.obj b2 35 (.rep aG a1)]:=by
     subst hJ;refine JD.step [1,2,4] (by kernel_rfl) rfl ?_;refine bM.cons rfl ?_ ?_
     ·refine fr 2 ?_;refine lo iY ?_;exact aw s11 [1,2,0] ⟨rfl,rfl,rfl,rfl,rfl,rfl,rfl,rfl,trivial⟩
     refine bM.cons rfl ?_ ?_
     ·refine mq ?_;exact aw s13 [0,1,2] ⟨rfl,rfl,rfl,rfl,rfl,rfl,rfl,rfl,trivial⟩
     refine bM.cons rfl ?_ ?_
     ·refine aD rfl rfl rfl (ar [.tmp 52] rfl rfl LA rfl (dV k a7 r9 x)) ⟨rfl,trivial⟩ fun c=>?_;exact aw (s25 c) [1,2,3,0] ⟨rfl,rfl,rfl,rfl,rfl,rfl,rfl,rfl,trivial⟩
     exact trivial
    have s6:J 9 [false,true,true,false,false,false,false,false,false,false,false] [(3,.eq a3),(4,I a4),(5,I a5),(6,.eq (.int .u8 a6)),(7,Ri a7),(8,Pt b1),(50,.rep aG a1),(51,.rep (.slice (.slice (.int .i64))) a2)] [.inv 0 (dF),.obj b1 27 (.rep aj a0),.obj b2 35 (.rep aG a1)]:=by
     subst hJ;refine JD.step [0,3] (by kernel_rfl) rfl ?_;refine bM.cons rfl ?_ ?_
     ·refine fr 1 ?_;refine lo dy ?_;exact aw s7 [1,0,2] ⟨rfl,rfl,rfl,rfl,rfl,rfl,rfl,rfl,trivial⟩
     refine bM.cons rfl ?_ ?_
     ·refine mq ?_;exact aw s14 [0,1,2] ⟨rfl,rfl,rfl,rfl,rfl,rfl,rfl,rfl,trivial⟩
     exact trivial
    have s10:J 9 [false,true,false,true,false,false,false,false,false,false,false] [(2,.rep (.slice (.slice (.int .i64))) a2),(3,.eq a3),(4,I a4),(5,I a5),(6,.eq (.int .u8 a6)),(8,Pt b1),(50,.rep aG a1),(52,Ri a7)] [.inv 0 (dF),.obj b1 27 (.rep aj a0),.obj b2 35 (.rep aG a1)]:=by
     subst hJ;refine JD.step [0,2,4] (by kernel_rfl) rfl ?_;refine bM.cons rfl ?_ ?_
     ·refine fr 1 ?_;refine lo dy ?_;exact aw s11 [1,0,2] ⟨rfl,rfl,rfl,rfl,rfl,rfl,rfl,rfl,trivial⟩
     refine bM.cons rfl ?_ ?_
     ·refine mq ?_;exact aw s14 [0,1,2] ⟨rfl,rfl,rfl,rfl,rfl,rfl,rfl,rfl,trivial⟩
     refine bM.cons rfl ?_ ?_
     ·refine aD rfl rfl rfl (ar [.tmp 52] rfl rfl LA rfl (dV k a7 r9 x)) ⟨rfl,trivial⟩ fun c=>?_;exact aw (s26 c) [1,2,3,0] ⟨rfl,rfl,rfl,rfl,rfl,rfl,rfl,rfl,trivial⟩
     exact trivial
    have s12:J 9 [false,false,true,true,false,false,false,false,false,false,false] [(3,.eq a3),(4,I a4),(5,I a5),(6,.eq (.int .u8 a6)),(8,Pt b1),(9,Pt b2),(51,.rep (.slice (.slice (.int .i64))) a2),(52,Ri a7)] [.inv 0 (dF),.obj b1 27 (.rep aj a0),.obj b2 35 (.rep aG a1)]:=by
     subst hJ;refine JD.step [0,1,4] (by kernel_rfl) rfl ?_;refine bM.cons rfl ?_ ?_
     ·refine fr 1 ?_;refine lo dy ?_;exact aw s13 [1,0,2] ⟨rfl,rfl,rfl,rfl,rfl,rfl,rfl,rfl,trivial⟩
     refine bM.cons rfl ?_ ?_
     ·refine fr 2 ?_;refine lo iY ?_;exact aw s14 [1,2,0] ⟨rfl,rfl,rfl,rfl,rfl,rfl,rfl,rfl,trivial⟩
     refine bM.cons rfl ?_ ?_
     ·refine aD rfl rfl rfl (ar [.tmp 52] rfl rfl LA rfl (dV k a7 r9 x)) ⟨rfl,trivial⟩ fun c=>?_;exact aw (s28 c) [1,2,3,0] ⟨rfl,rfl,rfl,rfl,rfl,rfl,rfl,rfl,trivial⟩
     exact trivial
    have s24:∀(c:Nat),J 9 [false,false,false,true,true,false,false,false,false,false,false] [(2,.rep (.slice (.slice (.int .i64))) a2),(3,.eq a3),(4,I a4),(5,I a5),(6,.eq (.int .u8 a6)),(8,Pt b1),(9,Pt b2),(53,Pt c)] [.inv 0 (dF),.obj b1 27 (.rep aj a0),.obj b2 35 (.rep aG a1),.obj c 66 (.agg (.pair (Ri r9.1) (.pair (I r9.2.1) (.eq (.int .u64 r9.2.2)))))]:=fun c=>by
     subst hJ;refine JD.step [0,1,2] (by kernel_rfl) rfl ?_;refine bM.cons rfl ?_ ?_
     ·refine fr 1 ?_;refine lo dy ?_;exact aw (s25 c) [1,0,2,3] ⟨rfl,rfl,rfl,rfl,rfl,rfl,rfl,rfl,trivial⟩
     refine bM.cons rfl ?_ ?_
     ·refine fr 2 ?_;refine lo iY ?_;exact aw (s26 c) [1,2,0,3] ⟨rfl,rfl,rfl,rfl,rfl,rfl,rfl,rfl,trivial⟩
     refine bM.cons rfl ?_ ?_
     ·refine mq ?_;exact aw (s28 c) [0,1,2,3] ⟨rfl,rfl,rfl,rfl,rfl,rfl,rfl,rfl,trivial⟩
     exact trivial
    have s1:J 10 [true,false,false,false,false,false,false,false,false,false,false] [(2,.rep (.slice (.slice (.int .i64))) a2),(3,.eq a3),(4,I a4),(5,I a5),(6,.eq (.int .u8 a6)),(7,Ri a7),(9,Pt b2),(49,.rep aj a0)] [.inv 0 (dF),.obj b1 27 (.rep aj a0),.obj b2 35 (.rep aG a1)]:=by
     subst hJ;refine JD.step [1,2,3] (by kernel_rfl) rfl ?_;refine bM.cons rfl ?_ ?_
     ·refine fr 2 ?_;refine lo iY ?_;exact aw s3 [1,2,0] ⟨rfl,rfl,rfl,rfl,rfl,rfl,rfl,rfl,trivial⟩
     refine bM.cons rfl ?_ ?_
     ·refine mq ?_;exact aw s5 [0,1,2] ⟨rfl,rfl,rfl,rfl,rfl,rfl,rfl,rfl,trivial⟩
     refine bM.cons rfl ?_ ?_
     ·refine mq ?_;exact aw s9 [0,1,2] ⟨rfl,rfl,rfl,rfl,rfl,rfl,rfl,rfl,trivial⟩
     exact trivial
    have s2:J 10 [false,true,false,false,false,false,false,false,false,false,false] [(2,.rep (.slice (.slice (.int .i64))) a2),(3,.eq a3),(4,I a4),(5,I a5),(6,.eq (.int .u8 a6)),(7,Ri a7),(8,Pt b1),(50,.rep aG a1)] [.inv 0 (dF),.obj b1 27 (.rep aj a0),.obj b2 35 (.rep aG a1)]:=by
     subst hJ;refine JD.step [0,2,3] (by kernel_rfl) rfl ?_;refine bM.cons rfl ?_ ?_
     ·refine fr 1 ?_;refine lo dy ?_;exact aw s3 [1,0,2] ⟨rfl,rfl,rfl,rfl,rfl,rfl,rfl,rfl,trivial⟩
     refine bM.cons rfl ?_ ?_
     ·refine mq ?_;exact aw s6 [0,1,2] ⟨rfl,rfl,rfl,rfl,rfl,rfl,rfl,rfl,trivial⟩
     refine bM.cons rfl ?_ ?_
     ·refine mq ?_;exact aw s10 [0,1,2] ⟨rfl,rfl,rfl,rfl,rfl,rfl,rfl,rfl,trivial⟩
     exact trivial
    have s4:J 10 [false,false,true,false,false,false,false,false,false,false,false] [(3,.eq a3),(4,I a4),(5,I a5),(6,.eq (.int .u8 a6)),(7,Ri a7),(8,Pt b1),(9,Pt b2),(51,.rep (.slice (.slice (.int .i64))) a2)] [.inv 0 (dF),.obj b1 27 (.rep aj a0),.obj b2 35 (.rep aG a1)]:=by
     subst hJ;refine JD.step [0,1,3] (by kernel_rfl) rfl ?_;refine bM.cons rfl ?_ ?_
     ·refine fr 1 ?_;refine lo dy ?_;exact aw s5 [1,0,2] ⟨rfl,rfl,rfl,rfl,rfl,rfl,rfl,rfl,trivial⟩
     refine bM.cons rfl ?_ ?_
     ·refine fr 2 ?_;refine lo iY ?_;exact aw s6 [1,2,0] ⟨rfl,rfl,rfl,rfl,rfl,rfl,rfl,rfl,trivial⟩
     refine bM.cons rfl ?_ ?_
     ·refine mq ?_;exact aw s12 [0,1,2] ⟨rfl,rfl,rfl,rfl,rfl,rfl,rfl,rfl,trivial⟩
     exact trivial
    have s8:J 10 [false,false,false,true,false,false,false,false,false,false,false] [(2,.rep (.slice (.slice (.int .i64))) a2),(3,.eq a3),(4,I a4),(5,I a5),(6,.eq (.int .u8 a6)),(8,Pt b1),(9,Pt b2),(52,Ri a7)] [.inv 0 (dF),.obj b1 27 (.rep aj a0),.obj b2 35 (.rep aG a1)]:=by
     subst hJ;refine JD.step [0,1,2,4] (by kernel_rfl) rfl ?_;refine bM.cons rfl ?_ ?_
     ·refine fr 1 ?_;refine lo dy ?_;exact aw s9 [1,0,2] ⟨rfl,rfl,rfl,rfl,rfl,rfl,rfl,rfl,trivial⟩
     refine bM.cons rfl ?_ ?_
     ·refine fr 2 ?_;refine lo iY ?_;exact aw s10 [1,2,0] ⟨rfl,rfl,rfl,rfl,rfl,rfl,rfl,rfl,trivial⟩
     refine bM.cons rfl ?_ ?_
     ·refine mq ?_;exact aw s12 [0,1,2] ⟨rfl,rfl,rfl,rfl,rfl,rfl,rfl,rfl,trivial⟩
     refine bM.cons rfl ?_ ?_
     ·refine aD rfl rfl rfl (ar [.tmp 52] rfl rfl LA rfl (dV k a7 r9 x)) ⟨rfl,trivial⟩ fun c=>?_;exact aw (s24 c) [1,2,3,0] ⟨rfl,rfl,rfl,rfl,rfl,rfl,rfl,rfl,trivial⟩
     exact trivial
    have s0:J 11 [false,false,false,false,false,false,false,false,false,false,false] [(2,.rep (.slice (.slice (.int .i64))) a2),(3,.eq a3),(4,I a4),(5,I a5),(6,.eq (.int .u8 a6)),(7,Ri a7),(8,Pt b1),(9,Pt b2)] [.obj b1 27 (.rep aj a0),.obj b2 35 (.rep aG a1),.inv 0 (dF)]:=by
     subst hJ;refine JD.step [0,1,2,3] (by kernel_rfl) rfl ?_;refine bM.cons rfl ?_ ?_
     ·refine lo dy ?_;exact aw s1 [2,0,1] ⟨rfl,rfl,rfl,rfl,rfl,rfl,rfl,rfl,trivial⟩
     refine bM.cons rfl ?_ ?_
     ·refine fr 1 ?_;refine lo iY ?_;exact aw s2 [2,1,0] ⟨rfl,rfl,rfl,rfl,rfl,rfl,rfl,rfl,trivial⟩
     refine bM.cons rfl ?_ ?_
     ·refine mq ?_;exact aw s4 [2,0,1] ⟨rfl,rfl,rfl,rfl,rfl,rfl,rfl,rfl,trivial⟩
     refine bM.cons rfl ?_ ?_
     ·refine mq ?_;exact aw s8 [2,0,1] ⟨rfl,rfl,rfl,rfl,rfl,rfl,rfl,rfl,trivial⟩
     exact trivial
    exact s0
   intro c;show JN _ _ [(3,.eq a3),(4,I a4),(5,I a5),(6,.eq (.int .u8 a6)),(17,Rs aj j.1),(18,.rep (.slice (.slice (.slice (.int .i64)))) j.2.1)] [.inv 0 (dF),.obj b1 27 (.rep aj a0),.obj b2 35 (.rep aG a1),.obj c 66 (.agg (.pair (Ri j.2.2.1) (.pair (I j.2.2.2.1) (.eq (.int .u64 j.2.2.2.2)))))];refine tn (dn (Z:=Unit) (α:=Unit) (fun se TY=>[]) (fun se TY=>[.inv 0 (dF)]) (fun e=>e=r) h (fun e h=>Option.some.inj h) (fun K hR h=>?_) (fun se TY h=>?_))
   ·refine sr (cq (nt (an ?_)));refine aJ (fun qt l=>[(3,.eq a3),(4,I a4),(5,I a5),(6,.eq (.int .u8 a6)),(17,Rs aj j.1),(18,.rep (.slice (.slice (.slice (.int .i64)))) j.2.1),(19,I l)]) (fun qt l=>[.inv 0 (dF)]) (cU k a3 a4 a5 a6 j) k () 0 (fun _=>rfl) h (SE.fin [0] ⟨rfl,rfl,rfl,rfl,rfl,rfl,rfl,trivial⟩ rfl) (fun n qt l h=>?_);unfold cU at h;refine ae (sr ?_);iterate 2 refine mq ?_
    refine ol QB ?_;refine jb (bv rfl) ?_;refine nt (ci h (fun h=>?_) (fun h=>?_))
    ·refine sk (dn (Z:=Unit) (α:=Unit) (fun pp TX=>[(3,.eq a3),(4,I a4),(5,I a5),(6,.eq (.int .u8 a6)),(17,Rs aj j.1),(18,.rep (.slice (.slice (.slice (.int .i64)))) j.2.1),(19,I l)]) (fun pp TX=>[.inv 0 (dF)]) (fun e=>e=r) h (fun e h=>hR e h) (fun K hR h=>?_) (fun pp TX h=>?_))
     ·refine an (ae (bK ?_));refine dm ?_;refine dm ?_;obtain⟨UG,Uk,h⟩:=aa h;refine db (aI (t:=aj) rfl QB dy Uk) ?_;refine da (ao (t:=aj) rfl dy rfl) ?_;refine dm ?_;refine dm ?_;obtain⟨UF,Uj,h⟩:=aa h;refine db (aI (t:=(.slice (.slice (.int .i64)))) rfl Oa uf Uj) ?_;refine da (ao (t:=(.slice (.slice (.int .i64)))) rfl uf rfl) ?_;obtain⟨Ua,Uu,h⟩:=aa h;refine eb 0 (ar [.tmp 67,.tmp 71] rfl rfl P5 rfl (rI k UG UF Ua Uu)) ?_;refine dm ?_;refine da (c6 rfl rfl) ?_;refine da (c6 rfl rfl) ?_;refine da (gh rfl) ?_;refine df cY ?_;refine aq (nt (ae ?_));refine bK ?_;refine dm ?_;refine dm ?_;obtain⟨UE,Ui,h⟩:=aa h;refine db (aI (t:=aj) rfl QB dy Ui) ?_;refine da (ao (t:=aj) rfl dy rfl) ?_;refine dm ?_;refine dm ?_;obtain⟨UD,Uh,h⟩:=aa h;refine db (aI (t:=(.slice (.slice (.int .i64)))) rfl Oa uf Uh) ?_;refine da (ao (t:=(.slice (.slice (.int .i64)))) rfl uf rfl) ?_;obtain⟨u,Ut,h⟩:=aa h;refine db (ar [.tmp 79,.tmp 83] rfl rfl SL rfl (xM k UE UD u Ut)) ?_;refine dm ?_;refine da (c6 rfl rfl) ?_;refine da (c6 rfl rfl) ?_;refine da (gh rfl) ?_;refine df cY ?_;refine aq (nt (ae ?_));refine aS (Z:=Unit) (α:=Bool) (fun mc X=>[(3,.eq a3),(4,I a4),(5,I a5),(6,.eq (.int .u8 a6)),(17,Rs aj j.1),(18,.rep (.slice (.slice (.slice (.int .i64)))) j.2.1),(19,I l),(22,.eq u.1),(94,.eq (.bool X))]) (fun mc X=>[.inv 0 (dF)]) h (fun K h=>?_) (fun mc X h=>?_)
      ·refine ab ?_;iterate 2 refine mq ?_
       obtain⟨UR,Um,h⟩:=aa h;refine jb (Jj rfl (av Um)) ?_;refine mq ?_;refine cd (s:=90) rfl (fun hb=>?_) (fun hb=>?_)
       ·replace h:=cI (EF hb) h;iterate 3 refine gn ?_
        refine pt (nl ?_);exact jz ((),true) h [0]
       ·replace h:=bS (wO hb) h;refine gm ?_;refine gm ?_;refine gb (ig rfl) ?_;refine pf (nl ?_);exact jz ((), !decide (Ua.2=u.2)) h [0]
      ·refine cv h (fun h=>?_) (fun h=>?_)
       ·refine sr (cq (nt (rx (br (aZ (aO ?_))))));obtain rfl:=hR _ h;exact aN () [_] 1 ⟨rfl,trivial⟩ rfl
       ·refine sk (sr ?_);iterate 6 refine mq ?_
        obtain⟨y,Us,h⟩:=aa h;refine aF rfl (ar [.tmp 97,.tmp 98,.tmp 99,.tmp 100] rfl rfl SK rfl (vB k u.1 a4 a5 a6 y Us)) ⟨rfl,rfl,rfl,rfl,trivial⟩ ?_;refine mq ?_;obtain⟨UQ,Ul,h⟩:=aa h;refine jb (mE rfl (av Ul)) ?_;obtain⟨UP,Q,h⟩:=aa h;obtain⟨UO,O,h⟩:=aa h;obtain⟨UN,M,h⟩:=aa h;obtain⟨u32,F,h⟩:=aa h;obtain⟨UM,E,h⟩:=aa h;refine aF rfl (bi (t:=.val) [(.tmp 95,_),(.tmp 96,_),(.tmp 101,_),(.const (.string ⟨#[97,98,47,99]⟩),_),(.tmp 103,_)] [a3,u.1,y,(.string ⟨#[97,98,47,99]⟩),(gg a3 (.string ⟨#[47,47,47,47,47,47,47,47,47,47,47,47,47,47,47,47,47,47,47,47,47]⟩))] rfl rfl Rb (.cons (hH (av Q)) (.val (hH (av Q))) (.cons (hH (av O)) (.val (hH (av O))) (.cons (hH (av M)) (.val (hH (av M))) (.cons (hH (av F)) (.val (hH (av F))) (.cons (hH (av E)) (.val (hH (av E))) .nil))))) rfl rfl) ⟨rfl,rfl,rfl,rfl,rfl,trivial⟩ ?_;refine aq (nt (sr ?_));refine cq (nt (an ?_));refine aJ (fun ac D=>[(3,.eq a3),(4,I a4),(5,I a5),(6,.eq (.int .u8 a6)),(17,Rs aj j.1),(18,.rep (.slice (.slice (.slice (.int .i64)))) j.2.1),(19,I l),(24,.rep (.slice .val) [a3,u.1,y,(.string ⟨#[97,98,47,99]⟩),(gg a3 (.string ⟨#[47,47,47,47,47,47,47,47,47,47,47,47,47,47,47,47,47,47,47,47,47]⟩))]),(25,I D)]) (fun ac D=>[.inv 0 (dF)]) (cT k a3 j l u y) k () 0 (fun _=>rfl) h (SE.fin [0] ⟨rfl,rfl,rfl,rfl,rfl,rfl,rfl,rfl,rfl,trivial⟩ rfl) (fun n ac D h=>?_);unfold cT at h;refine ae (sr ?_);iterate 2 refine mq ?_
        refine ol QX ?_;refine jb (bv rfl) ?_;refine nt (ci h (fun h=>?_) (fun h=>?_))
        ·refine sk (ae (an (ae (bK ?_))));refine dm ?_;refine dm ?_;obtain⟨UC,Ug,h⟩:=aa h;refine db (aI (t:=aj) rfl QB dy Ug) ?_;refine da (ao (t:=aj) rfl dy rfl) ?_;refine dm ?_;refine dm ?_;obtain⟨UB,Uf,h⟩:=aa h;refine db (aI (t:=.val) rfl QX QM Uf) ?_;refine da (ao (t:=.val) rfl QM rfl) ?_;obtain⟨T9,Ur,h⟩:=aa h;refine eb 0 (ar [.tmp 115,.tmp 119] rfl rfl SJ rfl (zd k UC UB T9 Ur)) ?_;refine dm ?_;refine da (c6 rfl rfl) ?_;refine da (c6 rfl rfl) ?_;refine da (gh rfl) ?_;refine df cY ?_;refine aq (nt (ae ?_));refine bK ?_;refine dm ?_;refine dm ?_;obtain⟨UA,Ue,h⟩:=aa h;refine db (aI (t:=aj) rfl QB dy Ue) ?_;refine da (ao (t:=aj) rfl dy rfl) ?_;refine dm ?_;refine dm ?_;obtain⟨Uz,Ud,h⟩:=aa h;refine db (aI (t:=.val) rfl QX QM Ud) ?_;refine da (ao (t:=.val) rfl QM rfl) ?_;obtain⟨T8,Up,h⟩:=aa h;refine db (ar [.tmp 127,.tmp 131] rfl rfl SI rfl (zn k UA Uz T8 Up)) ?_;refine dm ?_;refine da (c6 rfl rfl) ?_;refine da (c6 rfl rfl) ?_;refine da (gh rfl) ?_;refine df cY ?_;refine aq (nt ?_);refine aS (Z:=Unit) (α:=Bool) (fun Y U=>[(3,.eq a3),(4,I a4),(5,I a5),(6,.eq (.int .u8 a6)),(17,Rs aj j.1),(18,.rep (.slice (.slice (.slice (.int .i64)))) j.2.1),(19,I l),(24,.rep (.slice .val) [a3,u.1,y,(.string ⟨#[97,98,47,99]⟩),(gg a3 (.string ⟨#[47,47,47,47,47,47,47,47,47,47,47,47,47,47,47,47,47,47,47,47,47]⟩))]),(25,I D),(143,.eq (.bool U))]) (fun Y U=>[.inv 0 (dF)]) h (fun K h=>?_) (fun Y U h=>?_)
         ·refine ab ?_;iterate 2 refine mq ?_
          refine jb (ig rfl) ?_;refine mq ?_;refine cd (s:=138) rfl (fun hb=>?_) (fun hb=>?_)
          ·replace h:=cI (OR hb) h;iterate 4 refine gn ?_
           refine pt (nl ?_);exact jz ((),true) h [0]
          ·replace h:=bS (Hj hb) h;refine gm ?_;refine gm ?_;obtain⟨TZ,Uo,h⟩:=aa h;refine gb (ar [.tmp 139,.tmp 140] rfl rfl Nr rfl (kx k T9.1 T8.1 TZ Uo)) ?_;refine ga (fm rfl) ?_;refine pf (nl ?_);exact jz ((), !TZ) h [0]
         ·refine cv h (fun h=>?_) (fun h=>?_)
          ·refine sr (cq (nt (aB (br (aZ (br (aZ (aO ?_))))))));obtain rfl:=hR _ h;exact aN () [_] 1 ⟨rfl,trivial⟩ rfl
          ·refine aY (aK (tn (ab (mq ?_))));obtain⟨Uy,Uc,h⟩:=aa h;refine jb (bf rfl Uc) ?_;refine aq (nl ?_);exact jz ((),Uy) h [0]
        ·refine dk (aP (aP (bL (bn ?_))));exact jz ((),()) h [0]
     ·refine ab (mq ?_);obtain⟨Ux,Ub,h⟩:=aa h;refine jb (bf rfl Ub) ?_;refine aq (nl ?_);exact jz ((),Ux) h [0]
    ·refine xa ?_;exact jz ((),()) h [0]
   ·refine sr ?_;obtain⟨UH,Un,h⟩:=aa h;refine bV rfl rfl rfl (gU [] rfl rfl Tv rfl (qA k UH Un)) trivial ?_;refine aq (nt (aB ?_));cases h;exact aN () [_] 1 ⟨rfl,trivial⟩ rfl
end Go.Proofs.YtmeojbemjkmebaaGreatDoor
