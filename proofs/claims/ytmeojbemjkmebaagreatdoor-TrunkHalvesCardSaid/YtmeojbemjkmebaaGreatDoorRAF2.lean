import Derived.Test.YtmeojbemjkmebaaGreatDoorRAB11
import Derived.Test.YtmeojbemjkmebaaGreatDoorRAB9
import Derived.Test.YtmeojbemjkmebaaGreatDoorRAB10
import Derived.Test.YtmeojbemjkmebaaGreatDoorRAB5
import Derived.Test.YtmeojbemjkmebaaGreatDoorRAB6
set_option linter.unusedSimpArgs false
set_option linter.unusedVariables false
set_option maxRecDepth 4000
set_option maxHeartbeats 1000000
namespace Go.Proofs.YtmeojbemjkmebaaGreatDoor
open K Go Go.Proofs
def ct(k:Nat)(a0:be)(a1:(List (List Int))):Option Int:=
 (kZ k a0).bind fun r2=>
 if¬(r2=0) then(some r2) else((kY k a0 a1).bind fun r4=>
 (Qu r4).bind fun q5=>
 if q5.isSome=true then(some (q5.getD 0)) else(some 0))
theorem eD(k:Nat)(a0:be)(a1:(List (List Int)))(r:Int)(h:ct k a0 a1=some r):
 cd Tryz.prog 42 [.rep aw a0,.rep (.slice (.slice (.int .i64))) a1] [.inv 0 (dP)] (fun _:Unit=>(bv [I r],[.inv 0 (dP)])):=by
 unfold ct at h
 replace h:=bg h
 refine cd.of 19 Tryz.func42 rfl Tryz.ntmps42 rfl fun S w0=>?_
 refine sr ?_
 refine bx fun b1=>?_
 refine cq ?_
 refine nt ?_
 refine ah ?_
 refine sr ?_
 refine lo fJ ?_
 obtain⟨r2,e,h⟩:=aa h
 have l:=qU k a0 r2 e
 refine ja (ao [.tmp 7] rfl rfl PC rfl l) ?_
 refine aq ?_
 refine nt ?_
 refine sr ?_
 refine mq ?_
 refine jb (jJ rfl) ?_
 refine nt ?_
 refine cn h (fun h=>?_) (fun h=>?_)
 ·
  refine sr (mq ?_);refine aq (nt (rx ?_));refine bF (SE.fin (Γ':=[(4,_)]) [1,0] ⟨rfl,trivial⟩ rfl) ?_;cases h;exact aL () [_] 1 ⟨rfl,trivial⟩ rfl
 ·
  refine sk (sr (aE rfl rfl rfl (aZ rfl t3 P8) trivial fun b3=>?_));refine nt (ah (sr (fr 1 ?_)));refine lo fJ ?_;refine mq ?_;obtain⟨r4,c,h⟩:=aa h;refine jb (ao [.tmp 12,.tmp 13] rfl rfl Rj rfl (qQ k a0 a1 r4 c)) ?_;refine ja (Gs rfl RU) ?_;obtain⟨q5,j,h⟩:=aa h;refine fr 2 ?_;refine fr 2 ?_;refine bN (Δ:=[_,_]) (F:=_) (fun _ _ _=>ay rfl _) rfl rfl (ao [.tmp 14,.tmp 15] rfl rfl Pm rfl (P1 j)) ⟨rfl,rfl,trivial⟩ fun _=>?_;refine nt (cv h (fun h=>?_) (fun h=>?_))
  ·refine sr (fl JR ?_);refine lo QK ?_;refine aq (nt (rx ?_));refine bF (SE.fin (Γ':=[(4,_)]) [1,0,2] ⟨rfl,trivial⟩ rfl) ?_;cases h;exact aL () [_] 1 ⟨rfl,trivial⟩ rfl
  ·refine sk (sr (cq (nt (aC ?_))));refine bF (SE.fin (Γ':=[(4,_)]) [1,0,2] ⟨rfl,trivial⟩ rfl) ?_;cases h;exact aL () [_] 1 ⟨rfl,trivial⟩ rfl
theorem jq(k:Nat)(a0:be)(z_a0:Nat)(a1:(List (List Int)))(r:Int)(h:cY k a0 a1=some r):
 dy (iQ Tryz.prog) 48 [.at au (a0,(.map (some z_a0))),.rep (.arr 3 (.arr 5 (.int .i64))) a1] [.inv z_a0 (bJ k a0)] (fun _:Unit=>(bv [I r],[.inv z_a0 (bJ k a0)])):=by
 have h0:=h
 unfold cY at h
 replace h:=bg h
 obtain⟨u1,eg,h⟩:=aa h
 have hg:=aH eg
 have gk:=Hf hg
 refine dy.of 28 Tryz.func48 rfl Tryz.ntmps48 rfl fun S w0=>?_
 refine sr ?_
 refine bx fun b1=>?_
 refine cq ?_
 refine nt ?_
 refine ah ?_
 refine gP 1 rfl ?_
 refine BU fun ob hob=>?_
 obtain⟨lnn,lbb,hlR,hlk⟩:=xM (z:=z_a0) Qc Lu zK gk Ek hob
 refine cz ?_
 refine dm ?_
 refine da (dE rfl) ?_
 refine da (aI 1 false rfl CZ rfl) ?_
 refine da (ap (t:=.val) rfl K0 rfl) ?_
 refine ea 1 (ak rfl fO (vL) rfl) ?_
 refine eb 0 (D9 (kv:=kN a1) (wz _) (lL.calm hob) rfl (fun _ _ _ hh=>uN hh) hlk) ?_
 refine dm ?_
 refine da (gV rfl rfl) ?_
 refine da (gV rfl rfl) ?_
 refine da (ir rfl) ?_
 refine df dI ?_
 refine aq ?_
 refine nt ?_
 refine ah ?_
 refine sr ?_
 refine mq ?_
 refine ja (eY rfl) ?_
 refine nt ?_
 refine eG (jX (bJ k a0) hob) ?_
 refine bK rfl (fun hb=>?_) (fun hb=>?_)
 ·
  refine sr (mq ?_);refine fr 1 ?_;refine lo fO ?_;obtain⟨r2,c,h⟩:=aa h;refine jc (cN (N:=[(.tmp 18,.at au (a0,(.map (some z_a0)))),(.tmp 19,.rep (.arr 3 (.arr 5 (.int .i64))) a1),(.const (.int .i64 (0)),I 0)]) (ff [.tmp 18,.tmp 19,.const (.int .i64 (0))] rfl rfl Po rfl (lW k (a0,()) a1 0 r2 c)) fun _ _ _ hn=>⟨(oS hn.1),hn.2.1,hn.2.2.1,trivial⟩) ?_;refine aq (nt ?_);refine cz ?_;refine dm ?_;refine da (dE rfl) ?_;refine da (aI 1 false rfl CZ rfl) ?_;refine da (ap (t:=.val) rfl K0 rfl) ?_;refine ea 0 (ak rfl fO (vL) rfl) ?_;refine dm ?_;refine df dI ?_;refine fr 1 ?_;have hl:cY k a0 a1=some r2:=h0.trans (show some r=some r2 from h.symm);refine aY rfl rfl (zi (kv:=kN a1) (wz _) rfl Qc zK (fun _ _ _ hh=>uN hh) gk ⟨a1,hg,rfl,hl⟩) ⟨rfl,rfl,rfl,trivial⟩ ?_;refine nt (sr (mq ?_));refine aq (nt (aC ?_));cases h;exact aL () [_] 1 ⟨rfl,trivial⟩ rfl
 ·
  obtain⟨p,hp,he,hl⟩:=hlR (by simpa using hb);obtain rfl:=wA hg hp he;replace h:some lnn=some r:=hl.symm.trans h0;refine sk (sr (mq ?_));refine aq (nt (aC ?_));cases h;exact aL () [_] 1 ⟨rfl,trivial⟩ rfl
def fW(k:Nat)(a0:be)(a1:(List (List Int))):Option (Int×Int):=
 (ct k a0 a1).bind fun r2=>
 if¬(r2=0) then(some (0,r2)) else((dz k a1).bind fun r4=>
 (cY k a0 r4).bind fun r5=>
 some (r5,0))
theorem jt(k:Nat)(a0:be)(a1:(List (List Int)))(r:Int×Int)(h:fW k a0 a1=some r):
 dy (iQ Tryz.prog) 13 [.rep aw a0,.rep (.slice (.slice (.int .i64))) a1] [.inv 0 (dP)] (fun _:Unit=>(bv [I r.1,I r.2],[.inv 0 (dP)])):=by
 unfold fW at h
 replace h:=bg h
 refine dy.of 18 Tryz.func13 rfl Tryz.ntmps13 rfl fun S w0=>?_
 refine sr ?_
 refine bx fun b1=>?_
 refine cq ?_
 refine cq ?_
 refine nt ?_
 refine ah ?_
 refine sr ?_
 refine lo fJ ?_
 refine mq ?_
 obtain⟨r2,j,h⟩:=aa h
 have l:=eD k a0 a1 r2 j
 refine fr 1 ?_
 refine kb (ao [.tmp 7,.tmp 8] rfl rfl J0 rfl l) ?_
 refine aq ?_
 refine nt ?_
 refine sr ?_
 refine mq ?_
 refine jb (jJ rfl) ?_
 refine nt ?_
 refine cn h (fun h=>?_) (fun h=>?_)
 ·
  refine sr (mq ?_);refine cq ?_;refine aq (nt (rx ?_));cases h;exact aL () [_,_] 1 ⟨rfl,rfl,trivial⟩ rfl
 ·
  refine sk (sr (fr 1 ?_));refine lo fJ ?_;refine aE rfl rfl rfl (ao [.tmp 13] rfl rfl HK rfl (fU a0)) ⟨rfl,trivial⟩ fun z3=>?_;refine cO (jX (bJ k a0) li) ?_;refine mq ?_;obtain⟨r4,e,h⟩:=aa h;refine ja (ao [.tmp 15] rfl rfl BG rfl (dT k a1 r4 e)) ?_;obtain⟨r5,c,h⟩:=aa h;refine kb (ff [.tmp 14,.tmp 16] rfl rfl PD rfl (jq k a0 z3 r4 r5 c)) ?_;refine aq ?_;refine cq (nt (aC ?_));refine bF (SE.fin (Γ':=[(4,_),(5,_)]) [2,0,1] ⟨rfl,rfl,trivial⟩ rfl) ?_;cases h;exact aL () [_,_] 1 ⟨rfl,rfl,trivial⟩ rfl
set_option maxRecDepth 20000
set_option maxHeartbeats 4000000
def NN(b:Nat):List Int→Option Addr
 |[]=>none
 |_::_=>some ⟨b,0,none⟩
def Qs:List Int→Value→Value
 |[],_=>.slice none 0 0
 |_::_,v=>v
theorem Nc(b:Nat)(l:List Int):NN b l=none∨NN b l=some ⟨b,0,none⟩:=by cases l <;> simp [NN]
theorem H2(b:Nat)(l:List Int)(c:Int):NN b (l++[c])=some ⟨b,0,none⟩:=by cases l <;> rfl
theorem HZ(l:List Int)(c:Int)(v:Value):Qs (l++[c]) v=v:=by cases l <;> rfl
theorem K2:my Tryz.prog 51 9 1 16:=.of (z:=(.string .empty)) SN (by kernel_rfl) rfl rfl rfl
theorem MX:ag Tryz.prog 51:=ag.of Tryz.func51 (by kernel_rfl) (by kernel_rfl)
theorem Pj:ag Tryz.prog 42:=ag.of Tryz.func42 (by kernel_rfl) (by kernel_rfl)
theorem Oe:dC Tryz.prog 27 3 true:=⟨fun w=>by kernel_rfl,fun w=>by kernel_rfl⟩
theorem KZ:dC Tryz.prog 22 1 false:=⟨fun w=>by kernel_rfl,fun w=>by kernel_rfl⟩
theorem Oc:dC Tryz.prog 3 1 false:=⟨fun w=>by kernel_rfl,fun w=>by kernel_rfl⟩
def lm(c:Int):Int:=IntKind.i32.wrap (97+IntKind.i32.wrap c)
def kR(xs:List Int):Nat→Int×List Int→Option (List Int)
 |0,_=>none
 |n+1,y=>if y.1 < (xs.length:Int) then((a8 xs y.1).bind fun c=>if 0≤lm c∧lm c≤127∧bU (y.2.length+1) then(ck (y.1+1)).bind fun z=>kR xs n (z,y.2++[lm c]) else none) else some y.2
def jr(k:Nat)(a1:List (List Int)):Nat→Int×List ByteArray→Option (List ByteArray)
 |0,_=>none
 |n+1,y=>if y.1 < (a1.length:Int) then((a8 a1 y.1).bind fun xs=>(kR xs k (0,[])).bind fun l=>if bU (y.2.length+1) then(ck (y.1+1)).bind fun z=>jr k a1 n (z,y.2++[qf l]) else none) else some y.2
def sj(k:Nat)(a0:be)(a1:(List (List Int))):Option (Value×Int):=
 (ct k a0 a1).bind fun e=>if¬(e=0) then some (.string .empty,e) else(jr k a1 k (0,[])).bind fun ss=>(tN k ss ⟨#[47]⟩).bind fun r=>some (.string r,0)
theorem xk(k:Nat)(a0:be)(a1:(List (List Int)))(r:Value×Int)(h:sj k a0 a1=some r):
 cd Tryz.prog 17 [.rep aw a0,.rep (.slice (.slice (.int .i64))) a1] [.inv 0 dP] (fun _:Unit=>(bv [.eq r.1,I r.2],[.inv 0 dP])):=by
 unfold sj at h
 replace h:=bg h
 refine cd.of 43 Tryz.func17 rfl Tryz.ntmps17 rfl fun S w0=>?_
 refine sr ?_
 refine bx fun b2=>?_
 refine cq ?_
 refine cq ?_
 refine nt ?_
 refine ah ?_
 refine sr ?_
 obtain⟨e,ee,h⟩:=aa h
 have ce:=eD k a0 a1 e ee
 refine ka (ak rfl Oe (yv) rfl) ?_
 refine mq ?_
 refine fr 1 ?_
 refine kb (ao [.tmp 13,.tmp 14] rfl rfl Pj rfl ce) ?_
 refine aq ?_
 refine nt ?_
 refine sr ?_
 refine mq ?_
 refine jb (jJ rfl) ?_
 refine nt ?_
 refine bK rfl (fun hb=>?_) (fun hb=>?_)
 ·
  replace h:=cU (Qo hb) h;refine sr (mq ?_);refine cq ?_;refine aq (nt (rx ?_));cases h;exact aL () [_,_] 1 ⟨rfl,rfl,trivial⟩ rfl
 replace h:=bT (Jl hb) h
 refine sk ?_
 refine sr ?_
 refine cq ?_
 refine nt ?_
 rw [Option.bind_assoc] at h
 refine ah ?_
 refine sr ?_
 refine mq ?_
 refine ol nX ?_
 refine eT rfl ?_
 refine cO (SE.nil 9 .str) ?_
 refine nt ?_
 refine an ?_
 refine aN (fun v y=>[(7,.eq v),(19,.rep (.slice (.slice (.int .i64))) a1),(20,I (a1.length:Int)),(21,I y.1)]) (fun v y=>[.sl v 9 .str y.2,.inv 0 dP]) (jr k a1) k (.slice none 0 0) (0,[]) (fun _=>rfl) h (SE.fin [0,1] ⟨rfl,rfl,rfl,rfl,trivial⟩ rfl) (fun n v7 y h=>?_)
 unfold jr at h
 refine sr ?_
 refine jb (bG rfl) ?_
 refine nt ?_
 refine ah ?_
 refine bK rfl (fun hb=>?_) (fun hb=>?_)
 ·
  replace h:=cU (nz hb) h;refine sk (ah (an ?_));obtain⟨xs,exs,h⟩:=aa h;refine sr (jb (aM (t:=.slice (.int .i64)) rfl nX KZ exs) ?_);refine ja (ap (t:=.slice (.int .i64)) rfl KZ rfl) ?_;refine aq (nt (sr ?_));refine aE rfl rfl rfl (aZ rfl E4 Lp) trivial fun b=>?_;refine nt ?_;rw [Option.bind_assoc] at h;refine ah (sr (mq ?_));refine ol eS ?_;refine eT rfl ?_;refine cO (SE.nil 5 (.int .u8)) ?_;refine nt (an ?_)
  refine aN (fun v q=>[(7,.eq v7),(10,.eq (bP b)),(19,.rep (.slice (.slice (.int .i64))) a1),(20,I (a1.length:Int)),(21,I y.1),(25,Ri xs),(26,I (xs.length:Int)),(27,I q.1)])
   (fun v q=>[.obj b 92 (bA (.pointer (NN b q.2)) (Qs q.2 v)),.sl (Qs q.2 v) 5 (.int .u8) q.2,.sl v7 9 .str y.2,.inv 0 dP]) (kR xs) k undef (0,[]) (fun _=>rfl) h (SE.fin [1,0,2,3] ⟨rfl,rfl,rfl,rfl,rfl,rfl,rfl,rfl,trivial⟩ rfl) (fun n2 v q h=>?_)
  unfold kR at h;refine sr (jb (bG rfl) ?_);refine nt (ah (bK rfl (fun hb=>?_) (fun hb=>?_)))
  ·replace h:=cU (nz hb) h;refine sk (ah (an ?_));obtain⟨c,ec,h⟩:=aa h;refine sr (jb (aM (t:=.int .i64) rfl eS Oc ec) ?_);refine ja (ap (t:=.int .i64) rfl Oc rfl) ?_;refine aq (nt ?_)
   have hk:0≤lm c∧lm c≤127∧bU (q.2.length+1):=by
    apply Classical.byContradiction;intro hn;rw [if_neg hn] at h;cases h
   replace h:=cU hk h;refine vr 1 rfl fun hv=>?_;refine ab (mq ?_);refine ja (ov rfl U3 SO) ?_;refine jb (A9 rfl) ?_;refine bN (Δ:=[_,_]) (F:=_) (fun _ _ _=>ay rfl _) rfl rfl (ao [.tmp 10,.tmp 33] rfl rfl MY rfl (xp (b:=b) (p:=NN b q.2) (v:=Qs q.2 v) (l:=q.2) (r:=lm c) (Nc b q.2) hv hk.1 hk.2.1 hk.2.2)) ⟨rfl,rfl,trivial⟩ fun v2=>?_;refine ar (aP (tn (ab ?_)));obtain⟨z3,ez3,h⟩:=aa h;refine jb (bm rfl ez3) ?_;refine mq (nl ?_);exact iR (v2,(z3,q.2++[lm c])) h (SE.fin [0,1,2,3] ⟨rfl,rfl,rfl,rfl,rfl,rfl,rfl,rfl,trivial⟩ (by simp only [H2,HZ];rfl))
  replace h:=bT (m4 hb) h;refine dD (aQ (aQ (bR (tn ?_))));replace h:(if bU (y.2.length+1) then(ck (y.1+1)).bind fun z=>jr k a1 n (z,y.2++[qf q.2]) else none).bind _=some r:=h
  have hk:bU (y.2.length+1):=by
   apply Classical.byContradiction;intro hn;rw [if_neg hn] at h;cases h
  replace h:=cU hk h;refine ab (mq ?_);refine bN (Δ:=[_,_]) (F:=_) (fun _ _ _=>ay rfl _) rfl rfl (ao [.tmp 10] rfl rfl HI rfl (wc (b:=b) (l:=q.2) (fun hn=>by rw [hn];rfl))) ⟨rfl,trivial⟩ fun _=>?_;refine ja (bC (t:=.str) [(.tmp 37,.eq (.string (qf q.2)))] [qf q.2] rfl rfl K2 (.cons rfl .str .nil) rfl rfl) ?_;refine eC rfl rfl rfl (bZ rfl rfl K2 (by simpa using hk)) ⟨rfl,rfl,trivial⟩ fun v'=>?_;refine aq (ar (aP (tn (ab ?_))));obtain⟨z3,ez3,h⟩:=aa h;refine jb (bm rfl ez3) ?_;refine mq (nl ?_);exact jz (v',(z3,y.2++[qf q.2])) h [0,1]
 replace h:=bT (m4 hb) h
 refine dD ?_
 refine aQ ?_
 refine aQ ?_
 refine bR ?_
 refine tn ?_
 replace h:((tN k y.2 ⟨#[47]⟩).bind fun r=>some (.string r,0)).bind some=some r:=h
 obtain⟨r1,j,h⟩:=aa h
 cases h
 have cj:=AO k y.2 _ r1 j
 refine sr ?_
 refine cO (gZ [7] ⟨rfl,trivial⟩) ?_
 refine mq ?_
 refine jb (ao [.tmp 41,.const (.string ⟨#[47]⟩)] rfl rfl MX rfl cj) ?_
 refine aq ?_
 refine cq ?_
 refine nt ?_
 refine aC ?_
 exact aL () [_,_] 1 ⟨rfl,rfl,trivial⟩ rfl
def hP(k:Nat)(a0:be)(a1:(List (List (List Int)))):Nat→((List (List Int))×Int×Bool×Int)→Option ((List (List Int))×Int×Bool)
 |0,_=>none
 |n+1,y5=>
  if y5.2.2.2 < (a1.length:Int) then((((a8 a1 y5.2.2.2).bind fun x9=>
  (cY k a0 x9).bind fun c=>
  ((if¬(y5.2.2.1=true) then(some true) else(some (decide (c < y5.2.1)))):Option (Bool)).bind fun h=>
  if h=true then(some (x9,c,true)) else(some (y5.1,y5.2.1,y5.2.2.1))):Option ((List (List Int))×Int×Bool)).bind fun x7=>
  (ck (y5.2.2.2+1)).bind fun e=>
  hP k a0 a1 n (x7.1,x7.2.1,x7.2.2,e)) else(some (y5.1,y5.2.1,y5.2.2.1))
def lr(k:Nat)(a0:be)(a1:(List (List (List Int)))):Option ((List (List Int))×Int×Bool):=
 ((hP k a0 a1 k ([[0,0,0,0,0],[0,0,0,0,0],[0,0,0,0,0]],0,false,0)):Option ((List (List Int))×Int×Bool)).bind fun x3=>
 some (x3.1,x3.2.1,x3.2.2)
theorem qS(k:Nat)(a0:be)(z_a0:Nat)(a1:(List (List (List Int))))(r:(List (List Int))×Int×Bool)(h:lr k a0 a1=some r):
 dy (iQ Tryz.prog) 55 [.fn 48 (t5 [.at au (a0,(.map (some z_a0)))]),.rep (.slice (.arr 3 (.arr 5 (.int .i64)))) a1] [.inv z_a0 (bJ k a0)] (fun _:Unit=>(bv [.rep (.arr 3 (.arr 5 (.int .i64))) r.1,I r.2.1,.eq (.bool r.2.2)],[.inv z_a0 (bJ k a0)])):=by
 unfold lr at h
 replace h:=bg h
 refine dy.of 35 Tryz.func55 rfl Tryz.ntmps55 rfl fun S w0=>?_
 refine sr ?_
 refine aE rfl rfl rfl (aZ rfl rY sZ) trivial fun b1=>?_
 refine cq ?_
 refine cq ?_
 refine nt ?_
 refine sr ?_
 refine aE rfl rfl rfl (aZ rfl rY sZ) trivial fun b2=>?_
 refine nt ?_
 refine sr ?_
 refine cq ?_
 refine cq ?_
 refine nt ?_
 refine aX (Z:=Unit) (α:=(List (List Int))×Int×Bool) (fun z4 x3=>[(4,Pt b1),(7,Pt b2),(8,I x3.2.1),(9,.eq (.bool x3.2.2))]) (fun z4 x3=>[.obj b1 85 (.rep (.arr 3 (.arr 5 (.int .i64))) [[0,0,0,0,0],[0,0,0,0,0],[0,0,0,0,0]]),.obj b2 85 (.rep (.arr 3 (.arr 5 (.int .i64))) x3.1),.inv z_a0 (bJ k a0)]) h (fun K h=>?_) (fun z4 x3 h=>?_)
 ·
  refine sr (mq ?_);refine ol Qd ?_;refine eT rfl ?_;refine nt (an (aN (fun z6 y5=>[(0,.fn 48 (t5 [.at au (a0,(.map (some z_a0)))])),(4,Pt b1),(7,Pt b2),(8,I y5.2.1),(9,.eq (.bool y5.2.2.1)),(13,.rep (.slice (.arr 3 (.arr 5 (.int .i64)))) a1),(14,I (a1.length:Int)),(15,I y5.2.2.2)]) (fun z6 y5=>[.obj b1 85 (.rep (.arr 3 (.arr 5 (.int .i64))) [[0,0,0,0,0],[0,0,0,0,0],[0,0,0,0,0]]),.obj b2 85 (.rep (.arr 3 (.arr 5 (.int .i64))) y5.1),.inv z_a0 (bJ k a0)]) (hP k a0 a1) k () ([[0,0,0,0,0],[0,0,0,0,0],[0,0,0,0,0]],0,false,0) (fun _=>rfl) h (SE.fin [1,0,2] ⟨rfl,rfl,rfl,rfl,rfl,rfl,rfl,rfl,trivial⟩ rfl) (fun n z6 y5 h=>?_)));unfold hP at h;refine sr (jb (bG rfl) ?_);refine nt (ah (ci h (fun h=>?_) (fun h=>?_)))
  ·refine sk (aX (Z:=Unit) (α:=(List (List Int))×Int×Bool) (fun z8 x7=>[(0,.fn 48 (t5 [.at au (a0,(.map (some z_a0)))])),(4,Pt b1),(7,Pt b2),(8,I x7.2.1),(9,.eq (.bool x7.2.2)),(13,.rep (.slice (.arr 3 (.arr 5 (.int .i64)))) a1),(14,I (a1.length:Int)),(15,I y5.2.2.2)]) (fun z8 x7=>[.obj b1 85 (.rep (.arr 3 (.arr 5 (.int .i64))) [[0,0,0,0,0],[0,0,0,0,0],[0,0,0,0,0]]),.obj b2 85 (.rep (.arr 3 (.arr 5 (.int .i64))) x7.1),.inv z_a0 (bJ k a0)]) h (fun K h=>?_) (fun z8 x7 h=>?_))
   ·refine an (sr ?_);obtain⟨x9,D,h⟩:=aa h;refine jb (aM (t:=(.arr 3 (.arr 5 (.int .i64)))) rfl Qd fO D) ?_;refine ja (ap (t:=(.arr 3 (.arr 5 (.int .i64)))) rfl fO rfl) ?_;refine aE rfl rfl rfl (aZ rfl rY sZ) trivial fun x=>?_;refine aY rfl rfl (aR rfl fO rfl rfl rfl) ⟨rfl,rfl,trivial⟩ ?_;refine nt (sr (mq ?_));refine lo fO ?_;obtain⟨c,u,h⟩:=aa h;refine fr 3 ?_;refine kb (Gz (fs:=[.at au (a0,(.map (some z_a0)))]) (ags:=[.rep (.arr 3 (.arr 5 (.int .i64))) x9]) [.tmp 20] rfl rfl PD rfl (jq k a0 z_a0 x9 c u)) ?_;refine aq (nt ?_);refine aX (Z:=Unit) (α:=Bool) (fun j e=>[(0,.fn 48 (t5 [.at au (a0,(.map (some z_a0)))])),(4,Pt b1),(7,Pt b2),(8,I y5.2.1),(9,.eq (.bool y5.2.2.1)),(11,Pt x),(12,I c),(13,.rep (.slice (.arr 3 (.arr 5 (.int .i64)))) a1),(14,I (a1.length:Int)),(15,I y5.2.2.2),(28,.eq (.bool e))]) (fun j e=>[.obj b1 85 (.rep (.arr 3 (.arr 5 (.int .i64))) [[0,0,0,0,0],[0,0,0,0,0],[0,0,0,0,0]]),.obj b2 85 (.rep (.arr 3 (.arr 5 (.int .i64))) y5.1),.obj x 85 (.rep (.arr 3 (.arr 5 (.int .i64))) x9),.inv z_a0 (bJ k a0)]) h (fun K h=>?_) (fun j e h=>?_)
    ·refine ab (mq ?_);refine ja (eY rfl) ?_;refine mq ?_;refine cm (s:=24) rfl (fun hb=>?_) (fun hb=>?_)
     ·replace h:=cU (Ec hb) h;iterate 3 refine gn ?_
      refine pt (nl ?_);exact jz ((),true) h [2,3,1,0]
     ·replace h:=bT (wn hb) h;refine gm ?_;refine gm ?_;refine gb (bG rfl) ?_;refine pf (nl ?_);exact jz ((),decide (c < y5.2.1)) h [2,3,1,0]
    ·refine cv h (fun h=>?_) (fun h=>?_)
     ·refine ab (fr 2 ?_);refine lo fO ?_;refine mq ?_;refine fr 2 ?_;refine aY rfl rfl (aR rfl fO rfl rfl rfl) ⟨rfl,rfl,trivial⟩ ?_;refine aq ?_;refine cq (ar (bn ?_));exact jz ((),(x9,c,true)) h [2,0,3]
     ·refine ba (bn ?_);exact jz ((),(y5.1,y5.2.1,y5.2.2.1)) h [0,1,3]
   ·refine ab ?_;obtain⟨y,l,h⟩:=aa h;refine jb (bm rfl l) ?_;refine mq (nl ?_);exact jz ((),(x7.1,x7.2.1,x7.2.2,y)) h [0,1,2]
  ·refine xa ?_;exact jz ((),(y5.1,y5.2.1,y5.2.2.1)) h [0,1,2]
 ·
  refine sr (fr 1 ?_);refine lo fO ?_;iterate 2 refine mq ?_
  refine fr 1 ?_;refine aY rfl rfl (aR rfl fO rfl rfl rfl) ⟨rfl,rfl,trivial⟩ ?_;refine aq ?_;refine aq (nt (aC ?_));refine bF (SE.fin (Γ':=[(4,_),(5,_),(6,_)]) [2,0,1] ⟨rfl,rfl,rfl,trivial⟩ rfl) ?_;cases h;exact aL () [.rep (.arr 3 (.arr 5 (.int .i64))) x3.1,_,_] 1 ⟨⟨_,_,_,_,_,rfl,(.tail _ (.head _)),fO,(vL),rfl⟩,rfl,rfl,trivial⟩ rfl
def t7(k:Nat)(a0:be):Option ((List (List Int))×Int×Int):=
 (kZ k a0).bind fun r2=>
 if¬(r2=0) then(some ([],0,r2)) else((jN k (a0,())).bind fun r5=>
 (lr k a0 r5).bind fun r6=>
 if¬(r6.2.2=true) then(some ([],0,11)) else((dR k (a0,()) r6.1).bind fun r8=>
 some (r8,r6.2.1,0)))
theorem yM(k:Nat)(a0:be)(r:(List (List Int))×Int×Int)(h:t7 k a0=some r):
 dy (iQ Tryz.prog) 23 [.rep aw a0] [] (fun _:Unit=>(bv [.rep (.slice (.slice (.int .i64))) r.1,I r.2.1,I r.2.2],[])):=by
 unfold t7 at h
 replace h:=bg h
 refine dy.of 33 Tryz.func23 rfl Tryz.ntmps23 rfl fun S w0=>?_
 refine sr ?_
 refine bx fun b1=>?_
 refine cq ?_
 refine cq ?_
 refine cq ?_
 refine nt ?_
 refine ah ?_
 refine sr ?_
 refine lo fJ ?_
 obtain⟨r2,l,h⟩:=aa h
 have n:=qU k a0 r2 l
 refine ja (ao [.tmp 10] rfl rfl PC rfl n) ?_
 refine aq ?_
 refine nt ?_
 refine sr ?_
 refine mq ?_
 refine jb (jJ rfl) ?_
 refine nt ?_
 refine cn h (fun h=>?_) (fun h=>?_)
 ·
  refine sr (mq ?_);refine cq ?_;refine cq ?_;refine aq (nt (rx ?_));refine bF (lK (t:=(.slice (.slice (.int .i64)))) (x:=[]) 2 rfl .nil rfl rfl) ?_;cases h;exact aL () [_,_,_] 0 ⟨rfl,rfl,rfl,trivial⟩ rfl
 ·
  refine sk (sr (lo fJ ?_));refine aE rfl rfl rfl (ao [.tmp 15] rfl rfl HK rfl (fU a0)) ⟨rfl,trivial⟩ fun z3=>?_;refine cO (jX (bJ k a0) li) ?_;refine aq (nt (sr ?_));refine mq ?_;refine ja (I5 [.tmp 18] [.at au (a0,(.map (some z3)))] rfl rfl) ?_;refine mq ?_;refine aE rfl rfl rfl (cN (N:=[(.tmp 20,.at au (a0,(.map (some z3))))]) (ao [.tmp 20] rfl rfl Rw rfl (og (a0,()))) fun _ _ _ hn=>⟨oS hn.1,trivial⟩) ⟨rfl,trivial⟩ fun b4=>?_;obtain⟨r5,j,h⟩:=aa h;refine ka (ao [.tmp 21] rfl rfl Rx rfl (pM k (a0,()) b4 r5 j)) ?_;obtain⟨r6,e,h⟩:=aa h;refine fr 1 ?_;refine kb (ff [.tmp 19,.tmp 22] rfl rfl Ry rfl (qS k a0 z3 r5 r6 e)) ?_;refine mq ?_;refine xr ?_;refine xr ?_;refine xr ?_;refine aE rfl rfl rfl (aZ rfl rY sZ) trivial fun b7=>?_;refine aY rfl rfl (aR rfl fO rfl rfl rfl) ⟨rfl,rfl,trivial⟩ ?_;refine aq ?_;refine aq (nt (ah (sr ?_)));refine mq ?_;refine ja (eY rfl) ?_;refine nt (cw h (fun h=>?_) (fun h=>?_))
  ·refine sr (cq ?_);refine cq ?_;refine cq (nt (rx ?_));refine bF (lK (t:=(.slice (.slice (.int .i64)))) (x:=[]) 2 rfl .nil rfl rfl) ?_;cases h;exact aL () [_,_,_] 0 ⟨rfl,rfl,rfl,trivial⟩ rfl
  ·refine sk (sr (mq ?_));refine lo fO ?_;obtain⟨r8,c,h⟩:=aa h;refine aE rfl rfl rfl (cN (N:=[(.tmp 29,.at au (a0,(.map (some z3)))),(.tmp 30,.rep (.arr 3 (.arr 5 (.int .i64))) r6.1)]) (ao [.tmp 29,.tmp 30] rfl rfl JZ rfl (hC k (a0,()) r6.1 r8 c)) fun _ _ _ hn=>⟨(oS hn.1),hn.2.1,trivial⟩) ⟨rfl,rfl,trivial⟩ fun v9=>?_;refine mq ?_;refine aq ?_;refine aq ?_;refine cq (nt (aC ?_));refine bF (gZ [2,31] ⟨rfl,rfl,trivial⟩) ?_;cases h;exact aL () [_,_,_] 0 ⟨rfl,rfl,rfl,trivial⟩ rfl
set_option maxRecDepth 20000
set_option maxHeartbeats 4000000
@[reducible] def eW:Ty:=.agg (.pair (.int .i64) (.int .i64))
def O5(x:Int×Int):Value:=.agg #[.int .i64 x.1,.int .i64 x.2]
theorem JU{S:FS}{w:World}{x:Int×Int}:(A.rep eW x).holds S w (O5 x):=⟨[_,_],⟨[_],[_],rfl,rfl,rfl⟩,rfl⟩
theorem HE{S:FS}{w:World}{x:Int×Int}{v:Value}(h:(A.rep eW x).holds S w v):(A.eq (O5 x)).holds S w v:=by
 obtain⟨cs,⟨c1,c2,rfl,h1,h2⟩,rfl⟩:=h;have h1:c1=_:=h1;have h2:c2=_:=h2;subst h1 h2;rfl
theorem gq:dC Tryz.prog 114 2 true:=⟨fun w=>by kernel_rfl,fun w=>by kernel_rfl⟩
theorem nK:dC Tryz.prog 28 1 false:=⟨fun w=>by kernel_rfl,fun w=>by kernel_rfl⟩
theorem Cc:dC Tryz.prog 22 1 false:=⟨fun w=>by kernel_rfl,fun w=>by kernel_rfl⟩
theorem tC:dC Tryz.prog 3 1 false:=⟨fun w=>by kernel_rfl,fun w=>by kernel_rfl⟩
theorem FC:dC Tryz.prog 80 1 false:=⟨fun w=>by kernel_rfl,fun w=>by kernel_rfl⟩
theorem MI:aU Tryz.prog 114 0 0:=aU.of (by kernel_rfl)
theorem MH:aU Tryz.prog 114 1 1:=aU.of (by kernel_rfl)
theorem O4:aU Tryz.prog 111 0 0:=aU.of (by kernel_rfl)
theorem tH:aU Tryz.prog 111 1 1:=aU.of (by kernel_rfl)
theorem yb:ag Tryz.prog 95:=ag.of Tryz.func95 (by kernel_rfl) (by kernel_rfl)
def jj(x:Int×Int)(m:Int):Nat→Int×List Int→Option (List Int)
 |0,_=>none
 |n+1,q=>if q.1 < m then((a8 q.2 q.1).bind fun c=>if c=x.1 then(ck (q.1+1)).bind fun w=>jj x m n (w,q.2.set q.1.toNat x.2) else if c=x.2 then(ck (q.1+1)).bind fun w=>jj x m n (w,q.2.set q.1.toNat x.1) else(ck (q.1+1)).bind fun w=>jj x m n (w,q.2)) else some q.2
def kd(k:Nat)(x:Int×Int)(m:Int):Nat→Int×List (List Int)→Option (List (List Int))
 |0,_=>none
 |n+1,q=>if q.1 < m then((a8 q.2 q.1).bind fun l=>(jj x (l.length:Int) k (0,l)).bind fun l2=>(ck (q.1+1)).bind fun w=>kd k x m n (w,q.2.set q.1.toNat l2)) else some q.2
def mF(k:Nat)(x:Int×Int)(ls:List (List Int)):Option (List (List Int)):=kd k x (ls.length:Int) k (0,ls)
theorem lV(k:Nat)(x:Int×Int)(ls r:List (List Int))(y:Nat)(d0:au.den)(z:Value×(Nat→Value))(h:mF k x ls=some r):
 cd Tryz.prog 95 [.eq (bP y),.rep eW x] ([.obj y 111 (.agg (.pair (.at au d0) (.eq z.1)))]++ge 22 z ls) (fun _:Unit=>(bv [],[.obj y 111 (.agg (.pair (.at au d0) (.eq z.1)))]++ge 22 z r)):=by
 unfold mF at h
 replace h:=bg h
 refine cd.of 45 Tryz.func95 rfl Tryz.ntmps95 rfl fun S w0=>?_
 refine sr ?_
 refine bx fun b3=>?_
 refine nt ?_
 refine sr ?_
 refine mq ?_
 refine ja (aW rfl) ?_
 refine fl tH ?_
 refine fr 1 ?_
 refine lo nK ?_
 refine cO (Dc (pre:=[.obj y 111 (.agg (.pair (.at au d0) (.eq z.1))),.obj b3 114 (.rep eW x)])) ?_
 refine ka (dx rfl rfl nX) ?_
 rw [gj]
 refine cO (EO (pre:=[.obj y 111 (.agg (.pair (.at au d0) (.eq z.1))),.obj b3 114 (.rep eW x)])) ?_
 refine eT rfl ?_
 refine nt ?_
 refine an ?_
 refine aN (Z:=Unit) (α:=Int×List (List Int)) (fun _ q=>[(3,.eq (bP b3)),(11,.eq z.1),(12,I (ls.length:Int)),(13,I q.1)]) (fun _ q=>[.obj y 111 (.agg (.pair (.at au d0) (.eq z.1))),.obj b3 114 (.rep eW x)]++ge 22 z q.2) (kd k x (ls.length:Int)) k () (0,ls) (fun _=>rfl) h (bh [.obj y 111 (.agg (.pair (.at au d0) (.eq z.1))),.obj b3 114 (.rep eW x)] (ge 22 z ls) [0,1] ⟨rfl,rfl,rfl,rfl,trivial⟩ rfl) (fun n u q h=>?_)
 unfold kd at h
 refine sr ?_
 refine jb (bG rfl) ?_
 refine nt ?_
 refine ah ?_
 refine bK rfl (fun hb=>?_) (fun hb=>?_)
 ·
  replace h:=cU (nz hb) h;refine sk (ah (an ?_));obtain⟨l,el,h⟩:=aa h;refine eG (xc (pre:=[.obj y 111 (.agg (.pair (.at au d0) (.eq z.1))),.obj b3 114 (.rep eW x)]) (tU el).2) ?_;refine sr (fr 1 ?_);refine kb (bb (t:=.val) rfl nX Cc (pi el)) ?_;refine ka (fZ (i:=q.1.toNat) (off:=0) rfl Cc (fun _=>rfl) rfl (bS (pi el)).2.2 rfl) ?_;refine aq (nt ?_);rw [Option.bind_assoc] at h;refine sr (mq ?_);refine fr 1 ?_;refine ka (dx rfl rfl eS) ?_;refine eT rfl ?_;refine nt (an (aN (Z:=Unit) (α:=Int×List Int) (fun _ q2=>[(3,.eq (bP b3)),(5,.eq (z.2 q.1.toNat)),(11,.eq z.1),(12,I (ls.length:Int)),(13,I q.1),(17,.eq (z.2 q.1.toNat)),(18,I (l.length:Int)),(19,I q2.1)]) (fun _ q2=>[.sl (z.2 q.1.toNat) 3 (.int .i64) (q2.2),.sl z.1 22 .val (fj z.2 0 q.2),.obj y 111 (.agg (.pair (.at au d0) (.eq z.1))),.obj b3 114 (.rep eW x)]++((k9 z.2 0 q.2).eraseIdx q.1.toNat)) (jj x (l.length:Int)) k () (0,l) (fun _=>rfl) h (bh [.sl (z.2 q.1.toNat) 3 (.int .i64) (l),.sl z.1 22 .val (fj z.2 0 q.2),.obj y 111 (.agg (.pair (.at au d0) (.eq z.1))),.obj b3 114 (.rep eW x)] ((k9 z.2 0 q.2).eraseIdx q.1.toNat) [0,1,2,3] ⟨rfl,rfl,rfl,rfl,rfl,rfl,rfl,rfl,trivial⟩ rfl) (fun n2 u2 q2 h=>?_)));unfold jj at h;refine sr (jb (bG rfl) ?_);refine nt (ah (bK rfl (fun hb=>?_) (fun hb=>?_)))
  ·replace h:=cU (nz hb) h;refine sk (ah (an ?_));obtain⟨c,ec,h⟩:=aa h;refine sr (mq ?_);refine kb (bb (t:=.int .i64) rfl eS tC ec) ?_;refine ka (fZ (i:=q2.1.toNat) (off:=0) rfl tC (fun _=>rfl) rfl (bS ec).2.2 rfl) ?_;refine aq ?_;refine aq (nt (sr ?_));refine mq (nt (an (sr ?_)));refine fl MI ?_;refine fr 3 ?_;refine lo tC ?_;refine jb (eE rfl) ?_;refine aq (nt ?_);refine ci h (fun h=>?_) (fun h=>?_)
   ·refine ab ?_;iterate 2 refine mq ?_
    refine fl MH ?_;refine lo tC ?_;refine fr 1 ?_;refine kb (bb (t:=.int .i64) rfl eS tC ec) ?_;refine aY rfl rfl (dU (i:=q2.1.toNat) rfl tC rfl (jE ec) rfl .int rfl) ⟨rfl,rfl,trivial⟩ ?_;refine ar (aP (aP (tn (ab ?_))));obtain⟨w,ew,h⟩:=aa h;refine jb (bm rfl ew) ?_;refine mq (nl ?_);exact iR ((),(w,q2.2.set q2.1.toNat x.2)) h (bh [.sl (z.2 q.1.toNat) 3 (.int .i64) (q2.2.set q2.1.toNat x.2),.obj b3 114 (.rep eW x),.sl z.1 22 .val (fj z.2 0 q.2),.obj y 111 (.agg (.pair (.at au d0) (.eq z.1)))] ((k9 z.2 0 q.2).eraseIdx q.1.toNat) [0,2,3,1] ⟨rfl,rfl,rfl,rfl,rfl,rfl,rfl,rfl,trivial⟩ rfl)
   ·refine sr (fl MH ?_);refine lo tC ?_;refine jb (eE rfl) ?_;refine aq (nt ?_);refine ci h (fun h=>?_) (fun h=>?_)
    ·refine ab ?_;iterate 2 refine mq ?_
     refine fl MI ?_;refine lo tC ?_;refine fr 1 ?_;refine kb (bb (t:=.int .i64) rfl eS tC ec) ?_;refine aY rfl rfl (dU (i:=q2.1.toNat) rfl tC rfl (jE ec) rfl .int rfl) ⟨rfl,rfl,trivial⟩ ?_;refine ar (aP (aP (tn (ab ?_))));obtain⟨w,ew,h⟩:=aa h;refine jb (bm rfl ew) ?_;refine mq (nl ?_);exact iR ((),(w,q2.2.set q2.1.toNat x.1)) h (bh [.sl (z.2 q.1.toNat) 3 (.int .i64) (q2.2.set q2.1.toNat x.1),.obj b3 114 (.rep eW x),.sl z.1 22 .val (fj z.2 0 q.2),.obj y 111 (.agg (.pair (.at au d0) (.eq z.1)))] ((k9 z.2 0 q.2).eraseIdx q.1.toNat) [0,2,3,1] ⟨rfl,rfl,rfl,rfl,rfl,rfl,rfl,rfl,trivial⟩ rfl)
    ·refine ba (aP (aP (tn (ab ?_))));obtain⟨w,ew,h⟩:=aa h;refine jb (bm rfl ew) ?_;refine mq (nl ?_);exact iR ((),(w,q2.2)) h (bh [.obj b3 114 (.rep eW x),.sl (z.2 q.1.toNat) 3 (.int .i64) (q2.2),.sl z.1 22 .val (fj z.2 0 q.2),.obj y 111 (.agg (.pair (.at au d0) (.eq z.1)))] ((k9 z.2 0 q.2).eraseIdx q.1.toNat) [1,2,3,0] ⟨rfl,rfl,rfl,rfl,rfl,rfl,rfl,rfl,trivial⟩ rfl)
  replace h:=bT (m4 hb) h;refine dD (aQ (aQ (bR (aP (tn (eG (Ak (pre:=[.obj y 111 (.agg (.pair (.at au d0) (.eq z.1))),.obj b3 114 (.rep eW x)]) (l':=q2.2) (tU el).2) ?_))))));refine ab ?_;obtain⟨w,ew,h⟩:=aa (X:=ck (q.1+1)) (f:=fun w=>kd k x (ls.length:Int) n (w,q.2.set q.1.toNat q2.2)) (K:=some) (r:=r) (by simpa using h);refine jb (bm rfl ew) ?_;refine mq (nl ?_);exact iR ((),(w,q.2.set q.1.toNat q2.2)) h (bh [.obj y 111 (.agg (.pair (.at au d0) (.eq z.1))),.obj b3 114 (.rep eW x)] (ge 22 z (q.2.set q.1.toNat q2.2)) [0,1] ⟨rfl,rfl,rfl,rfl,trivial⟩ rfl)
 replace h:=bT (m4 hb) h
 refine dD ?_
 refine aQ ?_
 refine aQ ?_
 refine bR ?_
 cases h
 refine iS ?_
 refine bF (bh (Γ':=[]) (pre':=[.obj y 111 (.agg (.pair (.at au d0) (.eq z.1)))]) [.obj y 111 (.agg (.pair (.at au d0) (.eq z.1))),.obj b3 114 (.rep eW x)] (ge 22 z q.2) [0] trivial rfl) ?_
 exact iG () [] trivial rfl
@[reducible] def IP:Ty:=.agg (.pair (.ptr au) (.slice (.slice (.int .i64))))
theorem LE{S:FS}{w:World}{y:Nat}{d0:au.den}{z:Value×(Nat→Value)}{ls:List (List Int)}(h:∀d∈[D.obj y 111 (.agg (.pair (.at au d0) (.eq z.1)))]++ge 22 z ls,d.holds S w∧∀b,d.foot=some b→S b):(A.at IP (d0,ls)).holds S w (bP y):=by
 obtain⟨⟨cs,h1,c1,c2,rfl,g1,rfl,g2⟩,h2⟩:=h _ (List.mem_cons_self ..);have h3:=LZ (fun d hd=>h d (List.mem_cons_of_mem _ hd));refine⟨y,0,_,111,(0,0),rfl,h2 y rfl,h1,c1,[z.1],?_,g1,?_⟩
 ·have l1:=aJ (.ptr au) g1;simp only [Ty.cells] at l1;match c1,l1 with
  |[u],_=>rfl
 ·obtain⟨cs,h4,h5⟩:=h3;have l1:=aJ (.slice (.slice (.int .i64))) h4;simp only [Ty.cells] at l1;match cs,l1 with
  |[u],_=>rw [h5];exact h4
theorem yH{S:FS}{w:World}{a:Act}{Γ:Ga}{y:Nat}{d0:au.den}{z:Value×(Nat→Value)}{ls:List (List Int)}(h:∀d∈[D.obj y 111 (.agg (.pair (.at au d0) (.eq z.1)))]++ge 22 z ls,d.holds S w∧∀b,d.foot=some b→S b)
 (hk:∀s r,lk Γ s=some r→r.holds S w (a.tmps.getD s undef)) (h0:lk Γ 0=some (.eq (bP y))):∀s r,lk [(0,A.at IP (d0,ls))] s=some r→r.holds S w (a.tmps.getD s undef):=fun s r hl=>by
 simp only [lk] at hl
 split at hl
 ·
  rename_i e
  cases hl
  subst e
  have e1:a.tmps.getD 0 undef=bP y:=hk 0 _ h0
  rw [e1]
  exact LE h
 ·
  cases hl
theorem Ll{n:Nat}{r0:A}(h:r0.flat=true):∀s r,lk [(n,r0)] s=some r→r.flat=true:=fun s r hl=>by
 simp only [lk] at hl
 split at hl
 ·
  cases hl;exact h
 ·
  cases hl
theorem MK{d0:D}(h:d0.flat=true):∀d∈[d0],d.flat=true:=fun d hd=>by
 simp only [List.mem_cons,List.not_mem_nil,or_false] at hd
 subst hd;exact h
theorem JS{d0 d1:D}(h:d0.flat=true)(h1:d1.flat=true):∀d∈[d0,d1],d.flat=true:=fun d hd=>by
 simp only [List.mem_cons,List.not_mem_nil,or_false] at hd
 rcases hd with rfl |rfl <;> assumption
theorem yI{y:Nat}{x:Int×Int}(S:FS)(w:World):fP S w [.eq (bP y),.rep eW x] [bP y,O5 x]:=⟨_,_,rfl,rfl,_,_,rfl,JU,rfl⟩
theorem MG:aU Tryz.prog 146 0 0:=aU.of (by kernel_rfl)
theorem FB:dC Tryz.prog 27 3 true:=⟨fun w=>by kernel_rfl,fun w=>by kernel_rfl⟩
theorem O9:ag Tryz.prog 81:=ag.of Tryz.func81 (by kernel_rfl) (by kernel_rfl)
theorem Pe:ag Tryz.prog 47:=ag.of Tryz.func47 (by kernel_rfl) (by kernel_rfl)
theorem MO:ag Tryz.prog 48:=ag.of Tryz.func48 (by kernel_rfl) (by kernel_rfl)
def mn(k:Nat)(t:be)(x:Int×Int)(ls:List (List Int)):Option (Bool×List (List Int)):=
 (mF k x ls).bind fun l1=>(kY k t l1).bind fun e=>if Jt e=true then(mF k x l1).bind fun l2=>some (!uP e,l2) else none
theorem sd(k:Nat)(t:be)(x:Int×Int)(ls:List (List Int))(r:Bool×List (List Int))(y m:Nat)(z:Value×(Nat→Value))(h:mn k t x ls=some r):
 cd Tryz.prog 60 [.eq (bP y),.rep eW x] ([.obj y 111 (.agg (.pair (.at au (t,.map (some m))) (.eq z.1)))]++ge 22 z ls) (fun _:Unit=>(bv [.eq (.bool r.1)],[.obj y 111 (.agg (.pair (.at au (t,.map (some m))) (.eq z.1)))]++ge 22 z r.2)):=by
 unfold mn at h
 replace h:=bg h
 obtain⟨l1,e1,h⟩:=aa h
 obtain⟨e,e2,h⟩:=aa h
 have he:Jt e=true:=by
  apply Classical.byContradiction;intro hn;rw [if_neg hn] at h;cases h
 replace h:=cU he h
 obtain⟨l2,e3,h⟩:=aa h
 cases h
 have cv:=qQ k t l1 e e2
 refine KU 23 Tryz.func60 rfl Tryz.ntmps60 rfl fun S w0=>?_
 refine sr ?_
 refine bx fun b3=>?_
 refine cq ?_
 refine nt ?_
 refine sr ?_
 refine mq ?_
 refine ka (ak rfl gq (yv) rfl) ?_
 refine cO (gK (Δ':=([.obj y 111 (.agg (.pair (.at au (t,.map (some m))) (.eq z.1)))]++ge 22 z ls)++[.obj b3 114 (.rep eW x)]) (List.perm_append_comm (l₁:=([.obj b3 114 (.rep eW x)]:List D)))) ?_
 refine bN (Δ:=_++_) (F:=[_]) (fun _ _ _=>ay rfl _) rfl rfl (ao [.tmp 5,.tmp 6] rfl rfl yb rfl (lV k x ls l1 y (t,.map (some m)) z e1)) ⟨rfl,rfl,trivial⟩ fun _=>?_
 refine nt ?_
 refine sr ?_
 refine mq ?_
 refine cO (gK (Δ':=[.obj b3 114 (.rep eW x)]++([.obj y 111 (.agg (.pair (.at au (t,.map (some m))) (.eq z.1)))]++ge 22 z l1)) List.perm_append_comm) ?_
 refine ka (ak rfl gq (yv) rfl) ?_
 refine cO (rT 9 rfl fun _ _ _ h=>HE h) ?_
 refine xf (vs:=[bP y,O5 x]) [.tmp 8,.tmp 9] rfl rfl rfl rfl rfl ⟨rfl,rfl,trivial⟩ ?_
 refine ar ?_
 refine ae ?_
 refine bF (gK (Δ':=([.obj y 111 (.agg (.pair (.at au (t,.map (some m))) (.eq z.1)))]++ge 22 z l1)++[.obj b3 114 (.rep eW x)]) (List.perm_append_comm (l₁:=([.obj b3 114 (.rep eW x)]:List D)))) ?_
 show JC _ _ _ _ _
 refine ah ?_
 refine Dl (L:=_++_) (Δ:=[_]) (Γ1:=[(0,.at IP ((t,.map (some m)),l1))]) (Z:=Unit) (fun _=>[(4,.eq (.bool (!uP e)))]) (fun _=>[.obj b3 114 (.rep eW x)]) (fun S w a hl hk=>yH hl hk rfl) (fun _=>⟨Ll rfl,MK rfl⟩) (fun S w=>?_) (fun _=>?_)
 ·
  refine cz ?_;refine dm ?_;refine da (dE rfl) ?_;refine da (aI 1 false rfl O4 rfl) ?_;refine da (ap (t:=.ptr au) rfl FC rfl) ?_;refine da (dE rfl) ?_;refine da (aI 3 true rfl MG rfl) ?_;refine da (ap (t:=aw) rfl FB rfl) ?_;refine dm ?_;refine da (dE rfl) ?_;refine da (aI 1 false rfl tH rfl) ?_;refine da (ap (t:=.slice (.slice (.int .i64))) rfl nK rfl) ?_;refine td (by kernel_rfl) qz ?_;refine jb (ao [.tmp 16,.tmp 20] rfl rfl O9 rfl cv) ?_;refine jb (rj rfl SL he) ?_;refine aq (ar ?_);exact fun a w st=>⟨rfl,(),(SE.fin (Γ':=[(4,.eq (.bool (!uP e)))]) [0] ⟨rfl,trivial⟩ rfl) a w st⟩
 ·
  refine tn (aC (Dj (Δ1:=[.obj y 111 (.agg (.pair (.at au (t,.map (some m))) (.eq z.1)))]++ge 22 z l1) (F:=[.obj b3 114 (.rep eW x)]) yb (lV k x l1 l2 y (t,.map (some m)) z e3 _) yI (fun _=>?_)));refine bF (gK (Δ':=[.obj b3 114 (.rep eW x)]++([.obj y 111 (.agg (.pair (.at au (t,.map (some m))) (.eq z.1)))]++ge 22 z l2)) List.perm_append_comm) ?_;refine bF (bh (pre':=[.obj y 111 (.agg (.pair (.at au (t,.map (some m))) (.eq z.1)))]) (Γ':=[(4,.eq (.bool (!uP e)))]) [.obj b3 114 (.rep eW x),.obj y 111 (.agg (.pair (.at au (t,.map (some m))) (.eq z.1)))] (ge 22 z l2) [1] ⟨rfl,trivial⟩ rfl) ?_;exact iG () [_] ⟨rfl,trivial⟩ rfl
def mo(k:Nat)(t:be)(x:Int×Int)(ls:List (List Int)):Option (Int×List (List Int)):=
 (mF k x ls).bind fun l1=>(dz k l1).bind fun ld=>(cY k t ld).bind fun n=>(mF k x l1).bind fun l2=>some (n,l2)
theorem sf(k:Nat)(t:be)(x:Int×Int)(ls:List (List Int))(r:Int×List (List Int))(y m:Nat)(z:Value×(Nat→Value))(h:mo k t x ls=some r):
 dy (iQ Tryz.prog) 62 [.eq (bP y),.rep eW x] ([.inv m (bJ k t)]++([.obj y 111 (.agg (.pair (.at au (t,.map (some m))) (.eq z.1)))]++ge 22 z ls)) (fun _:Unit=>(bv [I r.1],[.inv m (bJ k t)]++([.obj y 111 (.agg (.pair (.at au (t,.map (some m))) (.eq z.1)))]++ge 22 z r.2))):=by
 unfold mo at h
 replace h:=bg h
 obtain⟨l1,e1,h⟩:=aa h
 obtain⟨ld,e2,h⟩:=aa h
 obtain⟨n,e2',h⟩:=aa h
 obtain⟨l2,e3,h⟩:=aa h
 cases h
 have cv:=dT k l1 ld e2
 have cl:=jq k t m ld n e2'
 refine Au 20 Tryz.func62 rfl Tryz.ntmps62 rfl fun S w0=>?_
 refine sr ?_
 refine bx fun b3=>?_
 refine cq ?_
 refine nt ?_
 refine sr ?_
 refine mq ?_
 refine ka (ak rfl gq (yv) rfl) ?_
 refine cO (gK (Δ':=([.obj y 111 (.agg (.pair (.at au (t,.map (some m))) (.eq z.1)))]++ge 22 z ls)++[.obj b3 114 (.rep eW x),.inv m (bJ k t)]) (List.perm_append_comm (l₁:=([.obj b3 114 (.rep eW x),.inv m (bJ k t)]:List D)))) ?_
 refine bN (Δ:=_++_) (F:=[_,_]) (fun _ _ _=>ay rfl _) rfl rfl (ao [.tmp 5,.tmp 6] rfl rfl yb rfl (lV k x ls l1 y (t,.map (some m)) z e1)) ⟨rfl,rfl,trivial⟩ fun _=>?_
 refine nt ?_
 refine sr ?_
 refine mq ?_
 refine cO (gK (Δ':=[.obj b3 114 (.rep eW x),.inv m (bJ k t)]++([.obj y 111 (.agg (.pair (.at au (t,.map (some m))) (.eq z.1)))]++ge 22 z l1)) List.perm_append_comm) ?_
 refine ka (ak rfl gq (yv) rfl) ?_
 refine cO (rT 9 rfl fun _ _ _ h=>HE h) ?_
 refine xf (vs:=[bP y,O5 x]) [.tmp 8,.tmp 9] rfl rfl rfl rfl rfl ⟨rfl,rfl,trivial⟩ ?_
 refine ar ?_
 refine ae ?_
 refine bF (gK (Δ':=([.obj y 111 (.agg (.pair (.at au (t,.map (some m))) (.eq z.1)))]++ge 22 z l1)++[.obj b3 114 (.rep eW x),.inv m (bJ k t)]) (List.perm_append_comm (l₁:=([.obj b3 114 (.rep eW x),.inv m (bJ k t)]:List D)))) ?_
 show JC _ _ _ _ _
 refine ah ?_
 refine Dl (L:=_++_) (Δ:=[_,_]) (Γ1:=[(0,.at IP ((t,.map (some m)),l1))]) (Z:=Unit) (fun _=>[(4,I n)]) (fun _=>[.obj b3 114 (.rep eW x),.inv m (bJ k t)]) (fun S w a hl hk=>yH hl hk rfl) (fun _=>⟨Ll rfl,JS rfl rfl⟩) (fun S w=>?_) (fun _=>?_)
 ·
  refine cz ?_;refine dm ?_;refine da (dE rfl) ?_;refine da (aI 1 false rfl O4 rfl) ?_;refine da (ap (t:=.ptr au) rfl FC rfl) ?_;refine dm ?_;refine da (dE rfl) ?_;refine da (aI 1 false rfl tH rfl) ?_;refine da (ap (t:=.slice (.slice (.int .i64))) rfl nK rfl) ?_;refine da (ao [.tmp 17] rfl rfl Pe rfl cv) ?_;refine td (by kernel_rfl) qz ?_;refine fr 1 ?_;refine kb (ff [.tmp 13,.tmp 18] rfl rfl MO rfl cl) ?_;refine aq (ar ?_);exact fun a w st=>⟨rfl,(),(SE.fin (Γ':=[(4,I n)]) [1,0] ⟨rfl,trivial⟩ rfl) a w st⟩
 ·
  refine tn (aC (Dj (Δ1:=[.obj y 111 (.agg (.pair (.at au (t,.map (some m))) (.eq z.1)))]++ge 22 z l1) (F:=[.obj b3 114 (.rep eW x),.inv m (bJ k t)]) yb (lV k x l1 l2 y (t,.map (some m)) z e3 _) yI (fun _=>?_)));refine bF (gK (Δ':=[.obj b3 114 (.rep eW x),.inv m (bJ k t)]++([.obj y 111 (.agg (.pair (.at au (t,.map (some m))) (.eq z.1)))]++ge 22 z l2)) List.perm_append_comm) ?_;refine bF (bh (pre':=[.inv m (bJ k t),.obj y 111 (.agg (.pair (.at au (t,.map (some m))) (.eq z.1)))]) (Γ':=[(4,I n)]) [.obj b3 114 (.rep eW x),.inv m (bJ k t),.obj y 111 (.agg (.pair (.at au (t,.map (some m))) (.eq z.1)))] (ge 22 z l2) [1,2] ⟨rfl,trivial⟩ rfl) ?_;exact iG () [_] ⟨rfl,trivial⟩ rfl
theorem rX:∀w,(zeroValue 114).run Tryz.prog w= .ok (.agg #[.int .i64 0,.int .i64 0]) w:=fun w=>by kernel_rfl
theorem vi:∀S w,(A.cells S w (.rep eW (0,0)) (Value.cells (.agg #[.int .i64 0,.int .i64 0])).toList):=fun _ _=>⟨[_],[_],rfl,rfl,rfl⟩
theorem MP:ag Tryz.prog 62:=ag.of Tryz.func62 (by kernel_rfl) (by kernel_rfl)
abbrev Ln:=Int×(Int×Int)×Int×Bool×List (List Int)
def gU(k:Nat)(t:be)(xs:List (Int×Int)):Nat→Ln→Option ((Int×Int)×Int×Bool×List (List Int))
 |0,_=>none
 |n+1,q=>if q.1 < (xs.length:Int) then((a8 xs q.1).bind fun x=>(mo k t x q.2.2.2.2).bind fun r=>(ck (q.1+1)).bind fun w=>gU k t xs n (if(!q.2.2.2.1 || decide (r.1 < q.2.2.1))=true then(w,x,r.1,true,r.2) else(w,q.2.1,q.2.2.1,q.2.2.2.1,r.2))) else some q.2
def lp(k:Nat)(t:be)(xs:List (Int×Int))(ls:List (List Int)):Option ((Int×Int)×Int×Bool×List (List Int)):=gU k t xs k (0,(0,0),0,false,ls)
theorem vA(k:Nat)(t:be)(xs:List (Int×Int))(ls:List (List Int))(r:(Int×Int)×Int×Bool×List (List Int))(y m:Nat)(z:Value×(Nat→Value))(h:lp k t xs ls=some r):
 dy (iQ Tryz.prog) 61 [.eq (.func (.func 62) #[bP y] #[]),Rs eW xs] ([.inv m (bJ k t),.obj y 111 (.agg (.pair (.at au (t,.map (some m))) (.eq z.1)))]++ge 22 z ls) (fun _:Unit=>(bv [.rep eW r.1,I r.2.1,.eq (.bool r.2.2.1)],[.inv m (bJ k t),.obj y 111 (.agg (.pair (.at au (t,.map (some m))) (.eq z.1)))]++ge 22 z r.2.2.2)):=by
 unfold lp at h
 replace h:=bg h
 refine dy.of 35 Tryz.func61 rfl Tryz.ntmps61 rfl fun S w0=>?_
 refine sr ?_
 refine aE rfl rfl rfl (aZ rfl rX vi) trivial fun b4=>?_
 refine cq ?_
 refine cq ?_
 refine nt ?_
 refine sr ?_
 refine aE rfl rfl rfl (aZ rfl rX vi) trivial fun b7=>?_
 refine nt ?_
 refine sr ?_
 refine cq ?_
 refine cq ?_
 refine nt ?_
 refine ah ?_
 refine sr ?_
 refine mq ?_
 refine ol Nu ?_
 refine eT rfl ?_
 refine nt ?_
 refine an ?_
 refine aN (Z:=Unit) (α:=Ln) (fun _ q=>[(0,.eq (.func (.func 62) #[bP y] #[])),(4,.eq (bP b4)),(7,.eq (bP b7)),(8,I q.2.2.1),(9,.eq (.bool q.2.2.2.1)),(13,Rs eW xs),(14,I (xs.length:Int)),(15,I q.1)]) (fun _ q=>[.obj b7 114 (.rep eW q.2.1),.obj b4 114 (.rep eW (0,0)),.inv m (bJ k t),.obj y 111 (.agg (.pair (.at au (t,.map (some m))) (.eq z.1)))]++ge 22 z q.2.2.2.2) (gU k t xs) k () (0,(0,0),0,false,ls) (fun _=>rfl) h (bh [.obj b7 114 (.rep eW (0,0)),.obj b4 114 (.rep eW (0,0)),.inv m (bJ k t),.obj y 111 (.agg (.pair (.at au (t,.map (some m))) (.eq z.1)))] (ge 22 z ls) [0,1,2,3] ⟨rfl,rfl,rfl,rfl,rfl,rfl,rfl,rfl,trivial⟩ rfl) (fun n u q h=>?_)
 unfold gU at h
 obtain⟨q1,q2,q3,q4,q5⟩:=q
 refine sr ?_
 refine jb (bG rfl) ?_
 refine nt ?_
 refine ah ?_
 refine bK rfl (fun hb=>?_) (fun hb=>?_)
 ·
  replace h:=cU (nz hb) h;obtain⟨x,ex,h⟩:=aa h;obtain⟨r1,e,h⟩:=aa h;obtain⟨w,ew,h⟩:=aa h;have cl:=sf k t x q5 r1 y m z e;refine sk (ah (an (sr (jb (aM (t:=eW) rfl Nu gq ex) ?_))));refine ja (ap (t:=eW) rfl gq rfl) ?_;refine aE rfl rfl rfl (aZ rfl rX vi) trivial fun c=>?_;refine aY rfl rfl (aR rfl gq rfl rfl rfl) ⟨rfl,rfl,trivial⟩ ?_;refine nt (sr (mq ?_));refine ka (ak rfl gq (yv) rfl) ?_;refine cO (gK (Δ':=([.inv m (bJ k t)]++([.obj y 111 (.agg (.pair (.at au (t,.map (some m))) (.eq z.1)))]++ge 22 z q5))++[.obj c 114 (.rep eW x),.obj b7 114 (.rep eW q2),.obj b4 114 (.rep eW (0,0))]) (List.perm_append_comm (l₁:=([.obj c 114 (.rep eW x),.obj b7 114 (.rep eW q2),.obj b4 114 (.rep eW (0,0))]:List D)))) ?_;refine bN (Δ:=_++_) (F:=[_,_,_]) (fun _ _ _=>ay rfl _) rfl rfl (ow (fs:=[bP y]) (cs:=[]) (ags:=[.rep eW x]) [.tmp 20] rfl rfl MP rfl cl) ⟨rfl,rfl,trivial⟩ fun _=>?_;refine aq ?_;refine cO (gK (Δ':=[.obj c 114 (.rep eW x),.obj b7 114 (.rep eW q2),.obj b4 114 (.rep eW (0,0))]++([.inv m (bJ k t)]++([.obj y 111 (.agg (.pair (.at au (t,.map (some m))) (.eq z.1)))]++ge 22 z r1.2))) List.perm_append_comm) ?_;refine nt ?_;cases q4 with
  |false=>
   refine sr (mq ?_);refine ja (eY rfl) ?_;refine mq ?_;iterate 3 refine gn ?_
   refine pt (nt ?_);refine bK rfl (fun hb=>?_) (fun hb=>(by cases hb));refine ab (ka (ak rfl gq (yv) rfl) ?_);refine mq ?_;refine fr 1 ?_;refine aY rfl rfl (aR rfl gq rfl rfl rfl) ⟨rfl,rfl,trivial⟩ ?_;refine aq ?_;refine cq (ar (aP (tn (ab ?_))));refine jb (bm rfl ew) ?_;refine mq (nl ?_);exact iR ((),(w,x,r1.1,true,r1.2)) h (bh [.obj b7 114 (.rep eW x),.obj c 114 (.rep eW x),.obj b4 114 (.rep eW (0,0)),.inv m (bJ k t),.obj y 111 (.agg (.pair (.at au (t,.map (some m))) (.eq z.1)))] (ge 22 z r1.2) [0,2,3,4] ⟨rfl,rfl,rfl,rfl,rfl,rfl,rfl,rfl,trivial⟩ rfl)
  |true=>
   refine sr (mq ?_);refine ja (eY rfl) ?_;refine mq ?_;refine gm ?_;refine gm ?_;refine gb (bG rfl) ?_;refine pf (nt ?_);refine bK rfl (fun hb=>?_) (fun hb=>?_)
   ·replace h:(gU k t xs n (w,x,r1.1,true,r1.2)).bind some=some r:=by
     have hd:r1.1 < q3:=of_decide_eq_true hb;simpa [hd] using h
    refine ab (ka (ak rfl gq (yv) rfl) ?_);refine mq ?_;refine fr 1 ?_;refine aY rfl rfl (aR rfl gq rfl rfl rfl) ⟨rfl,rfl,trivial⟩ ?_;refine aq ?_;refine cq (ar (aP (tn (ab ?_))));refine jb (bm rfl ew) ?_;refine mq (nl ?_);exact iR ((),(w,x,r1.1,true,r1.2)) h (bh [.obj b7 114 (.rep eW x),.obj c 114 (.rep eW x),.obj b4 114 (.rep eW (0,0)),.inv m (bJ k t),.obj y 111 (.agg (.pair (.at au (t,.map (some m))) (.eq z.1)))] (ge 22 z r1.2) [0,2,3,4] ⟨rfl,rfl,rfl,rfl,rfl,rfl,rfl,rfl,trivial⟩ rfl)
   ·replace h:(gU k t xs n (w,q2,q3,true,r1.2)).bind some=some r:=by
     have hd:¬r1.1 < q3:=of_decide_eq_false hb;simpa [hd] using h
    refine ba (aP (tn (ab (jb (bm rfl ew) ?_))));refine mq (nl ?_);exact iR ((),(w,q2,q3,true,r1.2)) h (bh [.obj c 114 (.rep eW x),.obj b7 114 (.rep eW q2),.obj b4 114 (.rep eW (0,0)),.inv m (bJ k t),.obj y 111 (.agg (.pair (.at au (t,.map (some m))) (.eq z.1)))] (ge 22 z r1.2) [1,2,3,4] ⟨rfl,rfl,rfl,rfl,rfl,rfl,rfl,rfl,trivial⟩ rfl)
 replace h:=bT (m4 hb) h
 refine dD ?_
 refine aQ ?_
 refine aQ ?_
 refine bR ?_
 refine tn ?_
 cases h
 refine sr ?_
 refine ka (ak rfl gq (yv) rfl) ?_
 iterate 2 refine mq ?_
 refine fr 1 ?_
 refine aY rfl rfl (aR rfl gq rfl rfl rfl) ⟨rfl,rfl,trivial⟩ ?_
 refine aq ?_
 refine aq ?_
 refine nt ?_
 refine aC ?_
 refine bF (gK (Δ':=([.inv m (bJ k t),.obj y 111 (.agg (.pair (.at au (t,.map (some m))) (.eq z.1)))]++ge 22 z q5)++[.obj b4 114 (.rep eW q2),.obj b7 114 (.rep eW q2)]) (List.perm_append_comm (l₁:=([.obj b4 114 (.rep eW q2),.obj b7 114 (.rep eW q2)]:List D)))) ?_
 exact aL () [_,_,_] ([.inv m (bJ k t),.obj y 111 (.agg (.pair (.at au (t,.map (some m))) (.eq z.1)))]++ge 22 z q5:List D).length ⟨⟨b4,114,.rep eW q2,2,true,rfl,List.mem_append.2 (.inr (List.mem_cons_self ..)),gq,yv,rfl⟩,rfl,rfl,trivial⟩ (by rw [List.take_left])
theorem pZ:ag Tryz.prog 59:=ag.of Tryz.func59 (by kernel_rfl) (by kernel_rfl)
theorem Pi:ag Tryz.prog 13:=ag.of Tryz.func13 (by kernel_rfl) (by kernel_rfl)
theorem Pg:ag Tryz.prog 44:=ag.of Tryz.func44 (by kernel_rfl) (by kernel_rfl)
theorem O8:ag Tryz.prog 60:=ag.of Tryz.func60 (by kernel_rfl) (by kernel_rfl)
theorem O7:ag Tryz.prog 61:=ag.of Tryz.func61 (by kernel_rfl) (by kernel_rfl)
theorem KY:dC Tryz.prog 25 1 false:=⟨fun w=>by kernel_rfl,fun w=>by kernel_rfl⟩
theorem Lj:aU Tryz.prog 27 1 1:=aU.of (by kernel_rfl)
theorem nL:my Tryz.prog 28 22 1 24:=.of (z:=(.slice none 0 0)) nX (by kernel_rfl) rfl rfl rfl
theorem FI:my Tryz.prog 112 114 2 16:=.of (z:=(.agg #[.int .i64 0,.int .i64 0])) Nu (by kernel_rfl) rfl rfl rfl
theorem LN:yt Tryz.prog 111 #[(0,1),(1,1)]:=⟨_,RX,fun _=>by kernel_rfl⟩
theorem Lx:∀w,(zeroValue 111).run Tryz.prog w= .ok (.agg #[.pointer none,.slice none 0 0]) w:=fun w=>by kernel_rfl
theorem Nl:∀S w,(A.cells S w (.pair (.eq (.pointer none)) (.eq (.slice none 0 0))) (Value.cells (.agg #[.pointer none,.slice none 0 0])).toList):=fun _ _=>⟨[_],_,rfl,⟨rfl,rfl⟩,rfl,rfl⟩
theorem LM:yt Tryz.prog 114 #[(0,1),(1,1)]:=⟨_,RV,fun _=>by kernel_rfl⟩
theorem Kw:∀S w,(A.cells S w (.pair (I 0) (I 0)) (Value.cells (.agg #[.int .i64 0,.int .i64 0])).toList):=fun _ _=>⟨[_],_,rfl,⟨rfl,rfl⟩,rfl,rfl⟩
def fi:List Bool→Ga→Ga
 |true::l,e::g=>e::fi l g
 |false::l,_::g=>fi l g
 |_,_=>[]
def lZ(y:Nat)(z1:Value)(l:List Int)(v v2:Value):Ga:=[(39,.eq (bP y)),(40,.eq (bP y)),(41,.eq (bP y)),(42,.eq (.pointer (some ⟨y,0+1,none⟩))),(43,.eq z1),(44,Ri l),(45,.eq v),(46,.rep (.slice .val) [v]),(47,.eq v2),(48,.eq (bP y)),(49,.eq (.pointer (some ⟨y,0+1,none⟩)))]
def lu(b2 y:Nat)(n i:Int)(l:List Int)(a1:List (List Int)):Ga:=[(2,.eq (bP b2)),(8,I n),(10,.eq (bP y)),(12,Ri l),(33,.rep (.slice (.slice (.int .i64))) a1),(34,I (a1.length:Int)),(35,I i)]
theorem P9{i j:Int}:AE (.agg (.pair (I i) (I j))) (.rep eW (i,j)):=fun S w cs h=>by
 obtain⟨c1,c2,e,h1,h2⟩:=h
 exact⟨c1,c2,e,h1.1,h2.1⟩
def lY(k:Nat)(a1:List (List Int)):Nat→Int×List (List Int)→Option (List (List Int))
 |0,_=>none
 |n+1,q=>if q.1 < (a1.length:Int) then((a8 a1 q.1).bind fun l=>(j7 k l).bind fun l2=>if bU (q.2.length+1) then(ck (q.1+1)).bind fun w=>lY k a1 n (w,q.2++[l2]) else none) else some q.2
def kf(k:Nat)(t:be)(i:Int):Nat→Int×List (Int×Int)×List (List Int)→Option (List (Int×Int)×List (List Int))
 |0,_=>none
 |n+1,q=>if q.1 < (t.2.1.length:Int) then((mn k t (i,q.1) q.2.2).bind fun r=>if r.1=true then(if bU (q.2.1.length+1) then(ck (q.1+1)).bind fun w=>kf k t i n (w,q.2.1++[(i,q.1)],r.2) else none) else(ck (q.1+1)).bind fun w=>kf k t i n (w,q.2.1,r.2)) else some q.2
def jk(k:Nat)(t:be):Nat→Int×List (Int×Int)×List (List Int)→Option (List (Int×Int)×List (List Int))
 |0,_=>none
 |n+1,q=>if q.1 < (t.2.1.length:Int) then((ck (q.1+1)).bind fun w=>(kf k t q.1 k (w,q.2)).bind fun p=>jk k t n (w,p)) else some q.2
def t6(k:Nat)(a0:be)(a1:(List (List Int))):Option (Int×Int×Int×Int):=
 (fW k a0 a1).bind fun L=>if¬(L.2=0) then some (0,0,0,L.2) else
 (lY k a1 k (0,[])).bind fun ls=>(jk k a0 k (0,[],ls)).bind fun p=>(lp k a0 p.1 p.2).bind fun b=>
 if(!b.2.2.1 || decide (L.1≤b.2.1))=true then some (0,0,0,11) else some (b.1.1,b.1.2,b.2.1,0)
theorem yL(k:Nat)(a0:be)(a1:(List (List Int)))(r:Int×Int×Int×Int)(h:t6 k a0 a1=some r):
 dy (iQ Tryz.prog) 29 [.rep aw a0,.rep (.slice (.slice (.int .i64))) a1] [.inv 0 dP] (fun _:Unit=>(bv [.eq (.int .i64 r.1),.eq (.int .i64 r.2.1),.eq (.int .i64 r.2.2.1),.eq (.int .i64 r.2.2.2)],[.inv 0 dP])):=by
 unfold t6 at h
 replace h:=bg h
 refine dy.of 97 Tryz.func29 rfl Tryz.ntmps29 rfl fun S w0=>?_
 refine ah ?_
 refine ab ?_
 refine aE rfl rfl rfl (nM rfl rfl) ⟨rfl,trivial⟩ fun b2=>?_
 refine dK rfl ?_
 refine dK rfl ?_
 refine dK rfl ?_
 refine dK rfl ?_
 refine ar ?_
 refine ae ?_
 show JC _ _ _ _ _
 obtain⟨L,eL,h⟩:=aa h
 have cL:=jt k a0 a1 L eL
 refine ah ?_
 refine ab ?_
 refine bQ rfl rfl rfl (ak rfl FB (yv) rfl) ⟨rfl,trivial⟩ ?_
 refine aA rfl rfl ?_
 refine bD 1 rfl ?_
 refine bQ rfl rfl rfl (ff [.tmp 21,.tmp 22] rfl rfl Pi rfl cL) ⟨rfl,rfl,trivial⟩ ?_
 refine aA rfl rfl ?_
 refine aD rfl (gV rfl rfl) ⟨rfl,trivial⟩ ?_
 refine aD rfl (gV rfl rfl) ⟨rfl,trivial⟩ ?_
 refine dr rfl rfl ?_
 refine dr rfl rfl ?_
 refine ar ?_
 refine ae ?_
 show JC _ _ _ _ _
 refine ah ?_
 refine ah ?_
 refine ab ?_
 refine aA rfl rfl ?_
 refine aD rfl (jJ rfl) ⟨rfl,rfl,trivial⟩ ?_
 refine ar ?_
 refine ae ?_
 show JC _ _ _ _ _
 refine bK rfl (fun hb=>?_) (fun hb=>?_)
 ·
  replace h:=cU (Qo hb) h
  refine ah ?_
  refine ab ?_
  refine aA rfl rfl ?_
  refine dK rfl ?_
  refine dK rfl ?_
  refine dK rfl ?_
  refine dr rfl rfl ?_
  refine ar ?_
  refine ae ?_
  show JC _ _ _ _ _
  refine aC ?_
  refine aV ?_
  obtain rfl:=Option.some.inj h
  exact aL () [_,_,_,_] 1 ⟨rfl,rfl,rfl,rfl,trivial⟩ rfl
 replace h:=bT (Jl hb) h
 refine ba ?_
 refine ae ?_
 show JC _ _ _ _ _
 rw [Option.bind_assoc] at h
 refine ah ?_
 refine ab ?_
 refine bD 1 rfl ?_
 refine bQ rfl rfl rfl (ak rfl FB (yv) rfl) ⟨rfl,trivial⟩ ?_
 refine aE rfl rfl rfl (ao [.tmp 29] rfl rfl Pg rfl (fU a0)) ⟨rfl,trivial⟩ fun m=>?_
 refine cO (jX (bJ k a0) li) ?_
 refine aD rfl (c6 [(0,.tmp 30,_)] rfl LN Lx Nl (iH ⟨trivial,trivial⟩) rfl) ⟨rfl,trivial⟩ ?_
 refine aE rfl rfl rfl (nM rfl trivial) ⟨rfl,trivial⟩ fun y=>?_
 refine dr rfl rfl ?_
 refine ar ?_
 refine ae ?_
 show JC _ _ _ _ _
 refine ah ?_
 refine ah ?_
 refine ab ?_
 refine aA rfl rfl ?_
 refine aD rfl (mP rfl rfl nX) ⟨rfl,trivial⟩ ?_
 refine eT rfl ?_
 refine cO (SE.nil 22 .val) ?_
 refine cO (gK (Δ':=[.obj y 111 (.agg (.pair (.at au (a0,.map (some m))) (.eq (.slice none 0 0)))),.inv m (bJ k a0),.obj b2 27 (.rep aw a0),.inv 0 dP]++ge 22 (.slice none 0 0,fun _=>undef) []) (List.Perm.trans (List.perm_append_comm (l₁:=([.sl (.slice none 0 0) 22 .val []]:List D))) (List.Perm.refl _))) ?_
 refine ar ?_
 refine ae ?_
 show JC _ _ _ _ _
 refine an ?_
 refine aN (Z:=Value×(Nat→Value)) (α:=Int×List (List Int)) (fun z q=>[(2,.eq (bP b2)),(8,.eq (.int .i64 L.1)),(10,.eq (bP y)),(33,.rep (.slice (.slice (.int .i64))) a1),(34,.eq (.int .i64 (a1.length:Int))),(35,.eq (.int .i64 q.1))]) (fun z q=>[.obj y 111 (.agg (.pair (.at au (a0,.map (some m))) (.eq z.1))),.inv m (bJ k a0),.obj b2 27 (.rep aw a0),.inv 0 dP]++ge 22 z q.2) (lY k a1) k (.slice none 0 0,fun _=>undef) (0,[]) (fun _=>rfl) h (bh [.obj y 111 (.agg (.pair (.at au (a0,.map (some m))) (.eq (.slice none 0 0)))),.inv m (bJ k a0),.obj b2 27 (.rep aw a0),.inv 0 dP] (ge 22 (.slice none 0 0,fun _=>undef) []) [0,1,2,3] ⟨rfl,rfl,rfl,rfl,rfl,rfl,trivial⟩ rfl) (fun n z q h=>?_)
 unfold lY at h
 refine ah ?_
 refine ab ?_
 refine aD rfl (bG rfl) ⟨rfl,rfl,trivial⟩ ?_
 refine ar ?_
 refine ae ?_
 show JC _ _ _ _ _
 refine ah ?_
 refine bK rfl (fun hb=>?_) (fun hb=>?_)
 ·
  replace h:=cU (nz hb) h
  obtain⟨q1,q2⟩:=q
  obtain⟨l,el,h⟩:=aa h
  obtain⟨l2,el2,h⟩:=aa h
  have hk:bU (q2.length+1):=by
   apply Classical.byContradiction
   intro hn
   rw [if_neg hn] at h
   cases h
  replace h:=cU hk h
  have cc:=mM k l l2 el2
  refine ba ?_
  refine ae ?_
  show JC _ _ _ _ _
  refine ah ?_
  refine an ?_
  refine ah ?_
  refine ab ?_
  refine aD rfl (aM (t:=.slice (.int .i64)) rfl nX Cc el) ⟨rfl,rfl,trivial⟩ ?_
  refine aD rfl (ap (t:=.slice (.int .i64)) rfl Cc rfl) ⟨rfl,trivial⟩ ?_
  refine dr rfl rfl ?_
  refine ar ?_
  refine ae ?_
  show JC _ _ _ _ _
  refine eG (Dc (pre:=[.obj y 111 (.agg (.pair (.at au (a0,.map (some m))) (.eq z.1))),.inv m (bJ k a0),.obj b2 27 (.rep aw a0),.inv 0 dP])) ?_
  refine gP 1 rfl ?_
  refine eG (SE.sub (Γ':=lu b2 y L.1 q1 l a1) ⟨rfl,rfl,rfl,rfl,rfl,rfl,rfl,trivial⟩) ?_
  generalize hB:lu b2 y L.1 q1 l a1=B
  refine vt (Δ:=[.obj y 111 (.agg (.pair (.at au (a0,.map (some m))) (.eq z.1))),.sl z.1 22 .val (fj z.2 0 q2)]) (F:=[.inv m (bJ k a0),.obj b2 27 (.rep aw a0),.inv 0 dP]++k9 z.2 0 q2) (Z:=Value×Value) (fun p=>B) (fun p=>[.obj y 111 (.agg (.pair (.at au (a0,.map (some m))) (.eq p.2))),.sl p.2 22 .val (fj z.2 0 q2++[p.1]),.sl p.1 3 (.int .i64) l2]) (fun S w=>?_) (fun p=>?_)
  ·
   subst hB
   refine vu (I:=Value×Value) (Ge:=fun _=>lu b2 y L.1 q1 l a1) (De:=fun p=>[.obj y 111 (.agg (.pair (.at au (a0,.map (some m))) (.eq p.2))),.sl p.2 22 .val (fj z.2 0 q2++[p.1]),.sl p.1 3 (.int .i64) l2]) (L:=[true,true,true,true,true,true,true,true,true,true,true,true]) qz rfl (fun J hJ hE=>?_) (by kernel_rfl) (fun p=>?_)
   ·
    have s2047:∀(v v2:Value),J 1 [true,true,true,true,true,true,true,true,true,true,true,false] (fi [true,true,true,true,true,true,true,true,true,true,true,false] (lZ y z.1 l v v2)++lu b2 y L.1 q1 l a1) [.obj y 111 (.agg (.pair (.at au (a0,.map (some m))) (.eq z.1))),.sl v2 22 .val (fj z.2 0 q2++[v]),.sl v 3 (.int .i64) l2]:=fun v v2=>by
     subst hJ
     refine JD.step [11] (by kernel_rfl) rfl ?_
     refine bL.cons rfl ?_ ?_
     ·
      refine bD 1 rfl ?_
      refine gd fun hv=>?_
      refine bD 1 rfl ?_
      refine aY rfl rfl (aR rfl nK hv rfl rfl) ⟨rfl,rfl,trivial⟩ ?_
      exact av (hE (v,v2)) [0,1,2] ⟨rfl,rfl,rfl,rfl,rfl,rfl,rfl,trivial⟩
     exact trivial
    have s1023:∀(v v2:Value),J 2 [true,true,true,true,true,true,true,true,true,true,false,false] (fi [true,true,true,true,true,true,true,true,true,true,false,false] (lZ y z.1 l v v2)++lu b2 y L.1 q1 l a1) [.obj y 111 (.agg (.pair (.at au (a0,.map (some m))) (.eq z.1))),.sl v2 22 .val (fj z.2 0 q2++[v]),.sl v 3 (.int .i64) l2]:=fun v v2=>by
     subst hJ
     refine JD.step [10] (by kernel_rfl) rfl ?_
     refine bL.cons rfl ?_ ?_
     ·
      refine aD rfl (ax rfl tH) ⟨rfl,trivial⟩ ?_
      exact av (s2047 v v2) [0,1,2] ⟨rfl,rfl,rfl,rfl,rfl,rfl,rfl,rfl,rfl,rfl,rfl,rfl,rfl,rfl,rfl,rfl,rfl,rfl,trivial⟩
     exact trivial
    have s511:∀(v v2:Value),J 3 [true,true,true,true,true,true,true,true,true,false,false,false] (fi [true,true,true,true,true,true,true,true,true,false,false,false] (lZ y z.1 l v v2)++lu b2 y L.1 q1 l a1) [.obj y 111 (.agg (.pair (.at au (a0,.map (some m))) (.eq z.1))),.sl v2 22 .val (fj z.2 0 q2++[v]),.sl v 3 (.int .i64) l2]:=fun v v2=>by
     subst hJ
     refine JD.step [9] (by kernel_rfl) rfl ?_
     refine bL.cons rfl ?_ ?_
     ·
      refine aD rfl (aW rfl) ⟨rfl,trivial⟩ ?_
      exact av (s1023 v v2) [0,1,2] ⟨rfl,rfl,rfl,rfl,rfl,rfl,rfl,rfl,rfl,rfl,rfl,rfl,rfl,rfl,rfl,rfl,rfl,trivial⟩
     exact trivial
    have s255:∀(v:Value),J 4 [true,true,true,true,true,true,true,true,false,false,false,false] (fi [true,true,true,true,true,true,true,true,false,false,false,false] (lZ y z.1 l v undef)++lu b2 y L.1 q1 l a1) [.obj y 111 (.agg (.pair (.at au (a0,.map (some m))) (.eq z.1))),.sl z.1 22 .val (fj z.2 0 q2),.sl v 3 (.int .i64) l2]:=fun v=>by
     subst hJ
     refine JD.step [8] (by kernel_rfl) rfl ?_
     refine bL.cons rfl ?_ ?_
     ·
      refine bD 1 rfl ?_
      refine eC rfl rfl rfl (bZ rfl rfl nL (by simpa [gj] using hk)) ⟨rfl,rfl,trivial⟩ fun v2=>?_
      exact av (s511 v v2) [1,0,2] ⟨rfl,rfl,rfl,rfl,rfl,rfl,rfl,rfl,rfl,rfl,rfl,rfl,rfl,rfl,rfl,rfl,trivial⟩
     exact trivial
    have s510:∀(v v2:Value),J 4 [false,true,true,true,true,true,true,true,true,false,false,false] (fi [false,true,true,true,true,true,true,true,true,false,false,false] (lZ y z.1 l v v2)++lu b2 y L.1 q1 l a1) [.obj y 111 (.agg (.pair (.at au (a0,.map (some m))) (.eq z.1))),.sl v2 22 .val (fj z.2 0 q2++[v]),.sl v 3 (.int .i64) l2]:=fun v v2=>by
     subst hJ
     refine JD.step [0] (by kernel_rfl) rfl ?_
     refine bL.cons rfl ?_ ?_
     ·
      refine aA rfl rfl ?_
      exact av (s511 v v2) [0,1,2] ⟨rfl,rfl,rfl,rfl,rfl,rfl,rfl,rfl,rfl,rfl,rfl,rfl,rfl,rfl,rfl,rfl,trivial⟩
     exact trivial
    have s127:∀(v:Value),J 5 [true,true,true,true,true,true,true,false,false,false,false,false] (fi [true,true,true,true,true,true,true,false,false,false,false,false] (lZ y z.1 l v undef)++lu b2 y L.1 q1 l a1) [.obj y 111 (.agg (.pair (.at au (a0,.map (some m))) (.eq z.1))),.sl z.1 22 .val (fj z.2 0 q2),.sl v 3 (.int .i64) l2]:=fun v=>by
     subst hJ
     refine JD.step [7] (by kernel_rfl) rfl ?_
     refine bL.cons rfl ?_ ?_
     ·
      refine bD 2 rfl ?_
      refine gd fun hv=>?_
      refine aD rfl (bC (t:=.val) [(.tmp 45,.eq v)] [v] rfl rfl nL (.cons hv (.val hv) .nil) rfl rfl) ⟨rfl,trivial⟩ ?_
      exact av (s255 v) [1,2,0] ⟨rfl,rfl,rfl,rfl,rfl,rfl,rfl,rfl,rfl,rfl,rfl,rfl,rfl,rfl,rfl,trivial⟩
     exact trivial
    have s239:∀(v:Value),J 5 [true,true,true,true,false,true,true,true,false,false,false,false] (fi [true,true,true,true,false,true,true,true,false,false,false,false] (lZ y z.1 l v undef)++lu b2 y L.1 q1 l a1) [.obj y 111 (.agg (.pair (.at au (a0,.map (some m))) (.eq z.1))),.sl z.1 22 .val (fj z.2 0 q2),.sl v 3 (.int .i64) l2]:=fun v=>by
     subst hJ
     refine JD.step [4] (by kernel_rfl) rfl ?_
     refine bL.cons rfl ?_ ?_
     ·
      refine bQ rfl rfl rfl (ak rfl nK kU rfl) ⟨rfl,trivial⟩ ?_
      exact av (s255 v) [0,1,2] ⟨rfl,rfl,rfl,rfl,rfl,rfl,rfl,rfl,rfl,rfl,rfl,rfl,rfl,rfl,rfl,trivial⟩
     exact trivial
    have s254:∀(v:Value),J 5 [false,true,true,true,true,true,true,true,false,false,false,false] (fi [false,true,true,true,true,true,true,true,false,false,false,false] (lZ y z.1 l v undef)++lu b2 y L.1 q1 l a1) [.obj y 111 (.agg (.pair (.at au (a0,.map (some m))) (.eq z.1))),.sl z.1 22 .val (fj z.2 0 q2),.sl v 3 (.int .i64) l2]:=fun v=>by
     subst hJ
     refine JD.step [0,8] (by kernel_rfl) rfl ?_
     refine bL.cons rfl ?_ ?_
     ·
      refine aA rfl rfl ?_
      exact av (s255 v) [0,1,2] ⟨rfl,rfl,rfl,rfl,rfl,rfl,rfl,rfl,rfl,rfl,rfl,rfl,rfl,rfl,rfl,trivial⟩
     refine bL.cons rfl ?_ ?_
     ·
      refine bD 1 rfl ?_
      refine eC rfl rfl rfl (bZ rfl rfl nL (by simpa [gj] using hk)) ⟨rfl,rfl,trivial⟩ fun v2=>?_
      exact av (s510 v v2) [1,0,2] ⟨rfl,rfl,rfl,rfl,rfl,rfl,rfl,rfl,rfl,rfl,rfl,rfl,rfl,rfl,rfl,trivial⟩
     exact trivial
    have s63:J 6 [true,true,true,true,true,true,false,false,false,false,false,false] (fi [true,true,true,true,true,true,false,false,false,false,false,false] (lZ y z.1 l undef undef)++lu b2 y L.1 q1 l a1) [.obj y 111 (.agg (.pair (.at au (a0,.map (some m))) (.eq z.1))),.sl z.1 22 .val (fj z.2 0 q2)]:=by
     subst hJ
     refine JD.step [6] (by kernel_rfl) rfl ?_
     refine bL.cons rfl ?_ ?_
     ·
      refine aE rfl rfl rfl (ao [.tmp 44] rfl rfl pZ rfl cc) ⟨rfl,trivial⟩ fun v=>?_
      exact av (s127 v) [1,2,0] ⟨rfl,rfl,rfl,rfl,rfl,rfl,rfl,rfl,rfl,rfl,rfl,rfl,rfl,rfl,trivial⟩
     exact trivial
    have s111:∀(v:Value),J 6 [true,true,true,true,false,true,true,false,false,false,false,false] (fi [true,true,true,true,false,true,true,false,false,false,false,false] (lZ y z.1 l v undef)++lu b2 y L.1 q1 l a1) [.obj y 111 (.agg (.pair (.at au (a0,.map (some m))) (.eq z.1))),.sl z.1 22 .val (fj z.2 0 q2),.sl v 3 (.int .i64) l2]:=fun v=>by
     subst hJ
     refine JD.step [4,7] (by kernel_rfl) rfl ?_
     refine bL.cons rfl ?_ ?_
     ·
      refine bQ rfl rfl rfl (ak rfl nK kU rfl) ⟨rfl,trivial⟩ ?_
      exact av (s127 v) [0,1,2] ⟨rfl,rfl,rfl,rfl,rfl,rfl,rfl,rfl,rfl,rfl,rfl,rfl,rfl,rfl,trivial⟩
     refine bL.cons rfl ?_ ?_
     ·
      refine bD 2 rfl ?_
      refine gd fun hv=>?_
      refine aD rfl (bC (t:=.val) [(.tmp 45,.eq v)] [v] rfl rfl nL (.cons hv (.val hv) .nil) rfl rfl) ⟨rfl,trivial⟩ ?_
      exact av (s239 v) [1,2,0] ⟨rfl,rfl,rfl,rfl,rfl,rfl,rfl,rfl,rfl,rfl,rfl,rfl,rfl,rfl,trivial⟩
     exact trivial
    have s126:∀(v:Value),J 6 [false,true,true,true,true,true,true,false,false,false,false,false] (fi [false,true,true,true,true,true,true,false,false,false,false,false] (lZ y z.1 l v undef)++lu b2 y L.1 q1 l a1) [.obj y 111 (.agg (.pair (.at au (a0,.map (some m))) (.eq z.1))),.sl z.1 22 .val (fj z.2 0 q2),.sl v 3 (.int .i64) l2]:=fun v=>by
     subst hJ
     refine JD.step [0,7] (by kernel_rfl) rfl ?_
     refine bL.cons rfl ?_ ?_
     ·
      refine aA rfl rfl ?_
      exact av (s127 v) [0,1,2] ⟨rfl,rfl,rfl,rfl,rfl,rfl,rfl,rfl,rfl,rfl,rfl,rfl,rfl,rfl,trivial⟩
     refine bL.cons rfl ?_ ?_
     ·
      refine bD 2 rfl ?_
      refine gd fun hv=>?_
      refine aD rfl (bC (t:=.val) [(.tmp 45,.eq v)] [v] rfl rfl nL (.cons hv (.val hv) .nil) rfl rfl) ⟨rfl,trivial⟩ ?_
      exact av (s254 v) [1,2,0] ⟨rfl,rfl,rfl,rfl,rfl,rfl,rfl,rfl,rfl,rfl,rfl,rfl,rfl,rfl,trivial⟩
     exact trivial
    have s231:∀(v:Value),J 6 [true,true,true,false,false,true,true,true,false,false,false,false] (fi [true,true,true,false,false,true,true,true,false,false,false,false] (lZ y z.1 l v undef)++lu b2 y L.1 q1 l a1) [.obj y 111 (.agg (.pair (.at au (a0,.map (some m))) (.eq z.1))),.sl z.1 22 .val (fj z.2 0 q2),.sl v 3 (.int .i64) l2]:=fun v=>by
     subst hJ
     refine JD.step [3] (by kernel_rfl) rfl ?_
     refine bL.cons rfl ?_ ?_
     ·
      refine aD rfl (ax rfl tH) ⟨rfl,trivial⟩ ?_
      exact av (s239 v) [0,1,2] ⟨rfl,rfl,rfl,rfl,rfl,rfl,rfl,rfl,rfl,rfl,rfl,rfl,rfl,rfl,trivial⟩
     exact trivial
    have s238:∀(v:Value),J 6 [false,true,true,true,false,true,true,true,false,false,false,false] (fi [false,true,true,true,false,true,true,true,false,false,false,false] (lZ y z.1 l v undef)++lu b2 y L.1 q1 l a1) [.obj y 111 (.agg (.pair (.at au (a0,.map (some m))) (.eq z.1))),.sl z.1 22 .val (fj z.2 0 q2),.sl v 3 (.int .i64) l2]:=fun v=>by
     subst hJ
     refine JD.step [0,4] (by kernel_rfl) rfl ?_
     refine bL.cons rfl ?_ ?_
     ·
      refine aA rfl rfl ?_
      exact av (s239 v) [0,1,2] ⟨rfl,rfl,rfl,rfl,rfl,rfl,rfl,rfl,rfl,rfl,rfl,rfl,rfl,rfl,trivial⟩
     refine bL.cons rfl ?_ ?_
     ·
      refine bQ rfl rfl rfl (ak rfl nK kU rfl) ⟨rfl,trivial⟩ ?_
      exact av (s254 v) [0,1,2] ⟨rfl,rfl,rfl,rfl,rfl,rfl,rfl,rfl,rfl,rfl,rfl,rfl,rfl,rfl,trivial⟩
     exact trivial
    have s31:J 7 [true,true,true,true,true,false,false,false,false,false,false,false] (fi [true,true,true,true,true,false,false,false,false,false,false,false] (lZ y z.1 l undef undef)++lu b2 y L.1 q1 l a1) [.obj y 111 (.agg (.pair (.at au (a0,.map (some m))) (.eq z.1))),.sl z.1 22 .val (fj z.2 0 q2)]:=by
     subst hJ
     refine JD.step [5] (by kernel_rfl) rfl ?_
     refine bL.cons rfl ?_ ?_
     ·
      refine aA rfl rfl ?_
      exact av (s63) [0,1] ⟨rfl,rfl,rfl,rfl,rfl,rfl,rfl,rfl,rfl,rfl,rfl,rfl,rfl,trivial⟩
     exact trivial
    have s47:J 7 [true,true,true,true,false,true,false,false,false,false,false,false] (fi [true,true,true,true,false,true,false,false,false,false,false,false] (lZ y z.1 l undef undef)++lu b2 y L.1 q1 l a1) [.obj y 111 (.agg (.pair (.at au (a0,.map (some m))) (.eq z.1))),.sl z.1 22 .val (fj z.2 0 q2)]:=by
     subst hJ
     refine JD.step [4,6] (by kernel_rfl) rfl ?_
     refine bL.cons rfl ?_ ?_
     ·
      refine bQ rfl rfl rfl (ak rfl nK kU rfl) ⟨rfl,trivial⟩ ?_
      exact av (s63) [0,1] ⟨rfl,rfl,rfl,rfl,rfl,rfl,rfl,rfl,rfl,rfl,rfl,rfl,rfl,trivial⟩
     refine bL.cons rfl ?_ ?_
     ·
      refine aE rfl rfl rfl (ao [.tmp 44] rfl rfl pZ rfl cc) ⟨rfl,trivial⟩ fun v=>?_
      exact av (s111 v) [1,2,0] ⟨rfl,rfl,rfl,rfl,rfl,rfl,rfl,rfl,rfl,rfl,rfl,rfl,rfl,trivial⟩
     exact trivial
    have s62:J 7 [false,true,true,true,true,true,false,false,false,false,false,false] (fi [false,true,true,true,true,true,false,false,false,false,false,false] (lZ y z.1 l undef undef)++lu b2 y L.1 q1 l a1) [.obj y 111 (.agg (.pair (.at au (a0,.map (some m))) (.eq z.1))),.sl z.1 22 .val (fj z.2 0 q2)]:=by
     subst hJ
     refine JD.step [0,6] (by kernel_rfl) rfl ?_
     refine bL.cons rfl ?_ ?_
     ·
      refine aA rfl rfl ?_
      exact av (s63) [0,1] ⟨rfl,rfl,rfl,rfl,rfl,rfl,rfl,rfl,rfl,rfl,rfl,rfl,rfl,trivial⟩
     refine bL.cons rfl ?_ ?_
     ·
      refine aE rfl rfl rfl (ao [.tmp 44] rfl rfl pZ rfl cc) ⟨rfl,trivial⟩ fun v=>?_
      exact av (s126 v) [1,2,0] ⟨rfl,rfl,rfl,rfl,rfl,rfl,rfl,rfl,rfl,rfl,rfl,rfl,rfl,trivial⟩
     exact trivial
    have s103:∀(v:Value),J 7 [true,true,true,false,false,true,true,false,false,false,false,false] (fi [true,true,true,false,false,true,true,false,false,false,false,false] (lZ y z.1 l v undef)++lu b2 y L.1 q1 l a1) [.obj y 111 (.agg (.pair (.at au (a0,.map (some m))) (.eq z.1))),.sl z.1 22 .val (fj z.2 0 q2),.sl v 3 (.int .i64) l2]:=fun v=>by
     subst hJ
     refine JD.step [3,7] (by kernel_rfl) rfl ?_
     refine bL.cons rfl ?_ ?_
     ·
      refine aD rfl (ax rfl tH) ⟨rfl,trivial⟩ ?_
      exact av (s111 v) [0,1,2] ⟨rfl,rfl,rfl,rfl,rfl,rfl,rfl,rfl,rfl,rfl,rfl,rfl,rfl,trivial⟩
     refine bL.cons rfl ?_ ?_
     ·
      refine bD 2 rfl ?_
      refine gd fun hv=>?_
      refine aD rfl (bC (t:=.val) [(.tmp 45,.eq v)] [v] rfl rfl nL (.cons hv (.val hv) .nil) rfl rfl) ⟨rfl,trivial⟩ ?_
      exact av (s231 v) [1,2,0] ⟨rfl,rfl,rfl,rfl,rfl,rfl,rfl,rfl,rfl,rfl,rfl,rfl,rfl,trivial⟩
     exact trivial
    have s110:∀(v:Value),J 7 [false,true,true,true,false,true,true,false,false,false,false,false] (fi [false,true,true,true,false,true,true,false,false,false,false,false] (lZ y z.1 l v undef)++lu b2 y L.1 q1 l a1) [.obj y 111 (.agg (.pair (.at au (a0,.map (some m))) (.eq z.1))),.sl z.1 22 .val (fj z.2 0 q2),.sl v 3 (.int .i64) l2]:=fun v=>by
     subst hJ
     refine JD.step [0,4,7] (by kernel_rfl) rfl ?_
     refine bL.cons rfl ?_ ?_
     ·
      refine aA rfl rfl ?_
      exact av (s111 v) [0,1,2] ⟨rfl,rfl,rfl,rfl,rfl,rfl,rfl,rfl,rfl,rfl,rfl,rfl,rfl,trivial⟩
     refine bL.cons rfl ?_ ?_
     ·
      refine bQ rfl rfl rfl (ak rfl nK kU rfl) ⟨rfl,trivial⟩ ?_
      exact av (s126 v) [0,1,2] ⟨rfl,rfl,rfl,rfl,rfl,rfl,rfl,rfl,rfl,rfl,rfl,rfl,rfl,trivial⟩
     refine bL.cons rfl ?_ ?_
     ·
      refine bD 2 rfl ?_
      refine gd fun hv=>?_
      refine aD rfl (bC (t:=.val) [(.tmp 45,.eq v)] [v] rfl rfl nL (.cons hv (.val hv) .nil) rfl rfl) ⟨rfl,trivial⟩ ?_
      exact av (s238 v) [1,2,0] ⟨rfl,rfl,rfl,rfl,rfl,rfl,rfl,rfl,rfl,rfl,rfl,rfl,rfl,trivial⟩
     exact trivial
    have s227:∀(v:Value),J 7 [true,true,false,false,false,true,true,true,false,false,false,false] (fi [true,true,false,false,false,true,true,true,false,false,false,false] (lZ y z.1 l v undef)++lu b2 y L.1 q1 l a1) [.obj y 111 (.agg (.pair (.at au (a0,.map (some m))) (.eq z.1))),.sl z.1 22 .val (fj z.2 0 q2),.sl v 3 (.int .i64) l2]:=fun v=>by
     subst hJ
     refine JD.step [2] (by kernel_rfl) rfl ?_
     refine bL.cons rfl ?_ ?_
     ·
      refine aD rfl (aW rfl) ⟨rfl,trivial⟩ ?_
      exact av (s231 v) [0,1,2] ⟨rfl,rfl,rfl,rfl,rfl,rfl,rfl,rfl,rfl,rfl,rfl,rfl,rfl,trivial⟩
     exact trivial
    have s230:∀(v:Value),J 7 [false,true,true,false,false,true,true,true,false,false,false,false] (fi [false,true,true,false,false,true,true,true,false,false,false,false] (lZ y z.1 l v undef)++lu b2 y L.1 q1 l a1) [.obj y 111 (.agg (.pair (.at au (a0,.map (some m))) (.eq z.1))),.sl z.1 22 .val (fj z.2 0 q2),.sl v 3 (.int .i64) l2]:=fun v=>by
     subst hJ
     refine JD.step [0,3] (by kernel_rfl) rfl ?_
     refine bL.cons rfl ?_ ?_
     ·
      refine aA rfl rfl ?_
      exact av (s231 v) [0,1,2] ⟨rfl,rfl,rfl,rfl,rfl,rfl,rfl,rfl,rfl,rfl,rfl,rfl,rfl,trivial⟩
     refine bL.cons rfl ?_ ?_
     ·
      refine aD rfl (ax rfl tH) ⟨rfl,trivial⟩ ?_
      exact av (s238 v) [0,1,2] ⟨rfl,rfl,rfl,rfl,rfl,rfl,rfl,rfl,rfl,rfl,rfl,rfl,rfl,trivial⟩
     exact trivial
    have s15:J 8 [true,true,true,true,false,false,false,false,false,false,false,false] (fi [true,true,true,true,false,false,false,false,false,false,false,false] (lZ y z.1 l undef undef)++lu b2 y L.1 q1 l a1) [.obj y 111 (.agg (.pair (.at au (a0,.map (some m))) (.eq z.1))),.sl z.1 22 .val (fj z.2 0 q2)]:=by
     subst hJ
     refine JD.step [4,5] (by kernel_rfl) rfl ?_
     refine bL.cons rfl ?_ ?_
     ·
      refine bQ rfl rfl rfl (ak rfl nK kU rfl) ⟨rfl,trivial⟩ ?_
      exact av (s31) [0,1] ⟨rfl,rfl,rfl,rfl,rfl,rfl,rfl,rfl,rfl,rfl,rfl,rfl,trivial⟩
     refine bL.cons rfl ?_ ?_
     ·
      refine aA rfl rfl ?_
      exact av (s47) [0,1] ⟨rfl,rfl,rfl,rfl,rfl,rfl,rfl,rfl,rfl,rfl,rfl,rfl,trivial⟩
     exact trivial
    have s30:J 8 [false,true,true,true,true,false,false,false,false,false,false,false] (fi [false,true,true,true,true,false,false,false,false,false,false,false] (lZ y z.1 l undef undef)++lu b2 y L.1 q1 l a1) [.obj y 111 (.agg (.pair (.at au (a0,.map (some m))) (.eq z.1))),.sl z.1 22 .val (fj z.2 0 q2)]:=by
     subst hJ
     refine JD.step [0,5] (by kernel_rfl) rfl ?_
     refine bL.cons rfl ?_ ?_
     ·
      refine aA rfl rfl ?_
      exact av (s31) [0,1] ⟨rfl,rfl,rfl,rfl,rfl,rfl,rfl,rfl,rfl,rfl,rfl,rfl,trivial⟩
     refine bL.cons rfl ?_ ?_
     ·
      refine aA rfl rfl ?_
      exact av (s62) [0,1] ⟨rfl,rfl,rfl,rfl,rfl,rfl,rfl,rfl,rfl,rfl,rfl,rfl,trivial⟩
     exact trivial
    have s39:J 8 [true,true,true,false,false,true,false,false,false,false,false,false] (fi [true,true,true,false,false,true,false,false,false,false,false,false] (lZ y z.1 l undef undef)++lu b2 y L.1 q1 l a1) [.obj y 111 (.agg (.pair (.at au (a0,.map (some m))) (.eq z.1))),.sl z.1 22 .val (fj z.2 0 q2)]:=by
     subst hJ
     refine JD.step [3,6] (by kernel_rfl) rfl ?_
     refine bL.cons rfl ?_ ?_
     ·
      refine aD rfl (ax rfl tH) ⟨rfl,trivial⟩ ?_
      exact av (s47) [0,1] ⟨rfl,rfl,rfl,rfl,rfl,rfl,rfl,rfl,rfl,rfl,rfl,rfl,trivial⟩
     refine bL.cons rfl ?_ ?_
     ·
      refine aE rfl rfl rfl (ao [.tmp 44] rfl rfl pZ rfl cc) ⟨rfl,trivial⟩ fun v=>?_
      exact av (s103 v) [1,2,0] ⟨rfl,rfl,rfl,rfl,rfl,rfl,rfl,rfl,rfl,rfl,rfl,rfl,trivial⟩
     exact trivial
    have s46:J 8 [false,true,true,true,false,true,false,false,false,false,false,false] (fi [false,true,true,true,false,true,false,false,false,false,false,false] (lZ y z.1 l undef undef)++lu b2 y L.1 q1 l a1) [.obj y 111 (.agg (.pair (.at au (a0,.map (some m))) (.eq z.1))),.sl z.1 22 .val (fj z.2 0 q2)]:=by
     subst hJ
     refine JD.step [0,4,6] (by kernel_rfl) rfl ?_
     refine bL.cons rfl ?_ ?_
     ·
      refine aA rfl rfl ?_
      exact av (s47) [0,1] ⟨rfl,rfl,rfl,rfl,rfl,rfl,rfl,rfl,rfl,rfl,rfl,rfl,trivial⟩
     refine bL.cons rfl ?_ ?_
     ·
      refine bQ rfl rfl rfl (ak rfl nK kU rfl) ⟨rfl,trivial⟩ ?_
      exact av (s62) [0,1] ⟨rfl,rfl,rfl,rfl,rfl,rfl,rfl,rfl,rfl,rfl,rfl,rfl,trivial⟩
     refine bL.cons rfl ?_ ?_
     ·
      refine aE rfl rfl rfl (ao [.tmp 44] rfl rfl pZ rfl cc) ⟨rfl,trivial⟩ fun v=>?_
      exact av (s110 v) [1,2,0] ⟨rfl,rfl,rfl,rfl,rfl,rfl,rfl,rfl,rfl,rfl,rfl,rfl,trivial⟩
     exact trivial
    have s99:∀(v:Value),J 8 [true,true,false,false,false,true,true,false,false,false,false,false] (fi [true,true,false,false,false,true,true,false,false,false,false,false] (lZ y z.1 l v undef)++lu b2 y L.1 q1 l a1) [.obj y 111 (.agg (.pair (.at au (a0,.map (some m))) (.eq z.1))),.sl z.1 22 .val (fj z.2 0 q2),.sl v 3 (.int .i64) l2]:=fun v=>by
     subst hJ
     refine JD.step [2,7] (by kernel_rfl) rfl ?_
     refine bL.cons rfl ?_ ?_
     ·
      refine aD rfl (aW rfl) ⟨rfl,trivial⟩ ?_
      exact av (s103 v) [0,1,2] ⟨rfl,rfl,rfl,rfl,rfl,rfl,rfl,rfl,rfl,rfl,rfl,rfl,trivial⟩
     refine bL.cons rfl ?_ ?_
     ·
      refine bD 2 rfl ?_
      refine gd fun hv=>?_
      refine aD rfl (bC (t:=.val) [(.tmp 45,.eq v)] [v] rfl rfl nL (.cons hv (.val hv) .nil) rfl rfl) ⟨rfl,trivial⟩ ?_
      exact av (s227 v) [1,2,0] ⟨rfl,rfl,rfl,rfl,rfl,rfl,rfl,rfl,rfl,rfl,rfl,rfl,trivial⟩
     exact trivial
    have s102:∀(v:Value),J 8 [false,true,true,false,false,true,true,false,false,false,false,false] (fi [false,true,true,false,false,true,true,false,false,false,false,false] (lZ y z.1 l v undef)++lu b2 y L.1 q1 l a1) [.obj y 111 (.agg (.pair (.at au (a0,.map (some m))) (.eq z.1))),.sl z.1 22 .val (fj z.2 0 q2),.sl v 3 (.int .i64) l2]:=fun v=>by
     subst hJ
     refine JD.step [0,3,7] (by kernel_rfl) rfl ?_
     refine bL.cons rfl ?_ ?_
     ·
      refine aA rfl rfl ?_
      exact av (s103 v) [0,1,2] ⟨rfl,rfl,rfl,rfl,rfl,rfl,rfl,rfl,rfl,rfl,rfl,rfl,trivial⟩
     refine bL.cons rfl ?_ ?_
     ·
      refine aD rfl (ax rfl tH) ⟨rfl,trivial⟩ ?_
      exact av (s110 v) [0,1,2] ⟨rfl,rfl,rfl,rfl,rfl,rfl,rfl,rfl,rfl,rfl,rfl,rfl,trivial⟩
     refine bL.cons rfl ?_ ?_
     ·
      refine bD 2 rfl ?_
      refine gd fun hv=>?_
      refine aD rfl (bC (t:=.val) [(.tmp 45,.eq v)] [v] rfl rfl nL (.cons hv (.val hv) .nil) rfl rfl) ⟨rfl,trivial⟩ ?_
      exact av (s230 v) [1,2,0] ⟨rfl,rfl,rfl,rfl,rfl,rfl,rfl,rfl,rfl,rfl,rfl,rfl,trivial⟩
     exact trivial
    have s225:∀(v:Value),J 8 [true,false,false,false,false,true,true,true,false,false,false,false] (fi [true,false,false,false,false,true,true,true,false,false,false,false] (lZ y z.1 l v undef)++lu b2 y L.1 q1 l a1) [.obj y 111 (.agg (.pair (.at au (a0,.map (some m))) (.eq z.1))),.sl z.1 22 .val (fj z.2 0 q2),.sl v 3 (.int .i64) l2]:=fun v=>by
     subst hJ
     refine JD.step [1] (by kernel_rfl) rfl ?_
     refine bL.cons rfl ?_ ?_
     ·
      refine aA rfl rfl ?_
      exact av (s227 v) [0,1,2] ⟨rfl,rfl,rfl,rfl,rfl,rfl,rfl,rfl,rfl,rfl,rfl,rfl,trivial⟩
     exact trivial
    have s226:∀(v:Value),J 8 [false,true,false,false,false,true,true,true,false,false,false,false] (fi [false,true,false,false,false,true,true,true,false,false,false,false] (lZ y z.1 l v undef)++lu b2 y L.1 q1 l a1) [.obj y 111 (.agg (.pair (.at au (a0,.map (some m))) (.eq z.1))),.sl z.1 22 .val (fj z.2 0 q2),.sl v 3 (.int .i64) l2]:=fun v=>by
     subst hJ
     refine JD.step [0,2] (by kernel_rfl) rfl ?_
     refine bL.cons rfl ?_ ?_
     ·
      refine aA rfl rfl ?_
      exact av (s227 v) [0,1,2] ⟨rfl,rfl,rfl,rfl,rfl,rfl,rfl,rfl,rfl,rfl,rfl,rfl,trivial⟩
     refine bL.cons rfl ?_ ?_
     ·
      refine aD rfl (aW rfl) ⟨rfl,trivial⟩ ?_
      exact av (s230 v) [0,1,2] ⟨rfl,rfl,rfl,rfl,rfl,rfl,rfl,rfl,rfl,rfl,rfl,rfl,trivial⟩
     exact trivial
    have s7:J 9 [true,true,true,false,false,false,false,false,false,false,false,false] (fi [true,true,true,false,false,false,false,false,false,false,false,false] (lZ y z.1 l undef undef)++lu b2 y L.1 q1 l a1) [.obj y 111 (.agg (.pair (.at au (a0,.map (some m))) (.eq z.1))),.sl z.1 22 .val (fj z.2 0 q2)]:=by
     subst hJ
     refine JD.step [3,5] (by kernel_rfl) rfl ?_
     refine bL.cons rfl ?_ ?_
     ·
      refine aD rfl (ax rfl tH) ⟨rfl,trivial⟩ ?_
      exact av (s15) [0,1] ⟨rfl,rfl,rfl,rfl,rfl,rfl,rfl,rfl,rfl,rfl,rfl,trivial⟩
     refine bL.cons rfl ?_ ?_
     ·
      refine aA rfl rfl ?_
      exact av (s39) [0,1] ⟨rfl,rfl,rfl,rfl,rfl,rfl,rfl,rfl,rfl,rfl,rfl,trivial⟩
     exact trivial
    have s14:J 9 [false,true,true,true,false,false,false,false,false,false,false,false] (fi [false,true,true,true,false,false,false,false,false,false,false,false] (lZ y z.1 l undef undef)++lu b2 y L.1 q1 l a1) [.obj y 111 (.agg (.pair (.at au (a0,.map (some m))) (.eq z.1))),.sl z.1 22 .val (fj z.2 0 q2)]:=by
     subst hJ
     refine JD.step [0,4,5] (by kernel_rfl) rfl ?_
     refine bL.cons rfl ?_ ?_
     ·
      refine aA rfl rfl ?_
      exact av (s15) [0,1] ⟨rfl,rfl,rfl,rfl,rfl,rfl,rfl,rfl,rfl,rfl,rfl,trivial⟩
     refine bL.cons rfl ?_ ?_
     ·
      refine bQ rfl rfl rfl (ak rfl nK kU rfl) ⟨rfl,trivial⟩ ?_
      exact av (s30) [0,1] ⟨rfl,rfl,rfl,rfl,rfl,rfl,rfl,rfl,rfl,rfl,rfl,trivial⟩
     refine bL.cons rfl ?_ ?_
     ·
      refine aA rfl rfl ?_
      exact av (s46) [0,1] ⟨rfl,rfl,rfl,rfl,rfl,rfl,rfl,rfl,rfl,rfl,rfl,trivial⟩
     exact trivial
    have s35:J 9 [true,true,false,false,false,true,false,false,false,false,false,false] (fi [true,true,false,false,false,true,false,false,false,false,false,false] (lZ y z.1 l undef undef)++lu b2 y L.1 q1 l a1) [.obj y 111 (.agg (.pair (.at au (a0,.map (some m))) (.eq z.1))),.sl z.1 22 .val (fj z.2 0 q2)]:=by
     subst hJ
     refine JD.step [2,6] (by kernel_rfl) rfl ?_
     refine bL.cons rfl ?_ ?_
     ·
      refine aD rfl (aW rfl) ⟨rfl,trivial⟩ ?_
      exact av (s39) [0,1] ⟨rfl,rfl,rfl,rfl,rfl,rfl,rfl,rfl,rfl,rfl,rfl,trivial⟩
     refine bL.cons rfl ?_ ?_
     ·
      refine aE rfl rfl rfl (ao [.tmp 44] rfl rfl pZ rfl cc) ⟨rfl,trivial⟩ fun v=>?_
      exact av (s99 v) [1,2,0] ⟨rfl,rfl,rfl,rfl,rfl,rfl,rfl,rfl,rfl,rfl,rfl,trivial⟩
     exact trivial
    have s38:J 9 [false,true,true,false,false,true,false,false,false,false,false,false] (fi [false,true,true,false,false,true,false,false,false,false,false,false] (lZ y z.1 l undef undef)++lu b2 y L.1 q1 l a1) [.obj y 111 (.agg (.pair (.at au (a0,.map (some m))) (.eq z.1))),.sl z.1 22 .val (fj z.2 0 q2)]:=by
     subst hJ
     refine JD.step [0,3,6] (by kernel_rfl) rfl ?_
     refine bL.cons rfl ?_ ?_
     ·
      refine aA rfl rfl ?_
      exact av (s39) [0,1] ⟨rfl,rfl,rfl,rfl,rfl,rfl,rfl,rfl,rfl,rfl,rfl,trivial⟩
     refine bL.cons rfl ?_ ?_
     ·
      refine aD rfl (ax rfl tH) ⟨rfl,trivial⟩ ?_
      exact av (s46) [0,1] ⟨rfl,rfl,rfl,rfl,rfl,rfl,rfl,rfl,rfl,rfl,rfl,trivial⟩
     refine bL.cons rfl ?_ ?_
     ·
      refine aE rfl rfl rfl (ao [.tmp 44] rfl rfl pZ rfl cc) ⟨rfl,trivial⟩ fun v=>?_
      exact av (s102 v) [1,2,0] ⟨rfl,rfl,rfl,rfl,rfl,rfl,rfl,rfl,rfl,rfl,rfl,trivial⟩
     exact trivial
    have s97:∀(v:Value),J 9 [true,false,false,false,false,true,true,false,false,false,false,false] (fi [true,false,false,false,false,true,true,false,false,false,false,false] (lZ y z.1 l v undef)++lu b2 y L.1 q1 l a1) [.obj y 111 (.agg (.pair (.at au (a0,.map (some m))) (.eq z.1))),.sl z.1 22 .val (fj z.2 0 q2),.sl v 3 (.int .i64) l2]:=fun v=>by
     subst hJ
     refine JD.step [1,7] (by kernel_rfl) rfl ?_
     refine bL.cons rfl ?_ ?_
     ·
      refine aA rfl rfl ?_
      exact av (s99 v) [0,1,2] ⟨rfl,rfl,rfl,rfl,rfl,rfl,rfl,rfl,rfl,rfl,rfl,trivial⟩
     refine bL.cons rfl ?_ ?_
     ·
      refine bD 2 rfl ?_
      refine gd fun hv=>?_
      refine aD rfl (bC (t:=.val) [(.tmp 45,.eq v)] [v] rfl rfl nL (.cons hv (.val hv) .nil) rfl rfl) ⟨rfl,trivial⟩ ?_
      exact av (s225 v) [1,2,0] ⟨rfl,rfl,rfl,rfl,rfl,rfl,rfl,rfl,rfl,rfl,rfl,trivial⟩
     exact trivial
    have s98:∀(v:Value),J 9 [false,true,false,false,false,true,true,false,false,false,false,false] (fi [false,true,false,false,false,true,true,false,false,false,false,false] (lZ y z.1 l v undef)++lu b2 y L.1 q1 l a1) [.obj y 111 (.agg (.pair (.at au (a0,.map (some m))) (.eq z.1))),.sl z.1 22 .val (fj z.2 0 q2),.sl v 3 (.int .i64) l2]:=fun v=>by
     subst hJ
     refine JD.step [0,2,7] (by kernel_rfl) rfl ?_
     refine bL.cons rfl ?_ ?_
     ·
      refine aA rfl rfl ?_
      exact av (s99 v) [0,1,2] ⟨rfl,rfl,rfl,rfl,rfl,rfl,rfl,rfl,rfl,rfl,rfl,trivial⟩
     refine bL.cons rfl ?_ ?_
     ·
      refine aD rfl (aW rfl) ⟨rfl,trivial⟩ ?_
      exact av (s102 v) [0,1,2] ⟨rfl,rfl,rfl,rfl,rfl,rfl,rfl,rfl,rfl,rfl,rfl,trivial⟩
     refine bL.cons rfl ?_ ?_
     ·
      refine bD 2 rfl ?_
      refine gd fun hv=>?_
      refine aD rfl (bC (t:=.val) [(.tmp 45,.eq v)] [v] rfl rfl nL (.cons hv (.val hv) .nil) rfl rfl) ⟨rfl,trivial⟩ ?_
      exact av (s226 v) [1,2,0] ⟨rfl,rfl,rfl,rfl,rfl,rfl,rfl,rfl,rfl,rfl,rfl,trivial⟩
     exact trivial
    have s224:∀(v:Value),J 9 [false,false,false,false,false,true,true,true,false,false,false,false] (fi [false,false,false,false,false,true,true,true,false,false,false,false] (lZ y z.1 l v undef)++lu b2 y L.1 q1 l a1) [.obj y 111 (.agg (.pair (.at au (a0,.map (some m))) (.eq z.1))),.sl z.1 22 .val (fj z.2 0 q2),.sl v 3 (.int .i64) l2]:=fun v=>by
     subst hJ
     refine JD.step [0,1] (by kernel_rfl) rfl ?_
     refine bL.cons rfl ?_ ?_
     ·
      refine aA rfl rfl ?_
      exact av (s225 v) [0,1,2] ⟨rfl,rfl,rfl,rfl,rfl,rfl,rfl,rfl,rfl,rfl,rfl,trivial⟩
     refine bL.cons rfl ?_ ?_
     ·
      refine aA rfl rfl ?_
      exact av (s226 v) [0,1,2] ⟨rfl,rfl,rfl,rfl,rfl,rfl,rfl,rfl,rfl,rfl,rfl,trivial⟩
     exact trivial
    have s3:J 10 [true,true,false,false,false,false,false,false,false,false,false,false] (fi [true,true,false,false,false,false,false,false,false,false,false,false] (lZ y z.1 l undef undef)++lu b2 y L.1 q1 l a1) [.obj y 111 (.agg (.pair (.at au (a0,.map (some m))) (.eq z.1))),.sl z.1 22 .val (fj z.2 0 q2)]:=by
     subst hJ
     refine JD.step [2,5] (by kernel_rfl) rfl ?_
     refine bL.cons rfl ?_ ?_
     ·
      refine aD rfl (aW rfl) ⟨rfl,trivial⟩ ?_
      exact av (s7) [0,1] ⟨rfl,rfl,rfl,rfl,rfl,rfl,rfl,rfl,rfl,rfl,trivial⟩
     refine bL.cons rfl ?_ ?_
     ·
      refine aA rfl rfl ?_
      exact av (s35) [0,1] ⟨rfl,rfl,rfl,rfl,rfl,rfl,rfl,rfl,rfl,rfl,trivial⟩
     exact trivial
    have s6:J 10 [false,true,true,false,false,false,false,false,false,false,false,false] (fi [false,true,true,false,false,false,false,false,false,false,false,false] (lZ y z.1 l undef undef)++lu b2 y L.1 q1 l a1) [.obj y 111 (.agg (.pair (.at au (a0,.map (some m))) (.eq z.1))),.sl z.1 22 .val (fj z.2 0 q2)]:=by
     subst hJ
     refine JD.step [0,3,5] (by kernel_rfl) rfl ?_
     refine bL.cons rfl ?_ ?_
     ·
      refine aA rfl rfl ?_
      exact av (s7) [0,1] ⟨rfl,rfl,rfl,rfl,rfl,rfl,rfl,rfl,rfl,rfl,trivial⟩
     refine bL.cons rfl ?_ ?_
     ·
      refine aD rfl (ax rfl tH) ⟨rfl,trivial⟩ ?_
      exact av (s14) [0,1] ⟨rfl,rfl,rfl,rfl,rfl,rfl,rfl,rfl,rfl,rfl,trivial⟩
     refine bL.cons rfl ?_ ?_
     ·
      refine aA rfl rfl ?_
      exact av (s38) [0,1] ⟨rfl,rfl,rfl,rfl,rfl,rfl,rfl,rfl,rfl,rfl,trivial⟩
     exact trivial
    have s33:J 10 [true,false,false,false,false,true,false,false,false,false,false,false] (fi [true,false,false,false,false,true,false,false,false,false,false,false] (lZ y z.1 l undef undef)++lu b2 y L.1 q1 l a1) [.obj y 111 (.agg (.pair (.at au (a0,.map (some m))) (.eq z.1))),.sl z.1 22 .val (fj z.2 0 q2)]:=by
     subst hJ
     refine JD.step [1,6] (by kernel_rfl) rfl ?_
     refine bL.cons rfl ?_ ?_
     ·
      refine aA rfl rfl ?_
      exact av (s35) [0,1] ⟨rfl,rfl,rfl,rfl,rfl,rfl,rfl,rfl,rfl,rfl,trivial⟩
     refine bL.cons rfl ?_ ?_
     ·
      refine aE rfl rfl rfl (ao [.tmp 44] rfl rfl pZ rfl cc) ⟨rfl,trivial⟩ fun v=>?_
      exact av (s97 v) [1,2,0] ⟨rfl,rfl,rfl,rfl,rfl,rfl,rfl,rfl,rfl,rfl,trivial⟩
     exact trivial
    have s34:J 10 [false,true,false,false,false,true,false,false,false,false,false,false] (fi [false,true,false,false,false,true,false,false,false,false,false,false] (lZ y z.1 l undef undef)++lu b2 y L.1 q1 l a1) [.obj y 111 (.agg (.pair (.at au (a0,.map (some m))) (.eq z.1))),.sl z.1 22 .val (fj z.2 0 q2)]:=by
     subst hJ
     refine JD.step [0,2,6] (by kernel_rfl) rfl ?_
     refine bL.cons rfl ?_ ?_
     ·
      refine aA rfl rfl ?_
      exact av (s35) [0,1] ⟨rfl,rfl,rfl,rfl,rfl,rfl,rfl,rfl,rfl,rfl,trivial⟩
     refine bL.cons rfl ?_ ?_
     ·
      refine aD rfl (aW rfl) ⟨rfl,trivial⟩ ?_
      exact av (s38) [0,1] ⟨rfl,rfl,rfl,rfl,rfl,rfl,rfl,rfl,rfl,rfl,trivial⟩
     refine bL.cons rfl ?_ ?_
     ·
      refine aE rfl rfl rfl (ao [.tmp 44] rfl rfl pZ rfl cc) ⟨rfl,trivial⟩ fun v=>?_
      exact av (s98 v) [1,2,0] ⟨rfl,rfl,rfl,rfl,rfl,rfl,rfl,rfl,rfl,rfl,trivial⟩
     exact trivial
    have s96:∀(v:Value),J 10 [false,false,false,false,false,true,true,false,false,false,false,false] (fi [false,false,false,false,false,true,true,false,false,false,false,false] (lZ y z.1 l v undef)++lu b2 y L.1 q1 l a1) [.obj y 111 (.agg (.pair (.at au (a0,.map (some m))) (.eq z.1))),.sl z.1 22 .val (fj z.2 0 q2),.sl v 3 (.int .i64) l2]:=fun v=>by
     subst hJ
     refine JD.step [0,1,7] (by kernel_rfl) rfl ?_
     refine bL.cons rfl ?_ ?_
     ·
      refine aA rfl rfl ?_
      exact av (s97 v) [0,1,2] ⟨rfl,rfl,rfl,rfl,rfl,rfl,rfl,rfl,rfl,rfl,trivial⟩
     refine bL.cons rfl ?_ ?_
     ·
      refine aA rfl rfl ?_
      exact av (s98 v) [0,1,2] ⟨rfl,rfl,rfl,rfl,rfl,rfl,rfl,rfl,rfl,rfl,trivial⟩
     refine bL.cons rfl ?_ ?_
     ·
      refine bD 2 rfl ?_
      refine gd fun hv=>?_
      refine aD rfl (bC (t:=.val) [(.tmp 45,.eq v)] [v] rfl rfl nL (.cons hv (.val hv) .nil) rfl rfl) ⟨rfl,trivial⟩ ?_
      exact av (s224 v) [1,2,0] ⟨rfl,rfl,rfl,rfl,rfl,rfl,rfl,rfl,rfl,rfl,trivial⟩
     exact trivial
    have s1:J 11 [true,false,false,false,false,false,false,false,false,false,false,false] (fi [true,false,false,false,false,false,false,false,false,false,false,false] (lZ y z.1 l undef undef)++lu b2 y L.1 q1 l a1) [.obj y 111 (.agg (.pair (.at au (a0,.map (some m))) (.eq z.1))),.sl z.1 22 .val (fj z.2 0 q2)]:=by
     subst hJ
     refine JD.step [1,5] (by kernel_rfl) rfl ?_
     refine bL.cons rfl ?_ ?_
     ·
      refine aA rfl rfl ?_
      exact av (s3) [0,1] ⟨rfl,rfl,rfl,rfl,rfl,rfl,rfl,rfl,rfl,trivial⟩
     refine bL.cons rfl ?_ ?_
     ·
      refine aA rfl rfl ?_
      exact av (s33) [0,1] ⟨rfl,rfl,rfl,rfl,rfl,rfl,rfl,rfl,rfl,trivial⟩
     exact trivial
    have s2:J 11 [false,true,false,false,false,false,false,false,false,false,false,false] (fi [false,true,false,false,false,false,false,false,false,false,false,false] (lZ y z.1 l undef undef)++lu b2 y L.1 q1 l a1) [.obj y 111 (.agg (.pair (.at au (a0,.map (some m))) (.eq z.1))),.sl z.1 22 .val (fj z.2 0 q2)]:=by
     subst hJ
     refine JD.step [0,2,5] (by kernel_rfl) rfl ?_
     refine bL.cons rfl ?_ ?_
     ·
      refine aA rfl rfl ?_
      exact av (s3) [0,1] ⟨rfl,rfl,rfl,rfl,rfl,rfl,rfl,rfl,rfl,trivial⟩
     refine bL.cons rfl ?_ ?_
     ·
      refine aD rfl (aW rfl) ⟨rfl,trivial⟩ ?_
      exact av (s6) [0,1] ⟨rfl,rfl,rfl,rfl,rfl,rfl,rfl,rfl,rfl,trivial⟩
     refine bL.cons rfl ?_ ?_
     ·
      refine aA rfl rfl ?_
      exact av (s34) [0,1] ⟨rfl,rfl,rfl,rfl,rfl,rfl,rfl,rfl,rfl,trivial⟩
     exact trivial
    have s32:J 11 [false,false,false,false,false,true,false,false,false,false,false,false] (fi [false,false,false,false,false,true,false,false,false,false,false,false] (lZ y z.1 l undef undef)++lu b2 y L.1 q1 l a1) [.obj y 111 (.agg (.pair (.at au (a0,.map (some m))) (.eq z.1))),.sl z.1 22 .val (fj z.2 0 q2)]:=by
     subst hJ
     refine JD.step [0,1,6] (by kernel_rfl) rfl ?_
     refine bL.cons rfl ?_ ?_
     ·
      refine aA rfl rfl ?_
      exact av (s33) [0,1] ⟨rfl,rfl,rfl,rfl,rfl,rfl,rfl,rfl,rfl,trivial⟩
     refine bL.cons rfl ?_ ?_
     ·
      refine aA rfl rfl ?_
      exact av (s34) [0,1] ⟨rfl,rfl,rfl,rfl,rfl,rfl,rfl,rfl,rfl,trivial⟩
     refine bL.cons rfl ?_ ?_
     ·
      refine aE rfl rfl rfl (ao [.tmp 44] rfl rfl pZ rfl cc) ⟨rfl,trivial⟩ fun v=>?_
      exact av (s96 v) [1,2,0] ⟨rfl,rfl,rfl,rfl,rfl,rfl,rfl,rfl,rfl,trivial⟩
     exact trivial
    have s0:J 12 [false,false,false,false,false,false,false,false,false,false,false,false] (fi [false,false,false,false,false,false,false,false,false,false,false,false] (lZ y z.1 l undef undef)++lu b2 y L.1 q1 l a1) [.obj y 111 (.agg (.pair (.at au (a0,.map (some m))) (.eq z.1))),.sl z.1 22 .val (fj z.2 0 q2)]:=by
     subst hJ
     refine JD.step [0,1,5] (by kernel_rfl) rfl ?_
     refine bL.cons rfl ?_ ?_
     ·
      refine aA rfl rfl ?_
      exact av (s1) [0,1] ⟨rfl,rfl,rfl,rfl,rfl,rfl,rfl,rfl,trivial⟩
     refine bL.cons rfl ?_ ?_
     ·
      refine aA rfl rfl ?_
      exact av (s2) [0,1] ⟨rfl,rfl,rfl,rfl,rfl,rfl,rfl,rfl,trivial⟩
     refine bL.cons rfl ?_ ?_
     ·
      refine aA rfl rfl ?_
      exact av (s32) [0,1] ⟨rfl,rfl,rfl,rfl,rfl,rfl,rfl,rfl,trivial⟩
     exact trivial
    exact s0
   ·
    exact fun a w st=>⟨rfl,p,st⟩
  ·
   subst hB
   refine aP ?_
   refine ae ?_
   refine bF (gK (Δ':=.sl p.1 3 (.int .i64) l2:: .sl p.2 22 .val (fj z.2 0 q2++[p.1])::([.obj y 111 (.agg (.pair (.at au (a0,.map (some m))) (.eq p.2))),.inv m (bJ k a0),.obj b2 27 (.rep aw a0),.inv 0 dP]++k9 z.2 0 q2)) ?_) ?_
   ·
    exact List.Perm.trans (List.Perm.swap _ _ _) (List.Perm.trans (List.Perm.cons _ (List.Perm.swap _ _ _)) (List.Perm.swap _ _ _))
   refine bF (EN (pre:=[.obj y 111 (.agg (.pair (.at au (a0,.map (some m))) (.eq p.2))),.inv m (bJ k a0),.obj b2 27 (.rep aw a0),.inv 0 dP])) ?_
   show JC _ _ _ _ _
   refine ab ?_
   obtain⟨w3,ew,h⟩:=aa h
   refine aD rfl (bm rfl ew) ⟨rfl,rfl,trivial⟩ ?_
   refine aA rfl rfl ?_
   refine ar ?_
   refine ae ?_
   exact iR ((p.2,nV z.2 q2.length p.1),(w3,q2++[l2])) h (bh [.obj y 111 (.agg (.pair (.at au (a0,.map (some m))) (.eq p.2))),.inv m (bJ k a0),.obj b2 27 (.rep aw a0),.inv 0 dP] (ge 22 (p.2,nV z.2 q2.length p.1) (q2++[l2])) [0,1,2,3] ⟨rfl,rfl,rfl,rfl,rfl,rfl,trivial⟩ rfl)
 replace h:=bT (m4 hb) h
 refine dD ?_
 refine aQ ?_
 refine aQ ?_
 refine bR ?_
 refine ae ?_
 show JC _ _ _ _ _
 replace h:((jk k a0 k (0,[],q.2)).bind fun p=>(lp k a0 p.1 p.2).bind fun b=>if(!b.2.2.1 || decide (L.1≤b.2.1))=true then some (0,0,0,11) else some (b.1.1,b.1.2,b.2.1,0)).bind some=some r:=h
 rw [Option.bind_assoc] at h
 generalize q.2=ls at h⊢
 refine ah ?_
 refine ab ?_
 refine dK rfl ?_
 refine cO (SE.nil 114 eW) ?_
 refine ar ?_
 refine ae ?_
 show JC _ _ _ _ _
 refine eG (bh (Γ':=[(2,.eq (bP b2)),(8,.eq (.int .i64 L.1)),(10,.eq (bP y)),(13,.eq (.slice none 0 0))]) (pre':=[.inv m (bJ k a0),.obj b2 27 (.rep aw a0),.inv 0 dP,.sl (.slice none 0 0) 114 eW [],.obj y 111 (.agg (.pair (.at au (a0,.map (some m))) (.eq z.1)))]) [.sl (.slice none 0 0) 114 eW [],.obj y 111 (.agg (.pair (.at au (a0,.map (some m))) (.eq z.1))),.inv m (bJ k a0),.obj b2 27 (.rep aw a0),.inv 0 dP] (ge 22 z ls) [2,3,4,0,1] ⟨rfl,rfl,rfl,rfl,trivial⟩ rfl) ?_
 refine ah ?_
 refine ah ?_
 refine ab ?_
 refine aD rfl (ax rfl Lj) ⟨rfl,trivial⟩ ?_
 refine bD 1 rfl ?_
 refine bQ rfl rfl rfl (ak rfl KY kU rfl) ⟨rfl,trivial⟩ ?_
 refine aD rfl (mP rfl rfl nY) ⟨rfl,trivial⟩ ?_
 refine eT rfl ?_
 refine ar ?_
 refine ae ?_
 show JC _ _ _ _ _
 refine an ?_
 refine aN (Z:=Value) (α:=Int×List (Int×Int)×List (List Int)) (fun c q=>[(2,.eq (bP b2)),(8,.eq (.int .i64 L.1)),(10,.eq (bP y)),(13,.eq c),(53,.eq (.int .i64 (a0.2.1.length:Int))),(54,.eq (.int .i64 q.1))]) (fun c q=>[.obj b2 27 (.rep aw a0),.inv m (bJ k a0),.inv 0 dP,.sl c 114 eW q.2.1,.obj y 111 (.agg (.pair (.at au (a0,.map (some m))) (.eq z.1)))]++ge 22 z q.2.2) (jk k a0) k (.slice none 0 0) (0,[],ls) (fun _=>rfl) h (bh [.obj b2 27 (.rep aw a0),.inv m (bJ k a0),.inv 0 dP,.sl (.slice none 0 0) 114 eW [],.obj y 111 (.agg (.pair (.at au (a0,.map (some m))) (.eq z.1)))] (ge 22 z ls) [0,1,2,3,4] ⟨rfl,rfl,rfl,rfl,rfl,rfl,trivial⟩ rfl) (fun n c q h=>?_)
 obtain⟨q1,qp,ql⟩:=q
 unfold jk at h
 refine ah ?_
 refine ab ?_
 refine aD rfl (bG rfl) ⟨rfl,rfl,trivial⟩ ?_
 refine ar ?_
 refine ae ?_
 show JC _ _ _ _ _
 refine ah ?_
 refine bK rfl (fun hb=>?_) (fun hb=>?_)
 ·
  replace h:=cU (nz hb) h
  obtain⟨w,ew,h⟩:=aa h
  rw [Option.bind_assoc] at h
  refine ba ?_
  refine ae ?_
  show JC _ _ _ _ _
  refine ah ?_
  refine an ?_
  refine ah ?_
  refine ab ?_
  refine aA rfl rfl ?_
  refine dr rfl rfl ?_
  refine ar ?_
  refine ae ?_
  show JC _ _ _ _ _
  refine ah ?_
  refine ab ?_
  refine aA rfl rfl ?_
  refine aD rfl (bm rfl ew) ⟨rfl,rfl,trivial⟩ ?_
  refine dr rfl rfl ?_
  refine ar ?_
  refine ae ?_
  show JC _ _ _ _ _
  refine an ?_
  refine aN (Z:=Value) (α:=Int×List (Int×Int)×List (List Int)) (fun c q=>[(2,.eq (bP b2)),(8,.eq (.int .i64 L.1)),(10,.eq (bP y)),(13,.eq c),(14,.eq (.int .i64 q1)),(15,.eq (.int .i64 q.1)),(53,.eq (.int .i64 (a0.2.1.length:Int))),(54,.eq (.int .i64 q1))]) (fun c q=>[.obj b2 27 (.rep aw a0),.inv m (bJ k a0),.inv 0 dP,.sl c 114 eW q.2.1,.obj y 111 (.agg (.pair (.at au (a0,.map (some m))) (.eq z.1)))]++ge 22 z q.2.2) (kf k a0 q1) k c (w,qp,ql) (fun _=>rfl) h (bh [.obj b2 27 (.rep aw a0),.inv m (bJ k a0),.inv 0 dP,.sl c 114 eW qp,.obj y 111 (.agg (.pair (.at au (a0,.map (some m))) (.eq z.1)))] (ge 22 z ql) [0,1,2,3,4] ⟨rfl,rfl,rfl,rfl,rfl,rfl,rfl,rfl,trivial⟩ rfl) (fun n3 c q h=>?_)
  obtain⟨j,rp,rl⟩:=q
  unfold kf at h
  refine ah ?_
  refine ah ?_
  refine ab ?_
  refine aA rfl rfl ?_
  refine aD rfl (ax rfl Lj) ⟨rfl,trivial⟩ ?_
  refine bQ rfl rfl rfl (ak rfl KY kU rfl) ⟨rfl,trivial⟩ ?_
  refine aD rfl (mP rfl rfl nY) ⟨rfl,trivial⟩ ?_
  refine aD rfl (bG rfl) ⟨rfl,rfl,trivial⟩ ?_
  refine ar ?_
  refine ae ?_
  show JC _ _ _ _ _
  refine bK rfl (fun hb=>?_) (fun hb=>?_)
  ·
   replace h:=cU (nz hb) h
   obtain⟨r1,Q,h⟩:=aa h
   have cv:=sd k a0 (q1,j) rl r1 y m z Q
   refine ba ?_
   refine ae ?_
   show JC _ _ _ _ _
   refine ah ?_
   refine an ?_
   refine ah ?_
   refine ab ?_
   refine aA rfl rfl ?_
   refine aA rfl rfl ?_
   refine aD rfl (c6 [(0,.tmp 66,_),(1,.tmp 67,_)] rfl LM rX Kw (iH ⟨rfl,rfl,trivial⟩) rfl) ⟨rfl,rfl,trivial⟩ ?_
   refine aE rfl rfl rfl (aZ rfl rX vi) trivial fun e=>?_
   refine aY rfl rfl (aR rfl gq trivial rfl rfl) ⟨rfl,rfl,trivial⟩ ?_
   refine cO (pG (a':=.rep eW (q1,j)) P9) ?_
   refine ar ?_
   refine ae ?_
   show JC _ _ _ _ _
   refine ah ?_
   refine ab ?_
   refine aA rfl rfl ?_
   refine bQ rfl rfl rfl (ak rfl gq (yv) rfl) ⟨rfl,trivial⟩ ?_
   refine cO (gK (Δ':=([.obj y 111 (.agg (.pair (.at au (a0,.map (some m))) (.eq z.1)))]++ge 22 z rl)++[.obj e 114 (.rep eW (q1,j)),.obj b2 27 (.rep aw a0),.inv m (bJ k a0),.inv 0 dP,.sl c 114 eW rp]) (List.perm_append_comm (l₁:=([.obj e 114 (.rep eW (q1,j)),.obj b2 27 (.rep aw a0),.inv m (bJ k a0),.inv 0 dP,.sl c 114 eW rp]:List D)))) ?_
   refine bN (Δ:=_++_) (F:=[_,_,_,_,_]) (fun _ _ _=>ay rfl _) rfl rfl (ao [.tmp 69,.tmp 70] rfl rfl O8 rfl cv) ⟨rfl,rfl,trivial⟩ fun _=>?_
   refine cO (gK (Δ':=[.obj e 114 (.rep eW (q1,j)),.obj b2 27 (.rep aw a0),.inv m (bJ k a0),.inv 0 dP,.sl c 114 eW rp]++([.obj y 111 (.agg (.pair (.at au (a0,.map (some m))) (.eq z.1)))]++ge 22 z r1.2)) List.perm_append_comm) ?_
   refine ar ?_
   refine ae ?_
   show JC _ _ _ _ _
   refine bK rfl (fun hb=>?_) (fun hb=>?_)
   ·
    replace h:=cU (Ff hb) h
    have hk:bU (rp.length+1):=by
     apply Classical.byContradiction
     intro hn
     rw [if_neg hn] at h
     cases h
    replace h:=cU hk h
    refine ab ?_
    refine aA rfl rfl ?_
    refine bQ rfl rfl rfl (ak rfl gq (yv) rfl) ⟨rfl,trivial⟩ ?_
    refine aD rfl (bC (t:=eW) [(.tmp 73,_)] [(q1,j)] rfl rfl FI (.cons rfl .rep .nil) rfl rfl) ⟨rfl,trivial⟩ ?_
    refine bD 4 rfl ?_
    refine eC rfl rfl rfl (bZ rfl rfl FI (by simpa using hk)) ⟨rfl,rfl,trivial⟩ fun v'=>?_
    refine dr rfl rfl ?_
    refine ar ?_
    refine aP ?_
    refine ae ?_
    show JC _ _ _ _ _
    refine ab ?_
    refine aA rfl rfl ?_
    obtain⟨w2,ew2,h⟩:=aa h
    refine aD rfl (bm rfl ew2) ⟨rfl,rfl,trivial⟩ ?_
    refine dr rfl rfl ?_
    refine ar ?_
    refine ae ?_
    exact iR (v',(w2,rp++[(q1,j)],r1.2)) h (bh [.sl v' 114 eW (rp++[(q1,j)]),.obj e 114 (.rep eW (q1,j)),.obj b2 27 (.rep aw a0),.inv m (bJ k a0),.inv 0 dP,.obj y 111 (.agg (.pair (.at au (a0,.map (some m))) (.eq z.1)))] (ge 22 z r1.2) [2,3,4,0,5] ⟨rfl,rfl,rfl,rfl,rfl,rfl,rfl,rfl,trivial⟩ rfl)
   ·
    replace h:=bT (Fo hb) h
    refine ba ?_
    refine aP ?_
    refine ae ?_
    show JC _ _ _ _ _
    refine ab ?_
    refine aA rfl rfl ?_
    obtain⟨w2,ew2,h⟩:=aa h
    refine aD rfl (bm rfl ew2) ⟨rfl,rfl,trivial⟩ ?_
    refine dr rfl rfl ?_
    refine ar ?_
    refine ae ?_
    exact iR (c,(w2,rp,r1.2)) h (bh [.obj e 114 (.rep eW (q1,j)),.obj b2 27 (.rep aw a0),.inv m (bJ k a0),.inv 0 dP,.sl c 114 eW rp,.obj y 111 (.agg (.pair (.at au (a0,.map (some m))) (.eq z.1)))] (ge 22 z r1.2) [1,2,3,4,5] ⟨rfl,rfl,rfl,rfl,rfl,rfl,rfl,rfl,trivial⟩ rfl)
  replace h:=bT (m4 hb) h
  refine dD ?_
  refine aQ ?_
  refine aQ ?_
  refine bR ?_
  refine aP ?_
  refine ae ?_
  show JC _ _ _ _ _
  replace h:(jk k a0 n (w,rp,rl)).bind _=some r:=h
  refine ab ?_
  refine aD rfl (bm rfl ew) ⟨rfl,rfl,trivial⟩ ?_
  refine aA rfl rfl ?_
  refine ar ?_
  refine ae ?_
  exact iR (c,(w,rp,rl)) h (bh [.obj b2 27 (.rep aw a0),.inv m (bJ k a0),.inv 0 dP,.sl c 114 eW rp,.obj y 111 (.agg (.pair (.at au (a0,.map (some m))) (.eq z.1)))] (ge 22 z rl) [0,1,2,3,4] ⟨rfl,rfl,rfl,rfl,rfl,rfl,trivial⟩ rfl)
 replace h:=bT (m4 hb) h
 refine dD ?_
 refine aQ ?_
 refine aQ ?_
 refine bR ?_
 refine ae ?_
 show JC _ _ _ _ _
 replace h:((lp k a0 qp ql).bind fun b=>if(!b.2.2.1 || decide (L.1≤b.2.1))=true then some (0,0,0,11) else some (b.1.1,b.1.2,b.2.1,0)).bind some=some r:=h
 obtain⟨b,eb,h⟩:=aa h
 have cx:=vA k a0 qp ql b y m z eb
 refine ah ?_
 refine ab ?_
 refine aA rfl rfl ?_
 refine aD rfl (sD [.tmp 78] [] [bP y] [] rfl rfl rfl) ⟨rfl,trivial⟩ ?_
 refine bD 3 rfl ?_
 refine cO (gZ [13] ⟨rfl,trivial⟩) ?_
 refine aA rfl rfl ?_
 refine cO (bh (Γ':=[(8,.eq (.int .i64 L.1)),(79,.eq (.func (.func 62) #[bP y] #[])),(80,Rs eW qp)]) (pre':=[.inv 0 dP,.obj b2 27 (.rep aw a0),.inv m (bJ k a0),.obj y 111 (.agg (.pair (.at au (a0,.map (some m))) (.eq z.1)))]) [.obj b2 27 (.rep aw a0),.inv m (bJ k a0),.inv 0 dP,.obj y 111 (.agg (.pair (.at au (a0,.map (some m))) (.eq z.1)))] (ge 22 z ql) [2,0,1,3] ⟨rfl,rfl,rfl,trivial⟩ rfl) ?_
 refine cO (gK (Δ':=([.inv m (bJ k a0),.obj y 111 (.agg (.pair (.at au (a0,.map (some m))) (.eq z.1)))]++ge 22 z ql)++[.inv 0 dP,.obj b2 27 (.rep aw a0)]) (List.perm_append_comm (l₁:=([.inv 0 dP,.obj b2 27 (.rep aw a0)]:List D)))) ?_
 refine bN (Δ:=_++_) (F:=[_,_]) (fun _ _ _=>ay rfl _) rfl rfl (ff [.tmp 79,.tmp 80] rfl rfl O7 rfl cx) ⟨rfl,rfl,trivial⟩ fun _=>?_
 refine cO (gK (Δ':=[.inv 0 dP,.obj b2 27 (.rep aw a0)]++([.inv m (bJ k a0),.obj y 111 (.agg (.pair (.at au (a0,.map (some m))) (.eq z.1)))]++ge 22 z b.2.2.2)) List.perm_append_comm) ?_
 refine aA rfl rfl ?_
 refine aD rfl (gV rfl rfl) ⟨rfl,trivial⟩ ?_
 refine aD rfl (gV rfl rfl) ⟨rfl,trivial⟩ ?_
 refine aD rfl (gV rfl rfl) ⟨rfl,trivial⟩ ?_
 refine aE rfl rfl rfl (aZ rfl rX vi) trivial fun s=>?_
 refine aY rfl rfl (aR rfl gq rfl rfl rfl) ⟨rfl,rfl,trivial⟩ ?_
 refine dr rfl rfl ?_
 refine dr rfl rfl ?_
 refine ar ?_
 refine ae ?_
 show JC _ _ _ _ _
 obtain⟨bx,bn,bo,bl⟩:=b
 cases bo with
 |false=>
  replace h:some (0,0,0,11)=some r:=by simpa using h
  obtain rfl:=Option.some.inj h
  refine ah ?_
  refine ah ?_
  refine ab ?_
  refine aA rfl rfl ?_
  refine aD rfl (eY rfl) ⟨rfl,trivial⟩ ?_
  refine aA rfl rfl ?_
  refine yo rfl rfl rfl rfl rfl rfl rfl ?_
  refine yo rfl rfl rfl rfl rfl rfl rfl ?_
  refine yo rfl rfl rfl rfl rfl rfl rfl ?_
  refine aD rfl (uF rfl) ⟨rfl,rfl,trivial⟩ ?_
  refine ar ?_
  refine ae ?_
  show JC _ _ _ _ _
  refine bK rfl (fun hb=>?_) (fun hb=>(by cases hb))
  refine ah ?_
  refine ab ?_
  refine dK rfl ?_
  refine dK rfl ?_
  refine dK rfl ?_
  refine dK rfl ?_
  refine ar ?_
  refine ae ?_
  show JC _ _ _ _ _
  refine aC ?_
  refine aV ?_
  refine c9 1 rfl ?_
  exact aL () [_,_,_,_] 1 ⟨rfl,rfl,rfl,rfl,trivial⟩ rfl
 |true=>
  refine ah ?_
  refine ah ?_
  refine ab ?_
  refine aA rfl rfl ?_
  refine aD rfl (eY rfl) ⟨rfl,trivial⟩ ?_
  refine aA rfl rfl ?_
  refine mA rfl rfl rfl rfl rfl rfl (aO rfl) ⟨rfl,trivial⟩ ?_
  refine mA rfl rfl rfl rfl rfl rfl (aO rfl) ⟨rfl,trivial⟩ ?_
  refine mA rfl rfl rfl rfl rfl rfl (pW rfl) ⟨rfl,rfl,trivial⟩ ?_
  refine aD rfl (uG rfl) ⟨rfl,rfl,trivial⟩ ?_
  refine ar ?_
  refine ae ?_
  show JC _ _ _ _ _
  refine bK rfl (fun hb=>?_) (fun hb=>?_)
  ·
   have hd:L.1≤bn:=of_decide_eq_true hb
   replace h:some (0,0,0,11)=some r:=by simpa [hd] using h
   obtain rfl:=Option.some.inj h
   refine ah ?_
   refine ab ?_
   refine dK rfl ?_
   refine dK rfl ?_
   refine dK rfl ?_
   refine dK rfl ?_
   refine ar ?_
   refine ae ?_
   show JC _ _ _ _ _
   refine aC ?_
   refine aV ?_
   refine c9 1 rfl ?_
   exact aL () [_,_,_,_] 1 ⟨rfl,rfl,rfl,rfl,trivial⟩ rfl
  ·
   have hd:¬L.1≤bn:=of_decide_eq_false hb
   replace h:some (bx.1,bx.2,bn,0)=some r:=by simpa [hd] using h
   refine ba ?_
   refine ae ?_
   obtain rfl:=Option.some.inj h
   show JC _ _ _ _ _
   refine ah ?_
   refine vt (Δ:=[.obj s 114 (.rep eW bx)]) (F:=[.inv 0 dP,.obj b2 27 (.rep aw a0),.inv m (bJ k a0),.obj y 111 (.agg (.pair (.at au (a0,.map (some m))) (.eq z.1)))]++ge 22 z bl) (Z:=Unit) (fun _=>[(4,.eq (.int .i64 bx.1)),(5,.eq (.int .i64 bx.2)),(6,.eq (.int .i64 bn)),(7,.eq (.int .i64 0))]) (fun _=>[.obj s 114 (.rep eW bx)]) (fun S w=>?_) (fun _=>?_)
   ·
    refine eG (SE.sub (Γ':=[(17,.eq (bP s)),(18,.eq (.int .i64 bn))]) ⟨rfl,rfl,trivial⟩) ?_
    refine gQ ?_
    refine aF rfl rfl rfl (ax rfl MI) ⟨rfl,trivial⟩ ?_
    refine cp 0 rfl rfl rfl rfl (ak rfl tC kU rfl) ⟨rfl,trivial⟩ ?_
    refine aF rfl rfl rfl (ax rfl MH) ⟨rfl,trivial⟩ ?_
    refine cp 0 rfl rfl rfl rfl (ak rfl tC kU rfl) ⟨rfl,trivial⟩ ?_
    refine aF rfl rfl rfl (aO rfl) ⟨rfl,trivial⟩ ?_
    refine kK 5 [true,true,false,false,false] [4,5,6,7] [0] [.obj s 114 (.rep eW bx)] rfl (by kernel_rfl) (by kernel_rfl) (by kernel_rfl) qz (fun vs hv hB=>?_)
    obtain⟨u0,mc,rfl,O⟩:=aj hv
    obtain⟨u1,ac,rfl,M⟩:=aj O
    obtain⟨u2,Y,rfl,E⟩:=aj M
    obtain⟨u3,X,rfl,x⟩:=aj E
    obtain⟨u4,U,rfl,u⟩:=aj x
    obtain rfl:=i7 u
    refine⟨[0],[],by kernel_rfl,by decide,?_⟩
    refine nC rfl rfl rfl rfl (ir rfl) ⟨rfl,trivial⟩ (by kernel_rfl) ?_
    refine nC rfl rfl rfl rfl (ir rfl) ⟨rfl,trivial⟩ (by kernel_rfl) ?_
    refine nC rfl rfl rfl rfl (ir rfl) ⟨rfl,trivial⟩ (by kernel_rfl) ?_
    refine nC rfl rfl rfl rfl (ir rfl) ⟨rfl,trivial⟩ (by kernel_rfl) ?_
    refine nD ?_
    exact fun a w st=>⟨rfl,(),(SE.fin (Γ':=[(4,.eq (.int .i64 bx.1)),(5,.eq (.int .i64 bx.2)),(6,.eq (.int .i64 bn)),(7,.eq (.int .i64 0))]) [0] ⟨rfl,rfl,rfl,rfl,trivial⟩ rfl) a w st⟩
   ·
    refine ae ?_
    show JC _ _ _ _ _
    refine aC ?_
    refine c9 1 rfl ?_
    exact aL () [_,_,_,_] 1 ⟨rfl,rfl,rfl,rfl,trivial⟩ rfl
def na(k:Nat)(a0:be)(r7:Int×(List (List Int))):Nat→((List Int)×Int)→Option (List Int)
 |0,_=>none
 |n+1,c=>
  if c.2 < (a0.2.1.length:Int) then((((dS k r7.1 c.2).bind fun j=>
  if j=true then((dY (bU (List.length c.1+List.length [c.2]))).bind fun _=>
  some (c.1++[c.2])) else(some c.1)):Option ((List Int))).bind fun h=>
  (ck (c.2+1)).bind fun e=>
  na k a0 r7 n (h,e)) else(some c.1)
def xl(k:Nat)(a0:be)(a1:(List (List Int)))(a2:Int):Option ((List Int)×(List (List Int))×Int):=
 (ct k a0 a1).bind fun r2=>
 if¬(r2=0) then(some ([],[],r2)) else((ck (a0.1 - 1)).bind fun x3=>
 (dG k a2 0 x3).bind fun r4=>
 if¬(r4=true) then(some ([],[],3)) else((dz k a1).bind fun r6=>
 (ix k (a0,()) r6 a2).bind fun r7=>
 ((na k a0 r7 k (([]:(List Int)),0)):Option ((List Int))).bind fun x9=>
 (dR k (a0,()) r7.2).bind fun c=>
 some (x9,c,0)))
theorem AK(k:Nat)(a0:be)(a1:(List (List Int)))(a2:Int)(r:(List Int)×(List (List Int))×Int)(h:xl k a0 a1 a2=some r):
 cd Tryz.prog 34 [.rep aw a0,.rep (.slice (.slice (.int .i64))) a1,I a2] [.inv 0 (dP)] (fun _:Unit=>(bv [Ri r.1,.rep (.slice (.slice (.int .i64))) r.2.1,I r.2.2],[.inv 0 (dP)])):=by
 unfold xl at h
 replace h:=bg h
 refine cd.of 55 Tryz.func34 rfl Tryz.ntmps34 rfl fun S w0=>?_
 refine sr ?_
 refine bx fun b1=>?_
 refine cq ?_
 refine cq ?_
 refine cq ?_
 refine nt ?_
 refine ah ?_
 refine sr ?_
 refine lo fJ ?_
 refine mq ?_
 obtain⟨r2,ac,h⟩:=aa h
 have mc:=eD k a0 a1 r2 ac
 refine fr 1 ?_
 refine kb (ao [.tmp 15,.tmp 16] rfl rfl J0 rfl mc) ?_
 refine aq ?_
 refine nt ?_
 refine sr ?_
 refine mq ?_
 refine jb (jJ rfl) ?_
 refine nt ?_
 refine cn h (fun h=>?_) (fun h=>?_)
 ·
  refine sr (mq ?_);refine cq ?_;refine cq ?_;refine aq (nt (rx ?_));refine bF (lK (t:=(.slice (.int .i64))) (x:=[]) 6 rfl .nil rfl rfl) ?_;refine bF (lK (t:=(.slice (.slice (.int .i64)))) (x:=[]) 7 rfl .nil rfl rfl) ?_;cases h;exact aL () [_,_,_] 1 ⟨rfl,rfl,rfl,trivial⟩ rfl
 ·
  refine sk (ah (sr (mq ?_)));refine fl cD ?_;refine fr 1 ?_;refine lo co ?_;obtain⟨x3,Q,h⟩:=aa h;refine jb (d5 rfl Q) ?_;obtain⟨r4,Y,h⟩:=aa h;refine jc (ao [.tmp 21,.const (.int .i64 (0)),.tmp 24] rfl rfl yc rfl (dL k a2 0 x3 r4 Y)) ?_;refine ja (eY rfl) ?_;refine nt (cw h (fun h=>?_) (fun h=>?_))
  ·refine sr (cq ?_);refine cq ?_;refine cq (nt (rx ?_));refine bF (lK (t:=(.slice (.int .i64))) (x:=[]) 6 rfl .nil rfl rfl) ?_;refine bF (lK (t:=(.slice (.slice (.int .i64)))) (x:=[]) 7 rfl .nil rfl rfl) ?_;refine bF (SE.fin (Γ':=[(6,_),(7,_),(8,_)]) [1,0] ⟨rfl,rfl,rfl,trivial⟩ rfl) ?_;cases h;exact aL () [_,_,_] 1 ⟨rfl,rfl,rfl,trivial⟩ rfl
  ·refine sk (sr (lo fJ ?_));refine aE rfl rfl rfl (ao [.tmp 27] rfl rfl HK rfl (fU a0)) ⟨rfl,trivial⟩ fun z5=>?_;refine cO (jX (bJ k a0) li) ?_;refine aq (nt (sr ?_));iterate 2 refine mq ?_
   obtain⟨r6,X,h⟩:=aa h;refine ja (ao [.tmp 31] rfl rfl BG rfl (dT k a1 r6 X)) ?_;refine mq ?_;obtain⟨r7,U,h⟩:=aa h;refine jc (cN (N:=[(.tmp 30,.at au (a0,(.map (some z5)))),(.tmp 32,.rep (.arr 3 (.arr 5 (.int .i64))) r6),(.tmp 33,I a2)]) (ao [.tmp 30,.tmp 32,.tmp 33] rfl rfl Px rfl (nJ k (a0,()) r6 a2 r7 U)) fun _ _ _ hn=>⟨(oS hn.1),hn.2.1,hn.2.2.1,trivial⟩) ?_;refine mq ?_;refine xr ?_;refine xr ?_;refine aE rfl rfl rfl (aZ rfl rY sZ) trivial fun b8=>?_;refine aq ?_;refine aY rfl rfl (aR rfl fO rfl rfl rfl) ⟨rfl,rfl,trivial⟩ ?_;refine nt (sr (cq (nt ?_)));refine aX (Z:=Value) (α:=(List Int)) (fun l x9=>[(10,.at au (a0,(.map (some z5)))),(12,Pt b8),(13,.eq l)]) (fun l x9=>[.obj b8 85 (.rep (.arr 3 (.arr 5 (.int .i64))) r7.2),.sl l 3 (.int .i64) x9,.inv 0 (dP),.inv z5 (bJ k a0)]) h (fun K h=>?_) (fun l x9 h=>?_)
   ·refine sr (fl cC ?_);refine fr 2 ?_;refine lo ic ?_;refine ol nY ?_;refine eT rfl ?_;refine nt (an (eG (SE.nil 3 (.int .i64)) ?_));refine aN (fun e c=>[(10,.at au (a0,(.map (some z5)))),(11,.eq (.int .u8 r7.1)),(12,Pt b8),(13,.eq e),(39,I (a0.2.1.length:Int)),(40,I c.2)]) (fun e c=>[.obj b8 85 (.rep (.arr 3 (.arr 5 (.int .i64))) r7.2),.sl e 3 (.int .i64) c.1,.inv 0 (dP),.inv z5 (bJ k a0)]) (na k a0 r7) k (.slice none 0 0) (([]:(List Int)),0) (fun _=>rfl) h (SE.fin [2,0,4,3] ⟨rfl,rfl,rfl,rfl,rfl,rfl,trivial⟩ rfl) (fun n e c h=>?_);unfold na at h;refine sr (jb (bG rfl) ?_);refine nt (ah (ci h (fun h=>?_) (fun h=>?_)))
    ·refine sk (aX (Z:=Value) (α:=(List Int)) (fun j s=>[(10,.at au (a0,(.map (some z5)))),(11,.eq (.int .u8 r7.1)),(12,Pt b8),(13,.eq j),(39,I (a0.2.1.length:Int)),(40,I c.2)]) (fun j s=>[.obj b8 85 (.rep (.arr 3 (.arr 5 (.int .i64))) r7.2),.sl j 3 (.int .i64) s,.inv 0 (dP),.inv z5 (bJ k a0)]) h (fun K h=>?_) (fun j s h=>?_))
     ·refine an (sr (mq ?_));refine aq (nt (sr ?_));iterate 2 refine mq ?_
      obtain⟨O,E,h⟩:=aa h;refine jb (ao [.tmp 43,.tmp 44] rfl rfl JY rfl (ii k r7.1 c.2 O E)) ?_;refine nt (cv h (fun h=>?_) (fun h=>?_))
      ·refine ab ?_;iterate 2 refine mq ?_
       refine ja (bC (t:=(.int .i64)) [(.tmp 47,_)] [c.2] rfl rfl eu (.cons rfl .int .nil) rfl rfl) ?_;obtain⟨u16,y,h⟩:=aa h;refine fr 1 ?_;refine eC rfl rfl rfl (bZ rfl rfl eu (aH y)) ⟨rfl,rfl,trivial⟩ fun J=>?_;refine aq (ar (bn ?_));exact jz (J,c.1++[c.2]) h [1,0,2,3]
      ·refine ba (bn ?_);exact jz (e,c.1) h [0,1,2,3]
     ·refine ab ?_;obtain⟨F,u,h⟩:=aa h;refine jb (bm rfl u) ?_;refine mq (nl ?_);exact jz (j,(s,F)) h [0,1,2,3]
    ·refine xa ?_;exact jz (e,c.1) h [0,1,2,3]
   ·refine sr ?_;iterate 2 refine mq ?_
    refine lo fO ?_;obtain⟨M,D,h⟩:=aa h;refine aE rfl rfl rfl (cN (N:=[(.tmp 52,.at au (a0,(.map (some z5)))),(.tmp 53,.rep (.arr 3 (.arr 5 (.int .i64))) r7.2)]) (ao [.tmp 52,.tmp 53] rfl rfl JZ rfl (hC k (a0,()) r7.2 M D)) fun _ _ _ hn=>⟨(oS hn.1),hn.2.1,trivial⟩) ⟨rfl,rfl,trivial⟩ fun pp=>?_;refine aq ?_;refine aq ?_;refine cq (nt (aC ?_));refine c9 2 rfl ?_;refine bF (gZ [6,13,51] ⟨rfl,rfl,rfl,trivial⟩) ?_;refine bF (gZ [7,54] ⟨rfl,rfl,trivial⟩) ?_;refine bF (SE.fin (Γ':=[(6,_),(7,_),(8,_)]) [1,0,2] ⟨rfl,rfl,rfl,trivial⟩ rfl) ?_;cases h;exact aL () [_,_,_] 1 ⟨rfl,rfl,rfl,trivial⟩ rfl
def m9(k:Nat)(a0:(List Int))(a1:dc)(a2:(List (List Int)))(a3:Int)(a4:Int):Option Int:=
 (dR k a1 a2).bind fun r1=>
 (a8 r1 a3).bind fun x3=>
 (dz k (List.set r1 (Int.toNat a3) a0)).bind fun r4=>
 (fH k a1 r4 a4).bind fun r5=>
 some r5
theorem tB(k:Nat)(a0:(List Int))(a1:dc)(l:Nat)(a2:(List (List Int)))(j:Nat)(a3:Int)(e:Nat)(a4:Int)(c:Nat)(r:Int)(h:m9 k a0 a1 a2 a3 a4=some r):
 dy (iQ Tryz.prog) 72 [Ri a0,Pt l,Pt j,Pt e,Pt c] [.obj l 80 (.at bH a1),.obj j 85 (.rep (.arr 3 (.arr 5 (.int .i64))) a2),.obj e 3 (I a3),.obj c 3 (I a4)] (fun _:Unit=>(bv [I r],[.obj l 80 (.at bH a1),.obj j 85 (.rep (.arr 3 (.arr 5 (.int .i64))) a2),.obj e 3 (I a3),.obj c 3 (I a4)])):=by
 unfold m9 at h
 replace h:=bg h
 refine dy.of 20 Tryz.func72 rfl Tryz.ntmps72 rfl fun S w0=>?_
 refine sr ?_
 refine cq ?_
 refine nt ?_
 refine sr ?_
 refine lo xo ?_
 refine fr 1 ?_
 refine lo fO ?_
 obtain⟨r1,x,h⟩:=aa h
 have E:=hC k a1 a2 r1 x
 refine aE rfl rfl rfl (ao [.tmp 8,.tmp 9] rfl rfl JZ rfl E) ⟨rfl,rfl,trivial⟩ fun v2=>?_
 refine aq ?_
 refine nt ?_
 refine sr ?_
 refine mq ?_
 refine fr 3 ?_
 refine lo co ?_
 refine mq ?_
 obtain⟨x3,n,h⟩:=aa h
 refine fr 1 ?_
 refine kb (bb (t:=(.slice (.int .i64))) rfl nX cg n) ?_
 refine aY rfl rfl (dU (i:=Int.toNat a3) rfl cg rfl (jE n) rfl .rep rfl) ⟨rfl,rfl,trivial⟩ ?_
 refine nt ?_
 refine ah ?_
 refine eG (gZ [7,10,11] ⟨rfl,rfl,rfl,trivial⟩) ?_
 refine cz ?_
 refine ea 2 (ak rfl xo kU rfl) ?_
 refine dm ?_
 obtain⟨r4,u,h⟩:=aa h
 have D:=dT k (List.set r1 (Int.toNat a3) a0) r4 u
 refine da (ao [.tmp 16] rfl rfl BG rfl D) ?_
 refine ea 3 (ak rfl co kU rfl) ?_
 refine df dI ?_
 obtain⟨r5,s,h⟩:=aa h
 have y:=lW k a1 r4 a4 r5 s
 refine jc (ff [.tmp 15,.tmp 17,.tmp 18] rfl rfl Po rfl y) ?_
 refine aq ?_
 refine nt ?_
 refine aC ?_
 refine bF (SE.fin (Γ':=[(6,_)]) [2,1,0,3] ⟨rfl,trivial⟩ rfl) ?_
 cases h
 exact aL () [_] 4 ⟨rfl,trivial⟩ rfl
def hH(k:Nat)(a0_0:dc)(a0_1:(List (List Int)))(a0_2:Int)(a0_3:Int)(a1:(List (List Int))):Nat→((List Int)×Int×Bool×Int)→Option ((List Int)×Int×Bool)
 |0,_=>none
 |n+1,y3=>
  if y3.2.2.2 < (a1.length:Int) then((((a8 a1 y3.2.2.2).bind fun x7=>
  (m9 k x7 a0_0 a0_1 a0_2 a0_3).bind fun r8=>
  ((if¬(y3.2.2.1=true) then(some true) else(some (decide (r8 < y3.2.1)))):Option (Bool)).bind fun x9=>
  if x9=true then(some (x7,r8,true)) else(some (y3.1,y3.2.1,y3.2.2.1))):Option ((List Int)×Int×Bool)).bind fun x5=>
  (ck (y3.2.2.2+1)).bind fun c=>
  hH k a0_0 a0_1 a0_2 a0_3 a1 n (x5.1,x5.2.1,x5.2.2,c)) else(some (y3.1,y3.2.1,y3.2.2.1))
def lq(k:Nat)(a0_0:dc)(a0_1:(List (List Int)))(a0_2:Int)(a0_3:Int)(a1:(List (List Int))):Option ((List Int)×Int×Bool):=
 ((hH k a0_0 a0_1 a0_2 a0_3 a1 k ([],0,false,0)):Option ((List Int)×Int×Bool)).bind fun x1=>
 some (x1.1,x1.2.1,x1.2.2)
theorem qR(k:Nat)(a0_0:dc)(c_a0_0:Nat)(a0_1:(List (List Int)))(c_a0_1:Nat)(a0_2:Int)(c_a0_2:Nat)(a0_3:Int)(c_a0_3:Nat)(a1:(List (List Int)))(r:(List Int)×Int×Bool)(h:lq k a0_0 a0_1 a0_2 a0_3 a1=some r):
 dy (iQ Tryz.prog) 74 [.eq (.func (.func 72) #[] #[(Pv c_a0_0),(Pv c_a0_1),(Pv c_a0_2),(Pv c_a0_3)]),.rep (.slice (.slice (.int .i64))) a1] [.obj c_a0_0 80 (.at bH a0_0),.obj c_a0_1 85 (.rep (.arr 3 (.arr 5 (.int .i64))) a0_1),.obj c_a0_2 3 (I a0_2),.obj c_a0_3 3 (I a0_3)] (fun _:Unit=>(bv [Ri r.1,I r.2.1,.eq (.bool r.2.2)],[.obj c_a0_0 80 (.at bH a0_0),.obj c_a0_1 85 (.rep (.arr 3 (.arr 5 (.int .i64))) a0_1),.obj c_a0_2 3 (I a0_2),.obj c_a0_3 3 (I a0_3)])):=by
 unfold lq at h
 replace h:=bg h
 refine dy.of 35 Tryz.func74 rfl Tryz.ntmps74 rfl fun S w0=>?_
 refine sr ?_
 refine cq ?_
 refine cq ?_
 refine cq ?_
 refine nt ?_
 refine sr ?_
 refine cq ?_
 refine nt ?_
 refine sr ?_
 refine cq ?_
 refine cq ?_
 refine nt ?_
 refine aX (Z:=Unit) (α:=(List Int)×Int×Bool) (fun z2 x1=>[(7,Ri x1.1),(8,I x1.2.1),(9,.eq (.bool x1.2.2))]) (fun z2 x1=>[.obj c_a0_0 80 (.at bH a0_0),.obj c_a0_1 85 (.rep (.arr 3 (.arr 5 (.int .i64))) a0_1),.obj c_a0_2 3 (I a0_2),.obj c_a0_3 3 (I a0_3)]) h (fun K h=>?_) (fun z2 x1 h=>?_)
 ·
  refine sr (mq ?_);refine ol nX ?_;refine eT rfl ?_;refine nt (an (eG (lK (t:=(.slice (.int .i64))) (x:=[]) 7 rfl .nil rfl rfl) ?_));refine aN (fun z4 y3=>[(0,.eq (.func (.func 72) #[] #[(Pv c_a0_0),(Pv c_a0_1),(Pv c_a0_2),(Pv c_a0_3)])),(7,Ri y3.1),(8,I y3.2.1),(9,.eq (.bool y3.2.2.1)),(13,.rep (.slice (.slice (.int .i64))) a1),(14,I (a1.length:Int)),(15,I y3.2.2.2)]) (fun z4 y3=>[.obj c_a0_0 80 (.at bH a0_0),.obj c_a0_1 85 (.rep (.arr 3 (.arr 5 (.int .i64))) a0_1),.obj c_a0_2 3 (I a0_2),.obj c_a0_3 3 (I a0_3)]) (hH k a0_0 a0_1 a0_2 a0_3 a1) k () ([],0,false,0) (fun _=>rfl) h (SE.fin [0,1,2,3] ⟨rfl,rfl,rfl,rfl,rfl,rfl,rfl,trivial⟩ rfl) (fun n z4 y3 h=>?_);unfold hH at h;refine sr (jb (bG rfl) ?_);refine nt (ah (ci h (fun h=>?_) (fun h=>?_)))
  ·refine sk (aX (Z:=Unit) (α:=(List Int)×Int×Bool) (fun z6 x5=>[(0,.eq (.func (.func 72) #[] #[(Pv c_a0_0),(Pv c_a0_1),(Pv c_a0_2),(Pv c_a0_3)])),(7,Ri x5.1),(8,I x5.2.1),(9,.eq (.bool x5.2.2)),(13,.rep (.slice (.slice (.int .i64))) a1),(14,I (a1.length:Int)),(15,I y3.2.2.2)]) (fun z6 x5=>[.obj c_a0_0 80 (.at bH a0_0),.obj c_a0_1 85 (.rep (.arr 3 (.arr 5 (.int .i64))) a0_1),.obj c_a0_2 3 (I a0_2),.obj c_a0_3 3 (I a0_3)]) h (fun K h=>?_) (fun z6 x5 h=>?_))
   ·refine an (sr ?_);obtain⟨x7,l,h⟩:=aa h;refine jb (aM (t:=(.slice (.int .i64))) rfl nX cg l) ?_;refine ja (ap (t:=(.slice (.int .i64))) rfl cg rfl) ?_;refine aq (nt (sr ?_));iterate 2 refine mq ?_
    obtain⟨r8,u,h⟩:=aa h;refine fr 3 ?_;refine fr 3 ?_;refine fr 3 ?_;refine fr 3 ?_;refine bN (Δ:=[_,_,_,_]) (F:=_) (fun _ _ _=>ay rfl _) rfl rfl (ow (fs:=[]) (cs:=[(Pv c_a0_0),(Pv c_a0_1),(Pv c_a0_2),(Pv c_a0_3)]) (ags:=[Ri x7]) [.tmp 20] rfl rfl Ro rfl (tB k x7 a0_0 c_a0_0 a0_1 c_a0_1 a0_2 c_a0_2 a0_3 c_a0_3 r8 u)) ⟨rfl,rfl,trivial⟩ fun _=>?_;refine aq (nt ?_);refine aX (Z:=Unit) (α:=Bool) (fun c x9=>[(0,.eq (.func (.func 72) #[] #[(Pv c_a0_0),(Pv c_a0_1),(Pv c_a0_2),(Pv c_a0_3)])),(7,Ri y3.1),(8,I y3.2.1),(9,.eq (.bool y3.2.2.1)),(11,Ri x7),(12,I r8),(13,.rep (.slice (.slice (.int .i64))) a1),(14,I (a1.length:Int)),(15,I y3.2.2.2),(28,.eq (.bool x9))]) (fun c x9=>[.obj c_a0_0 80 (.at bH a0_0),.obj c_a0_1 85 (.rep (.arr 3 (.arr 5 (.int .i64))) a0_1),.obj c_a0_2 3 (I a0_2),.obj c_a0_3 3 (I a0_3)]) h (fun K h=>?_) (fun c x9 h=>?_)
    ·refine ab (mq ?_);refine ja (eY rfl) ?_;refine mq ?_;refine cm (s:=24) rfl (fun hb=>?_) (fun hb=>?_)
     ·replace h:=cU (Ec hb) h;iterate 3 refine gn ?_
      refine pt (nl ?_);exact jz ((),true) h [0,1,2,3]
     ·replace h:=bT (wn hb) h;refine gm ?_;refine gm ?_;refine gb (bG rfl) ?_;refine pf (nl ?_);exact jz ((),decide (r8 < y3.2.1)) h [0,1,2,3]
    ·refine cv h (fun h=>?_) (fun h=>?_)
     ·refine ab ?_;iterate 2 refine mq ?_
      refine aq ?_;refine aq ?_;refine cq (ar (bn ?_));exact jz ((),(x7,r8,true)) h [0,1,2,3]
     ·refine ba (bn ?_);exact jz ((),(y3.1,y3.2.1,y3.2.2.1)) h [0,1,2,3]
   ·refine ab ?_;obtain⟨j,e,h⟩:=aa h;refine jb (bm rfl e) ?_;refine mq (nl ?_);exact jz ((),(x5.1,x5.2.1,x5.2.2,j)) h [0,1,2,3]
  ·refine xa ?_;exact jz ((),(y3.1,y3.2.1,y3.2.2.1)) h [0,1,2,3]
 ·
  refine sr ?_;iterate 3 refine mq ?_
  refine aq ?_;refine aq ?_;refine aq (nt (aC ?_));cases h;exact aL () [_,_,_] 4 ⟨rfl,rfl,rfl,trivial⟩ rfl
def qe(k:Nat)(a0:be)(a1:(List (List Int)))(a2:Int)(a3:Int):Option ((List Int)×Int×Int):=
 (ct k a0 a1).bind fun r4=>
 if¬(r4=0) then(some ([],0,r4)) else((((ck ((a0.2.2.length:Int) - 1)).bind fun x7=>
 (dG k a2 0 x7).bind fun r8=>
 if¬(r8=true) then(some true) else((dG k a3 0 a0.1).bind fun r9=>
 some (!r9))):Option (Bool)).bind fun x5=>
 if x5=true then(some ([],0,3)) else((dz k a1).bind fun n=>
 (fS k (a0,()) n a3).bind fun e=>
 (dN k e a2).bind fun l=>
 (lx k l).bind fun j=>
 (ln k k j).bind fun h=>
 (lq k (a0,()) e a2 a3 h).bind fun c=>
 some (c.1,c.2.1,0)))
theorem vB(k:Nat)(a0:be)(a1:(List (List Int)))(a2:Int)(a3:Int)(r:(List Int)×Int×Int)(h:qe k a0 a1 a2 a3=some r):
 dy (iQ Tryz.prog) 38 [.rep aw a0,.rep (.slice (.slice (.int .i64))) a1,I a2,I a3] [.inv 0 (dP)] (fun _:Unit=>(bv [Ri r.1,I r.2.1,I r.2.2],[.inv 0 (dP)])):=by
 unfold qe at h
 replace h:=bg h
 refine dy.of 60 Tryz.func38 rfl Tryz.ntmps38 rfl fun S w0=>?_
 refine sr ?_
 refine bx fun b1=>?_
 refine bx fun b2=>?_
 refine bx fun b3=>?_
 refine cq ?_
 refine cq ?_
 refine cq ?_
 refine nt ?_
 refine ah ?_
 refine sr ?_
 refine fr 2 ?_
 refine lo fJ ?_
 refine mq ?_
 obtain⟨r4,SV,h⟩:=aa h
 have SX:=eD k a0 a1 r4 SV
 refine fr 3 ?_
 refine kb (ao [.tmp 18,.tmp 19] rfl rfl J0 rfl SX) ?_
 refine aq ?_
 refine nt ?_
 refine sr ?_
 refine mq ?_
 refine jb (jJ rfl) ?_
 refine nt ?_
 refine cn h (fun h=>?_) (fun h=>?_)
 ·
  refine sr (mq ?_);refine cq ?_;refine cq ?_;refine aq (nt (rx ?_));refine bF (lK (t:=(.slice (.int .i64))) (x:=[]) 8 rfl .nil rfl rfl) ?_;cases h;exact aL () [_,_,_] 1 ⟨rfl,rfl,rfl,trivial⟩ rfl
 ·
  refine sk (ah (aX (Z:=Unit) (α:=Bool) (fun z6 x5=>[(1,.rep (.slice (.slice (.int .i64))) a1),(4,Pt b1),(6,Pt b2),(7,Pt b3),(37,.eq (.bool x5))]) (fun z6 x5=>[.obj b1 27 (.rep aw a0),.obj b2 3 (I a2),.obj b3 3 (I a3),.inv 0 (dP)]) h (fun K h=>?_) (fun z6 x5 h=>?_)))
  ·refine ab (fr 3 ?_);refine lo co ?_;refine fl dH ?_;refine fr 2 ?_;refine lo cg ?_;refine ol eS ?_;obtain⟨x7,SR,h⟩:=aa h;refine jb (d5 rfl SR) ?_;obtain⟨r8,SU,h⟩:=aa h;refine jc (ao [.tmp 24,.const (.int .i64 (0)),.tmp 28] rfl rfl yc rfl (dL k a2 0 x7 r8 SU)) ?_;refine ja (eY rfl) ?_;refine mq ?_;refine cm (s:=31) rfl (fun hb=>?_) (fun hb=>?_)
   ·replace h:=cU (Ec hb) h;iterate 5 refine gn ?_
    refine pt (nl ?_);exact jz ((),true) h [0,1,3,2]
   ·replace h:=bT (wn hb) h;refine fr 3 ?_;refine mz rfl rfl rfl rfl rfl rfl (ak rfl co kU rfl) ⟨rfl,trivial⟩ ?_;refine ga (ax rfl cD) ?_;refine fr 1 ?_;refine mz rfl rfl rfl rfl rfl rfl (ak rfl co kU rfl) ⟨rfl,trivial⟩ ?_;obtain⟨r9,SS,h⟩:=aa h;refine gc (ao [.tmp 32,.const (.int .i64 (0)),.tmp 34] rfl rfl yc rfl (dL k a3 0 a0.1 r9 SS)) ?_;refine ga (eY rfl) ?_;refine pf (nl ?_);exact jz ((), !r9) h [0,2,1,3]
  ·refine cv h (fun h=>?_) (fun h=>?_)
   ·refine sr (cq ?_);refine cq ?_;refine cq (nt (rx ?_));refine bF (lK (t:=(.slice (.int .i64))) (x:=[]) 8 rfl .nil rfl rfl) ?_;refine bF (SE.fin (Γ':=[(8,_),(9,_),(10,_)]) [3,0,1,2] ⟨rfl,rfl,rfl,trivial⟩ rfl) ?_;cases h;exact aL () [_,_,_] 1 ⟨rfl,rfl,rfl,trivial⟩ rfl
   ·refine sk (sr (lo fJ ?_));refine aE rfl rfl rfl (ao [.tmp 38] rfl rfl HK rfl (fU a0)) ⟨rfl,trivial⟩ fun c=>?_;refine cO (jX (bJ k a0) li) ?_;refine aE rfl rfl rfl (aZ rfl QF RQ) trivial fun j=>?_;refine aY rfl rfl (aR rfl xo trivial rfl rfl) ⟨rfl,rfl,trivial⟩ ?_;refine nt (ah (gQ ?_));refine cp 0 rfl rfl rfl rfl (ak rfl xo kU rfl) ⟨rfl,trivial⟩ ?_;refine aF rfl rfl rfl (aO rfl) ⟨rfl,trivial⟩ ?_;obtain⟨u,U,h⟩:=aa h;refine aF rfl rfl rfl (ao [.tmp 41] rfl rfl BG rfl (dT k a1 u U)) ⟨rfl,trivial⟩ ?_;refine cp 4 rfl rfl rfl rfl (ak rfl co kU rfl) ⟨rfl,trivial⟩ ?_;obtain⟨l,Q,h⟩:=aa h;refine aF rfl rfl rfl (cN (N:=[(.tmp 40,.at au (a0,(.map (some c)))),(.tmp 42,.rep (.arr 3 (.arr 5 (.int .i64))) u),(.tmp 43,I a3)]) (ao [.tmp 40,.tmp 42,.tmp 43] rfl rfl PE rfl (lX k (a0,()) u a3 l Q)) fun _ _ _ hn=>⟨(oS hn.1),hn.2.1,hn.2.2.1,trivial⟩) ⟨rfl,rfl,rfl,trivial⟩ ?_;refine pJ (FW 85 (.rep (.arr 3 (.arr 5 (.int .i64))) [[0,0,0,0,0],[0,0,0,0,0],[0,0,0,0,0]])) (fun _=>rfl) rfl rfl rfl (aZ rfl rY sZ) trivial ?_;refine kK 6 [true,true,true,true,true,true] [] [] [] rfl (by kernel_rfl) (by kernel_rfl) (by kernel_rfl) dI (fun vs hv hB=>?_);obtain⟨w0,Ta,rfl,se⟩:=aj hv;obtain⟨w1,S9,rfl,qt⟩:=aj se;obtain⟨w2,S8,rfl,pp⟩:=aj qt;obtain⟨w3,S7,rfl,mc⟩:=aj pp;obtain⟨w4,S5,rfl,ac⟩:=aj mc;obtain⟨w5,SZ,rfl,Y⟩:=aj ac;obtain rfl:=i7 Y;obtain⟨e,rfl⟩:=A0 hB.2.2.2.2.2.1;refine⟨[0,1,2,3,4,5,6],[.obj j 80 (.at au (a0,(.map (some c)))),.inv c (bJ k a0),.obj b1 27 (.rep aw a0),.obj b2 3 (I a2),.obj b3 3 (I a3),.inv 0 (dP),.obj e 85 (.rep (.arr 3 (.arr 5 (.int .i64))) [[0,0,0,0,0],[0,0,0,0,0],[0,0,0,0,0]])],by kernel_rfl,by decide,?_⟩;refine dp 6 rfl ?_;refine kJ rfl rfl (aR rfl fO rfl rfl rfl) ⟨rfl,rfl,trivial⟩ (by kernel_rfl) ?_;refine nD ?_;refine bF (SE.fin (Γ':=[(6,Pt b2),(7,Pt b3),(12,Pt j),(13,Pt e)]) (Δ':=[.obj e 85 (.rep (.arr 3 (.arr 5 (.int .i64))) l),.obj j 80 (.at au (a0,(.map (some c)))),.inv c (bJ k a0),.obj b1 27 (.rep aw a0),.obj b2 3 (I a2),.obj b3 3 (I a3),.inv 0 (dP)]) [0,1,2,3,4,5,6] ⟨rfl,rfl,rfl,rfl,trivial⟩ rfl) ?_;refine tn (sr (aD rfl (sD [] [.tmp 12,.tmp 13,.tmp 6,.tmp 7] [] [(Pv j),(Pv e),(Pv b2),(Pv b3)] rfl rfl rfl) ⟨rfl,rfl,rfl,rfl,trivial⟩ ?_));refine aq (nt (sr ?_));refine mq ?_;refine lo fO ?_;refine fr 4 ?_;refine lo co ?_;obtain⟨n,O,h⟩:=aa h;refine jb (ao [.tmp 48,.tmp 49] rfl rfl JX rfl (fV k l a2 n O)) ?_;refine aE rfl rfl rfl (ao [.tmp 50] rfl rfl Rl rfl (qX n)) ⟨rfl,trivial⟩ fun SY=>?_;obtain⟨D,M,h⟩:=aa h;refine ka (ao [.tmp 51] rfl rfl Rm rfl (qY k n SY D M)) ?_;obtain⟨y,J,h⟩:=aa h;refine ja (ao [.tmp 52] rfl rfl Pn rfl (vz k k D y J)) ?_;refine fr 3 ?_;refine cO (pG (a:=.at au (a0,(.map (some c)))) (a':=.at bH (a0,())) Nq) ?_
    obtain⟨X,E,h⟩:=aa h;refine fr 6 ?_;refine fr 3 ?_;refine fr 4 ?_;refine fr 3 ?_;refine bN (Δ:=[_,_,_,_]) (F:=_) (fun _ _ _=>ay rfl _) rfl rfl (ff [.tmp 47,.tmp 53] rfl rfl Rn rfl (qR k (a0,()) j l e a2 b2 a3 b3 y X E)) ⟨rfl,rfl,trivial⟩ fun _=>?_;refine mq ?_;refine xr ?_;refine xr ?_;refine xr ?_;refine aq ?_;refine aq ?_;refine aq (nt (sr ?_));iterate 2 refine mq ?_
    refine aq ?_;refine aq ?_;refine cq (nt (aC ?_));refine bF (SE.fin (Γ':=[(8,_),(9,_),(10,_)]) [7,0,1,2,3,4,5,6] ⟨rfl,rfl,rfl,trivial⟩ rfl) ?_;cases h;exact aL () [_,_,_] 1 ⟨rfl,rfl,rfl,trivial⟩ rfl
def jR(k:Nat):Option Bool:=
 (ko k ([]:(List Int))).bind fun r1=>
 (wF k).bind fun r2=>
 (xl k r1 r2 1).bind fun r3=>
 (ko k ([]:(List Int))).bind fun r4=>
 (wF k).bind fun r5=>
 (fW k r4 r5).bind fun r6=>
 (ko k ([]:(List Int))).bind fun r7=>
 (t7 k r7).bind fun r8=>
 (ko k ([]:(List Int))).bind fun r9=>
 (G9 k).bind fun E=>
 (t6 k r9 E).bind fun c=>
 (ko k ([]:(List Int))).bind fun D=>
 (wF k).bind fun y=>
 (qe k D y 0 1).bind fun h=>
 (ko k ([]:(List Int))).bind fun x=>
 (wF k).bind fun u=>
 (sj k x u).bind fun e=>
 ((if r3.2.2=0 then(if r6.2=0 then(if r8.2.2=0 then(if c.2.2.2=0 then(if h.2.2=0 then(if e.2=0 then(if r6.1=3 then(if r8.2.1=0 then(if c.1=0 then(if c.2.1=2 then(if c.2.2.1=1 then(if h.2.1=2 then((dY (Le e.1=true)).bind fun _=>
 if HF e.1 (⟨#[98,97,100,47,99]⟩:ByteArray)=true then((jB k r3.1 [0]).bind fun s=>
 if s=true then((j8 k r3.2.1 [[0,1,3],[2]]).bind fun r=>
 if r=true then((j8 k r8.1 [[2,0],[1,3]]).bind fun n=>
 if n=true then((jB k h.1 [0,1,3]).bind fun l=>
 some l) else(some false)) else(some false)) else(some false)) else(some false)) else(some false)) else(some false)) else(some false)) else(some false)) else(some false)) else(some false)) else(some false)) else(some false)) else(some false)) else(some false)) else(some false)) else(some false)):Option (Bool)).bind fun j=>
 some j
theorem pY(k:Nat)(r:Bool)(h:jR k=some r):
 dy (iQ Tryz.prog) 9 [] [.inv 0 (dP)] (fun _:Unit=>(bv [.eq (.bool r)],[.inv 0 (dP)])):=by
 unfold jR at h
 replace h:=bg h
 refine dy.of 132 Tryz.func9 rfl Tryz.ntmps9 rfl fun S w0=>?_
 refine sr ?_
 refine cq ?_
 refine nt ?_
 refine sr ?_
 obtain⟨r1,Tv,h⟩:=aa h
 have TK:=jl k ([]:(List Int)) r1 Tv
 refine ja (cN (N:=[(.const (.slice none 0 0),.eq (.slice none 0 0))]) (ao [.const (.slice none 0 0)] rfl rfl EE rfl TK) fun _ _ _ hn=>⟨(iD (t:=(.slice (.int .i64))) (x:=([]:(List Int))) .nil rfl rfl hn.1),trivial⟩) ?_
 obtain⟨r2,Tt,h⟩:=aa h
 have TJ:=rA k r2 Tt
 refine aD rfl (ao [] rfl rfl J1 rfl TJ) trivial ?_
 obtain⟨r3,To,h⟩:=aa h
 have TG:=AK k r1 r2 1 r3 To
 refine kc (ao [.tmp 19,.tmp 20,.const (.int .i64 (1))] rfl rfl RE rfl TG) ?_
 refine mq ?_
 refine xr ?_
 refine xr ?_
 refine xr ?_
 refine aq ?_
 refine aq ?_
 refine aq ?_
 refine nt ?_
 refine sr ?_
 obtain⟨r4,Tn,h⟩:=aa h
 have TF:=jl k ([]:(List Int)) r4 Tn
 refine ja (cN (N:=[(.const (.slice none 0 0),.eq (.slice none 0 0))]) (ao [.const (.slice none 0 0)] rfl rfl EE rfl TF) fun _ _ _ hn=>⟨(iD (t:=(.slice (.int .i64))) (x:=([]:(List Int))) .nil rfl rfl hn.1),trivial⟩) ?_
 obtain⟨r5,Tm,h⟩:=aa h
 have TD:=rA k r5 Tm
 refine aD rfl (ao [] rfl rfl J1 rfl TD) trivial ?_
 obtain⟨r6,Tj,h⟩:=aa h
 have TC:=jt k r4 r5 r6 Tj
 refine kb (ff [.tmp 26,.tmp 27] rfl rfl J2 rfl TC) ?_
 refine mq ?_
 refine xr ?_
 refine xr ?_
 refine aq ?_
 refine aq ?_
 refine nt ?_
 refine sr ?_
 obtain⟨r7,Ti,h⟩:=aa h
 have TB:=jl k ([]:(List Int)) r7 Ti
 refine ja (cN (N:=[(.const (.slice none 0 0),.eq (.slice none 0 0))]) (ao [.const (.slice none 0 0)] rfl rfl EE rfl TB) fun _ _ _ hn=>⟨(iD (t:=(.slice (.int .i64))) (x:=([]:(List Int))) .nil rfl rfl hn.1),trivial⟩) ?_
 obtain⟨r8,Tf,h⟩:=aa h
 have TA:=yM k r7 r8 Tf
 refine ja (ff [.tmp 32] rfl rfl RJ rfl TA) ?_
 refine mq ?_
 refine xr ?_
 refine xr ?_
 refine xr ?_
 refine aq ?_
 refine aq ?_
 refine aq ?_
 refine nt ?_
 refine sr ?_
 obtain⟨r9,Td,h⟩:=aa h
 have Tz:=jl k ([]:(List Int)) r9 Td
 refine ja (cN (N:=[(.const (.slice none 0 0),.eq (.slice none 0 0))]) (ao [.const (.slice none 0 0)] rfl rfl EE rfl Tz) fun _ _ _ hn=>⟨(iD (t:=(.slice (.int .i64))) (x:=([]:(List Int))) .nil rfl rfl hn.1),trivial⟩) ?_
 obtain⟨E,qt,h⟩:=aa h
 have SZ:=G8 k E qt
 refine aD rfl (ao [] rfl rfl RD rfl SZ) trivial ?_
 obtain⟨Ta,pp,h⟩:=aa h
 have SY:=yL k r9 E Ta pp
 refine kb (ff [.tmp 38,.tmp 39] rfl rfl RI rfl SY) ?_
 refine mq ?_
 refine xr ?_
 refine xr ?_
 refine xr ?_
 refine xr ?_
 refine aq ?_
 refine aq ?_
 refine aq ?_
 refine aq ?_
 refine nt ?_
 refine sr ?_
 obtain⟨D,mc,h⟩:=aa h
 have SX:=jl k ([]:(List Int)) D mc
 refine ja (cN (N:=[(.const (.slice none 0 0),.eq (.slice none 0 0))]) (ao [.const (.slice none 0 0)] rfl rfl EE rfl SX) fun _ _ _ hn=>⟨(iD (t:=(.slice (.int .i64))) (x:=([]:(List Int))) .nil rfl rfl hn.1),trivial⟩) ?_
 obtain⟨y,ac,h⟩:=aa h
 have SV:=rA k y ac
 refine aD rfl (ao [] rfl rfl J1 rfl SV) trivial ?_
 obtain⟨u,Y,h⟩:=aa h
 have SU:=vB k D y 0 1 u Y
 refine bQ rfl rfl rfl (ff [.tmp 46,.tmp 47,.const (.int .i64 (0)),.const (.int .i64 (1))] rfl rfl RB rfl SU) ⟨rfl,rfl,rfl,rfl,trivial⟩ ?_
 refine mq ?_
 refine xr ?_
 refine xr ?_
 refine xr ?_
 refine aq ?_
 refine aq ?_
 refine aq ?_
 refine nt ?_
 refine sr ?_
 obtain⟨n,X,h⟩:=aa h
 have SS:=jl k ([]:(List Int)) n X
 refine ja (cN (N:=[(.const (.slice none 0 0),.eq (.slice none 0 0))]) (ao [.const (.slice none 0 0)] rfl rfl EE rfl SS) fun _ _ _ hn=>⟨(iD (t:=(.slice (.int .i64))) (x:=([]:(List Int))) .nil rfl rfl hn.1),trivial⟩) ?_
 obtain⟨l,U,h⟩:=aa h
 have SR:=rA k l U
 refine aD rfl (ao [] rfl rfl J1 rfl SR) trivial ?_
 obtain⟨S9,Q,h⟩:=aa h
 have se:=xk k n l S9 Q
 refine kb (ao [.tmp 53,.tmp 54] rfl rfl RL rfl se) ?_
 refine mq ?_
 refine xr ?_
 refine xr ?_
 refine aq ?_
 refine aq ?_
 refine nt ?_
 refine aX (Z:=Unit) (α:=Bool) (fun e c=>[(0,.eq (.bool c))]) (fun e c=>[.inv 0 (dP)]) h (fun K h=>?_) (fun e c h=>?_)
 ·
  refine ab (mq ?_);refine jb (eE rfl) ?_;refine mq ?_;refine cm (s:=60) rfl (fun hb=>?_) (fun hb=>?_)
  ·replace h:=cU (nz hb) h;refine gm ?_;refine gb (eE rfl) ?_;refine pt ?_;refine mq ?_;refine cm (s:=64) rfl (fun hb=>?_) (fun hb=>?_)
   ·replace h:=cU (nz hb) h;refine gm ?_;refine gb (eE rfl) ?_;refine pt ?_;refine mq ?_;refine cm (s:=68) rfl (fun hb=>?_) (fun hb=>?_)
    ·replace h:=cU (nz hb) h;refine gm ?_;refine gb (eE rfl) ?_;refine pt ?_;refine mq ?_;refine cm (s:=72) rfl (fun hb=>?_) (fun hb=>?_)
     ·replace h:=cU (nz hb) h;refine gm ?_;refine gb (eE rfl) ?_;refine pt ?_;refine mq ?_;refine cm (s:=76) rfl (fun hb=>?_) (fun hb=>?_)
      ·replace h:=cU (nz hb) h;refine gm ?_;refine gb (eE rfl) ?_;refine pt ?_;refine mq ?_;refine cm (s:=80) rfl (fun hb=>?_) (fun hb=>?_)
       ·replace h:=cU (nz hb) h;refine gm ?_;refine gb (eE rfl) ?_;refine pt ?_;refine mq ?_;refine cm (s:=84) rfl (fun hb=>?_) (fun hb=>?_)
        ·replace h:=cU (nz hb) h;refine gm ?_;refine gb (eE rfl) ?_;refine pt ?_;refine mq ?_;refine cm (s:=88) rfl (fun hb=>?_) (fun hb=>?_)
         ·replace h:=cU (nz hb) h;refine gm ?_;refine gb (eE rfl) ?_;refine pt ?_;refine mq ?_;refine cm (s:=92) rfl (fun hb=>?_) (fun hb=>?_)
          ·replace h:=cU (nz hb) h;refine gm ?_;refine gb (eE rfl) ?_;refine pt ?_;refine mq ?_;refine cm (s:=96) rfl (fun hb=>?_) (fun hb=>?_)
           ·replace h:=cU (nz hb) h;refine gm ?_;refine gb (eE rfl) ?_;refine pt ?_;refine mq ?_;refine cm (s:=100) rfl (fun hb=>?_) (fun hb=>?_)
            ·replace h:=cU (nz hb) h;refine gm ?_;refine gb (eE rfl) ?_;refine pt ?_;refine mq ?_;refine cm (s:=104) rfl (fun hb=>?_) (fun hb=>?_)
             ·replace h:=cU (nz hb) h;refine gm ?_;obtain⟨TL,F,h⟩:=aa h;refine gb (Gx rfl (aH F)) ?_;refine pt ?_;refine mq ?_;refine cm (s:=108) rfl (fun hb=>?_) (fun hb=>?_)
              ·replace h:=cU (Ff hb) h;refine gm ?_;refine ga (bC (t:=(.int .i64)) [(.const (.int .i64 (0)),_)] [0] rfl rfl eu (.cons rfl .int .nil) rfl rfl) ?_;obtain⟨S8,O,h⟩:=aa h;refine gb (ao [.tmp 109,.tmp 110] rfl rfl M4 rfl (kF k r3.1 [0] S8 O)) ?_;refine pt ?_;refine mq ?_;refine cm (s:=113) rfl (fun hb=>?_) (fun hb=>?_)
               ·replace h:=cU (Ff hb) h;refine gm ?_;refine gc (bC (t:=(.int .i64)) [(.const (.int .i64 (0)),_),(.const (.int .i64 (1)),_),(.const (.int .i64 (3)),_)] [0,1,3] rfl rfl eu (.cons rfl .int (.cons rfl .int (.cons rfl .int .nil))) rfl rfl) ?_;refine ga (bC (t:=(.int .i64)) [(.const (.int .i64 (2)),_)] [2] rfl rfl eu (.cons rfl .int .nil) rfl rfl) ?_;refine gb (bC (t:=(.slice (.int .i64))) [(.tmp 115,_),(.tmp 116,_)] [[0,1,3],[2]] rfl rfl uh (.cons rfl .rep (.cons rfl .rep .nil)) rfl rfl) ?_;obtain⟨S7,M,h⟩:=aa h;refine gb (ao [.tmp 114,.tmp 117] rfl rfl PG rfl (mU k r3.2.1 [[0,1,3],[2]] S7 M)) ?_;refine pt ?_;refine mq ?_;refine cm (s:=120) rfl (fun hb=>?_) (fun hb=>?_)
                ·replace h:=cU (Ff hb) h;refine gm ?_;refine gb (bC (t:=(.int .i64)) [(.const (.int .i64 (2)),_),(.const (.int .i64 (0)),_)] [2,0] rfl rfl eu (.cons rfl .int (.cons rfl .int .nil)) rfl rfl) ?_;refine gb (bC (t:=(.int .i64)) [(.const (.int .i64 (1)),_),(.const (.int .i64 (3)),_)] [1,3] rfl rfl eu (.cons rfl .int (.cons rfl .int .nil)) rfl rfl) ?_;refine gb (bC (t:=(.slice (.int .i64))) [(.tmp 122,_),(.tmp 123,_)] [[2,0],[1,3]] rfl rfl uh (.cons rfl .rep (.cons rfl .rep .nil)) rfl rfl) ?_;obtain⟨S5,J,h⟩:=aa h;refine gb (ao [.tmp 121,.tmp 124] rfl rfl PG rfl (mU k r8.1 [[2,0],[1,3]] S5 J)) ?_;refine pt ?_;refine mq ?_;refine cm (s:=127) rfl (fun hb=>?_) (fun hb=>?_)
                 ·replace h:=cU (Ff hb) h;refine gm ?_;refine gc (bC (t:=(.int .i64)) [(.const (.int .i64 (0)),_),(.const (.int .i64 (1)),_),(.const (.int .i64 (3)),_)] [0,1,3] rfl rfl eu (.cons rfl .int (.cons rfl .int (.cons rfl .int .nil))) rfl rfl) ?_;obtain⟨j,I,h⟩:=aa h;refine gb (ao [.tmp 128,.tmp 129] rfl rfl M4 rfl (kF k u.1 [0,1,3] j I)) ?_;refine pt ?_;refine aq (nl ?_);exact jz ((),j) h [0]
                 ·replace h:=bT (Fo hb) h;iterate 3 refine gn ?_
                  refine pf ?_;refine aq (nl ?_);exact jz ((),false) h [0]
                ·replace h:=bT (Fo hb) h;iterate 5 refine gn ?_
                 refine pf ?_;refine mq ?_;iterate 3 refine gn ?_
                 refine pf ?_;refine aq (nl ?_);exact jz ((),false) h [0]
               ·replace h:=bT (Fo hb) h;iterate 5 refine gn ?_
                refine pf ?_;refine mq ?_;iterate 5 refine gn ?_
                refine pf ?_;refine mq ?_;iterate 3 refine gn ?_
                refine pf ?_;refine aq (nl ?_);exact jz ((),false) h [0]
              ·replace h:=bT (Fo hb) h;iterate 3 refine gn ?_
               refine pf ?_;refine mq ?_;iterate 5 refine gn ?_
               refine pf ?_;refine mq ?_;iterate 5 refine gn ?_
               refine pf ?_;refine mq ?_;iterate 3 refine gn ?_
               refine pf ?_;refine aq (nl ?_);exact jz ((),false) h [0]
             ·replace h:=bT (m4 hb) h;iterate 2 refine gn ?_
              refine pf ?_;refine mq ?_;iterate 3 refine gn ?_
              refine pf ?_;refine mq ?_;iterate 5 refine gn ?_
              refine pf ?_;refine mq ?_;iterate 5 refine gn ?_
              refine pf ?_;refine mq ?_;iterate 3 refine gn ?_
              refine pf ?_;refine aq (nl ?_);exact jz ((),false) h [0]
            ·replace h:=bT (m4 hb) h;iterate 2 refine gn ?_
             refine pf ?_;refine mq ?_;iterate 2 refine gn ?_
             refine pf ?_;refine mq ?_;iterate 3 refine gn ?_
             refine pf ?_;refine mq ?_;iterate 5 refine gn ?_
             refine pf ?_;refine mq ?_;iterate 5 refine gn ?_
             refine pf ?_;refine mq ?_;iterate 3 refine gn ?_
             refine pf ?_;refine aq (nl ?_);exact jz ((),false) h [0]
           ·replace h:=bT (m4 hb) h;iterate 2 refine gn ?_
            refine pf ?_;refine mq ?_;iterate 2 refine gn ?_
            refine pf ?_;refine mq ?_;iterate 2 refine gn ?_
            refine pf ?_;refine mq ?_;iterate 3 refine gn ?_
            refine pf ?_;refine mq ?_;iterate 5 refine gn ?_
            refine pf ?_;refine mq ?_;iterate 5 refine gn ?_
            refine pf ?_;refine mq ?_;iterate 3 refine gn ?_
            refine pf ?_;refine aq (nl ?_);exact jz ((),false) h [0]
          ·replace h:=bT (m4 hb) h;iterate 2 refine gn ?_
           refine pf ?_;refine mq ?_;iterate 2 refine gn ?_
           refine pf ?_;refine mq ?_;iterate 2 refine gn ?_
           refine pf ?_;refine mq ?_;iterate 2 refine gn ?_
           refine pf ?_;refine mq ?_;iterate 3 refine gn ?_
           refine pf ?_;refine mq ?_;iterate 5 refine gn ?_
           refine pf ?_;refine mq ?_;iterate 5 refine gn ?_
           refine pf ?_;refine mq ?_;iterate 3 refine gn ?_
           refine pf ?_;refine aq (nl ?_);exact jz ((),false) h [0]
         ·replace h:=bT (m4 hb) h;iterate 2 refine gn ?_
          refine pf ?_;refine mq ?_;iterate 2 refine gn ?_
          refine pf ?_;refine mq ?_;iterate 2 refine gn ?_
          refine pf ?_;refine mq ?_;iterate 2 refine gn ?_
          refine pf ?_;refine mq ?_;iterate 2 refine gn ?_
          refine pf ?_;refine mq ?_;iterate 3 refine gn ?_
          refine pf ?_;refine mq ?_;iterate 5 refine gn ?_
          refine pf ?_;refine mq ?_;iterate 5 refine gn ?_
          refine pf ?_;refine mq ?_;iterate 3 refine gn ?_
          refine pf ?_;refine aq (nl ?_);exact jz ((),false) h [0]
        ·replace h:=bT (m4 hb) h;iterate 2 refine gn ?_
         refine pf ?_;refine mq ?_;iterate 2 refine gn ?_
         refine pf ?_;refine mq ?_;iterate 2 refine gn ?_
         refine pf ?_;refine mq ?_;iterate 2 refine gn ?_
         refine pf ?_;refine mq ?_;iterate 2 refine gn ?_
         refine pf ?_;refine mq ?_;iterate 2 refine gn ?_
         refine pf ?_;refine mq ?_;iterate 3 refine gn ?_
         refine pf ?_;refine mq ?_;iterate 5 refine gn ?_
         refine pf ?_;refine mq ?_;iterate 5 refine gn ?_
         refine pf ?_;refine mq ?_;iterate 3 refine gn ?_
         refine pf ?_;refine aq (nl ?_);exact jz ((),false) h [0]
       ·replace h:=bT (m4 hb) h;iterate 2 refine gn ?_
        refine pf ?_;refine mq ?_;iterate 2 refine gn ?_
        refine pf ?_;refine mq ?_;iterate 2 refine gn ?_
        refine pf ?_;refine mq ?_;iterate 2 refine gn ?_
        refine pf ?_;refine mq ?_;iterate 2 refine gn ?_
        refine pf ?_;refine mq ?_;iterate 2 refine gn ?_
        refine pf ?_;refine mq ?_;iterate 2 refine gn ?_
        refine pf ?_;refine mq ?_;iterate 3 refine gn ?_
        refine pf ?_;refine mq ?_;iterate 5 refine gn ?_
        refine pf ?_;refine mq ?_;iterate 5 refine gn ?_
        refine pf ?_;refine mq ?_;iterate 3 refine gn ?_
        refine pf ?_;refine aq (nl ?_);exact jz ((),false) h [0]
      ·replace h:=bT (m4 hb) h;iterate 2 refine gn ?_
       refine pf ?_;refine mq ?_;iterate 2 refine gn ?_
       refine pf ?_;refine mq ?_;iterate 2 refine gn ?_
       refine pf ?_;refine mq ?_;iterate 2 refine gn ?_
       refine pf ?_;refine mq ?_;iterate 2 refine gn ?_
       refine pf ?_;refine mq ?_;iterate 2 refine gn ?_
       refine pf ?_;refine mq ?_;iterate 2 refine gn ?_
       refine pf ?_;refine mq ?_;iterate 2 refine gn ?_
       refine pf ?_;refine mq ?_;iterate 3 refine gn ?_
       refine pf ?_;refine mq ?_;iterate 5 refine gn ?_
       refine pf ?_;refine mq ?_;iterate 5 refine gn ?_
       refine pf ?_;refine mq ?_;iterate 3 refine gn ?_
       refine pf ?_;refine aq (nl ?_);exact jz ((),false) h [0]
     ·replace h:=bT (m4 hb) h;iterate 2 refine gn ?_
      refine pf ?_;refine mq ?_;iterate 2 refine gn ?_
      refine pf ?_;refine mq ?_;iterate 2 refine gn ?_
      refine pf ?_;refine mq ?_;iterate 2 refine gn ?_
      refine pf ?_;refine mq ?_;iterate 2 refine gn ?_
      refine pf ?_;refine mq ?_;iterate 2 refine gn ?_
      refine pf ?_;refine mq ?_;iterate 2 refine gn ?_
      refine pf ?_;refine mq ?_;iterate 2 refine gn ?_
      refine pf ?_;refine mq ?_;iterate 2 refine gn ?_
      refine pf ?_;refine mq ?_;iterate 3 refine gn ?_
      refine pf ?_;refine mq ?_;iterate 5 refine gn ?_
      refine pf ?_;refine mq ?_;iterate 5 refine gn ?_
      refine pf ?_;refine mq ?_;iterate 3 refine gn ?_
      refine pf ?_;refine aq (nl ?_);exact jz ((),false) h [0]
    ·replace h:=bT (m4 hb) h;iterate 2 refine gn ?_
     refine pf ?_;refine mq ?_;iterate 2 refine gn ?_
     refine pf ?_;refine mq ?_;iterate 2 refine gn ?_
     refine pf ?_;refine mq ?_;iterate 2 refine gn ?_
     refine pf ?_;refine mq ?_;iterate 2 refine gn ?_
     refine pf ?_;refine mq ?_;iterate 2 refine gn ?_
     refine pf ?_;refine mq ?_;iterate 2 refine gn ?_
     refine pf ?_;refine mq ?_;iterate 2 refine gn ?_
     refine pf ?_;refine mq ?_;iterate 2 refine gn ?_
     refine pf ?_;refine mq ?_;iterate 2 refine gn ?_
     refine pf ?_;refine mq ?_;iterate 3 refine gn ?_
     refine pf ?_;refine mq ?_;iterate 5 refine gn ?_
     refine pf ?_;refine mq ?_;iterate 5 refine gn ?_
     refine pf ?_;refine mq ?_;iterate 3 refine gn ?_
     refine pf ?_;refine aq (nl ?_);exact jz ((),false) h [0]
   ·replace h:=bT (m4 hb) h;iterate 2 refine gn ?_
    refine pf ?_;refine mq ?_;iterate 2 refine gn ?_
    refine pf ?_;refine mq ?_;iterate 2 refine gn ?_
    refine pf ?_;refine mq ?_;iterate 2 refine gn ?_
    refine pf ?_;refine mq ?_;iterate 2 refine gn ?_
    refine pf ?_;refine mq ?_;iterate 2 refine gn ?_
    refine pf ?_;refine mq ?_;iterate 2 refine gn ?_
    refine pf ?_;refine mq ?_;iterate 2 refine gn ?_
    refine pf ?_;refine mq ?_;iterate 2 refine gn ?_
    refine pf ?_;refine mq ?_;iterate 2 refine gn ?_
    refine pf ?_;refine mq ?_;iterate 2 refine gn ?_
    refine pf ?_;refine mq ?_;iterate 3 refine gn ?_
    refine pf ?_;refine mq ?_;iterate 5 refine gn ?_
    refine pf ?_;refine mq ?_;iterate 5 refine gn ?_
    refine pf ?_;refine mq ?_;iterate 3 refine gn ?_
    refine pf ?_;refine aq (nl ?_);exact jz ((),false) h [0]
  ·replace h:=bT (m4 hb) h;iterate 2 refine gn ?_
   refine pf ?_;refine mq ?_;iterate 2 refine gn ?_
   refine pf ?_;refine mq ?_;iterate 2 refine gn ?_
   refine pf ?_;refine mq ?_;iterate 2 refine gn ?_
   refine pf ?_;refine mq ?_;iterate 2 refine gn ?_
   refine pf ?_;refine mq ?_;iterate 2 refine gn ?_
   refine pf ?_;refine mq ?_;iterate 2 refine gn ?_
   refine pf ?_;refine mq ?_;iterate 2 refine gn ?_
   refine pf ?_;refine mq ?_;iterate 2 refine gn ?_
   refine pf ?_;refine mq ?_;iterate 2 refine gn ?_
   refine pf ?_;refine mq ?_;iterate 2 refine gn ?_
   refine pf ?_;refine mq ?_;iterate 2 refine gn ?_
   refine pf ?_;refine mq ?_;iterate 3 refine gn ?_
   refine pf ?_;refine mq ?_;iterate 5 refine gn ?_
   refine pf ?_;refine mq ?_;iterate 5 refine gn ?_
   refine pf ?_;refine mq ?_;iterate 3 refine gn ?_
   refine pf ?_;refine aq (nl ?_);exact jz ((),false) h [0]
 ·
  refine aC ?_;cases h;exact aL () [_] 1 ⟨rfl,trivial⟩ rfl
def mJ(k:Nat)(a0:be)(a1:(List (List Int)))(a2:Int):Option ((List (List Int))×Int):=
 (ct k a0 a1).bind fun r2=>
 if¬(r2=0) then(some ([],r2)) else((dG k a2 0 a0.1).bind fun r3=>
 if¬(r3=true) then(some ([],3)) else((dz k a1).bind fun r5=>
 (fS k (a0,()) r5 a2).bind fun r6=>
 (dR k (a0,()) r6).bind fun r7=>
 some (r7,0)))
theorem xm(k:Nat)(a0:be)(a1:(List (List Int)))(a2:Int)(r:(List (List Int))×Int)(h:mJ k a0 a1 a2=some r):
 cd Tryz.prog 12 [.rep aw a0,.rep (.slice (.slice (.int .i64))) a1,I a2] [.inv 0 (dP)] (fun _:Unit=>(bv [.rep (.slice (.slice (.int .i64))) r.1,I r.2],[.inv 0 (dP)])):=by
 unfold mJ at h
 replace h:=bg h
 refine cd.of 30 Tryz.func12 rfl Tryz.ntmps12 rfl fun S w0=>?_
 refine sr ?_
 refine bx fun b1=>?_
 refine cq ?_
 refine cq ?_
 refine nt ?_
 refine ah ?_
 refine sr ?_
 refine lo fJ ?_
 refine mq ?_
 obtain⟨r2,n,h⟩:=aa h
 have s:=eD k a0 a1 r2 n
 refine fr 1 ?_
 refine kb (ao [.tmp 10,.tmp 11] rfl rfl J0 rfl s) ?_
 refine aq ?_
 refine nt ?_
 refine sr ?_
 refine mq ?_
 refine jb (jJ rfl) ?_
 refine nt ?_
 refine cn h (fun h=>?_) (fun h=>?_)
 ·
  refine sr (mq ?_);refine cq ?_;refine aq (nt (rx ?_));refine bF (lK (t:=(.slice (.slice (.int .i64)))) (x:=[]) 6 rfl .nil rfl rfl) ?_;cases h;exact aL () [_,_] 1 ⟨rfl,rfl,trivial⟩ rfl
 ·
  refine sk (ah (sr (mq ?_)));refine fl cD ?_;refine fr 1 ?_;refine lo co ?_;obtain⟨r3,l,h⟩:=aa h;refine jc (ao [.tmp 16,.const (.int .i64 (0)),.tmp 18] rfl rfl yc rfl (dL k a2 0 a0.1 r3 l)) ?_;refine ja (eY rfl) ?_;refine nt (cw h (fun h=>?_) (fun h=>?_))
  ·refine sr (cq ?_);refine cq (nt (rx ?_));refine bF (lK (t:=(.slice (.slice (.int .i64)))) (x:=[]) 6 rfl .nil rfl rfl) ?_;refine bF (SE.fin (Γ':=[(6,_),(7,_)]) [1,0] ⟨rfl,rfl,trivial⟩ rfl) ?_;cases h;exact aL () [_,_] 1 ⟨rfl,rfl,trivial⟩ rfl
  ·refine sk (sr (lo fJ ?_));refine aE rfl rfl rfl (ao [.tmp 21] rfl rfl HK rfl (fU a0)) ⟨rfl,trivial⟩ fun z4=>?_;refine cO (jX (bJ k a0) li) ?_;refine aq (nt (sr ?_));iterate 3 refine mq ?_
   obtain⟨r5,j,h⟩:=aa h;refine ja (ao [.tmp 25] rfl rfl BG rfl (dT k a1 r5 j)) ?_;refine mq ?_;obtain⟨r6,e,h⟩:=aa h;refine jc (cN (N:=[(.tmp 24,.at au (a0,(.map (some z4)))),(.tmp 26,.rep (.arr 3 (.arr 5 (.int .i64))) r5),(.tmp 27,I a2)]) (ao [.tmp 24,.tmp 26,.tmp 27] rfl rfl PE rfl (lX k (a0,()) r5 a2 r6 e)) fun _ _ _ hn=>⟨(oS hn.1),hn.2.1,hn.2.2.1,trivial⟩) ?_;obtain⟨r7,c,h⟩:=aa h;refine aE rfl rfl rfl (cN (N:=[(.tmp 23,.at au (a0,(.map (some z4)))),(.tmp 28,.rep (.arr 3 (.arr 5 (.int .i64))) r6)]) (ao [.tmp 23,.tmp 28] rfl rfl JZ rfl (hC k (a0,()) r6 r7 c)) fun _ _ _ hn=>⟨(oS hn.1),hn.2.1,trivial⟩) ⟨rfl,rfl,trivial⟩ fun v8=>?_;refine aq ?_;refine cq (nt (aC ?_));refine bF (gZ [6,29] ⟨rfl,rfl,trivial⟩) ?_;refine bF (SE.fin (Γ':=[(6,_),(7,_)]) [2,0,1] ⟨rfl,rfl,trivial⟩ rfl) ?_;cases h;exact aL () [_,_] 1 ⟨rfl,rfl,trivial⟩ rfl
def cK(k:Nat)(r3:be×(List (List Int))×Bool×bI)(r9:Int×bI)(e:(List cR)×(List cR)×Int)(s:cR)(r:cR):Nat→((List Int)×(List Int)×Int)→Option ((List cR)×(List cR))
 |0,_=>none
 |n+1,c=>
  (a8 r3.1.2.1 e.2.2).bind fun y=>
  if c.2.2 < (y.2.length:Int) then((((a8 r3.1.2.1 e.2.2).bind fun x=>
  (a8 x.2 c.2.2).bind fun h=>
  if h < r9.1 then((dY (bU (List.length c.1+List.length [h]))).bind fun _=>
  some (c.1++[h],c.2.1)) else((ck (h - r9.1)).bind fun j=>
  (dY (bU (List.length c.2.1+List.length [j]))).bind fun _=>
  some (c.1,c.2.1++[j]))):Option ((List Int)×(List Int))).bind fun l=>
  (ck (c.2.2+1)).bind fun u=>
  cK k r3 r9 e s r n (l.1,l.2,u)) else(some (List.set e.1 (Int.toNat e.2.2) (s.1,c.1),List.set e.2.1 (Int.toNat e.2.2) (r.1,c.2.1)))
def de(k:Nat)(r3:be×(List (List Int))×Bool×bI)(r9:Int×bI):Nat→((List cR)×(List cR)×Int)→Option ((List cR)×(List cR))
 |0,_=>none
 |n+1,c=>
  if c.2.2 < (r3.1.2.1.length:Int) then((((a8 c.1 c.2.2).bind fun l=>
  (a8 c.2.1 c.2.2).bind fun j=>
  cK k r3 r9 c l j k (([]:(List Int)),([]:(List Int)),0)):Option ((List cR)×(List cR))).bind fun e=>
  (ck (c.2.2+1)).bind fun h=>
  de k r3 r9 n (e.1,e.2,h)) else(some (c.1,c.2.1))
def i8(k:Nat)(a0:(List Int)):Option Bool:=
 (me k a0).bind fun r1=>
 (mT k (r1.1,r1.2.1,r1.2.2) 5).bind fun r3=>
 ((if¬(r3.2.2.1=true) then(some true) else(some (decide (r3.1.1 < 2)))):Option (Bool)).bind fun x5=>
 if x5=true then((jR k).bind fun r7=>
 some r7) else((ck (r3.1.1 - 1)).bind fun x8=>
 (dA k (r3.2.2.2.1,r3.2.2.2.2.1,r3.2.2.2.2.2) 1 x8).bind fun r9=>
 (gz k r3.1).bind fun r=>
 (gz k r3.1).bind fun n=>
 (ck (r3.1.1 - r9.1)).bind fun x=>
 ((de k r3 r9 k (r.2.1,n.2.1,0)):Option ((List cR)×(List cR))).bind fun c=>
 (mJ k r3.1 r3.2.1 r9.1).bind fun l=>
 (fW k r3.1 r3.2.1).bind fun j=>
 (fW k (r9.1,c.1,r.2.2) r3.2.1).bind fun h=>
 (fW k (x,c.2,n.2.2) l.1).bind fun e=>
 ((if l.2=0 then(if j.2=0 then(if h.2=0 then(if e.2=0 then((ck (h.1+e.1)).bind fun s=>
 if j.1=s then((jR k).bind fun y=>
 some y) else(some false)) else(some false)) else(some false)) else(some false)) else(some false)):Option (Bool)).bind fun u=>
 some u)
theorem qC(k:Nat)(a0:(List Int))(r:Bool)(h:i8 k a0=some r):
 dy (iQ Tryz.prog) 3 [Ri a0] [.inv 0 (dP)] (fun _:Unit=>(bv [.eq (.bool r)],[.inv 0 (dP)])):=by
 unfold i8 at h
 replace h:=bg h
 refine dy.of 172 Tryz.func3 rfl Tryz.ntmps3 rfl fun S w0=>?_
 refine sr ?_
 refine cq ?_
 refine nt ?_
 refine sr ?_
 refine mq ?_
 obtain⟨r1,Uz,h⟩:=aa h
 have UB:=uO k a0 r1 Uz
 refine aE rfl rfl rfl (ao [.tmp 21] rfl rfl SJ rfl UB) ⟨rfl,trivial⟩ fun b2=>?_
 refine aq ?_
 refine nt ?_
 refine sr ?_
 refine mq ?_
 obtain⟨r3,Uy,h⟩:=aa h
 have UA:=zI k (r1.1,r1.2.1,r1.2.2) b2 5 r3 Uy
 refine kb (ao [.tmp 24,.const (.int .i64 (5))] rfl rfl SI rfl UA) ?_
 refine mq ?_
 refine xr ?_
 refine xr ?_
 refine xr ?_
 refine aE rfl rfl rfl (aZ rfl j9 lQ) trivial fun b4=>?_
 refine aY rfl rfl (aR rfl fJ rfl rfl rfl) ⟨rfl,rfl,trivial⟩ ?_
 refine aq ?_
 refine aq ?_
 refine nt ?_
 refine ah ?_
 refine aX (Z:=Unit) (α:=Bool) (fun z6 x5=>[(3,Pt b2),(4,Pt b4),(5,.rep (.slice (.slice (.int .i64))) r3.2.1),(35,.eq (.bool x5))]) (fun z6 x5=>[.obj b2 66 (.agg (.pair (Ri r3.2.2.2.1) (.pair (I r3.2.2.2.2.1) (.eq (.int .u64 r3.2.2.2.2.2))))),.obj b4 27 (.rep aw r3.1),.inv 0 (dP)]) h (fun K h=>?_) (fun z6 x5 h=>?_)
 ·
  refine ab (mq ?_);refine ja (eY rfl) ?_;refine mq ?_;refine cm (s:=31) rfl (fun hb=>?_) (fun hb=>?_)
  ·replace h:=cU (Ec hb) h;iterate 3 refine gn ?_
   refine pt (nl ?_);exact jz ((),true) h [1,0,2]
  ·replace h:=bT (wn hb) h;refine ga (ax rfl cD) ?_;refine mz rfl rfl rfl rfl rfl rfl (ak rfl co kU rfl) ⟨rfl,trivial⟩ ?_;refine gb (bG rfl) ?_;refine pf (nl ?_);exact jz ((),decide (r3.1.1 < 2)) h [1,0,2]
 ·
  refine cv h (fun h=>?_) (fun h=>?_)
  ·refine sr ?_;obtain⟨r7,Ux,h⟩:=aa h;refine fr 2 ?_;refine bQ rfl rfl rfl (ff [] rfl rfl Su rfl (pY k r7 Ux)) trivial ?_;refine aq (nt (rx ?_));cases h;exact aL () [_] 1 ⟨rfl,trivial⟩ rfl
  ·refine sk (sr (mq ?_));refine fl cD ?_;refine fr 1 ?_;refine lo co ?_;obtain⟨x8,Uu,h⟩:=aa h;refine jb (d5 rfl Uu) ?_;obtain⟨r9,Uw,h⟩:=aa h;refine fr 1 ?_;refine kc (ao [.tmp 37,.const (.int .i64 (1)),.tmp 40] rfl rfl J3 rfl (jC k (r3.2.2.2.1,r3.2.2.2.2.1,r3.2.2.2.2.2) b2 1 x8 r9 Uw)) ?_;refine aq (nt (ah ?_));refine gQ ?_;refine cp 1 rfl rfl rfl rfl (ak rfl fJ (vL) rfl) ⟨rfl,trivial⟩ ?_;obtain⟨e,Ul,h⟩:=aa h;refine pJ (tri3 e.1 35 aG e.2.1 3 (.int .i64) e.2.2) (fun _=>rfl) rfl rfl rfl (Ao (ao [.tmp 42] rfl rfl PU rfl (nO k r3.1 e Ul))) ⟨rfl,trivial⟩ ?_;refine cp 1 rfl rfl rfl rfl (ak rfl fJ (vL) rfl) ⟨rfl,trivial⟩ ?_;obtain⟨c,Uk,h⟩:=aa h;refine pJ (tri3 c.1 35 aG c.2.1 3 (.int .i64) c.2.2) (fun _=>rfl) rfl rfl rfl (Ao (ao [.tmp 44] rfl rfl PU rfl (nO k r3.1 c Uk))) ⟨rfl,trivial⟩ ?_;refine pJ (FW 27 (.agg (.pair (I 0) (.pair (.eq (.slice none 0 0)) (.eq (.slice none 0 0)))))) (fun _=>rfl) rfl rfl rfl (aZ rfl j9 lQ) trivial ?_;refine pJ (FW 27 (.agg (.pair (I 0) (.pair (.eq (.slice none 0 0)) (.eq (.slice none 0 0)))))) (fun _=>rfl) rfl rfl rfl (aZ rfl j9 lQ) trivial ?_;refine kK 6 [true,true,true,true,true,true] [] [] [] rfl (by kernel_rfl) (by kernel_rfl) (by kernel_rfl) dI (fun vs hv hB=>?_);obtain⟨w0,TC,rfl,SY⟩:=aj hv;obtain⟨w1,TB,rfl,SX⟩:=aj SY;obtain⟨w2,TA,rfl,SV⟩:=aj SX;obtain⟨w3,Tz,rfl,SU⟩:=aj SV;obtain⟨w4,Tv,rfl,SS⟩:=aj SU;obtain⟨w5,Tt,rfl,SR⟩:=aj SS;obtain rfl:=i7 SR;obtain⟨F,E,rfl⟩:=Cb hB.2.1;obtain⟨D,y,rfl⟩:=Cb hB.2.2.2.1;obtain⟨j,rfl⟩:=A0 hB.2.2.2.2.1;obtain⟨M,rfl⟩:=A0 hB.2.2.2.2.2.1;refine⟨[0,1,2,3,4,6,7,9,10],[.obj b2 66 (.agg (.pair (Ri r9.2.1) (.pair (I r9.2.2.1) (.eq (.int .u64 r9.2.2.2))))),.obj b4 27 (.rep aw r3.1),.inv 0 (dP),.sl F 35 aG e.2.1,.sl E 3 (.int .i64) e.2.2,.sl D 35 aG c.2.1,.sl y 3 (.int .i64) c.2.2,.obj j 27 (.agg (.pair (I 0) (.pair (.eq (.slice none 0 0)) (.eq (.slice none 0 0))))),.obj M 27 (.agg (.pair (I 0) (.pair (.eq (.slice none 0 0)) (.eq (.slice none 0 0)))))],by kernel_rfl,by decide,?_⟩;refine dp 3 rfl ?_;refine oZ fun o18=>?_;refine dp 4 rfl ?_;refine oZ fun o19=>?_;refine dp 7 rfl ?_;refine kJ rfl rfl (cN (N:=[(.tmp 8,Pt j),(.tmp 43,.eq (.agg #[(.int .i64 e.1),F,E]))]) (aR rfl fJ trivial rfl rfl) fun _ _ _ hn=>⟨hn.1,t8 o18 o19 hn.2.1,trivial⟩) ⟨rfl,rfl,trivial⟩ (by kernel_rfl) ?_;refine dp 6 rfl ?_;refine oZ fun o20=>?_;refine dp 7 rfl ?_;refine oZ fun o21=>?_;refine dp 8 rfl ?_;refine kJ rfl rfl (cN (N:=[(.tmp 9,Pt M),(.tmp 45,.eq (.agg #[(.int .i64 c.1),D,y]))]) (aR rfl fJ trivial rfl rfl) fun _ _ _ hn=>⟨hn.1,t8 o20 o21 hn.2.1,trivial⟩) ⟨rfl,rfl,trivial⟩ (by kernel_rfl) ?_;refine nD ?_;refine bF (SE.fin (Γ':=[(4,Pt b4),(5,.rep (.slice (.slice (.int .i64))) r3.2.1),(7,I r9.1),(8,Pt j),(9,Pt M)]) (Δ':=[.obj M 27 (.agg (.pair (I c.1) (.pair (.eq D) (.eq y)))),.sl y 3 (.int .i64) c.2.2,.sl D 35 aG c.2.1,.obj j 27 (.agg (.pair (I e.1) (.pair (.eq F) (.eq E)))),.sl E 3 (.int .i64) e.2.2,.sl F 35 aG e.2.1,.obj b2 66 (.agg (.pair (Ri r9.2.1) (.pair (I r9.2.2.1) (.eq (.int .u64 r9.2.2.2))))),.obj b4 27 (.rep aw r3.1),.inv 0 (dP)]) [0,1,2,3,4,5,6,7,8] ⟨rfl,rfl,rfl,rfl,rfl,trivial⟩ rfl) ?_
   refine tn (ah ?_);obtain⟨X,SZ,h⟩:=aa h;refine eG (SE.fin (Γ':=[(4,Pt b4),(5,.rep (.slice (.slice (.int .i64))) r3.2.1),(7,I r9.1),(8,Pt j),(9,Pt M)]) (Δ':=[.obj M 27 (.agg (.pair (I c.1) (.pair (.eq D) (.eq y)))),.sl y 3 (.int .i64) c.2.2,.sl D 35 aG c.2.1,.obj j 27 (.agg (.pair (I e.1) (.pair (.eq F) (.eq E)))),.sl E 3 (.int .i64) e.2.2,.sl F 35 aG e.2.1,.obj b2 66 (.agg (.pair (Ri r9.2.1) (.pair (I r9.2.2.1) (.eq (.int .u64 r9.2.2.2))))),.obj b4 27 (.rep aw r3.1),.inv 0 (dP)]) [0,1,2,3,4,5,6,7,8] ⟨rfl,rfl,rfl,rfl,rfl,trivial⟩ rfl) ?_;refine vu (I:=Unit) (Ge:=fun i=>[(4,Pt b4),(5,.rep (.slice (.slice (.int .i64))) r3.2.1),(7,I r9.1),(8,Pt j),(9,Pt M)]) (De:=fun i=>[.inv 0 (dP),.obj b2 66 (.agg (.pair (Ri r9.2.1) (.pair (I r9.2.2.1) (.eq (.int .u64 r9.2.2.2))))),.obj b4 27 (.rep aw r3.1),.sl F 35 aG e.2.1,.sl E 3 (.int .i64) e.2.2,.sl D 35 aG c.2.1,.sl y 3 (.int .i64) c.2.2,.obj j 27 (.agg (.pair (I r9.1) (.pair (.eq F) (.eq E)))),.obj M 27 (.agg (.pair (I X) (.pair (.eq D) (.eq y))))]) (L:=[true,true,true,true,true,true,true,true,true]) dI rfl (fun J hJ hE=>?_) (by kernel_rfl) ?_
   ·have s255:J 1 [true,true,true,true,true,true,true,true,false] [(4,Pt b4),(5,.rep (.slice (.slice (.int .i64))) r3.2.1),(7,I r9.1),(8,Pt j),(9,Pt M),(50,I X),(52,Pt M)] [.inv 0 (dP),.obj b2 66 (.agg (.pair (Ri r9.2.1) (.pair (I r9.2.2.1) (.eq (.int .u64 r9.2.2.2))))),.obj b4 27 (.rep aw r3.1),.sl F 35 aG e.2.1,.sl E 3 (.int .i64) e.2.2,.sl D 35 aG c.2.1,.sl y 3 (.int .i64) c.2.2,.obj j 27 (.agg (.pair (I r9.1) (.pair (.eq F) (.eq E)))),.obj M 27 (.agg (.pair (I c.1) (.pair (.eq D) (.eq y))))]:=by
     subst hJ;refine JD.step [8] (by kernel_rfl) rfl ?_;refine bL.cons rfl ?_ ?_
     ·refine fr 8 ?_;refine aY rfl rfl (aR rfl co rfl rfl rfl) ⟨rfl,rfl,trivial⟩ ?_;exact av (hE ()) [1,2,3,4,5,6,7,8,0] ⟨rfl,rfl,rfl,rfl,rfl,trivial⟩
     exact trivial
    have s127:J 2 [true,true,true,true,true,true,true,false,false] [(4,Pt b4),(5,.rep (.slice (.slice (.int .i64))) r3.2.1),(7,I r9.1),(8,Pt j),(9,Pt M),(50,I X)] [.inv 0 (dP),.obj b2 66 (.agg (.pair (Ri r9.2.1) (.pair (I r9.2.2.1) (.eq (.int .u64 r9.2.2.2))))),.obj b4 27 (.rep aw r3.1),.sl F 35 aG e.2.1,.sl E 3 (.int .i64) e.2.2,.sl D 35 aG c.2.1,.sl y 3 (.int .i64) c.2.2,.obj j 27 (.agg (.pair (I r9.1) (.pair (.eq F) (.eq E)))),.obj M 27 (.agg (.pair (I c.1) (.pair (.eq D) (.eq y))))]:=by
     subst hJ;refine JD.step [7] (by kernel_rfl) rfl ?_;refine bL.cons rfl ?_ ?_
     ·refine fl cD ?_;exact av s255 [0,1,2,3,4,5,6,7,8] ⟨rfl,rfl,rfl,rfl,rfl,rfl,rfl,trivial⟩
     exact trivial
    have s63:J 3 [true,true,true,true,true,true,false,false,false] [(4,Pt b4),(5,.rep (.slice (.slice (.int .i64))) r3.2.1),(7,I r9.1),(8,Pt j),(9,Pt M),(46,I r9.1),(50,I X),(51,Pt j)] [.inv 0 (dP),.obj b2 66 (.agg (.pair (Ri r9.2.1) (.pair (I r9.2.2.1) (.eq (.int .u64 r9.2.2.2))))),.obj b4 27 (.rep aw r3.1),.sl F 35 aG e.2.1,.sl E 3 (.int .i64) e.2.2,.sl D 35 aG c.2.1,.sl y 3 (.int .i64) c.2.2,.obj j 27 (.agg (.pair (I e.1) (.pair (.eq F) (.eq E)))),.obj M 27 (.agg (.pair (I c.1) (.pair (.eq D) (.eq y))))]:=by
     subst hJ;refine JD.step [6] (by kernel_rfl) rfl ?_;refine bL.cons rfl ?_ ?_
     ·refine fr 7 ?_;refine aY rfl rfl (aR rfl co rfl rfl rfl) ⟨rfl,rfl,trivial⟩ ?_;exact av s127 [1,2,3,4,5,6,7,0,8] ⟨rfl,rfl,rfl,rfl,rfl,rfl,trivial⟩
     exact trivial
    have s111:J 3 [true,true,true,true,false,true,true,false,false] [(4,Pt b4),(5,.rep (.slice (.slice (.int .i64))) r3.2.1),(7,I r9.1),(8,Pt j),(9,Pt M),(48,I r3.1.1),(49,I r9.1)] [.inv 0 (dP),.obj b2 66 (.agg (.pair (Ri r9.2.1) (.pair (I r9.2.2.1) (.eq (.int .u64 r9.2.2.2))))),.obj b4 27 (.rep aw r3.1),.sl F 35 aG e.2.1,.sl E 3 (.int .i64) e.2.2,.sl D 35 aG c.2.1,.sl y 3 (.int .i64) c.2.2,.obj j 27 (.agg (.pair (I r9.1) (.pair (.eq F) (.eq E)))),.obj M 27 (.agg (.pair (I c.1) (.pair (.eq D) (.eq y))))]:=by
     subst hJ;refine JD.step [4] (by kernel_rfl) rfl ?_;refine bL.cons rfl ?_ ?_
     ·refine jb (d5 rfl SZ) ?_;exact av s127 [0,1,2,3,4,5,6,7,8] ⟨rfl,rfl,rfl,rfl,rfl,rfl,trivial⟩
     exact trivial
    have s31:J 4 [true,true,true,true,true,false,false,false,false] [(4,Pt b4),(5,.rep (.slice (.slice (.int .i64))) r3.2.1),(7,I r9.1),(8,Pt j),(9,Pt M),(46,I r9.1),(50,I X)] [.inv 0 (dP),.obj b2 66 (.agg (.pair (Ri r9.2.1) (.pair (I r9.2.2.1) (.eq (.int .u64 r9.2.2.2))))),.obj b4 27 (.rep aw r3.1),.sl F 35 aG e.2.1,.sl E 3 (.int .i64) e.2.2,.sl D 35 aG c.2.1,.sl y 3 (.int .i64) c.2.2,.obj j 27 (.agg (.pair (I e.1) (.pair (.eq F) (.eq E)))),.obj M 27 (.agg (.pair (I c.1) (.pair (.eq D) (.eq y))))]:=by
     subst hJ;refine JD.step [5] (by kernel_rfl) rfl ?_;refine bL.cons rfl ?_ ?_
     ·refine fl cD ?_;exact av s63 [0,1,2,3,4,5,6,7,8] ⟨rfl,rfl,rfl,rfl,rfl,rfl,rfl,rfl,trivial⟩
     exact trivial
    have s47:J 4 [true,true,true,true,false,true,false,false,false] [(4,Pt b4),(5,.rep (.slice (.slice (.int .i64))) r3.2.1),(7,I r9.1),(8,Pt j),(9,Pt M),(46,I r9.1),(48,I r3.1.1),(49,I r9.1),(51,Pt j)] [.inv 0 (dP),.obj b2 66 (.agg (.pair (Ri r9.2.1) (.pair (I r9.2.2.1) (.eq (.int .u64 r9.2.2.2))))),.obj b4 27 (.rep aw r3.1),.sl F 35 aG e.2.1,.sl E 3 (.int .i64) e.2.2,.sl D 35 aG c.2.1,.sl y 3 (.int .i64) c.2.2,.obj j 27 (.agg (.pair (I e.1) (.pair (.eq F) (.eq E)))),.obj M 27 (.agg (.pair (I c.1) (.pair (.eq D) (.eq y))))]:=by
     subst hJ;refine JD.step [4,6] (by kernel_rfl) rfl ?_;refine bL.cons rfl ?_ ?_
     ·refine jb (d5 rfl SZ) ?_;exact av s63 [0,1,2,3,4,5,6,7,8] ⟨rfl,rfl,rfl,rfl,rfl,rfl,rfl,rfl,trivial⟩
     refine bL.cons rfl ?_ ?_
     ·refine fr 7 ?_;refine aY rfl rfl (aR rfl co rfl rfl rfl) ⟨rfl,rfl,trivial⟩ ?_;exact av s111 [1,2,3,4,5,6,7,0,8] ⟨rfl,rfl,rfl,rfl,rfl,rfl,rfl,trivial⟩
     exact trivial
    have s103:J 4 [true,true,true,false,false,true,true,false,false] [(4,Pt b4),(5,.rep (.slice (.slice (.int .i64))) r3.2.1),(7,I r9.1),(8,Pt j),(9,Pt M),(48,I r3.1.1)] [.inv 0 (dP),.obj b2 66 (.agg (.pair (Ri r9.2.1) (.pair (I r9.2.2.1) (.eq (.int .u64 r9.2.2.2))))),.obj b4 27 (.rep aw r3.1),.sl F 35 aG e.2.1,.sl E 3 (.int .i64) e.2.2,.sl D 35 aG c.2.1,.sl y 3 (.int .i64) c.2.2,.obj j 27 (.agg (.pair (I r9.1) (.pair (.eq F) (.eq E)))),.obj M 27 (.agg (.pair (I c.1) (.pair (.eq D) (.eq y))))]:=by
     subst hJ;refine JD.step [3] (by kernel_rfl) rfl ?_;refine bL.cons rfl ?_ ?_
     ·refine mq ?_;exact av s111 [0,1,2,3,4,5,6,7,8] ⟨rfl,rfl,rfl,rfl,rfl,rfl,rfl,trivial⟩
     exact trivial
    have s107:J 4 [true,true,false,true,false,true,true,false,false] [(4,Pt b4),(5,.rep (.slice (.slice (.int .i64))) r3.2.1),(7,I r9.1),(8,Pt j),(9,Pt M),(47,Pt b4),(49,I r9.1)] [.inv 0 (dP),.obj b2 66 (.agg (.pair (Ri r9.2.1) (.pair (I r9.2.2.1) (.eq (.int .u64 r9.2.2.2))))),.obj b4 27 (.rep aw r3.1),.sl F 35 aG e.2.1,.sl E 3 (.int .i64) e.2.2,.sl D 35 aG c.2.1,.sl y 3 (.int .i64) c.2.2,.obj j 27 (.agg (.pair (I r9.1) (.pair (.eq F) (.eq E)))),.obj M 27 (.agg (.pair (I c.1) (.pair (.eq D) (.eq y))))]:=by
     subst hJ;refine JD.step [2] (by kernel_rfl) rfl ?_;refine bL.cons rfl ?_ ?_
     ·refine fr 2 ?_;refine lo co ?_;exact av s111 [1,2,0,3,4,5,6,7,8] ⟨rfl,rfl,rfl,rfl,rfl,rfl,rfl,trivial⟩
     exact trivial
    have s15:J 5 [true,true,true,true,false,false,false,false,false] [(4,Pt b4),(5,.rep (.slice (.slice (.int .i64))) r3.2.1),(7,I r9.1),(8,Pt j),(9,Pt M),(46,I r9.1),(48,I r3.1.1),(49,I r9.1)] [.inv 0 (dP),.obj b2 66 (.agg (.pair (Ri r9.2.1) (.pair (I r9.2.2.1) (.eq (.int .u64 r9.2.2.2))))),.obj b4 27 (.rep aw r3.1),.sl F 35 aG e.2.1,.sl E 3 (.int .i64) e.2.2,.sl D 35 aG c.2.1,.sl y 3 (.int .i64) c.2.2,.obj j 27 (.agg (.pair (I e.1) (.pair (.eq F) (.eq E)))),.obj M 27 (.agg (.pair (I c.1) (.pair (.eq D) (.eq y))))]:=by
     subst hJ;refine JD.step [4,5] (by kernel_rfl) rfl ?_;refine bL.cons rfl ?_ ?_
     ·refine jb (d5 rfl SZ) ?_;exact av s31 [0,1,2,3,4,5,6,7,8] ⟨rfl,rfl,rfl,rfl,rfl,rfl,rfl,trivial⟩
     refine bL.cons rfl ?_ ?_
     ·refine fl cD ?_;exact av s47 [0,1,2,3,4,5,6,7,8] ⟨rfl,rfl,rfl,rfl,rfl,rfl,rfl,rfl,rfl,trivial⟩
     exact trivial
    have s39:J 5 [true,true,true,false,false,true,false,false,false] [(4,Pt b4),(5,.rep (.slice (.slice (.int .i64))) r3.2.1),(7,I r9.1),(8,Pt j),(9,Pt M),(46,I r9.1),(48,I r3.1.1),(51,Pt j)] [.inv 0 (dP),.obj b2 66 (.agg (.pair (Ri r9.2.1) (.pair (I r9.2.2.1) (.eq (.int .u64 r9.2.2.2))))),.obj b4 27 (.rep aw r3.1),.sl F 35 aG e.2.1,.sl E 3 (.int .i64) e.2.2,.sl D 35 aG c.2.1,.sl y 3 (.int .i64) c.2.2,.obj j 27 (.agg (.pair (I e.1) (.pair (.eq F) (.eq E)))),.obj M 27 (.agg (.pair (I c.1) (.pair (.eq D) (.eq y))))]:=by
     subst hJ;refine JD.step [3,6] (by kernel_rfl) rfl ?_;refine bL.cons rfl ?_ ?_
     ·refine mq ?_;exact av s47 [0,1,2,3,4,5,6,7,8] ⟨rfl,rfl,rfl,rfl,rfl,rfl,rfl,rfl,rfl,trivial⟩
     refine bL.cons rfl ?_ ?_
     ·refine fr 7 ?_;refine aY rfl rfl (aR rfl co rfl rfl rfl) ⟨rfl,rfl,trivial⟩ ?_;exact av s103 [1,2,3,4,5,6,7,0,8] ⟨rfl,rfl,rfl,rfl,rfl,rfl,trivial⟩
     exact trivial
    have s43:J 5 [true,true,false,true,false,true,false,false,false] [(4,Pt b4),(5,.rep (.slice (.slice (.int .i64))) r3.2.1),(7,I r9.1),(8,Pt j),(9,Pt M),(46,I r9.1),(47,Pt b4),(49,I r9.1),(51,Pt j)] [.inv 0 (dP),.obj b2 66 (.agg (.pair (Ri r9.2.1) (.pair (I r9.2.2.1) (.eq (.int .u64 r9.2.2.2))))),.obj b4 27 (.rep aw r3.1),.sl F 35 aG e.2.1,.sl E 3 (.int .i64) e.2.2,.sl D 35 aG c.2.1,.sl y 3 (.int .i64) c.2.2,.obj j 27 (.agg (.pair (I e.1) (.pair (.eq F) (.eq E)))),.obj M 27 (.agg (.pair (I c.1) (.pair (.eq D) (.eq y))))]:=by
     subst hJ;refine JD.step [2,6] (by kernel_rfl) rfl ?_;refine bL.cons rfl ?_ ?_
     ·refine fr 2 ?_;refine lo co ?_;exact av s47 [1,2,0,3,4,5,6,7,8] ⟨rfl,rfl,rfl,rfl,rfl,rfl,rfl,rfl,rfl,trivial⟩
     refine bL.cons rfl ?_ ?_
     ·refine fr 7 ?_;refine aY rfl rfl (aR rfl co rfl rfl rfl) ⟨rfl,rfl,trivial⟩ ?_;exact av s107 [1,2,3,4,5,6,7,0,8] ⟨rfl,rfl,rfl,rfl,rfl,rfl,rfl,trivial⟩
     exact trivial
    have s99:J 5 [true,true,false,false,false,true,true,false,false] [(4,Pt b4),(5,.rep (.slice (.slice (.int .i64))) r3.2.1),(7,I r9.1),(8,Pt j),(9,Pt M),(47,Pt b4)] [.inv 0 (dP),.obj b2 66 (.agg (.pair (Ri r9.2.1) (.pair (I r9.2.2.1) (.eq (.int .u64 r9.2.2.2))))),.obj b4 27 (.rep aw r3.1),.sl F 35 aG e.2.1,.sl E 3 (.int .i64) e.2.2,.sl D 35 aG c.2.1,.sl y 3 (.int .i64) c.2.2,.obj j 27 (.agg (.pair (I r9.1) (.pair (.eq F) (.eq E)))),.obj M 27 (.agg (.pair (I c.1) (.pair (.eq D) (.eq y))))]:=by
     subst hJ;refine JD.step [2,3] (by kernel_rfl) rfl ?_;refine bL.cons rfl ?_ ?_
     ·refine fr 2 ?_;refine lo co ?_;exact av s103 [1,2,0,3,4,5,6,7,8] ⟨rfl,rfl,rfl,rfl,rfl,rfl,trivial⟩
     refine bL.cons rfl ?_ ?_
     ·refine mq ?_;exact av s107 [0,1,2,3,4,5,6,7,8] ⟨rfl,rfl,rfl,rfl,rfl,rfl,rfl,trivial⟩
     exact trivial
    have s105:J 5 [true,false,false,true,false,true,true,false,false] [(4,Pt b4),(5,.rep (.slice (.slice (.int .i64))) r3.2.1),(7,I r9.1),(8,Pt j),(9,Pt M),(49,I r9.1)] [.inv 0 (dP),.obj b2 66 (.agg (.pair (Ri r9.2.1) (.pair (I r9.2.2.1) (.eq (.int .u64 r9.2.2.2))))),.obj b4 27 (.rep aw r3.1),.sl F 35 aG e.2.1,.sl E 3 (.int .i64) e.2.2,.sl D 35 aG c.2.1,.sl y 3 (.int .i64) c.2.2,.obj j 27 (.agg (.pair (I r9.1) (.pair (.eq F) (.eq E)))),.obj M 27 (.agg (.pair (I c.1) (.pair (.eq D) (.eq y))))]:=by
     subst hJ;refine JD.step [1] (by kernel_rfl) rfl ?_;refine bL.cons rfl ?_ ?_
     ·refine fl cD ?_;exact av s107 [0,1,2,3,4,5,6,7,8] ⟨rfl,rfl,rfl,rfl,rfl,rfl,rfl,trivial⟩
     exact trivial
    have s30:J 5 [false,true,true,true,true,false,false,false,false] [(4,Pt b4),(5,.rep (.slice (.slice (.int .i64))) r3.2.1),(7,I r9.1),(8,Pt j),(9,Pt M),(50,I X)] [.inv 0 (dP),.obj b2 66 (.agg (.pair (Ri r9.2.1) (.pair (I r9.2.2.1) (.eq (.int .u64 r9.2.2.2))))),.obj b4 27 (.rep aw r3.1),.sl F 35 aG e.2.1,.sl E 3 (.int .i64) e.2.2,.sl D 35 aG c.2.1,.sl y 3 (.int .i64) c.2.2,.obj j 27 (.agg (.pair (I e.1) (.pair (.eq F) (.eq E)))),.obj M 27 (.agg (.pair (I c.1) (.pair (.eq D) (.eq y))))]:=by
     subst hJ;refine JD.step [0] (by kernel_rfl) rfl ?_;refine bL.cons rfl ?_ ?_
     ·refine mq ?_;exact av s31 [0,1,2,3,4,5,6,7,8] ⟨rfl,rfl,rfl,rfl,rfl,rfl,rfl,trivial⟩
     exact trivial
    have s7:J 6 [true,true,true,false,false,false,false,false,false] [(4,Pt b4),(5,.rep (.slice (.slice (.int .i64))) r3.2.1),(7,I r9.1),(8,Pt j),(9,Pt M),(46,I r9.1),(48,I r3.1.1)] [.inv 0 (dP),.obj b2 66 (.agg (.pair (Ri r9.2.1) (.pair (I r9.2.2.1) (.eq (.int .u64 r9.2.2.2))))),.obj b4 27 (.rep aw r3.1),.sl F 35 aG e.2.1,.sl E 3 (.int .i64) e.2.2,.sl D 35 aG c.2.1,.sl y 3 (.int .i64) c.2.2,.obj j 27 (.agg (.pair (I e.1) (.pair (.eq F) (.eq E)))),.obj M 27 (.agg (.pair (I c.1) (.pair (.eq D) (.eq y))))]:=by
     subst hJ;refine JD.step [3,5] (by kernel_rfl) rfl ?_;refine bL.cons rfl ?_ ?_
     ·refine mq ?_;exact av s15 [0,1,2,3,4,5,6,7,8] ⟨rfl,rfl,rfl,rfl,rfl,rfl,rfl,rfl,trivial⟩
     refine bL.cons rfl ?_ ?_
     ·refine fl cD ?_;exact av s39 [0,1,2,3,4,5,6,7,8] ⟨rfl,rfl,rfl,rfl,rfl,rfl,rfl,rfl,trivial⟩
     exact trivial
    have s11:J 6 [true,true,false,true,false,false,false,false,false] [(4,Pt b4),(5,.rep (.slice (.slice (.int .i64))) r3.2.1),(7,I r9.1),(8,Pt j),(9,Pt M),(46,I r9.1),(47,Pt b4),(49,I r9.1)] [.inv 0 (dP),.obj b2 66 (.agg (.pair (Ri r9.2.1) (.pair (I r9.2.2.1) (.eq (.int .u64 r9.2.2.2))))),.obj b4 27 (.rep aw r3.1),.sl F 35 aG e.2.1,.sl E 3 (.int .i64) e.2.2,.sl D 35 aG c.2.1,.sl y 3 (.int .i64) c.2.2,.obj j 27 (.agg (.pair (I e.1) (.pair (.eq F) (.eq E)))),.obj M 27 (.agg (.pair (I c.1) (.pair (.eq D) (.eq y))))]:=by
     subst hJ;refine JD.step [2,5] (by kernel_rfl) rfl ?_;refine bL.cons rfl ?_ ?_
     ·refine fr 2 ?_;refine lo co ?_;exact av s15 [1,2,0,3,4,5,6,7,8] ⟨rfl,rfl,rfl,rfl,rfl,rfl,rfl,rfl,trivial⟩
     refine bL.cons rfl ?_ ?_
     ·refine fl cD ?_;exact av s43 [0,1,2,3,4,5,6,7,8] ⟨rfl,rfl,rfl,rfl,rfl,rfl,rfl,rfl,rfl,trivial⟩
     exact trivial
    have s35:J 6 [true,true,false,false,false,true,false,false,false] [(4,Pt b4),(5,.rep (.slice (.slice (.int .i64))) r3.2.1),(7,I r9.1),(8,Pt j),(9,Pt M),(46,I r9.1),(47,Pt b4),(51,Pt j)] [.inv 0 (dP),.obj b2 66 (.agg (.pair (Ri r9.2.1) (.pair (I r9.2.2.1) (.eq (.int .u64 r9.2.2.2))))),.obj b4 27 (.rep aw r3.1),.sl F 35 aG e.2.1,.sl E 3 (.int .i64) e.2.2,.sl D 35 aG c.2.1,.sl y 3 (.int .i64) c.2.2,.obj j 27 (.agg (.pair (I e.1) (.pair (.eq F) (.eq E)))),.obj M 27 (.agg (.pair (I c.1) (.pair (.eq D) (.eq y))))]:=by
     subst hJ;refine JD.step [2,3,6] (by kernel_rfl) rfl ?_;refine bL.cons rfl ?_ ?_
     ·refine fr 2 ?_;refine lo co ?_;exact av s39 [1,2,0,3,4,5,6,7,8] ⟨rfl,rfl,rfl,rfl,rfl,rfl,rfl,rfl,trivial⟩
     refine bL.cons rfl ?_ ?_
     ·refine mq ?_;exact av s43 [0,1,2,3,4,5,6,7,8] ⟨rfl,rfl,rfl,rfl,rfl,rfl,rfl,rfl,rfl,trivial⟩
     refine bL.cons rfl ?_ ?_
     ·refine fr 7 ?_;refine aY rfl rfl (aR rfl co rfl rfl rfl) ⟨rfl,rfl,trivial⟩ ?_;exact av s99 [1,2,3,4,5,6,7,0,8] ⟨rfl,rfl,rfl,rfl,rfl,rfl,trivial⟩
     exact trivial
    have s41:J 6 [true,false,false,true,false,true,false,false,false] [(4,Pt b4),(5,.rep (.slice (.slice (.int .i64))) r3.2.1),(7,I r9.1),(8,Pt j),(9,Pt M),(46,I r9.1),(49,I r9.1),(51,Pt j)] [.inv 0 (dP),.obj b2 66 (.agg (.pair (Ri r9.2.1) (.pair (I r9.2.2.1) (.eq (.int .u64 r9.2.2.2))))),.obj b4 27 (.rep aw r3.1),.sl F 35 aG e.2.1,.sl E 3 (.int .i64) e.2.2,.sl D 35 aG c.2.1,.sl y 3 (.int .i64) c.2.2,.obj j 27 (.agg (.pair (I e.1) (.pair (.eq F) (.eq E)))),.obj M 27 (.agg (.pair (I c.1) (.pair (.eq D) (.eq y))))]:=by
     subst hJ;refine JD.step [1,6] (by kernel_rfl) rfl ?_;refine bL.cons rfl ?_ ?_
     ·refine fl cD ?_;exact av s43 [0,1,2,3,4,5,6,7,8] ⟨rfl,rfl,rfl,rfl,rfl,rfl,rfl,rfl,rfl,trivial⟩
     refine bL.cons rfl ?_ ?_
     ·refine fr 7 ?_;refine aY rfl rfl (aR rfl co rfl rfl rfl) ⟨rfl,rfl,trivial⟩ ?_;exact av s105 [1,2,3,4,5,6,7,0,8] ⟨rfl,rfl,rfl,rfl,rfl,rfl,trivial⟩
     exact trivial
    have s97:J 6 [true,false,false,false,false,true,true,false,false] [(4,Pt b4),(5,.rep (.slice (.slice (.int .i64))) r3.2.1),(7,I r9.1),(8,Pt j),(9,Pt M)] [.inv 0 (dP),.obj b2 66 (.agg (.pair (Ri r9.2.1) (.pair (I r9.2.2.1) (.eq (.int .u64 r9.2.2.2))))),.obj b4 27 (.rep aw r3.1),.sl F 35 aG e.2.1,.sl E 3 (.int .i64) e.2.2,.sl D 35 aG c.2.1,.sl y 3 (.int .i64) c.2.2,.obj j 27 (.agg (.pair (I r9.1) (.pair (.eq F) (.eq E)))),.obj M 27 (.agg (.pair (I c.1) (.pair (.eq D) (.eq y))))]:=by
     subst hJ;refine JD.step [1,3] (by kernel_rfl) rfl ?_;refine bL.cons rfl ?_ ?_
     ·refine fl cD ?_;exact av s99 [0,1,2,3,4,5,6,7,8] ⟨rfl,rfl,rfl,rfl,rfl,rfl,trivial⟩
     refine bL.cons rfl ?_ ?_
     ·refine mq ?_;exact av s105 [0,1,2,3,4,5,6,7,8] ⟨rfl,rfl,rfl,rfl,rfl,rfl,trivial⟩
     exact trivial
    have s14:J 6 [false,true,true,true,false,false,false,false,false] [(4,Pt b4),(5,.rep (.slice (.slice (.int .i64))) r3.2.1),(7,I r9.1),(8,Pt j),(9,Pt M),(48,I r3.1.1),(49,I r9.1)] [.inv 0 (dP),.obj b2 66 (.agg (.pair (Ri r9.2.1) (.pair (I r9.2.2.1) (.eq (.int .u64 r9.2.2.2))))),.obj b4 27 (.rep aw r3.1),.sl F 35 aG e.2.1,.sl E 3 (.int .i64) e.2.2,.sl D 35 aG c.2.1,.sl y 3 (.int .i64) c.2.2,.obj j 27 (.agg (.pair (I e.1) (.pair (.eq F) (.eq E)))),.obj M 27 (.agg (.pair (I c.1) (.pair (.eq D) (.eq y))))]:=by
     subst hJ;refine JD.step [0,4] (by kernel_rfl) rfl ?_;refine bL.cons rfl ?_ ?_
     ·refine mq ?_;exact av s15 [0,1,2,3,4,5,6,7,8] ⟨rfl,rfl,rfl,rfl,rfl,rfl,rfl,rfl,trivial⟩
     refine bL.cons rfl ?_ ?_
     ·refine jb (d5 rfl SZ) ?_;exact av s30 [0,1,2,3,4,5,6,7,8] ⟨rfl,rfl,rfl,rfl,rfl,rfl,trivial⟩
     exact trivial
    have s3:J 7 [true,true,false,false,false,false,false,false,false] [(4,Pt b4),(5,.rep (.slice (.slice (.int .i64))) r3.2.1),(7,I r9.1),(8,Pt j),(9,Pt M),(46,I r9.1),(47,Pt b4)] [.inv 0 (dP),.obj b2 66 (.agg (.pair (Ri r9.2.1) (.pair (I r9.2.2.1) (.eq (.int .u64 r9.2.2.2))))),.obj b4 27 (.rep aw r3.1),.sl F 35 aG e.2.1,.sl E 3 (.int .i64) e.2.2,.sl D 35 aG c.2.1,.sl y 3 (.int .i64) c.2.2,.obj j 27 (.agg (.pair (I e.1) (.pair (.eq F) (.eq E)))),.obj M 27 (.agg (.pair (I c.1) (.pair (.eq D) (.eq y))))]:=by
     subst hJ;refine JD.step [2,3,5] (by kernel_rfl) rfl ?_;refine bL.cons rfl ?_ ?_
     ·refine fr 2 ?_;refine lo co ?_;exact av s7 [1,2,0,3,4,5,6,7,8] ⟨rfl,rfl,rfl,rfl,rfl,rfl,rfl,trivial⟩
     refine bL.cons rfl ?_ ?_
     ·refine mq ?_;exact av s11 [0,1,2,3,4,5,6,7,8] ⟨rfl,rfl,rfl,rfl,rfl,rfl,rfl,rfl,trivial⟩
     refine bL.cons rfl ?_ ?_
     ·refine fl cD ?_;exact av s35 [0,1,2,3,4,5,6,7,8] ⟨rfl,rfl,rfl,rfl,rfl,rfl,rfl,rfl,trivial⟩
     exact trivial
    have s9:J 7 [true,false,false,true,false,false,false,false,false] [(4,Pt b4),(5,.rep (.slice (.slice (.int .i64))) r3.2.1),(7,I r9.1),(8,Pt j),(9,Pt M),(46,I r9.1),(49,I r9.1)] [.inv 0 (dP),.obj b2 66 (.agg (.pair (Ri r9.2.1) (.pair (I r9.2.2.1) (.eq (.int .u64 r9.2.2.2))))),.obj b4 27 (.rep aw r3.1),.sl F 35 aG e.2.1,.sl E 3 (.int .i64) e.2.2,.sl D 35 aG c.2.1,.sl y 3 (.int .i64) c.2.2,.obj j 27 (.agg (.pair (I e.1) (.pair (.eq F) (.eq E)))),.obj M 27 (.agg (.pair (I c.1) (.pair (.eq D) (.eq y))))]:=by
     subst hJ;refine JD.step [1,5] (by kernel_rfl) rfl ?_;refine bL.cons rfl ?_ ?_
     ·refine fl cD ?_;exact av s11 [0,1,2,3,4,5,6,7,8] ⟨rfl,rfl,rfl,rfl,rfl,rfl,rfl,rfl,trivial⟩
     refine bL.cons rfl ?_ ?_
     ·refine fl cD ?_;exact av s41 [0,1,2,3,4,5,6,7,8] ⟨rfl,rfl,rfl,rfl,rfl,rfl,rfl,rfl,trivial⟩
     exact trivial
    have s33:J 7 [true,false,false,false,false,true,false,false,false] [(4,Pt b4),(5,.rep (.slice (.slice (.int .i64))) r3.2.1),(7,I r9.1),(8,Pt j),(9,Pt M),(46,I r9.1),(51,Pt j)] [.inv 0 (dP),.obj b2 66 (.agg (.pair (Ri r9.2.1) (.pair (I r9.2.2.1) (.eq (.int .u64 r9.2.2.2))))),.obj b4 27 (.rep aw r3.1),.sl F 35 aG e.2.1,.sl E 3 (.int .i64) e.2.2,.sl D 35 aG c.2.1,.sl y 3 (.int .i64) c.2.2,.obj j 27 (.agg (.pair (I e.1) (.pair (.eq F) (.eq E)))),.obj M 27 (.agg (.pair (I c.1) (.pair (.eq D) (.eq y))))]:=by
     subst hJ;refine JD.step [1,3,6] (by kernel_rfl) rfl ?_;refine bL.cons rfl ?_ ?_
     ·refine fl cD ?_;exact av s35 [0,1,2,3,4,5,6,7,8] ⟨rfl,rfl,rfl,rfl,rfl,rfl,rfl,rfl,trivial⟩
     refine bL.cons rfl ?_ ?_
     ·refine mq ?_;exact av s41 [0,1,2,3,4,5,6,7,8] ⟨rfl,rfl,rfl,rfl,rfl,rfl,rfl,rfl,trivial⟩
     refine bL.cons rfl ?_ ?_
     ·refine fr 7 ?_;refine aY rfl rfl (aR rfl co rfl rfl rfl) ⟨rfl,rfl,trivial⟩ ?_;exact av s97 [1,2,3,4,5,6,7,0,8] ⟨rfl,rfl,rfl,rfl,rfl,trivial⟩
     exact trivial
    have s6:J 7 [false,true,true,false,false,false,false,false,false] [(4,Pt b4),(5,.rep (.slice (.slice (.int .i64))) r3.2.1),(7,I r9.1),(8,Pt j),(9,Pt M),(48,I r3.1.1)] [.inv 0 (dP),.obj b2 66 (.agg (.pair (Ri r9.2.1) (.pair (I r9.2.2.1) (.eq (.int .u64 r9.2.2.2))))),.obj b4 27 (.rep aw r3.1),.sl F 35 aG e.2.1,.sl E 3 (.int .i64) e.2.2,.sl D 35 aG c.2.1,.sl y 3 (.int .i64) c.2.2,.obj j 27 (.agg (.pair (I e.1) (.pair (.eq F) (.eq E)))),.obj M 27 (.agg (.pair (I c.1) (.pair (.eq D) (.eq y))))]:=by
     subst hJ;refine JD.step [0,3] (by kernel_rfl) rfl ?_;refine bL.cons rfl ?_ ?_
     ·refine mq ?_;exact av s7 [0,1,2,3,4,5,6,7,8] ⟨rfl,rfl,rfl,rfl,rfl,rfl,rfl,trivial⟩
     refine bL.cons rfl ?_ ?_
     ·refine mq ?_;exact av s14 [0,1,2,3,4,5,6,7,8] ⟨rfl,rfl,rfl,rfl,rfl,rfl,rfl,trivial⟩
     exact trivial
    have s10:J 7 [false,true,false,true,false,false,false,false,false] [(4,Pt b4),(5,.rep (.slice (.slice (.int .i64))) r3.2.1),(7,I r9.1),(8,Pt j),(9,Pt M),(47,Pt b4),(49,I r9.1)] [.inv 0 (dP),.obj b2 66 (.agg (.pair (Ri r9.2.1) (.pair (I r9.2.2.1) (.eq (.int .u64 r9.2.2.2))))),.obj b4 27 (.rep aw r3.1),.sl F 35 aG e.2.1,.sl E 3 (.int .i64) e.2.2,.sl D 35 aG c.2.1,.sl y 3 (.int .i64) c.2.2,.obj j 27 (.agg (.pair (I e.1) (.pair (.eq F) (.eq E)))),.obj M 27 (.agg (.pair (I c.1) (.pair (.eq D) (.eq y))))]:=by
     subst hJ;refine JD.step [0,2] (by kernel_rfl) rfl ?_;refine bL.cons rfl ?_ ?_
     ·refine mq ?_;exact av s11 [0,1,2,3,4,5,6,7,8] ⟨rfl,rfl,rfl,rfl,rfl,rfl,rfl,rfl,trivial⟩
     refine bL.cons rfl ?_ ?_
     ·refine fr 2 ?_;refine lo co ?_;exact av s14 [1,2,0,3,4,5,6,7,8] ⟨rfl,rfl,rfl,rfl,rfl,rfl,rfl,trivial⟩
     exact trivial
    have s1:J 8 [true,false,false,false,false,false,false,false,false] [(4,Pt b4),(5,.rep (.slice (.slice (.int .i64))) r3.2.1),(7,I r9.1),(8,Pt j),(9,Pt M),(46,I r9.1)] [.inv 0 (dP),.obj b2 66 (.agg (.pair (Ri r9.2.1) (.pair (I r9.2.2.1) (.eq (.int .u64 r9.2.2.2))))),.obj b4 27 (.rep aw r3.1),.sl F 35 aG e.2.1,.sl E 3 (.int .i64) e.2.2,.sl D 35 aG c.2.1,.sl y 3 (.int .i64) c.2.2,.obj j 27 (.agg (.pair (I e.1) (.pair (.eq F) (.eq E)))),.obj M 27 (.agg (.pair (I c.1) (.pair (.eq D) (.eq y))))]:=by
     subst hJ;refine JD.step [1,3,5] (by kernel_rfl) rfl ?_;refine bL.cons rfl ?_ ?_
     ·refine fl cD ?_;exact av s3 [0,1,2,3,4,5,6,7,8] ⟨rfl,rfl,rfl,rfl,rfl,rfl,rfl,trivial⟩
     refine bL.cons rfl ?_ ?_
     ·refine mq ?_;exact av s9 [0,1,2,3,4,5,6,7,8] ⟨rfl,rfl,rfl,rfl,rfl,rfl,rfl,trivial⟩
     refine bL.cons rfl ?_ ?_
     ·refine fl cD ?_;exact av s33 [0,1,2,3,4,5,6,7,8] ⟨rfl,rfl,rfl,rfl,rfl,rfl,rfl,trivial⟩
     exact trivial
    have s2:J 8 [false,true,false,false,false,false,false,false,false] [(4,Pt b4),(5,.rep (.slice (.slice (.int .i64))) r3.2.1),(7,I r9.1),(8,Pt j),(9,Pt M),(47,Pt b4)] [.inv 0 (dP),.obj b2 66 (.agg (.pair (Ri r9.2.1) (.pair (I r9.2.2.1) (.eq (.int .u64 r9.2.2.2))))),.obj b4 27 (.rep aw r3.1),.sl F 35 aG e.2.1,.sl E 3 (.int .i64) e.2.2,.sl D 35 aG c.2.1,.sl y 3 (.int .i64) c.2.2,.obj j 27 (.agg (.pair (I e.1) (.pair (.eq F) (.eq E)))),.obj M 27 (.agg (.pair (I c.1) (.pair (.eq D) (.eq y))))]:=by
     subst hJ;refine JD.step [0,2,3] (by kernel_rfl) rfl ?_;refine bL.cons rfl ?_ ?_
     ·refine mq ?_;exact av s3 [0,1,2,3,4,5,6,7,8] ⟨rfl,rfl,rfl,rfl,rfl,rfl,rfl,trivial⟩
     refine bL.cons rfl ?_ ?_
     ·refine fr 2 ?_;refine lo co ?_;exact av s6 [1,2,0,3,4,5,6,7,8] ⟨rfl,rfl,rfl,rfl,rfl,rfl,trivial⟩
     refine bL.cons rfl ?_ ?_
     ·refine mq ?_;exact av s10 [0,1,2,3,4,5,6,7,8] ⟨rfl,rfl,rfl,rfl,rfl,rfl,rfl,trivial⟩
     exact trivial
    have s8:J 8 [false,false,false,true,false,false,false,false,false] [(4,Pt b4),(5,.rep (.slice (.slice (.int .i64))) r3.2.1),(7,I r9.1),(8,Pt j),(9,Pt M),(49,I r9.1)] [.inv 0 (dP),.obj b2 66 (.agg (.pair (Ri r9.2.1) (.pair (I r9.2.2.1) (.eq (.int .u64 r9.2.2.2))))),.obj b4 27 (.rep aw r3.1),.sl F 35 aG e.2.1,.sl E 3 (.int .i64) e.2.2,.sl D 35 aG c.2.1,.sl y 3 (.int .i64) c.2.2,.obj j 27 (.agg (.pair (I e.1) (.pair (.eq F) (.eq E)))),.obj M 27 (.agg (.pair (I c.1) (.pair (.eq D) (.eq y))))]:=by
     subst hJ;refine JD.step [0,1] (by kernel_rfl) rfl ?_;refine bL.cons rfl ?_ ?_
     ·refine mq ?_;exact av s9 [0,1,2,3,4,5,6,7,8] ⟨rfl,rfl,rfl,rfl,rfl,rfl,rfl,trivial⟩
     refine bL.cons rfl ?_ ?_
     ·refine fl cD ?_;exact av s10 [0,1,2,3,4,5,6,7,8] ⟨rfl,rfl,rfl,rfl,rfl,rfl,rfl,trivial⟩
     exact trivial
    have s0:J 9 [false,false,false,false,false,false,false,false,false] [(4,Pt b4),(5,.rep (.slice (.slice (.int .i64))) r3.2.1),(7,I r9.1),(8,Pt j),(9,Pt M)] [.obj M 27 (.agg (.pair (I c.1) (.pair (.eq D) (.eq y)))),.sl y 3 (.int .i64) c.2.2,.sl D 35 aG c.2.1,.obj j 27 (.agg (.pair (I e.1) (.pair (.eq F) (.eq E)))),.sl E 3 (.int .i64) e.2.2,.sl F 35 aG e.2.1,.obj b2 66 (.agg (.pair (Ri r9.2.1) (.pair (I r9.2.2.1) (.eq (.int .u64 r9.2.2.2))))),.obj b4 27 (.rep aw r3.1),.inv 0 (dP)]:=by
     subst hJ;refine JD.step [0,1,3] (by kernel_rfl) rfl ?_;refine bL.cons rfl ?_ ?_
     ·refine mq ?_;exact av s1 [8,6,7,5,4,2,1,3,0] ⟨rfl,rfl,rfl,rfl,rfl,rfl,trivial⟩
     refine bL.cons rfl ?_ ?_
     ·refine fl cD ?_;exact av s2 [8,6,7,5,4,2,1,3,0] ⟨rfl,rfl,rfl,rfl,rfl,rfl,trivial⟩
     refine bL.cons rfl ?_ ?_
     ·refine mq ?_;exact av s8 [8,6,7,5,4,2,1,3,0] ⟨rfl,rfl,rfl,rfl,rfl,rfl,trivial⟩
     exact trivial
    exact s0
   rintro⟨⟩;show JN _ _ [(4,Pt b4),(5,.rep (.slice (.slice (.int .i64))) r3.2.1),(7,I r9.1),(8,Pt j),(9,Pt M)] [.inv 0 (dP),.obj b2 66 (.agg (.pair (Ri r9.2.1) (.pair (I r9.2.2.1) (.eq (.int .u64 r9.2.2.2))))),.obj b4 27 (.rep aw r3.1),.sl F 35 aG e.2.1,.sl E 3 (.int .i64) e.2.2,.sl D 35 aG c.2.1,.sl y 3 (.int .i64) c.2.2,.obj j 27 (.agg (.pair (I r9.1) (.pair (.eq F) (.eq E)))),.obj M 27 (.agg (.pair (I X) (.pair (.eq D) (.eq y))))];refine tn (aX (Z:=Unit) (α:=(List cR)×(List cR)) (fun TL qt=>[(4,Pt b4),(5,.rep (.slice (.slice (.int .i64))) r3.2.1),(7,I r9.1),(8,Pt j),(9,Pt M)]) (fun TL qt=>[.obj b4 27 (.rep aw r3.1),.obj j 27 (.agg (.pair (I r9.1) (.pair (.eq F) (.eq E)))),.sl F 35 aG qt.1,.sl E 3 (.int .i64) e.2.2,.obj M 27 (.agg (.pair (I X) (.pair (.eq D) (.eq y)))),.sl D 35 aG qt.2,.sl y 3 (.int .i64) c.2.2,.inv 0 (dP)]) h (fun K h=>?_) (fun TL qt h=>?_))
   ·refine sr (cq (nt (an ?_)));refine aN (fun TK O=>[(4,Pt b4),(5,.rep (.slice (.slice (.int .i64))) r3.2.1),(7,I r9.1),(8,Pt j),(9,Pt M),(10,I O.2.2)]) (fun TK O=>[.obj b4 27 (.rep aw r3.1),.obj j 27 (.agg (.pair (I r9.1) (.pair (.eq F) (.eq E)))),.sl F 35 aG O.1,.sl E 3 (.int .i64) e.2.2,.obj M 27 (.agg (.pair (I X) (.pair (.eq D) (.eq y)))),.sl D 35 aG O.2.1,.sl y 3 (.int .i64) c.2.2,.inv 0 (dP)]) (de k r3 r9) k () (e.2.1,c.2.1,0) (fun _=>rfl) h (SE.fin [2,7,3,4,8,5,6,0] ⟨rfl,rfl,rfl,rfl,rfl,rfl,trivial⟩ rfl) (fun n TK O h=>?_);unfold de at h;refine ah (sr (mq ?_));refine fl cC ?_;refine lo ic ?_;refine ol nY ?_;refine jb (bG rfl) ?_;refine nt (ci h (fun h=>?_) (fun h=>?_))
    ·refine sk (aX (Z:=Unit) (α:=(List cR)×(List cR)) (fun TJ S7=>[(4,Pt b4),(5,.rep (.slice (.slice (.int .i64))) r3.2.1),(7,I r9.1),(8,Pt j),(9,Pt M),(10,I O.2.2)]) (fun TJ S7=>[.obj b4 27 (.rep aw r3.1),.obj j 27 (.agg (.pair (I r9.1) (.pair (.eq F) (.eq E)))),.sl F 35 aG S7.1,.sl E 3 (.int .i64) e.2.2,.obj M 27 (.agg (.pair (I X) (.pair (.eq D) (.eq y)))),.sl D 35 aG S7.2,.sl y 3 (.int .i64) c.2.2,.inv 0 (dP)]) h (fun K h=>?_) (fun TJ S7 h=>?_))
     ·refine an ?_;obtain⟨ac,pp,h⟩:=aa h;refine gP 2 rfl ?_;refine eG wZ ?_;obtain⟨Y,mc,h⟩:=aa h;refine gP 5 rfl ?_;refine eG wZ ?_;refine ah (gQ ?_);refine aF rfl rfl rfl (ax rfl cC) ⟨rfl,trivial⟩ ?_;refine cp 3 rfl rfl rfl rfl (ak rfl ic kU rfl) ⟨rfl,trivial⟩ ?_;refine aF rfl rfl rfl (aO rfl) ⟨rfl,trivial⟩ ?_;refine aF rfl rfl rfl (ax rfl cC) ⟨rfl,trivial⟩ ?_;refine cp 5 rfl rfl rfl rfl (ak rfl ic kU rfl) ⟨rfl,trivial⟩ ?_;refine aF rfl rfl rfl (aO rfl) ⟨rfl,trivial⟩ ?_;refine cp 1 rfl rfl rfl rfl (bb (t:=(.agg (.pair (.int .i64) (.alt (.slice (.int .i64)))))) rfl nY jH (dF pp)) ⟨rfl,rfl,trivial⟩ ?_;refine cp 1 rfl rfl rfl rfl (jP rfl jh (py (dF pp))) ⟨rfl,trivial⟩ ?_;refine kK 8 [true,true,true,false,false,false,true,true] [] [5] [.obj M 27 (.agg (.pair (I X) (.pair (.eq D) (.eq y))))] rfl (by kernel_rfl) (by kernel_rfl) (by kernel_rfl) dI (fun vs hv hB=>?_);obtain⟨w0,TC,rfl,SY⟩:=aj hv;obtain⟨w1,TB,rfl,SX⟩:=aj SY;obtain⟨w2,TA,rfl,SV⟩:=aj SX;obtain⟨w3,Tz,rfl,SU⟩:=aj SV;obtain⟨w4,Tv,rfl,SS⟩:=aj SU;obtain⟨w5,Tt,rfl,SR⟩:=aj SS;obtain⟨w6,TN,rfl,Td⟩:=aj SR;obtain⟨w7,TM,rfl,Ta⟩:=aj Td;obtain rfl:=i7 Ta;refine⟨[5,0,1,2,3,4,6,7],[.sl D 35 (.agg (.pair (.int .i64) (.alt (.slice (.int .i64))))) (List.map jK O.2.1),.sl F 35 (.agg (.pair (.int .i64) (.alt (.slice (.int .i64))))) (List.map jK O.1),.obj b4 27 (.rep aw r3.1),.obj j 27 (.agg (.pair (I r9.1) (.pair (.eq F) (.eq E)))),.sl E 3 (.int .i64) e.2.2,.sl y 3 (.int .i64) c.2.2,.inv 0 (dP)],by kernel_rfl,by decide,?_⟩;refine dp 1 rfl ?_;refine kJ rfl rfl (nj (i:=Int.toNat O.2.2) (off:=1) rfl cg rfl (bS (dF pp)).2.2 (.altR rfl) rfl (.agg (.right .whole rfl))) ⟨rfl,rfl,trivial⟩ (by kernel_rfl) ?_;refine BS (by kernel_rfl) ?_;refine fr 2 ?_;refine kb (bb (t:=(.agg (.pair (.int .i64) (.alt (.slice (.int .i64)))))) rfl nY jH (dF mc)) ?_;refine ka (jP rfl jh (py (dF mc))) ?_;refine aY rfl rfl (nj (i:=Int.toNat O.2.2) (off:=1) rfl cg rfl (bS (dF mc)).2.2 (.altR rfl) rfl (.agg (.right .whole rfl))) ⟨rfl,rfl,trivial⟩ ?_;refine nt (eG (SE.nil 3 (.int .i64)) ?_);refine eG (SE.nil 3 (.int .i64)) ?_;refine sr (cq (nt (an ?_)));refine aN (fun Q U=>[(4,Pt b4),(5,.rep (.slice (.slice (.int .i64))) r3.2.1),(7,I r9.1),(8,Pt j),(9,Pt M),(10,I O.2.2),(11,I U.2.2)]) (fun Q U=>[.obj b4 27 (.rep aw r3.1),.obj j 27 (.agg (.pair (I r9.1) (.pair (.eq F) (.eq E)))),.sl F 35 (.agg (.pair (.int .i64) (.alt (.slice (.int .i64))))) (List.set (List.map jK O.1) (Int.toNat O.2.2) (ac.1,Sum.inr Q.1)),.sl Q.1 3 (.int .i64) U.1,.sl E 3 (.int .i64) e.2.2,.obj M 27 (.agg (.pair (I X) (.pair (.eq D) (.eq y)))),.sl D 35 (.agg (.pair (.int .i64) (.alt (.slice (.int .i64))))) (List.set (List.map jK O.2.1) (Int.toNat O.2.2) (Y.1,Sum.inr Q.2)),.sl Q.2 3 (.int .i64) U.2.1,.sl y 3 (.int .i64) c.2.2,.inv 0 (dP)]) (cK k r3 r9 O ac Y) k ((.slice none 0 0),(.slice none 0 0)) (([]:(List Int)),([]:(List Int)),0) (fun _=>rfl) h (SE.fin [5,6,4,1,7,3,2,0,8,9] ⟨rfl,rfl,rfl,rfl,rfl,rfl,rfl,trivial⟩ rfl) (fun n Q U h=>?_);unfold cK at h
      refine ah (sr (mq ?_));refine fl cC ?_;refine lo ic ?_;refine mq ?_;obtain⟨UG,Uc,h⟩:=aa h;refine jb (aM (t:=aG) rfl nY jH Uc) ?_;refine ja (aI 1 false rfl jh rfl) ?_;refine ja (ap (t:=(.slice (.int .i64))) rfl cg rfl) ?_;refine ol eS ?_;refine jb (bG rfl) ?_;refine nt (ci h (fun h=>?_) (fun h=>?_))
      ·refine sk (aX (Z:=Value×Value) (α:=(List Int)×(List Int)) (fun se S5=>[(4,Pt b4),(5,.rep (.slice (.slice (.int .i64))) r3.2.1),(7,I r9.1),(8,Pt j),(9,Pt M),(10,I O.2.2),(11,I U.2.2)]) (fun se S5=>[.obj b4 27 (.rep aw r3.1),.obj j 27 (.agg (.pair (I r9.1) (.pair (.eq F) (.eq E)))),.sl F 35 (.agg (.pair (.int .i64) (.alt (.slice (.int .i64))))) (List.set (List.map jK O.1) (Int.toNat O.2.2) (ac.1,Sum.inr se.1)),.sl se.1 3 (.int .i64) S5.1,.sl E 3 (.int .i64) e.2.2,.obj M 27 (.agg (.pair (I X) (.pair (.eq D) (.eq y)))),.sl D 35 (.agg (.pair (.int .i64) (.alt (.slice (.int .i64))))) (List.set (List.map jK O.2.1) (Int.toNat O.2.2) (Y.1,Sum.inr se.2)),.sl se.2 3 (.int .i64) S5.2,.sl y 3 (.int .i64) c.2.2,.inv 0 (dP)]) h (fun K h=>?_) (fun se S5 h=>?_))
       ·refine an (sr (fl cC ?_));refine lo ic ?_;refine mq ?_;obtain⟨UF,Ub,h⟩:=aa h;refine jb (aM (t:=aG) rfl nY jH Ub) ?_;refine ja (aI 1 false rfl jh rfl) ?_;refine ja (ap (t:=(.slice (.int .i64))) rfl cg rfl) ?_;refine mq ?_;obtain⟨S9,Ua,h⟩:=aa h;refine jb (aM (t:=(.int .i64)) rfl eS co Ua) ?_;refine ja (ap (t:=(.int .i64)) rfl co rfl) ?_;refine aq (nt (sr ?_));iterate 2 refine mq ?_
        refine jb (bG rfl) ?_;refine nt (ci h (fun h=>?_) (fun h=>?_))
        ·refine gQ ?_;refine aF rfl rfl rfl (ax rfl cC) ⟨rfl,trivial⟩ ?_;refine cp 1 rfl rfl rfl rfl (ak rfl ic kU rfl) ⟨rfl,trivial⟩ ?_;refine aF rfl rfl rfl (aO rfl) ⟨rfl,trivial⟩ ?_;refine aF rfl rfl rfl (ax rfl cC) ⟨rfl,trivial⟩ ?_;refine cp 1 rfl rfl rfl rfl (ak rfl ic kU rfl) ⟨rfl,trivial⟩ ?_;refine aF rfl rfl rfl (aO rfl) ⟨rfl,trivial⟩ ?_;refine cp 2 rfl rfl rfl rfl (bb (t:=(.agg (.pair (.int .i64) (.alt (.slice (.int .i64)))))) rfl nY jH (gJ (ac.1,Sum.inr Q.1) (dF pp))) ⟨rfl,rfl,trivial⟩ ?_;refine cp 2 rfl rfl rfl rfl (jP rfl jh (py (gJ (ac.1,Sum.inr Q.1) (dF pp)))) ⟨rfl,trivial⟩ ?_;refine cp 2 rfl rfl rfl rfl (ti (i:=Int.toNat O.2.2) rfl cg rfl (bS (gJ (ac.1,Sum.inr Q.1) (dF pp))).2.2) ⟨rfl,trivial⟩ ?_;refine aF rfl rfl rfl (aO rfl) ⟨rfl,trivial⟩ ?_;refine aF rfl rfl rfl (bC (t:=(.int .i64)) [(.tmp 102,_)] [S9] rfl rfl eu (.cons rfl .int .nil) rfl rfl) ⟨rfl,trivial⟩ ?_;obtain⟨UK,Ue,h⟩:=aa h;refine o4 3 rfl (fun v=>[.sl v 3 (.int .i64) (U.1++[S9])]) (fun _=>rfl) rfl rfl rfl (bZ rfl rfl eu (aH Ue)) ⟨rfl,rfl,trivial⟩ ?_;refine kK 12 [true,true,true,true,true,true,true,true,true,true,true,true] [105,106] [] [] rfl (by kernel_rfl) (by kernel_rfl) (by kernel_rfl) dI (fun vs hv hB=>?_);obtain⟨w0,TC,rfl,SY⟩:=aj hv;obtain⟨w1,TB,rfl,SX⟩:=aj SY;obtain⟨w2,TA,rfl,SV⟩:=aj SX;obtain⟨w3,Tz,rfl,SU⟩:=aj SV;obtain⟨w4,Tv,rfl,SS⟩:=aj SU;obtain⟨w5,Tt,rfl,SR⟩:=aj SS;obtain⟨w6,TN,rfl,Td⟩:=aj SR;obtain⟨w7,TM,rfl,Ta⟩:=aj Td;obtain⟨w8,Up,rfl,TF⟩:=aj Ta;obtain⟨w9,TR,rfl,Tj⟩:=aj TF;obtain⟨Uo,TP,rfl,Ti⟩:=aj Tj;obtain⟨Tn,TO,rfl,Tf⟩:=aj Ti;obtain rfl:=i7 Tf;refine⟨[0,1,2,3,4,5,6,7,8,9],[.obj b4 27 (.rep aw r3.1),.obj j 27 (.agg (.pair (I r9.1) (.pair (.eq F) (.eq E)))),.sl F 35 (.agg (.pair (.int .i64) (.alt (.slice (.int .i64))))) (List.set (List.map jK O.1) (Int.toNat O.2.2) (ac.1,Sum.inr Q.1)),.sl E 3 (.int .i64) e.2.2,.obj M 27 (.agg (.pair (I X) (.pair (.eq D) (.eq y)))),.sl D 35 (.agg (.pair (.int .i64) (.alt (.slice (.int .i64))))) (List.set (List.map jK O.2.1) (Int.toNat O.2.2) (Y.1,Sum.inr Q.2)),.sl Q.2 3 (.int .i64) U.2.1,.sl y 3 (.int .i64) c.2.2,.inv 0 (dP),.sl Tn 3 (.int .i64) (U.1++[S9])],by kernel_rfl,by decide,?_⟩;refine dp 2 rfl ?_;refine ta rfl rfl rfl rfl (bb (t:=(.agg (.pair (.int .i64) (.alt (.slice (.int .i64)))))) rfl nY jH (gJ (ac.1,Sum.inr Q.1) (dF pp))) ⟨rfl,rfl,trivial⟩ (by kernel_rfl) ?_;refine ta rfl rfl rfl rfl (jP rfl jh (py (gJ (ac.1,Sum.inr Q.1) (dF pp)))) ⟨rfl,trivial⟩ (by kernel_rfl) ?_;refine dp 9 rfl ?_;refine oZ fun o40=>?_;refine dp 1 rfl ?_;refine kJ rfl rfl (rh (i:=Int.toNat O.2.2) rfl cg rfl (bS (gJ (ac.1,Sum.inr Q.1) (dF pp))).2.2 o40) ⟨rfl,rfl,trivial⟩ (by kernel_rfl) ?_;refine nD ?_;refine bF (SE.fin (Γ':=[(4,Pt b4),(5,.rep (.slice (.slice (.int .i64))) r3.2.1),(7,I r9.1),(8,Pt j),(9,Pt M),(10,I O.2.2),(11,I U.2.2)]) (Δ':=[.sl F 35 (.agg (.pair (.int .i64) (.alt (.slice (.int .i64))))) (List.set (List.map jK O.1) (Int.toNat O.2.2) (ac.1,Sum.inr Tn)),.sl Tn 3 (.int .i64) (U.1++[S9]),.obj b4 27 (.rep aw r3.1),.obj j 27 (.agg (.pair (I r9.1) (.pair (.eq F) (.eq E)))),.sl E 3 (.int .i64) e.2.2,.obj M 27 (.agg (.pair (I X) (.pair (.eq D) (.eq y)))),.sl D 35 (.agg (.pair (.int .i64) (.alt (.slice (.int .i64))))) (List.set (List.map jK O.2.1) (Int.toNat O.2.2) (Y.1,Sum.inr Q.2)),.sl Q.2 3 (.int .i64) U.2.1,.sl y 3 (.int .i64) c.2.2,.inv 0 (dP)]) [0,1,2,3,4,5,6,7,8,9] ⟨rfl,rfl,rfl,rfl,rfl,rfl,rfl,trivial⟩ rfl) ?_
         refine bn ?_;exact jz ((Tn,Q.2),(U.1++[S9],U.2.1)) h [2,3,0,1,4,5,6,7,8,9]
        ·refine gQ ?_;refine aF rfl rfl rfl (ax rfl cC) ⟨rfl,trivial⟩ ?_;refine cp 5 rfl rfl rfl rfl (ak rfl ic kU rfl) ⟨rfl,trivial⟩ ?_;refine aF rfl rfl rfl (aO rfl) ⟨rfl,trivial⟩ ?_;refine aF rfl rfl rfl (ax rfl cC) ⟨rfl,trivial⟩ ?_;refine cp 5 rfl rfl rfl rfl (ak rfl ic kU rfl) ⟨rfl,trivial⟩ ?_;refine aF rfl rfl rfl (aO rfl) ⟨rfl,trivial⟩ ?_;refine cp 6 rfl rfl rfl rfl (bb (t:=(.agg (.pair (.int .i64) (.alt (.slice (.int .i64)))))) rfl nY jH (gJ (Y.1,Sum.inr Q.2) (dF mc))) ⟨rfl,rfl,trivial⟩ ?_;refine cp 6 rfl rfl rfl rfl (jP rfl jh (py (gJ (Y.1,Sum.inr Q.2) (dF mc)))) ⟨rfl,trivial⟩ ?_;refine cp 6 rfl rfl rfl rfl (ti (i:=Int.toNat O.2.2) rfl cg rfl (bS (gJ (Y.1,Sum.inr Q.2) (dF mc))).2.2) ⟨rfl,trivial⟩ ?_;refine aF rfl rfl rfl (aO rfl) ⟨rfl,trivial⟩ ?_;refine aF rfl rfl rfl (aO rfl) ⟨rfl,trivial⟩ ?_;obtain⟨S8,T9,h⟩:=aa h;refine aF rfl rfl rfl (d5 rfl T9) ⟨rfl,rfl,trivial⟩ ?_;refine aF rfl rfl rfl (bC (t:=(.int .i64)) [(.tmp 118,_)] [S8] rfl rfl eu (.cons rfl .int .nil) rfl rfl) ⟨rfl,trivial⟩ ?_;obtain⟨UJ,Ud,h⟩:=aa h;refine o4 7 rfl (fun v=>[.sl v 3 (.int .i64) (U.2.1++[S8])]) (fun _=>rfl) rfl rfl rfl (bZ rfl rfl eu (aH Ud)) ⟨rfl,rfl,trivial⟩ ?_;refine kK 14 [true,true,true,true,true,true,true,true,true,true,true,true,true,true] [121,122] [] [] rfl (by kernel_rfl) (by kernel_rfl) (by kernel_rfl) dI (fun vs hv hB=>?_);obtain⟨w0,TC,rfl,SY⟩:=aj hv;obtain⟨w1,TB,rfl,SX⟩:=aj SY;obtain⟨w2,TA,rfl,SV⟩:=aj SX;obtain⟨w3,Tz,rfl,SU⟩:=aj SV;obtain⟨w4,Tv,rfl,SS⟩:=aj SU;obtain⟨w5,Tt,rfl,SR⟩:=aj SS;obtain⟨w6,TN,rfl,Td⟩:=aj SR;obtain⟨w7,TM,rfl,Ta⟩:=aj Td;obtain⟨w8,Up,rfl,TF⟩:=aj Ta;obtain⟨w9,TR,rfl,Tj⟩:=aj TF;obtain⟨Uo,TP,rfl,Ti⟩:=aj Tj;obtain⟨UI,TO,rfl,Tf⟩:=aj Ti;obtain⟨UH,UD,rfl,TX⟩:=aj Tf;obtain⟨Tm,UC,rfl,TU⟩:=aj TX;obtain rfl:=i7 TU;refine⟨[0,1,2,3,4,5,6,7,8,9],[.obj b4 27 (.rep aw r3.1),.obj j 27 (.agg (.pair (I r9.1) (.pair (.eq F) (.eq E)))),.sl F 35 (.agg (.pair (.int .i64) (.alt (.slice (.int .i64))))) (List.set (List.map jK O.1) (Int.toNat O.2.2) (ac.1,Sum.inr Q.1)),.sl Q.1 3 (.int .i64) U.1,.sl E 3 (.int .i64) e.2.2,.obj M 27 (.agg (.pair (I X) (.pair (.eq D) (.eq y)))),.sl D 35 (.agg (.pair (.int .i64) (.alt (.slice (.int .i64))))) (List.set (List.map jK O.2.1) (Int.toNat O.2.2) (Y.1,Sum.inr Q.2)),.sl y 3 (.int .i64) c.2.2,.inv 0 (dP),.sl Tm 3 (.int .i64) (U.2.1++[S8])],by kernel_rfl,by decide,?_⟩;refine dp 6 rfl ?_;refine ta rfl rfl rfl rfl (bb (t:=(.agg (.pair (.int .i64) (.alt (.slice (.int .i64)))))) rfl nY jH (gJ (Y.1,Sum.inr Q.2) (dF mc))) ⟨rfl,rfl,trivial⟩ (by kernel_rfl) ?_;refine ta rfl rfl rfl rfl (jP rfl jh (py (gJ (Y.1,Sum.inr Q.2) (dF mc)))) ⟨rfl,trivial⟩ (by kernel_rfl) ?_;refine dp 9 rfl ?_;refine oZ fun o44=>?_;refine dp 1 rfl ?_;refine kJ rfl rfl (rh (i:=Int.toNat O.2.2) rfl cg rfl (bS (gJ (Y.1,Sum.inr Q.2) (dF mc))).2.2 o44) ⟨rfl,rfl,trivial⟩ (by kernel_rfl) ?_;refine nD ?_;refine bF (SE.fin (Γ':=[(4,Pt b4),(5,.rep (.slice (.slice (.int .i64))) r3.2.1),(7,I r9.1),(8,Pt j),(9,Pt M),(10,I O.2.2),(11,I U.2.2)]) (Δ':=[.sl D 35 (.agg (.pair (.int .i64) (.alt (.slice (.int .i64))))) (List.set (List.map jK O.2.1) (Int.toNat O.2.2) (Y.1,Sum.inr Tm)),.sl Tm 3 (.int .i64) (U.2.1++[S8]),.obj b4 27 (.rep aw r3.1),.obj j 27 (.agg (.pair (I r9.1) (.pair (.eq F) (.eq E)))),.sl F 35 (.agg (.pair (.int .i64) (.alt (.slice (.int .i64))))) (List.set (List.map jK O.1) (Int.toNat O.2.2) (ac.1,Sum.inr Q.1)),.sl Q.1 3 (.int .i64) U.1,.sl E 3 (.int .i64) e.2.2,.obj M 27 (.agg (.pair (I X) (.pair (.eq D) (.eq y)))),.sl y 3 (.int .i64) c.2.2,.inv 0 (dP)]) [0,1,2,3,4,5,6,7,8,9] ⟨rfl,rfl,rfl,rfl,rfl,rfl,rfl,trivial⟩ rfl) ?_
         refine bn ?_;exact jz ((Q.1,Tm),(U.1,U.2.1++[S8])) h [2,3,4,5,6,7,0,1,8,9]
       ·refine ab (mq ?_);obtain⟨Un,T8,h⟩:=aa h;refine jb (bm rfl T8) ?_;refine aq (nl ?_);exact jz ((se.1,se.2),(S5.1,S5.2,Un)) h [0,1,2,3,4,5,6,7,8,9]
      ·refine dD (aQ (aQ (bR (bn (c9 2 rfl ?_)))));refine c9 3 rfl ?_;refine bF (xb (u:=.int .i64) (r:=.int .i64) (l:=O.1) (i:=Int.toNat O.2.2) (d:=U.1)) ?_;refine c9 5 rfl ?_;refine c9 6 rfl ?_;refine bF (xb (u:=.int .i64) (r:=.int .i64) (l:=O.2.1) (i:=Int.toNat O.2.2) (d:=U.2.1)) ?_;exact jz ((),(List.set O.1 (Int.toNat O.2.2) (ac.1,U.1),List.set O.2.1 (Int.toNat O.2.2) (Y.1,U.2.1))) h [2,3,1,4,5,0,6,7]
     ·refine ab (mq ?_);obtain⟨Um,TZ,h⟩:=aa h;refine jb (bm rfl TZ) ?_;refine aq (nl ?_);exact jz ((),(S7.1,S7.2,Um)) h [0,1,2,3,4,5,6,7]
    ·refine xa ?_;exact jz ((),(O.1,O.2.1)) h [0,1,2,3,4,5,6,7]
   ·refine sr (lo fJ ?_);iterate 2 refine mq ?_
    obtain⟨TD,Uj,h⟩:=aa h;refine fr 7 ?_;refine kc (ao [.tmp 124,.tmp 125,.tmp 126] rfl rfl RN rfl (xm k r3.1 r3.2.1 r9.1 TD Uj)) ?_;refine mq ?_;refine xr ?_;refine xr ?_;refine aq ?_;refine aq (nt (sr ?_));refine fr 1 ?_;refine lo fJ ?_;refine mq ?_;obtain⟨Ut,Ui,h⟩:=aa h;refine fr 1 ?_;refine kb (ff [.tmp 131,.tmp 132] rfl rfl J2 rfl (jt k r3.1 r3.2.1 Ut Ui)) ?_;refine mq ?_;refine xr ?_;refine xr ?_;refine aq ?_;refine aq (nt (sr ?_));refine fr 2 ?_;refine fr 3 ?_;refine cO (ji (off:=1) [] trivial rfl rfl) ?_;refine fr 3 ?_;refine cO (ji (off:=2) [] trivial rfl rfl) ?_;refine lo fJ ?_;refine mq ?_;obtain⟨Us,Uh,h⟩:=aa h;refine fr 1 ?_;refine kb (cN (N:=[(.tmp 137,.agg (.pair (I r9.1) (.pair (Rs aG qt.1) (Ri e.2.2)))),(.tmp 138,.rep (.slice (.slice (.int .i64))) r3.2.1)]) (ff [.tmp 137,.tmp 138] rfl rfl J2 rfl (jt k (r9.1,qt.1,e.2.2) r3.2.1 Us Uh)) fun _ _ _ hn=>⟨(iD (t:=aw) (x:=(r9.1,qt.1,e.2.2)) (.agg (.pair .int (.pair .rep .rep))) trivial rfl hn.1),hn.2.1,trivial⟩) ?_;refine mq ?_;refine xr ?_;refine xr ?_;refine aq ?_;refine aq (nt (sr ?_));refine fr 3 ?_;refine fr 4 ?_;refine cO (ji (off:=1) [] trivial rfl rfl) ?_;refine fr 4 ?_;refine cO (ji (off:=2) [] trivial rfl rfl) ?_;refine lo fJ ?_;refine mq ?_;obtain⟨Ur,Ug,h⟩:=aa h;refine fr 1 ?_;refine kb (cN (N:=[(.tmp 143,.agg (.pair (I X) (.pair (Rs aG qt.2) (Ri c.2.2)))),(.tmp 144,.rep (.slice (.slice (.int .i64))) TD.1)]) (ff [.tmp 143,.tmp 144] rfl rfl J2 rfl (jt k (X,qt.2,c.2.2) TD.1 Ur Ug)) fun _ _ _ hn=>⟨(iD (t:=aw) (x:=(X,qt.2,c.2.2)) (.agg (.pair .int (.pair .rep .rep))) trivial rfl hn.1),hn.2.1,trivial⟩) ?_;refine mq ?_;refine xr ?_;refine xr ?_;refine aq ?_;refine aq (nt ?_);refine aX (Z:=Unit) (α:=Bool) (fun TG To=>[(2,.eq (.bool To))]) (fun TG To=>[.inv 0 (dP)]) h (fun K h=>?_) (fun TG To h=>?_)
    ·refine ab (mq ?_);refine jb (eE rfl) ?_;refine mq ?_;refine cm (s:=150) rfl (fun hb=>?_) (fun hb=>?_)
     ·replace h:=cU (nz hb) h;refine gm ?_;refine gb (eE rfl) ?_;refine pt ?_;refine mq ?_;refine cm (s:=154) rfl (fun hb=>?_) (fun hb=>?_)
      ·replace h:=cU (nz hb) h;refine gm ?_;refine gb (eE rfl) ?_;refine pt ?_;refine mq ?_;refine cm (s:=158) rfl (fun hb=>?_) (fun hb=>?_)
       ·replace h:=cU (nz hb) h;refine gm ?_;refine gb (eE rfl) ?_;refine pt ?_;refine mq ?_;refine cm (s:=162) rfl (fun hb=>?_) (fun hb=>?_)
        ·replace h:=cU (nz hb) h;refine gm ?_;refine gm ?_;refine gm ?_;obtain⟨UE,TY,h⟩:=aa h;refine gb (bm rfl TY) ?_;refine gb (eE rfl) ?_;refine pt ?_;refine mq ?_;refine cm (s:=169) rfl (fun hb=>?_) (fun hb=>?_)
         ·replace h:=cU (nz hb) h;obtain⟨TS,Uf,h⟩:=aa h;refine mz rfl rfl rfl rfl rfl rfl (ff [] rfl rfl Su rfl (pY k TS Uf)) trivial ?_;refine pt ?_;refine aq (nl ?_);exact jz ((),TS) h [0]
         ·replace h:=bT (m4 hb) h;refine gn ?_;refine pf ?_;refine aq (nl ?_);exact jz ((),false) h [0]
        ·replace h:=bT (m4 hb) h;iterate 5 refine gn ?_
         refine pf ?_;refine mq ?_;refine gn ?_;refine pf ?_;refine aq (nl ?_);exact jz ((),false) h [0]
       ·replace h:=bT (m4 hb) h;iterate 2 refine gn ?_
        refine pf ?_;refine mq ?_;iterate 5 refine gn ?_
        refine pf ?_;refine mq ?_;refine gn ?_;refine pf ?_;refine aq (nl ?_);exact jz ((),false) h [0]
      ·replace h:=bT (m4 hb) h;iterate 2 refine gn ?_
       refine pf ?_;refine mq ?_;iterate 2 refine gn ?_
       refine pf ?_;refine mq ?_;iterate 5 refine gn ?_
       refine pf ?_;refine mq ?_;refine gn ?_;refine pf ?_;refine aq (nl ?_);exact jz ((),false) h [0]
     ·replace h:=bT (m4 hb) h;iterate 2 refine gn ?_
      refine pf ?_;refine mq ?_;iterate 2 refine gn ?_
      refine pf ?_;refine mq ?_;iterate 2 refine gn ?_
      refine pf ?_;refine mq ?_;iterate 5 refine gn ?_
      refine pf ?_;refine mq ?_;refine gn ?_;refine pf ?_;refine aq (nl ?_);exact jz ((),false) h [0]
    ·refine aC ?_;cases h;exact aL () [_] 1 ⟨rfl,trivial⟩ rfl
end Go.Proofs.YtmeojbemjkmebaaGreatDoor
