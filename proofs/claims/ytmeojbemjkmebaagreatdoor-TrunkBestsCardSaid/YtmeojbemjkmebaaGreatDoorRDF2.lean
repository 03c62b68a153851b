import Derived.Test.YtmeojbemjkmebaaGreatDoorRDB11
import Derived.Test.YtmeojbemjkmebaaGreatDoorRDB9
import Derived.Test.YtmeojbemjkmebaaGreatDoorRDB10
import Derived.Test.YtmeojbemjkmebaaGreatDoorRDB6
set_option linter.unusedSimpArgs false
set_option linter.unusedVariables false
set_option maxRecDepth 4000
set_option maxHeartbeats 1000000
namespace Go.Proofs.YtmeojbemjkmebaaGreatDoor
open K Go Go.Proofs
def cY(k:Nat)(a0:aP)(a1:(List (List Int))):Option Int:=
 (lJ k a0).bind fun r2=>
 if¬(r2=0) then(some r2) else((lI k a0 a1).bind fun r4=>
 (SB r4).bind fun q5=>
 if q5.isSome=true then(some (q5.getD 0)) else(some 0))
theorem gh(k:Nat)(a0:aP)(a1:(List (List Int)))(r:Int)(h:cY k a0 a1=some r):
 bX Tryz.prog 42 [.rep ak a0,.rep (.slice (.slice (.int .i64))) a1] [.inv 0 (f4)] (fun _:Unit=>(bj [I r],[.inv 0 (f4)])):=by
 unfold cY at h
 replace h:=a9 h
 refine bX.of 19 Tryz.func42 rfl Tryz.ntmps42 rfl fun S w0=>?_
 refine sr ?_
 refine bx fun b1=>?_
 refine au ?_
 refine lo c6 ?_
 obtain⟨r2,e,h⟩:=aa h
 have l:=si k a0 r2 e
 refine ja (ao [.tmp 7] rfl rfl Rf rfl l) ?_
 refine au ?_
 refine jb (gX rfl) ?_
 refine nt ?_
 refine cn h (fun h=>?_) (fun h=>?_)
 ·
  refine sr (mq ?_);refine aq (nt (rx ?_));refine bu (SE.fin (Γ':=[(4,_)]) [1,0] ⟨rfl,trivial⟩ rfl) ?_;cases h;exact aN () [_] 1 ⟨rfl,trivial⟩ rfl
 ·
  refine au ?_;refine aD rfl rfl rfl (aY rfl vi RU) trivial fun b3=>?_;refine nt (ar (sr (fr 1 ?_)));refine lo c6 ?_;refine mq ?_;obtain⟨r4,c,h⟩:=aa h;refine jb (ao [.tmp 12,.tmp 13] rfl rfl TS rfl (rZ k a0 a1 r4 c)) ?_;refine ja (HN rfl Uz) ?_;obtain⟨q5,j,h⟩:=aa h;refine fr 2 ?_;refine fr 2 ?_;refine bN (Δ:=[_,_]) (F:=_) (fun _ _ _=>ay rfl _) rfl rfl (ao [.tmp 14,.tmp 15] rfl rfl Q3 rfl (RJ j)) ⟨rfl,rfl,trivial⟩ fun _=>?_;refine nt (cv h (fun h=>?_) (fun h=>?_))
  ·refine sr (fl LA ?_);refine lo SS ?_;refine aq (nt (rx ?_));refine bu (SE.fin (Γ':=[(4,_)]) [1,0,2] ⟨rfl,trivial⟩ rfl) ?_;cases h;exact aN () [_] 1 ⟨rfl,trivial⟩ rfl
  ·refine sk (sr (cq (nt (bI ?_))));refine bu (SE.fin (Γ':=[(4,_)]) [1,0,2] ⟨rfl,trivial⟩ rfl) ?_;cases h;exact aN () [_] 1 ⟨rfl,trivial⟩ rfl
theorem ix(k:Nat)(a0:aP)(z_a0:Nat)(a1:(List (List Int)))(r:Int)(h:bQ k a0 a1=some r):
 dC (i8 Tryz.prog) 48 [.at aw (a0,(.map (some z_a0))),.rep (.arr 3 (.arr 5 (.int .i64))) a1] [.inv z_a0 (bC k a0)] (fun _:Unit=>(bj [I r],[.inv z_a0 (bC k a0)])):=by
 have h0:=h
 unfold bQ at h
 replace h:=a9 h
 obtain⟨u1,eg,h⟩:=aa h
 have hg:=aA eg
 have gk:=ID hg
 refine dC.of 28 Tryz.func48 rfl Tryz.ntmps48 rfl fun S w0=>?_
 refine sr ?_
 refine bx fun b1=>?_
 refine cq ?_
 refine nt ?_
 refine ar ?_
 refine eJ 1 rfl ?_
 refine DD fun ob hob=>?_
 obtain⟨lnn,lbb,hlR,hlk⟩:=yK (z:=z_a0) RZ Nu AN gk FQ hob
 refine bJ ?_
 refine dm ?_
 refine da (dN rfl) ?_
 refine da (aG 1 false rfl Et rfl) ?_
 refine da (an (t:=.val) rfl MX rfl) ?_
 refine ea 1 (ai rfl fP (uA) rfl) ?_
 refine eb 0 (FB (kv:=lw a1) (xy _) (mB.calm hob) rfl (fun _ _ _ hh=>vV hh) hlk) ?_
 refine dm ?_
 refine da (fG rfl rfl) ?_
 refine da (fG rfl rfl) ?_
 refine da (j9 rfl) ?_
 refine df cH ?_
 refine au ?_
 refine ja (eW rfl) ?_
 refine nt ?_
 refine dG (kL (bC k a0) hob) ?_
 refine bK rfl (fun hb=>?_) (fun hb=>?_)
 ·
  refine sr (mq ?_);refine fr 1 ?_;refine lo fP ?_;obtain⟨r2,c,h⟩:=aa h;refine jc (cV (N:=[(.tmp 18,.at aw (a0,(.map (some z_a0)))),(.tmp 19,.rep (.arr 3 (.arr 5 (.int .i64))) a1),(.const (.int .i64 (0)),I 0)]) (eP [.tmp 18,.tmp 19,.const (.int .i64 (0))] rfl rfl Q5 rfl (mP k (a0,()) a1 0 r2 c)) fun _ _ _ hn=>⟨(rP hn.1),hn.2.1,hn.2.2.1,trivial⟩) ?_;refine au ?_;refine bJ ?_;refine dm ?_;refine da (dN rfl) ?_;refine da (aG 1 false rfl Et rfl) ?_;refine da (an (t:=.val) rfl MX rfl) ?_;refine ea 0 (ai rfl fP (uA) rfl) ?_;refine dm ?_;refine df cH ?_;refine fr 1 ?_;have hl:bQ k a0 a1=some r2:=h0.trans (show some r=some r2 from h.symm);refine a8 rfl rfl (Af (kv:=lw a1) (xy _) rfl RZ AN (fun _ _ _ hh=>vV hh) gk ⟨a1,hg,rfl,hl⟩) ⟨rfl,rfl,rfl,trivial⟩ ?_;refine au ?_;cases h;exact aN () [_] 1 ⟨rfl,trivial⟩ rfl
 ·
  obtain⟨p,hp,he,hl⟩:=hlR (by simpa using hb);obtain rfl:=xz hg hp he;replace h:some lnn=some r:=hl.symm.trans h0;refine au ?_;cases h;exact aN () [_] 1 ⟨rfl,trivial⟩ rfl
def qk(k:Nat)(a0:aP)(a1:(List (List Int))):Option (Int×Int):=
 (cY k a0 a1).bind fun r2=>
 if¬(r2=0) then(some (0,r2)) else((dZ k a1).bind fun r4=>
 (bQ k a0 r4).bind fun r5=>
 some (r5,0))
theorem sf(k:Nat)(a0:aP)(a1:(List (List Int)))(r:Int×Int)(h:qk k a0 a1=some r):
 dC (i8 Tryz.prog) 13 [.rep ak a0,.rep (.slice (.slice (.int .i64))) a1] [.inv 0 (f4)] (fun _:Unit=>(bj [I r.1,I r.2],[.inv 0 (f4)])):=by
 unfold qk at h
 replace h:=a9 h
 refine dC.of 18 Tryz.func13 rfl Tryz.ntmps13 rfl fun S w0=>?_
 refine sr ?_
 refine bx fun b1=>?_
 refine au ?_
 refine lo c6 ?_
 refine mq ?_
 obtain⟨r2,j,h⟩:=aa h
 have l:=gh k a0 a1 r2 j
 refine fr 1 ?_
 refine kb (ao [.tmp 7,.tmp 8] rfl rfl OJ rfl l) ?_
 refine au ?_
 refine jb (gX rfl) ?_
 refine nt ?_
 refine cn h (fun h=>?_) (fun h=>?_)
 ·
  refine au ?_;cases h;exact aN () [_,_] 1 ⟨rfl,rfl,trivial⟩ rfl
 ·
  refine sk (sr (fr 1 ?_));refine lo c6 ?_;refine aD rfl rfl rfl (ao [.tmp 13] rfl rfl I6 rfl (gq a0)) ⟨rfl,trivial⟩ fun z3=>?_;refine cp (kL (bC k a0) lR) ?_;refine mq ?_;obtain⟨r4,e,h⟩:=aa h;refine ja (ao [.tmp 15] rfl rfl F8 rfl (fq k a1 r4 e)) ?_;obtain⟨r5,c,h⟩:=aa h;refine kb (eP [.tmp 14,.tmp 16] rfl rfl OH rfl (ix k a0 z3 r4 r5 c)) ?_;refine aq ?_;refine cq (nt (bI ?_));refine bu (SE.fin (Γ':=[(4,_),(5,_)]) [2,0,1] ⟨rfl,rfl,trivial⟩ rfl) ?_;cases h;exact aN () [_,_] 1 ⟨rfl,rfl,trivial⟩ rfl
set_option maxRecDepth 20000
set_option maxHeartbeats 4000000
def PD(b:Nat):List Int→Option Addr
 |[]=>none
 |_::_=>some ⟨b,0,none⟩
def SA:List Int→Value→Value
 |[],_=>.slice none 0 0
 |_::_,v=>v
theorem OS(b:Nat)(l:List Int):PD b l=none∨PD b l=some ⟨b,0,none⟩:=by cases l <;> simp [PD]
theorem Jo(b:Nat)(l:List Int)(c:Int):PD b (l++[c])=some ⟨b,0,none⟩:=by cases l <;> rfl
theorem Jm(l:List Int)(c:Int)(v:Value):SA (l++[c]) v=v:=by cases l <;> rfl
theorem MZ:mA Tryz.prog 51 9 1 16:=.of (z:=(.string .empty)) U0 (by kernel_rfl) rfl rfl rfl
theorem OD:ae Tryz.prog 51:=ae.of Tryz.func51 (by kernel_rfl) (by kernel_rfl)
theorem Q0:ae Tryz.prog 42:=ae.of Tryz.func42 (by kernel_rfl) (by kernel_rfl)
theorem P4:dL Tryz.prog 27 3 true:=⟨fun w=>by kernel_rfl,fun w=>by kernel_rfl⟩
theorem MW:dL Tryz.prog 22 1 false:=⟨fun w=>by kernel_rfl,fun w=>by kernel_rfl⟩
theorem P3:dL Tryz.prog 3 1 false:=⟨fun w=>by kernel_rfl,fun w=>by kernel_rfl⟩
def lW(c:Int):Int:=IntKind.i32.wrap (97+IntKind.i32.wrap c)
def lC(xs:List Int):Nat→Int×List Int→Option (List Int)
 |0,_=>none
 |n+1,y=>if y.1 < (xs.length:Int) then((aQ xs y.1).bind fun c=>if 0≤lW c∧lW c≤127∧bm (y.2.length+1) then(ck (y.1+1)).bind fun z=>lC xs n (z,y.2++[lW c]) else none) else some y.2
def jX(k:Nat)(a1:List (List Int)):Nat→Int×List ByteArray→Option (List ByteArray)
 |0,_=>none
 |n+1,y=>if y.1 < (a1.length:Int) then((aQ a1 y.1).bind fun xs=>(lC xs k (0,[])).bind fun l=>if bm (y.2.length+1) then(ck (y.1+1)).bind fun z=>jX k a1 n (z,y.2++[rj l]) else none) else some y.2
def tD(k:Nat)(a0:aP)(a1:(List (List Int))):Option (Value×Int):=
 (cY k a0 a1).bind fun e=>if¬(e=0) then some (.string .empty,e) else(jX k a1 k (0,[])).bind fun ss=>(uU k ss ⟨#[47]⟩).bind fun r=>some (.string r,0)
theorem yj(k:Nat)(a0:aP)(a1:(List (List Int)))(r:Value×Int)(h:tD k a0 a1=some r):
 bX Tryz.prog 17 [.rep ak a0,.rep (.slice (.slice (.int .i64))) a1] [.inv 0 f4] (fun _:Unit=>(bj [.eq r.1,I r.2],[.inv 0 f4])):=by
 unfold tD at h
 replace h:=a9 h
 refine bX.of 43 Tryz.func17 rfl Tryz.ntmps17 rfl fun S w0=>?_
 refine sr ?_
 refine bx fun b2=>?_
 refine cq ?_
 refine cq ?_
 refine nt ?_
 refine ar ?_
 refine sr ?_
 obtain⟨e,ee,h⟩:=aa h
 have ce:=gh k a0 a1 e ee
 refine ka (ai rfl P4 (zt) rfl) ?_
 refine mq ?_
 refine fr 1 ?_
 refine kb (ao [.tmp 13,.tmp 14] rfl rfl Q0 rfl ce) ?_
 refine aq ?_
 refine nt ?_
 refine sr ?_
 refine mq ?_
 refine jb (gX rfl) ?_
 refine nt ?_
 refine bK rfl (fun hb=>?_) (fun hb=>?_)
 ·
  replace h:=cF (Ik hb) h;refine sr (mq ?_);refine cq ?_;refine aq (nt (rx ?_));cases h;exact aN () [_,_] 1 ⟨rfl,rfl,trivial⟩ rfl
 replace h:=bM (vT hb) h
 refine sk ?_
 refine sr ?_
 refine cq ?_
 refine nt ?_
 rw [Option.bind_assoc] at h
 refine ar ?_
 refine sr ?_
 refine mq ?_
 refine ol pY ?_
 refine ff rfl ?_
 refine cp (SE.nil 9 .str) ?_
 refine nt ?_
 refine aj ?_
 refine aK (fun v y=>[(7,.eq v),(19,.rep (.slice (.slice (.int .i64))) a1),(20,I (a1.length:Int)),(21,I y.1)]) (fun v y=>[.sl v 9 .str y.2,.inv 0 f4]) (jX k a1) k (.slice none 0 0) (0,[]) (fun _=>rfl) h (SE.fin [0,1] ⟨rfl,rfl,rfl,rfl,trivial⟩ rfl) (fun n v7 y h=>?_)
 unfold jX at h
 refine sr ?_
 refine jb (bq rfl) ?_
 refine nt ?_
 refine ar ?_
 refine bK rfl (fun hb=>?_) (fun hb=>?_)
 ·
  replace h:=cF (nX hb) h;refine sk (ar (aj ?_));obtain⟨xs,exs,h⟩:=aa h;refine sr (jb (aH (t:=.slice (.int .i64)) rfl pY MW exs) ?_);refine ja (an (t:=.slice (.int .i64)) rfl MW rfl) ?_;refine aq (nt (sr ?_));refine aD rfl rfl rfl (aY rfl GQ Nn) trivial fun b=>?_;refine nt ?_;rw [Option.bind_assoc] at h;refine ar (sr (mq ?_));refine ol dP ?_;refine ff rfl ?_;refine cp (SE.nil 5 (.int .u8)) ?_;refine nt (aj ?_)
  refine aK (fun v q=>[(7,.eq v7),(10,.eq (bP b)),(19,.rep (.slice (.slice (.int .i64))) a1),(20,I (a1.length:Int)),(21,I y.1),(25,Ri xs),(26,I (xs.length:Int)),(27,I q.1)])
   (fun v q=>[.obj b 92 (bA (.pointer (PD b q.2)) (SA q.2 v)),.sl (SA q.2 v) 5 (.int .u8) q.2,.sl v7 9 .str y.2,.inv 0 f4]) (lC xs) k undef (0,[]) (fun _=>rfl) h (SE.fin [1,0,2,3] ⟨rfl,rfl,rfl,rfl,rfl,rfl,rfl,rfl,trivial⟩ rfl) (fun n2 v q h=>?_)
  unfold lC at h;refine sr (jb (bq rfl) ?_);refine nt (ar (bK rfl (fun hb=>?_) (fun hb=>?_)))
  ·replace h:=cF (nX hb) h;refine sk (ar (aj ?_));obtain⟨c,ec,h⟩:=aa h;refine sr (jb (aH (t:=.int .i64) rfl dP P3 ec) ?_);refine ja (an (t:=.int .i64) rfl P3 rfl) ?_;refine aq (nt ?_)
   have hk:0≤lW c∧lW c≤127∧bm (q.2.length+1):=by
    apply Classical.byContradiction;intro hn;rw [if_neg hn] at h;cases h
   replace h:=cF hk h;refine wF 1 rfl fun hv=>?_;refine ab (mq ?_);refine ja (pB rfl U3 U1) ?_;refine jb (CQ rfl) ?_;refine bN (Δ:=[_,_]) (F:=_) (fun _ _ _=>ay rfl _) rfl rfl (ao [.tmp 10,.tmp 33] rfl rfl OE rfl (yn (b:=b) (p:=PD b q.2) (v:=SA q.2 v) (l:=q.2) (r:=lW c) (OS b q.2) hv hk.1 hk.2.1 hk.2.2)) ⟨rfl,rfl,trivial⟩ fun v2=>?_;refine ax (bS (tn (ab ?_)));obtain⟨z3,ez3,h⟩:=aa h;refine jb (be rfl ez3) ?_;refine mq (nl ?_);exact jg (v2,(z3,q.2++[lW c])) h (SE.fin [0,1,2,3] ⟨rfl,rfl,rfl,rfl,rfl,rfl,rfl,rfl,trivial⟩ (by simp only [Jo,Jm];rfl))
  replace h:=bM (nk hb) h;refine jI (cC (cC (eH (tn ?_))));replace h:(if bm (y.2.length+1) then(ck (y.1+1)).bind fun z=>jX k a1 n (z,y.2++[rj q.2]) else none).bind _=some r:=h
  have hk:bm (y.2.length+1):=by
   apply Classical.byContradiction;intro hn;rw [if_neg hn] at h;cases h
  replace h:=cF hk h;refine ab (mq ?_);refine bN (Δ:=[_,_]) (F:=_) (fun _ _ _=>ay rfl _) rfl rfl (ao [.tmp 10] rfl rfl I5 rfl (xk (b:=b) (l:=q.2) (fun hn=>by rw [hn];rfl))) ⟨rfl,trivial⟩ fun _=>?_;refine ja (bg (t:=.str) [(.tmp 37,.eq (.string (rj q.2)))] [rj q.2] rfl rfl MZ (.cons rfl .str .nil) rfl rfl) ?_;refine cz rfl rfl rfl (bf rfl rfl MZ (by simpa using hk)) ⟨rfl,rfl,trivial⟩ fun v'=>?_;refine aq (ax (bS (tn (ab ?_))));obtain⟨z3,ez3,h⟩:=aa h;refine jb (be rfl ez3) ?_;refine mq (nl ?_);exact jz (v',(z3,y.2++[rj q.2])) h [0,1]
 replace h:=bM (nk hb) h
 refine jI ?_
 refine cC ?_
 refine cC ?_
 refine eH ?_
 refine tn ?_
 replace h:((uU k y.2 ⟨#[47]⟩).bind fun r=>some (.string r,0)).bind some=some r:=h
 obtain⟨r1,j,h⟩:=aa h
 cases h
 have cj:=BW k y.2 _ r1 j
 refine sr ?_
 refine cp (dM [7] ⟨rfl,trivial⟩) ?_
 refine mq ?_
 refine jb (ao [.tmp 41,.const (.string ⟨#[47]⟩)] rfl rfl OD rfl cj) ?_
 refine aq ?_
 refine cq ?_
 refine nt ?_
 refine bI ?_
 exact aN () [_,_] 1 ⟨rfl,rfl,trivial⟩ rfl
def de(k:Nat)(a0:aP)(a1:(List (List (List Int)))):Nat→((List (List Int))×Int×Bool×Int)→Option ((List (List Int))×Int×Bool)
 |0,_=>none
 |n+1,y5=>
  if y5.2.2.2 < (a1.length:Int) then((((aQ a1 y5.2.2.2).bind fun x9=>
  (bQ k a0 x9).bind fun c=>
  ((if¬(y5.2.2.1=true) then(some true) else(some (decide (c < y5.2.1)))):Option (Bool)).bind fun h=>
  if h=true then(some (x9,c,true)) else(some (y5.1,y5.2.1,y5.2.2.1))):Option ((List (List Int))×Int×Bool)).bind fun x7=>
  (ck (y5.2.2.2+1)).bind fun e=>
  de k a0 a1 n (x7.1,x7.2.1,x7.2.2,e)) else(some (y5.1,y5.2.1,y5.2.2.1))
def iJ(k:Nat)(a0:aP)(a1:(List (List (List Int)))):Option ((List (List Int))×Int×Bool):=
 ((de k a0 a1 k ([[0,0,0,0,0],[0,0,0,0,0],[0,0,0,0,0]],0,false,0)):Option ((List (List Int))×Int×Bool)).bind fun x3=>
 some (x3.1,x3.2.1,x3.2.2)
theorem sc(k:Nat)(a0:aP)(z_a0:Nat)(a1:(List (List (List Int))))(r:(List (List Int))×Int×Bool)(h:iJ k a0 a1=some r):
 dC (i8 Tryz.prog) 55 [.fn 48 (vk [.at aw (a0,(.map (some z_a0)))]),.rep (.slice (.arr 3 (.arr 5 (.int .i64)))) a1] [.inv z_a0 (bC k a0)] (fun _:Unit=>(bj [.rep (.arr 3 (.arr 5 (.int .i64))) r.1,I r.2.1,.eq (.bool r.2.2)],[.inv z_a0 (bC k a0)])):=by
 unfold iJ at h
 replace h:=a9 h
 refine dC.of 35 Tryz.func55 rfl Tryz.ntmps55 rfl fun S w0=>?_
 refine sr ?_
 refine aD rfl rfl rfl (aY rfl rT s8) trivial fun b1=>?_
 refine au ?_
 refine aD rfl rfl rfl (aY rfl rT s8) trivial fun b2=>?_
 refine nt ?_
 refine sr ?_
 refine cq ?_
 refine cq ?_
 refine nt ?_
 refine aI (Z:=Unit) (α:=(List (List Int))×Int×Bool) (fun z4 x3=>[(4,Pt b1),(7,Pt b2),(8,I x3.2.1),(9,.eq (.bool x3.2.2))]) (fun z4 x3=>[.obj b1 85 (.rep (.arr 3 (.arr 5 (.int .i64))) [[0,0,0,0,0],[0,0,0,0,0],[0,0,0,0,0]]),.obj b2 85 (.rep (.arr 3 (.arr 5 (.int .i64))) x3.1),.inv z_a0 (bC k a0)]) h (fun K h=>?_) (fun z4 x3 h=>?_)
 ·
  refine au ?_;refine ol R2 ?_;refine ff rfl ?_;refine nt (aj (aK (fun z6 y5=>[(0,.fn 48 (vk [.at aw (a0,(.map (some z_a0)))])),(4,Pt b1),(7,Pt b2),(8,I y5.2.1),(9,.eq (.bool y5.2.2.1)),(13,.rep (.slice (.arr 3 (.arr 5 (.int .i64)))) a1),(14,I (a1.length:Int)),(15,I y5.2.2.2)]) (fun z6 y5=>[.obj b1 85 (.rep (.arr 3 (.arr 5 (.int .i64))) [[0,0,0,0,0],[0,0,0,0,0],[0,0,0,0,0]]),.obj b2 85 (.rep (.arr 3 (.arr 5 (.int .i64))) y5.1),.inv z_a0 (bC k a0)]) (de k a0 a1) k () ([[0,0,0,0,0],[0,0,0,0,0],[0,0,0,0,0]],0,false,0) (fun _=>rfl) h (SE.fin [1,0,2] ⟨rfl,rfl,rfl,rfl,rfl,rfl,rfl,rfl,trivial⟩ rfl) (fun n z6 y5 h=>?_)));unfold de at h;refine sr (jb (bq rfl) ?_);refine au ?_;refine ci h (fun h=>?_) (fun h=>?_)
  ·refine sk (aI (Z:=Unit) (α:=(List (List Int))×Int×Bool) (fun z8 x7=>[(0,.fn 48 (vk [.at aw (a0,(.map (some z_a0)))])),(4,Pt b1),(7,Pt b2),(8,I x7.2.1),(9,.eq (.bool x7.2.2)),(13,.rep (.slice (.arr 3 (.arr 5 (.int .i64)))) a1),(14,I (a1.length:Int)),(15,I y5.2.2.2)]) (fun z8 x7=>[.obj b1 85 (.rep (.arr 3 (.arr 5 (.int .i64))) [[0,0,0,0,0],[0,0,0,0,0],[0,0,0,0,0]]),.obj b2 85 (.rep (.arr 3 (.arr 5 (.int .i64))) x7.1),.inv z_a0 (bC k a0)]) h (fun K h=>?_) (fun z8 x7 h=>?_))
   ·refine aj (sr ?_);obtain⟨x9,D,h⟩:=aa h;refine jb (aH (t:=(.arr 3 (.arr 5 (.int .i64)))) rfl R2 fP D) ?_;refine ja (an (t:=(.arr 3 (.arr 5 (.int .i64)))) rfl fP rfl) ?_;refine aD rfl rfl rfl (aY rfl rT s8) trivial fun x=>?_;refine a8 rfl rfl (aX rfl fP rfl rfl rfl) ⟨rfl,rfl,trivial⟩ ?_;refine au ?_;refine lo fP ?_;obtain⟨c,u,h⟩:=aa h;refine fr 3 ?_;refine kb (HV (fs:=[.at aw (a0,(.map (some z_a0)))]) (ags:=[.rep (.arr 3 (.arr 5 (.int .i64))) x9]) [.tmp 20] rfl rfl OH rfl (ix k a0 z_a0 x9 c u)) ?_;refine aq (nt ?_);refine aI (Z:=Unit) (α:=Bool) (fun j e=>[(0,.fn 48 (vk [.at aw (a0,(.map (some z_a0)))])),(4,Pt b1),(7,Pt b2),(8,I y5.2.1),(9,.eq (.bool y5.2.2.1)),(11,Pt x),(12,I c),(13,.rep (.slice (.arr 3 (.arr 5 (.int .i64)))) a1),(14,I (a1.length:Int)),(15,I y5.2.2.2),(28,.eq (.bool e))]) (fun j e=>[.obj b1 85 (.rep (.arr 3 (.arr 5 (.int .i64))) [[0,0,0,0,0],[0,0,0,0,0],[0,0,0,0,0]]),.obj b2 85 (.rep (.arr 3 (.arr 5 (.int .i64))) y5.1),.obj x 85 (.rep (.arr 3 (.arr 5 (.int .i64))) x9),.inv z_a0 (bC k a0)]) h (fun K h=>?_) (fun j e h=>?_)
    ·refine ab (mq ?_);refine ja (eW rfl) ?_;refine mq ?_;refine cg (s:=24) rfl (fun hb=>?_) (fun hb=>?_)
     ·replace h:=cF (FG hb) h;refine au ?_;exact jz ((),true) h [2,3,1,0]
     ·replace h:=bM (xp hb) h;refine au ?_;refine gb (bq rfl) ?_;refine au ?_;exact jz ((),decide (c < y5.2.1)) h [2,3,1,0]
    ·refine cv h (fun h=>?_) (fun h=>?_)
     ·refine ab (fr 2 ?_);refine lo fP ?_;refine mq ?_;refine fr 2 ?_;refine a8 rfl rfl (aX rfl fP rfl rfl rfl) ⟨rfl,rfl,trivial⟩ ?_;refine au ?_;exact jz ((),(x9,c,true)) h [2,0,3]
     ·refine au ?_;exact jz ((),(y5.1,y5.2.1,y5.2.2.1)) h [0,1,3]
   ·refine ab ?_;obtain⟨y,l,h⟩:=aa h;refine jb (be rfl l) ?_;refine au ?_;exact jz ((),(x7.1,x7.2.1,x7.2.2,y)) h [0,1,2]
  ·refine au ?_;exact jz ((),(y5.1,y5.2.1,y5.2.2.1)) h [0,1,2]
 ·
  refine sr (fr 1 ?_);refine lo fP ?_;iterate 2 refine mq ?_
  refine fr 1 ?_;refine a8 rfl rfl (aX rfl fP rfl rfl rfl) ⟨rfl,rfl,trivial⟩ ?_;refine aq ?_;refine aq (nt (bI ?_));refine bu (SE.fin (Γ':=[(4,_),(5,_),(6,_)]) [2,0,1] ⟨rfl,rfl,rfl,trivial⟩ rfl) ?_;cases h;exact aN () [.rep (.arr 3 (.arr 5 (.int .i64))) x3.1,_,_] 1 ⟨⟨_,_,_,_,_,rfl,(.tail _ (.head _)),fP,(uA),rfl⟩,rfl,rfl,trivial⟩ rfl
def iL(k:Nat)(a0:aP):Option ((List (List Int))×Int×Int):=
 (lJ k a0).bind fun r2=>
 if¬(r2=0) then(some ([],0,r2)) else((gx k (a0,())).bind fun r5=>
 (iJ k a0 r5).bind fun r6=>
 if¬(r6.2.2=true) then(some ([],0,11)) else((fp k (a0,()) r6.1).bind fun r8=>
 some (r8,r6.2.1,0)))
theorem po(k:Nat)(a0:aP)(r:(List (List Int))×Int×Int)(h:iL k a0=some r):
 dC (i8 Tryz.prog) 23 [.rep ak a0] [] (fun _:Unit=>(bj [.rep (.slice (.slice (.int .i64))) r.1,I r.2.1,I r.2.2],[])):=by
 unfold iL at h
 replace h:=a9 h
 refine dC.of 33 Tryz.func23 rfl Tryz.ntmps23 rfl fun S w0=>?_
 refine sr ?_
 refine bx fun b1=>?_
 refine au ?_
 refine lo c6 ?_
 obtain⟨r2,l,h⟩:=aa h
 have n:=si k a0 r2 l
 refine ja (ao [.tmp 10] rfl rfl Rf rfl n) ?_
 refine au ?_
 refine jb (gX rfl) ?_
 refine nt ?_
 refine cn h (fun h=>?_) (fun h=>?_)
 ·
  refine sr (mq ?_);refine cq ?_;refine cq ?_;refine aq (nt (rx ?_));refine bu (lq (t:=(.slice (.slice (.int .i64)))) (x:=[]) 2 rfl .nil rfl rfl) ?_;cases h;exact aN () [_,_,_] 0 ⟨rfl,rfl,rfl,trivial⟩ rfl
 ·
  refine au ?_;refine lo c6 ?_;refine aD rfl rfl rfl (ao [.tmp 15] rfl rfl I6 rfl (gq a0)) ⟨rfl,trivial⟩ fun z3=>?_;refine cp (kL (bC k a0) lR) ?_;refine au ?_;refine ja (KJ [.tmp 18] [.at aw (a0,(.map (some z3)))] rfl rfl) ?_;refine mq ?_;refine aD rfl rfl rfl (cV (N:=[(.tmp 20,.at aw (a0,(.map (some z3))))]) (ao [.tmp 20] rfl rfl Rb rfl (kW (a0,()))) fun _ _ _ hn=>⟨rP hn.1,trivial⟩) ⟨rfl,trivial⟩ fun b4=>?_;obtain⟨r5,j,h⟩:=aa h;refine ka (ao [.tmp 21] rfl rfl Uc rfl (qQ k (a0,()) b4 r5 j)) ?_;obtain⟨r6,e,h⟩:=aa h;refine fr 1 ?_;refine kb (eP [.tmp 19,.tmp 22] rfl rfl Ud rfl (sc k a0 z3 r5 r6 e)) ?_;refine au ?_;refine aD rfl rfl rfl (aY rfl rT s8) trivial fun b7=>?_;refine a8 rfl rfl (aX rfl fP rfl rfl rfl) ⟨rfl,rfl,trivial⟩ ?_;refine au ?_;refine ja (eW rfl) ?_;refine nt (cw h (fun h=>?_) (fun h=>?_))
  ·refine sr (cq ?_);refine cq ?_;refine cq (nt (rx ?_));refine bu (lq (t:=(.slice (.slice (.int .i64)))) (x:=[]) 2 rfl .nil rfl rfl) ?_;cases h;exact aN () [_,_,_] 0 ⟨rfl,rfl,rfl,trivial⟩ rfl
  ·refine au ?_;refine lo fP ?_;obtain⟨r8,c,h⟩:=aa h;refine aD rfl rfl rfl (cV (N:=[(.tmp 29,.at aw (a0,(.map (some z3)))),(.tmp 30,.rep (.arr 3 (.arr 5 (.int .i64))) r6.1)]) (ao [.tmp 29,.tmp 30] rfl rfl OI rfl (jW k (a0,()) r6.1 r8 c)) fun _ _ _ hn=>⟨(rP hn.1),hn.2.1,trivial⟩) ⟨rfl,rfl,trivial⟩ fun v9=>?_;refine mq ?_;refine aq ?_;refine aq ?_;refine cq (nt (bI ?_));refine bu (dM [2,31] ⟨rfl,rfl,trivial⟩) ?_;cases h;exact aN () [_,_,_] 0 ⟨rfl,rfl,rfl,trivial⟩ rfl
set_option maxRecDepth 20000
set_option maxHeartbeats 4000000
@[reducible] def fo:Ty:=.agg (.pair (.int .i64) (.int .i64))
def QR(x:Int×Int):Value:=.agg #[.int .i64 x.1,.int .i64 x.2]
theorem LD{S:FS}{w:World}{x:Int×Int}:(A.rep fo x).holds S w (QR x):=⟨[_,_],⟨[_],[_],rfl,rfl,rfl⟩,rfl⟩
theorem I1{S:FS}{w:World}{x:Int×Int}{v:Value}(h:(A.rep fo x).holds S w v):(A.eq (QR x)).holds S w v:=by
 obtain⟨cs,⟨c1,c2,rfl,h1,h2⟩,rfl⟩:=h;have h1:c1=_:=h1;have h2:c2=_:=h2;subst h1 h2;rfl
theorem g7:dL Tryz.prog 114 2 true:=⟨fun w=>by kernel_rfl,fun w=>by kernel_rfl⟩
theorem oR:dL Tryz.prog 28 1 false:=⟨fun w=>by kernel_rfl,fun w=>by kernel_rfl⟩
theorem DY:dL Tryz.prog 22 1 false:=⟨fun w=>by kernel_rfl,fun w=>by kernel_rfl⟩
theorem uK:dL Tryz.prog 3 1 false:=⟨fun w=>by kernel_rfl,fun w=>by kernel_rfl⟩
theorem Ha:dL Tryz.prog 80 1 false:=⟨fun w=>by kernel_rfl,fun w=>by kernel_rfl⟩
theorem Ol:aZ Tryz.prog 114 0 0:=aZ.of (by kernel_rfl)
theorem Oj:aZ Tryz.prog 114 1 1:=aZ.of (by kernel_rfl)
theorem QQ:aZ Tryz.prog 111 0 0:=aZ.of (by kernel_rfl)
theorem uQ:aZ Tryz.prog 111 1 1:=aZ.of (by kernel_rfl)
theorem yZ:ae Tryz.prog 95:=ae.of Tryz.func95 (by kernel_rfl) (by kernel_rfl)
def jM(x:Int×Int)(m:Int):Nat→Int×List Int→Option (List Int)
 |0,_=>none
 |n+1,q=>if q.1 < m then((aQ q.2 q.1).bind fun c=>if c=x.1 then(ck (q.1+1)).bind fun w=>jM x m n (w,q.2.set q.1.toNat x.2) else if c=x.2 then(ck (q.1+1)).bind fun w=>jM x m n (w,q.2.set q.1.toNat x.1) else(ck (q.1+1)).bind fun w=>jM x m n (w,q.2)) else some q.2
def kV(k:Nat)(x:Int×Int)(m:Int):Nat→Int×List (List Int)→Option (List (List Int))
 |0,_=>none
 |n+1,q=>if q.1 < m then((aQ q.2 q.1).bind fun l=>(jM x (l.length:Int) k (0,l)).bind fun l2=>(ck (q.1+1)).bind fun w=>kV k x m n (w,q.2.set q.1.toNat l2)) else some q.2
def nu(k:Nat)(x:Int×Int)(ls:List (List Int)):Option (List (List Int)):=kV k x (ls.length:Int) k (0,ls)
theorem mO(k:Nat)(x:Int×Int)(ls r:List (List Int))(y:Nat)(d0:aw.den)(z:Value×(Nat→Value))(h:nu k x ls=some r):
 bX Tryz.prog 95 [.eq (bP y),.rep fo x] ([.obj y 111 (.agg (.pair (.at aw d0) (.eq z.1)))]++fD 22 z ls) (fun _:Unit=>(bj [],[.obj y 111 (.agg (.pair (.at aw d0) (.eq z.1)))]++fD 22 z r)):=by
 unfold nu at h
 replace h:=a9 h
 refine bX.of 45 Tryz.func95 rfl Tryz.ntmps95 rfl fun S w0=>?_
 refine sr ?_
 refine bx fun b3=>?_
 refine nt ?_
 refine sr ?_
 refine mq ?_
 refine ja (ba rfl) ?_
 refine fl uQ ?_
 refine fr 1 ?_
 refine lo oR ?_
 refine cp (EJ (pre:=[.obj y 111 (.agg (.pair (.at aw d0) (.eq z.1))),.obj b3 114 (.rep fo x)])) ?_
 refine ka (dy rfl rfl pY) ?_
 rw [gY]
 refine cp (Gw (pre:=[.obj y 111 (.agg (.pair (.at aw d0) (.eq z.1))),.obj b3 114 (.rep fo x)])) ?_
 refine ff rfl ?_
 refine nt ?_
 refine aj ?_
 refine aK (Z:=Unit) (α:=Int×List (List Int)) (fun _ q=>[(3,.eq (bP b3)),(11,.eq z.1),(12,I (ls.length:Int)),(13,I q.1)]) (fun _ q=>[.obj y 111 (.agg (.pair (.at aw d0) (.eq z.1))),.obj b3 114 (.rep fo x)]++fD 22 z q.2) (kV k x (ls.length:Int)) k () (0,ls) (fun _=>rfl) h (bi [.obj y 111 (.agg (.pair (.at aw d0) (.eq z.1))),.obj b3 114 (.rep fo x)] (fD 22 z ls) [0,1] ⟨rfl,rfl,rfl,rfl,trivial⟩ rfl) (fun n u q h=>?_)
 unfold kV at h
 refine sr ?_
 refine jb (bq rfl) ?_
 refine nt ?_
 refine ar ?_
 refine bK rfl (fun hb=>?_) (fun hb=>?_)
 ·
  replace h:=cF (nX hb) h;refine sk (ar (aj ?_));obtain⟨l,el,h⟩:=aa h;refine dG (ui (pre:=[.obj y 111 (.agg (.pair (.at aw d0) (.eq z.1))),.obj b3 114 (.rep fo x)]) (qC el).2) ?_;refine sr (fr 1 ?_);refine kb (aU (t:=.val) rfl pY DY (kN el)) ?_;refine ka (dQ (i:=q.1.toNat) (off:=0) rfl DY (fun _=>rfl) rfl (cy (kN el)).2.2 rfl) ?_;refine aq (nt ?_);rw [Option.bind_assoc] at h;refine sr (mq ?_);refine fr 1 ?_;refine ka (dy rfl rfl dP) ?_;refine ff rfl ?_;refine nt (aj (aK (Z:=Unit) (α:=Int×List Int) (fun _ q2=>[(3,.eq (bP b3)),(5,.eq (z.2 q.1.toNat)),(11,.eq z.1),(12,I (ls.length:Int)),(13,I q.1),(17,.eq (z.2 q.1.toNat)),(18,I (l.length:Int)),(19,I q2.1)]) (fun _ q2=>[.sl (z.2 q.1.toNat) 3 (.int .i64) (q2.2),.sl z.1 22 .val (d6 z.2 0 q.2),.obj y 111 (.agg (.pair (.at aw d0) (.eq z.1))),.obj b3 114 (.rep fo x)]++((kS z.2 0 q.2).eraseIdx q.1.toNat)) (jM x (l.length:Int)) k () (0,l) (fun _=>rfl) h (bi [.sl (z.2 q.1.toNat) 3 (.int .i64) (l),.sl z.1 22 .val (d6 z.2 0 q.2),.obj y 111 (.agg (.pair (.at aw d0) (.eq z.1))),.obj b3 114 (.rep fo x)] ((kS z.2 0 q.2).eraseIdx q.1.toNat) [0,1,2,3] ⟨rfl,rfl,rfl,rfl,rfl,rfl,rfl,rfl,trivial⟩ rfl) (fun n2 u2 q2 h=>?_)));unfold jM at h;refine sr (jb (bq rfl) ?_);refine nt (ar (bK rfl (fun hb=>?_) (fun hb=>?_)))
  ·replace h:=cF (nX hb) h;refine sk (ar (aj ?_));obtain⟨c,ec,h⟩:=aa h;refine sr (mq ?_);refine kb (aU (t:=.int .i64) rfl dP uK ec) ?_;refine ka (dQ (i:=q2.1.toNat) (off:=0) rfl uK (fun _=>rfl) rfl (cy ec).2.2 rfl) ?_;refine aq ?_;refine aq (nt (sr ?_));refine mq (nt (aj (sr ?_)));refine fl Ol ?_;refine fr 3 ?_;refine lo uK ?_;refine jb (dO rfl) ?_;refine aq (nt ?_);refine ci h (fun h=>?_) (fun h=>?_)
   ·refine ab ?_;iterate 2 refine mq ?_
    refine fl Oj ?_;refine lo uK ?_;refine fr 1 ?_;refine kb (aU (t:=.int .i64) rfl dP uK ec) ?_;refine a8 rfl rfl (cG (i:=q2.1.toNat) rfl uK rfl (gj ec) rfl .int rfl) ⟨rfl,rfl,trivial⟩ ?_;refine ax (bS (bS (tn (ab ?_))));obtain⟨w,ew,h⟩:=aa h;refine jb (be rfl ew) ?_;refine mq (nl ?_);exact jg ((),(w,q2.2.set q2.1.toNat x.2)) h (bi [.sl (z.2 q.1.toNat) 3 (.int .i64) (q2.2.set q2.1.toNat x.2),.obj b3 114 (.rep fo x),.sl z.1 22 .val (d6 z.2 0 q.2),.obj y 111 (.agg (.pair (.at aw d0) (.eq z.1)))] ((kS z.2 0 q.2).eraseIdx q.1.toNat) [0,2,3,1] ⟨rfl,rfl,rfl,rfl,rfl,rfl,rfl,rfl,trivial⟩ rfl)
   ·refine sr (fl Oj ?_);refine lo uK ?_;refine jb (dO rfl) ?_;refine aq (nt ?_);refine ci h (fun h=>?_) (fun h=>?_)
    ·refine ab ?_;iterate 2 refine mq ?_
     refine fl Ol ?_;refine lo uK ?_;refine fr 1 ?_;refine kb (aU (t:=.int .i64) rfl dP uK ec) ?_;refine a8 rfl rfl (cG (i:=q2.1.toNat) rfl uK rfl (gj ec) rfl .int rfl) ⟨rfl,rfl,trivial⟩ ?_;refine ax (bS (bS (tn (ab ?_))));obtain⟨w,ew,h⟩:=aa h;refine jb (be rfl ew) ?_;refine mq (nl ?_);exact jg ((),(w,q2.2.set q2.1.toNat x.1)) h (bi [.sl (z.2 q.1.toNat) 3 (.int .i64) (q2.2.set q2.1.toNat x.1),.obj b3 114 (.rep fo x),.sl z.1 22 .val (d6 z.2 0 q.2),.obj y 111 (.agg (.pair (.at aw d0) (.eq z.1)))] ((kS z.2 0 q.2).eraseIdx q.1.toNat) [0,2,3,1] ⟨rfl,rfl,rfl,rfl,rfl,rfl,rfl,rfl,trivial⟩ rfl)
    ·refine cR (bS (bS (tn (ab ?_))));obtain⟨w,ew,h⟩:=aa h;refine jb (be rfl ew) ?_;refine mq (nl ?_);exact jg ((),(w,q2.2)) h (bi [.obj b3 114 (.rep fo x),.sl (z.2 q.1.toNat) 3 (.int .i64) (q2.2),.sl z.1 22 .val (d6 z.2 0 q.2),.obj y 111 (.agg (.pair (.at aw d0) (.eq z.1)))] ((kS z.2 0 q.2).eraseIdx q.1.toNat) [1,2,3,0] ⟨rfl,rfl,rfl,rfl,rfl,rfl,rfl,rfl,trivial⟩ rfl)
  replace h:=bM (nk hb) h;refine jI (cC (cC (eH (bS (tn (dG (Bq (pre:=[.obj y 111 (.agg (.pair (.at aw d0) (.eq z.1))),.obj b3 114 (.rep fo x)]) (l':=q2.2) (qC el).2) ?_))))));refine ab ?_;obtain⟨w,ew,h⟩:=aa (X:=ck (q.1+1)) (f:=fun w=>kV k x (ls.length:Int) n (w,q.2.set q.1.toNat q2.2)) (K:=some) (r:=r) (by simpa using h);refine jb (be rfl ew) ?_;refine mq (nl ?_);exact jg ((),(w,q.2.set q.1.toNat q2.2)) h (bi [.obj y 111 (.agg (.pair (.at aw d0) (.eq z.1))),.obj b3 114 (.rep fo x)] (fD 22 z (q.2.set q.1.toNat q2.2)) [0,1] ⟨rfl,rfl,rfl,rfl,trivial⟩ rfl)
 replace h:=bM (nk hb) h
 refine jI ?_
 refine cC ?_
 refine cC ?_
 refine eH ?_
 cases h
 refine jB ?_
 refine bu (bi (Γ':=[]) (pre':=[.obj y 111 (.agg (.pair (.at aw d0) (.eq z.1)))]) [.obj y 111 (.agg (.pair (.at aw d0) (.eq z.1))),.obj b3 114 (.rep fo x)] (fD 22 z q.2) [0] trivial rfl) ?_
 exact jh () [] trivial rfl
@[reducible] def Kv:Ty:=.agg (.pair (.ptr aw) (.slice (.slice (.int .i64))))
theorem NC{S:FS}{w:World}{y:Nat}{d0:aw.den}{z:Value×(Nat→Value)}{ls:List (List Int)}(h:∀d∈[D.obj y 111 (.agg (.pair (.at aw d0) (.eq z.1)))]++fD 22 z ls,d.holds S w∧∀b,d.foot=some b→S b):(A.at Kv (d0,ls)).holds S w (bP y):=by
 obtain⟨⟨cs,h1,c1,c2,rfl,g1,rfl,g2⟩,h2⟩:=h _ (List.mem_cons_self ..);have h3:=N5 (fun d hd=>h d (List.mem_cons_of_mem _ hd));refine⟨y,0,_,111,(0,0),rfl,h2 y rfl,h1,c1,[z.1],?_,g1,?_⟩
 ·have l1:=aM (.ptr aw) g1;simp only [Ty.cells] at l1;match c1,l1 with
  |[u],_=>rfl
 ·obtain⟨cs,h4,h5⟩:=h3;have l1:=aM (.slice (.slice (.int .i64))) h4;simp only [Ty.cells] at l1;match cs,l1 with
  |[u],_=>rw [h5];exact h4
theorem zH{S:FS}{w:World}{a:Act}{Γ:Ga}{y:Nat}{d0:aw.den}{z:Value×(Nat→Value)}{ls:List (List Int)}(h:∀d∈[D.obj y 111 (.agg (.pair (.at aw d0) (.eq z.1)))]++fD 22 z ls,d.holds S w∧∀b,d.foot=some b→S b)
 (hk:∀s r,lk Γ s=some r→r.holds S w (a.tmps.getD s undef)) (h0:lk Γ 0=some (.eq (bP y))):∀s r,lk [(0,A.at Kv (d0,ls))] s=some r→r.holds S w (a.tmps.getD s undef):=fun s r hl=>by
 simp only [lk] at hl
 split at hl
 ·
  rename_i e
  cases hl
  subst e
  have e1:a.tmps.getD 0 undef=bP y:=hk 0 _ h0
  rw [e1]
  exact NC h
 ·
  cases hl
theorem Nj{n:Nat}{r0:A}(h:r0.flat=true):∀s r,lk [(n,r0)] s=some r→r.flat=true:=fun s r hl=>by
 simp only [lk] at hl
 split at hl
 ·
  cases hl;exact h
 ·
  cases hl
theorem On{d0:D}(h:d0.flat=true):∀d∈[d0],d.flat=true:=fun d hd=>by
 simp only [List.mem_cons,List.not_mem_nil,or_false] at hd
 subst hd;exact h
theorem LC{d0 d1:D}(h:d0.flat=true)(h1:d1.flat=true):∀d∈[d0,d1],d.flat=true:=fun d hd=>by
 simp only [List.mem_cons,List.not_mem_nil,or_false] at hd
 rcases hd with rfl |rfl <;> assumption
theorem zI{y:Nat}{x:Int×Int}(S:FS)(w:World):gg S w [.eq (bP y),.rep fo x] [bP y,QR x]:=⟨_,_,rfl,rfl,_,_,rfl,LD,rfl⟩
theorem Oi:aZ Tryz.prog 146 0 0:=aZ.of (by kernel_rfl)
theorem G9:dL Tryz.prog 27 3 true:=⟨fun w=>by kernel_rfl,fun w=>by kernel_rfl⟩
theorem QW:ae Tryz.prog 81:=ae.of Tryz.func81 (by kernel_rfl) (by kernel_rfl)
theorem QX:ae Tryz.prog 47:=ae.of Tryz.func47 (by kernel_rfl) (by kernel_rfl)
theorem Ou:ae Tryz.prog 48:=ae.of Tryz.func48 (by kernel_rfl) (by kernel_rfl)
def m7(k:Nat)(t:aP)(x:Int×Int)(ls:List (List Int)):Option (Bool×List (List Int)):=
 (nu k x ls).bind fun l1=>(lI k t l1).bind fun e=>if K6 e=true then(nu k x l1).bind fun l2=>some (!vX e,l2) else none
theorem tA(k:Nat)(t:aP)(x:Int×Int)(ls:List (List Int))(r:Bool×List (List Int))(y m:Nat)(z:Value×(Nat→Value))(h:m7 k t x ls=some r):
 bX Tryz.prog 60 [.eq (bP y),.rep fo x] ([.obj y 111 (.agg (.pair (.at aw (t,.map (some m))) (.eq z.1)))]++fD 22 z ls) (fun _:Unit=>(bj [.eq (.bool r.1)],[.obj y 111 (.agg (.pair (.at aw (t,.map (some m))) (.eq z.1)))]++fD 22 z r.2)):=by
 unfold m7 at h
 replace h:=a9 h
 obtain⟨l1,e1,h⟩:=aa h
 obtain⟨e,e2,h⟩:=aa h
 have he:K6 e=true:=by
  apply Classical.byContradiction;intro hn;rw [if_neg hn] at h;cases h
 replace h:=cF he h
 obtain⟨l2,e3,h⟩:=aa h
 cases h
 have cv:=rZ k t l1 e e2
 refine MP 23 Tryz.func60 rfl Tryz.ntmps60 rfl fun S w0=>?_
 refine sr ?_
 refine bx fun b3=>?_
 refine au ?_
 refine ka (ai rfl g7 (zt) rfl) ?_
 refine cp (fE (Δ':=([.obj y 111 (.agg (.pair (.at aw (t,.map (some m))) (.eq z.1)))]++fD 22 z ls)++[.obj b3 114 (.rep fo x)]) (List.perm_append_comm (l₁:=([.obj b3 114 (.rep fo x)]:List D)))) ?_
 refine bN (Δ:=_++_) (F:=[_]) (fun _ _ _=>ay rfl _) rfl rfl (ao [.tmp 5,.tmp 6] rfl rfl yZ rfl (mO k x ls l1 y (t,.map (some m)) z e1)) ⟨rfl,rfl,trivial⟩ fun _=>?_
 refine nt ?_
 refine sr ?_
 refine mq ?_
 refine cp (fE (Δ':=[.obj b3 114 (.rep fo x)]++([.obj y 111 (.agg (.pair (.at aw (t,.map (some m))) (.eq z.1)))]++fD 22 z l1)) List.perm_append_comm) ?_
 refine ka (ai rfl g7 (zt) rfl) ?_
 refine cp (te 9 rfl fun _ _ _ h=>I1 h) ?_
 refine ye (vs:=[bP y,QR x]) [.tmp 8,.tmp 9] rfl rfl rfl rfl rfl ⟨rfl,rfl,trivial⟩ ?_
 refine ax ?_
 refine ag ?_
 refine bu (fE (Δ':=([.obj y 111 (.agg (.pair (.at aw (t,.map (some m))) (.eq z.1)))]++fD 22 z l1)++[.obj b3 114 (.rep fo x)]) (List.perm_append_comm (l₁:=([.obj b3 114 (.rep fo x)]:List D)))) ?_
 show JC _ _ _ _ _
 refine ar ?_
 refine ER (L:=_++_) (Δ:=[_]) (Γ1:=[(0,.at Kv ((t,.map (some m)),l1))]) (Z:=Unit) (fun _=>[(4,.eq (.bool (!vX e)))]) (fun _=>[.obj b3 114 (.rep fo x)]) (fun S w a hl hk=>zH hl hk rfl) (fun _=>⟨Nj rfl,On rfl⟩) (fun S w=>?_) (fun _=>?_)
 ·
  refine bJ ?_;refine dm ?_;refine da (dN rfl) ?_;refine da (aG 1 false rfl QQ rfl) ?_;refine da (an (t:=.ptr aw) rfl Ha rfl) ?_;refine da (dN rfl) ?_;refine da (aG 3 true rfl Oi rfl) ?_;refine da (an (t:=ak) rfl G9 rfl) ?_;refine dm ?_;refine da (dN rfl) ?_;refine da (aG 1 false rfl uQ rfl) ?_;refine da (an (t:=.slice (.slice (.int .i64))) rfl oR rfl) ?_;refine ul (by kernel_rfl) rH ?_;refine jb (ao [.tmp 16,.tmp 20] rfl rfl QW rfl cv) ?_;refine jb (sE rfl UZ he) ?_;refine au ?_;exact fun a w st=>⟨rfl,(),(SE.fin (Γ':=[(4,.eq (.bool (!vX e)))]) [0] ⟨rfl,trivial⟩ rfl) a w st⟩
 ·
  refine au ?_;refine EP (Δ1:=[.obj y 111 (.agg (.pair (.at aw (t,.map (some m))) (.eq z.1)))]++fD 22 z l1) (F:=[.obj b3 114 (.rep fo x)]) yZ (mO k x l1 l2 y (t,.map (some m)) z e3 _) zI (fun _=>?_);refine bu (fE (Δ':=[.obj b3 114 (.rep fo x)]++([.obj y 111 (.agg (.pair (.at aw (t,.map (some m))) (.eq z.1)))]++fD 22 z l2)) List.perm_append_comm) ?_;refine bu (bi (pre':=[.obj y 111 (.agg (.pair (.at aw (t,.map (some m))) (.eq z.1)))]) (Γ':=[(4,.eq (.bool (!vX e)))]) [.obj b3 114 (.rep fo x),.obj y 111 (.agg (.pair (.at aw (t,.map (some m))) (.eq z.1)))] (fD 22 z l2) [1] ⟨rfl,trivial⟩ rfl) ?_;exact jh () [_] ⟨rfl,trivial⟩ rfl
def m8(k:Nat)(t:aP)(x:Int×Int)(ls:List (List Int)):Option (Int×List (List Int)):=
 (nu k x ls).bind fun l1=>(dZ k l1).bind fun ld=>(bQ k t ld).bind fun n=>(nu k x l1).bind fun l2=>some (n,l2)
theorem tB(k:Nat)(t:aP)(x:Int×Int)(ls:List (List Int))(r:Int×List (List Int))(y m:Nat)(z:Value×(Nat→Value))(h:m8 k t x ls=some r):
 dC (i8 Tryz.prog) 62 [.eq (bP y),.rep fo x] ([.inv m (bC k t)]++([.obj y 111 (.agg (.pair (.at aw (t,.map (some m))) (.eq z.1)))]++fD 22 z ls)) (fun _:Unit=>(bj [I r.1],[.inv m (bC k t)]++([.obj y 111 (.agg (.pair (.at aw (t,.map (some m))) (.eq z.1)))]++fD 22 z r.2))):=by
 unfold m8 at h
 replace h:=a9 h
 obtain⟨l1,e1,h⟩:=aa h
 obtain⟨ld,e2,h⟩:=aa h
 obtain⟨n,e2',h⟩:=aa h
 obtain⟨l2,e3,h⟩:=aa h
 cases h
 have cv:=fq k l1 ld e2
 have cl:=ix k t m ld n e2'
 refine BB 20 Tryz.func62 rfl Tryz.ntmps62 rfl fun S w0=>?_
 refine sr ?_
 refine bx fun b3=>?_
 refine au ?_
 refine ka (ai rfl g7 (zt) rfl) ?_
 refine cp (fE (Δ':=([.obj y 111 (.agg (.pair (.at aw (t,.map (some m))) (.eq z.1)))]++fD 22 z ls)++[.obj b3 114 (.rep fo x),.inv m (bC k t)]) (List.perm_append_comm (l₁:=([.obj b3 114 (.rep fo x),.inv m (bC k t)]:List D)))) ?_
 refine bN (Δ:=_++_) (F:=[_,_]) (fun _ _ _=>ay rfl _) rfl rfl (ao [.tmp 5,.tmp 6] rfl rfl yZ rfl (mO k x ls l1 y (t,.map (some m)) z e1)) ⟨rfl,rfl,trivial⟩ fun _=>?_
 refine nt ?_
 refine sr ?_
 refine mq ?_
 refine cp (fE (Δ':=[.obj b3 114 (.rep fo x),.inv m (bC k t)]++([.obj y 111 (.agg (.pair (.at aw (t,.map (some m))) (.eq z.1)))]++fD 22 z l1)) List.perm_append_comm) ?_
 refine ka (ai rfl g7 (zt) rfl) ?_
 refine cp (te 9 rfl fun _ _ _ h=>I1 h) ?_
 refine ye (vs:=[bP y,QR x]) [.tmp 8,.tmp 9] rfl rfl rfl rfl rfl ⟨rfl,rfl,trivial⟩ ?_
 refine ax ?_
 refine ag ?_
 refine bu (fE (Δ':=([.obj y 111 (.agg (.pair (.at aw (t,.map (some m))) (.eq z.1)))]++fD 22 z l1)++[.obj b3 114 (.rep fo x),.inv m (bC k t)]) (List.perm_append_comm (l₁:=([.obj b3 114 (.rep fo x),.inv m (bC k t)]:List D)))) ?_
 show JC _ _ _ _ _
 refine ar ?_
 refine ER (L:=_++_) (Δ:=[_,_]) (Γ1:=[(0,.at Kv ((t,.map (some m)),l1))]) (Z:=Unit) (fun _=>[(4,I n)]) (fun _=>[.obj b3 114 (.rep fo x),.inv m (bC k t)]) (fun S w a hl hk=>zH hl hk rfl) (fun _=>⟨Nj rfl,LC rfl rfl⟩) (fun S w=>?_) (fun _=>?_)
 ·
  refine bJ ?_;refine dm ?_;refine da (dN rfl) ?_;refine da (aG 1 false rfl QQ rfl) ?_;refine da (an (t:=.ptr aw) rfl Ha rfl) ?_;refine dm ?_;refine da (dN rfl) ?_;refine da (aG 1 false rfl uQ rfl) ?_;refine da (an (t:=.slice (.slice (.int .i64))) rfl oR rfl) ?_;refine da (ao [.tmp 17] rfl rfl QX rfl cv) ?_;refine ul (by kernel_rfl) rH ?_;refine fr 1 ?_;refine kb (eP [.tmp 13,.tmp 18] rfl rfl Ou rfl cl) ?_;refine au ?_;exact fun a w st=>⟨rfl,(),(SE.fin (Γ':=[(4,I n)]) [1,0] ⟨rfl,trivial⟩ rfl) a w st⟩
 ·
  refine au ?_;refine EP (Δ1:=[.obj y 111 (.agg (.pair (.at aw (t,.map (some m))) (.eq z.1)))]++fD 22 z l1) (F:=[.obj b3 114 (.rep fo x),.inv m (bC k t)]) yZ (mO k x l1 l2 y (t,.map (some m)) z e3 _) zI (fun _=>?_);refine bu (fE (Δ':=[.obj b3 114 (.rep fo x),.inv m (bC k t)]++([.obj y 111 (.agg (.pair (.at aw (t,.map (some m))) (.eq z.1)))]++fD 22 z l2)) List.perm_append_comm) ?_;refine bu (bi (pre':=[.inv m (bC k t),.obj y 111 (.agg (.pair (.at aw (t,.map (some m))) (.eq z.1)))]) (Γ':=[(4,I n)]) [.obj b3 114 (.rep fo x),.inv m (bC k t),.obj y 111 (.agg (.pair (.at aw (t,.map (some m))) (.eq z.1)))] (fD 22 z l2) [1,2] ⟨rfl,trivial⟩ rfl) ?_;exact jh () [_] ⟨rfl,trivial⟩ rfl
theorem tq:∀w,(zeroValue 114).run Tryz.prog w= .ok (.agg #[.int .i64 0,.int .i64 0]) w:=fun w=>by kernel_rfl
theorem wq:∀S w,(A.cells S w (.rep fo (0,0)) (Value.cells (.agg #[.int .i64 0,.int .i64 0])).toList):=fun _ _=>⟨[_],[_],rfl,rfl,rfl⟩
theorem Ov:ae Tryz.prog 62:=ae.of Tryz.func62 (by kernel_rfl) (by kernel_rfl)
abbrev Nl:=Int×(Int×Int)×Int×Bool×List (List Int)
def iq(k:Nat)(t:aP)(xs:List (Int×Int)):Nat→Nl→Option ((Int×Int)×Int×Bool×List (List Int))
 |0,_=>none
 |n+1,q=>if q.1 < (xs.length:Int) then((aQ xs q.1).bind fun x=>(m8 k t x q.2.2.2.2).bind fun r=>(ck (q.1+1)).bind fun w=>iq k t xs n (if(!q.2.2.2.1 || decide (r.1 < q.2.2.1))=true then(w,x,r.1,true,r.2) else(w,q.2.1,q.2.2.1,q.2.2.2.1,r.2))) else some q.2
def lY(k:Nat)(t:aP)(xs:List (Int×Int))(ls:List (List Int)):Option ((Int×Int)×Int×Bool×List (List Int)):=iq k t xs k (0,(0,0),0,false,ls)
theorem wM(k:Nat)(t:aP)(xs:List (Int×Int))(ls:List (List Int))(r:(Int×Int)×Int×Bool×List (List Int))(y m:Nat)(z:Value×(Nat→Value))(h:lY k t xs ls=some r):
 dC (i8 Tryz.prog) 61 [.eq (.func (.func 62) #[bP y] #[]),Rs fo xs] ([.inv m (bC k t),.obj y 111 (.agg (.pair (.at aw (t,.map (some m))) (.eq z.1)))]++fD 22 z ls) (fun _:Unit=>(bj [.rep fo r.1,I r.2.1,.eq (.bool r.2.2.1)],[.inv m (bC k t),.obj y 111 (.agg (.pair (.at aw (t,.map (some m))) (.eq z.1)))]++fD 22 z r.2.2.2)):=by
 unfold lY at h
 replace h:=a9 h
 refine dC.of 35 Tryz.func61 rfl Tryz.ntmps61 rfl fun S w0=>?_
 refine sr ?_
 refine aD rfl rfl rfl (aY rfl tq wq) trivial fun b4=>?_
 refine cq ?_
 refine cq ?_
 refine nt ?_
 refine sr ?_
 refine aD rfl rfl rfl (aY rfl tq wq) trivial fun b7=>?_
 refine nt ?_
 refine sr ?_
 refine cq ?_
 refine cq ?_
 refine nt ?_
 refine ar ?_
 refine sr ?_
 refine mq ?_
 refine ol O6 ?_
 refine ff rfl ?_
 refine nt ?_
 refine aj ?_
 refine aK (Z:=Unit) (α:=Nl) (fun _ q=>[(0,.eq (.func (.func 62) #[bP y] #[])),(4,.eq (bP b4)),(7,.eq (bP b7)),(8,I q.2.2.1),(9,.eq (.bool q.2.2.2.1)),(13,Rs fo xs),(14,I (xs.length:Int)),(15,I q.1)]) (fun _ q=>[.obj b7 114 (.rep fo q.2.1),.obj b4 114 (.rep fo (0,0)),.inv m (bC k t),.obj y 111 (.agg (.pair (.at aw (t,.map (some m))) (.eq z.1)))]++fD 22 z q.2.2.2.2) (iq k t xs) k () (0,(0,0),0,false,ls) (fun _=>rfl) h (bi [.obj b7 114 (.rep fo (0,0)),.obj b4 114 (.rep fo (0,0)),.inv m (bC k t),.obj y 111 (.agg (.pair (.at aw (t,.map (some m))) (.eq z.1)))] (fD 22 z ls) [0,1,2,3] ⟨rfl,rfl,rfl,rfl,rfl,rfl,rfl,rfl,trivial⟩ rfl) (fun n u q h=>?_)
 unfold iq at h
 obtain⟨q1,q2,q3,q4,q5⟩:=q
 refine sr ?_
 refine jb (bq rfl) ?_
 refine nt ?_
 refine ar ?_
 refine bK rfl (fun hb=>?_) (fun hb=>?_)
 ·
  replace h:=cF (nX hb) h;obtain⟨x,ex,h⟩:=aa h;obtain⟨r1,e,h⟩:=aa h;obtain⟨w,ew,h⟩:=aa h;have cl:=tB k t x q5 r1 y m z e;refine sk (ar (aj (sr (jb (aH (t:=fo) rfl O6 g7 ex) ?_))));refine ja (an (t:=fo) rfl g7 rfl) ?_;refine aD rfl rfl rfl (aY rfl tq wq) trivial fun c=>?_;refine a8 rfl rfl (aX rfl g7 rfl rfl rfl) ⟨rfl,rfl,trivial⟩ ?_;refine nt (sr (mq ?_));refine ka (ai rfl g7 (zt) rfl) ?_;refine cp (fE (Δ':=([.inv m (bC k t)]++([.obj y 111 (.agg (.pair (.at aw (t,.map (some m))) (.eq z.1)))]++fD 22 z q5))++[.obj c 114 (.rep fo x),.obj b7 114 (.rep fo q2),.obj b4 114 (.rep fo (0,0))]) (List.perm_append_comm (l₁:=([.obj c 114 (.rep fo x),.obj b7 114 (.rep fo q2),.obj b4 114 (.rep fo (0,0))]:List D)))) ?_;refine bN (Δ:=_++_) (F:=[_,_,_]) (fun _ _ _=>ay rfl _) rfl rfl (pC (fs:=[bP y]) (cs:=[]) (ags:=[.rep fo x]) [.tmp 20] rfl rfl Ov rfl cl) ⟨rfl,rfl,trivial⟩ fun _=>?_;refine aq ?_;refine cp (fE (Δ':=[.obj c 114 (.rep fo x),.obj b7 114 (.rep fo q2),.obj b4 114 (.rep fo (0,0))]++([.inv m (bC k t)]++([.obj y 111 (.agg (.pair (.at aw (t,.map (some m))) (.eq z.1)))]++fD 22 z r1.2))) List.perm_append_comm) ?_;refine nt ?_;cases q4 with
  |false=>
   refine sr (mq ?_);refine ja (eW rfl) ?_;refine mq ?_;iterate 3 refine gn ?_
   refine pt (nt ?_);refine bK rfl (fun hb=>?_) (fun hb=>(by cases hb));refine ab (ka (ai rfl g7 (zt) rfl) ?_);refine mq ?_;refine fr 1 ?_;refine a8 rfl rfl (aX rfl g7 rfl rfl rfl) ⟨rfl,rfl,trivial⟩ ?_;refine aq ?_;refine cq (ax (bS (tn (ab ?_))));refine jb (be rfl ew) ?_;refine mq (nl ?_);exact jg ((),(w,x,r1.1,true,r1.2)) h (bi [.obj b7 114 (.rep fo x),.obj c 114 (.rep fo x),.obj b4 114 (.rep fo (0,0)),.inv m (bC k t),.obj y 111 (.agg (.pair (.at aw (t,.map (some m))) (.eq z.1)))] (fD 22 z r1.2) [0,2,3,4] ⟨rfl,rfl,rfl,rfl,rfl,rfl,rfl,rfl,trivial⟩ rfl)
  |true=>
   refine sr (mq ?_);refine ja (eW rfl) ?_;refine mq ?_;refine gm ?_;refine gm ?_;refine gb (bq rfl) ?_;refine pf (nt ?_);refine bK rfl (fun hb=>?_) (fun hb=>?_)
   ·replace h:(iq k t xs n (w,x,r1.1,true,r1.2)).bind some=some r:=by
     have hd:r1.1 < q3:=of_decide_eq_true hb;simpa [hd] using h
    refine ab (ka (ai rfl g7 (zt) rfl) ?_);refine mq ?_;refine fr 1 ?_;refine a8 rfl rfl (aX rfl g7 rfl rfl rfl) ⟨rfl,rfl,trivial⟩ ?_;refine aq ?_;refine cq (ax (bS (tn (ab ?_))));refine jb (be rfl ew) ?_;refine mq (nl ?_);exact jg ((),(w,x,r1.1,true,r1.2)) h (bi [.obj b7 114 (.rep fo x),.obj c 114 (.rep fo x),.obj b4 114 (.rep fo (0,0)),.inv m (bC k t),.obj y 111 (.agg (.pair (.at aw (t,.map (some m))) (.eq z.1)))] (fD 22 z r1.2) [0,2,3,4] ⟨rfl,rfl,rfl,rfl,rfl,rfl,rfl,rfl,trivial⟩ rfl)
   ·replace h:(iq k t xs n (w,q2,q3,true,r1.2)).bind some=some r:=by
     have hd:¬r1.1 < q3:=of_decide_eq_false hb;simpa [hd] using h
    refine cR (bS (tn (ab (jb (be rfl ew) ?_))));refine mq (nl ?_);exact jg ((),(w,q2,q3,true,r1.2)) h (bi [.obj c 114 (.rep fo x),.obj b7 114 (.rep fo q2),.obj b4 114 (.rep fo (0,0)),.inv m (bC k t),.obj y 111 (.agg (.pair (.at aw (t,.map (some m))) (.eq z.1)))] (fD 22 z r1.2) [1,2,3,4] ⟨rfl,rfl,rfl,rfl,rfl,rfl,rfl,rfl,trivial⟩ rfl)
 replace h:=bM (nk hb) h
 refine jI ?_
 refine cC ?_
 refine cC ?_
 refine eH ?_
 refine tn ?_
 cases h
 refine sr ?_
 refine ka (ai rfl g7 (zt) rfl) ?_
 iterate 2 refine mq ?_
 refine fr 1 ?_
 refine a8 rfl rfl (aX rfl g7 rfl rfl rfl) ⟨rfl,rfl,trivial⟩ ?_
 refine aq ?_
 refine aq ?_
 refine nt ?_
 refine bI ?_
 refine bu (fE (Δ':=([.inv m (bC k t),.obj y 111 (.agg (.pair (.at aw (t,.map (some m))) (.eq z.1)))]++fD 22 z q5)++[.obj b4 114 (.rep fo q2),.obj b7 114 (.rep fo q2)]) (List.perm_append_comm (l₁:=([.obj b4 114 (.rep fo q2),.obj b7 114 (.rep fo q2)]:List D)))) ?_
 exact aN () [_,_,_] ([.inv m (bC k t),.obj y 111 (.agg (.pair (.at aw (t,.map (some m))) (.eq z.1)))]++fD 22 z q5:List D).length ⟨⟨b4,114,.rep fo q2,2,true,rfl,List.mem_append.2 (.inr (List.mem_cons_self ..)),g7,zt,rfl⟩,rfl,rfl,trivial⟩ (by rw [List.take_left])
theorem q8:ae Tryz.prog 59:=ae.of Tryz.func59 (by kernel_rfl) (by kernel_rfl)
theorem QZ:ae Tryz.prog 13:=ae.of Tryz.func13 (by kernel_rfl) (by kernel_rfl)
theorem QY:ae Tryz.prog 44:=ae.of Tryz.func44 (by kernel_rfl) (by kernel_rfl)
theorem QV:ae Tryz.prog 60:=ae.of Tryz.func60 (by kernel_rfl) (by kernel_rfl)
theorem QU:ae Tryz.prog 61:=ae.of Tryz.func61 (by kernel_rfl) (by kernel_rfl)
theorem MV:dL Tryz.prog 25 1 false:=⟨fun w=>by kernel_rfl,fun w=>by kernel_rfl⟩
theorem Ni:aZ Tryz.prog 27 1 1:=aZ.of (by kernel_rfl)
theorem oS:mA Tryz.prog 28 22 1 24:=.of (z:=(.slice none 0 0)) pY (by kernel_rfl) rfl rfl rfl
theorem Hh:mA Tryz.prog 112 114 2 16:=.of (z:=(.agg #[.int .i64 0,.int .i64 0])) O6 (by kernel_rfl) rfl rfl rfl
theorem NQ:zp Tryz.prog 111 #[(0,1),(1,1)]:=⟨_,UB,fun _=>by kernel_rfl⟩
theorem Nv:∀w,(zeroValue 111).run Tryz.prog w= .ok (.agg #[.pointer none,.slice none 0 0]) w:=fun w=>by kernel_rfl
theorem OY:∀S w,(A.cells S w (.pair (.eq (.pointer none)) (.eq (.slice none 0 0))) (Value.cells (.agg #[.pointer none,.slice none 0 0])).toList):=fun _ _=>⟨[_],_,rfl,⟨rfl,rfl⟩,rfl,rfl⟩
theorem NP:zp Tryz.prog 114 #[(0,1),(1,1)]:=⟨_,UA,fun _=>by kernel_rfl⟩
theorem L0:∀S w,(A.cells S w (.pair (I 0) (I 0)) (Value.cells (.agg #[.int .i64 0,.int .i64 0])).toList):=fun _ _=>⟨[_],_,rfl,⟨rfl,rfl⟩,rfl,rfl⟩
def fC:List Bool→Ga→Ga
 |true::l,e::g=>e::fC l g
 |false::l,_::g=>fC l g
 |_,_=>[]
def mR(y:Nat)(z1:Value)(l:List Int)(v v2:Value):Ga:=[(39,.eq (bP y)),(40,.eq (bP y)),(41,.eq (bP y)),(42,.eq (.pointer (some ⟨y,0+1,none⟩))),(43,.eq z1),(44,Ri l),(45,.eq v),(46,.rep (.slice .val) [v]),(47,.eq v2),(48,.eq (bP y)),(49,.eq (.pointer (some ⟨y,0+1,none⟩)))]
def l5(b2 y:Nat)(n i:Int)(l:List Int)(a1:List (List Int)):Ga:=[(2,.eq (bP b2)),(8,I n),(10,.eq (bP y)),(12,Ri l),(33,.rep (.slice (.slice (.int .i64))) a1),(34,I (a1.length:Int)),(35,I i)]
theorem RV{i j:Int}:AE (.agg (.pair (I i) (I j))) (.rep fo (i,j)):=fun S w cs h=>by
 obtain⟨c1,c2,e,h1,h2⟩:=h
 exact⟨c1,c2,e,h1.1,h2.1⟩
def mQ(k:Nat)(a1:List (List Int)):Nat→Int×List (List Int)→Option (List (List Int))
 |0,_=>none
 |n+1,q=>if q.1 < (a1.length:Int) then((aQ a1 q.1).bind fun l=>(kQ k l).bind fun l2=>if bm (q.2.length+1) then(ck (q.1+1)).bind fun w=>mQ k a1 n (w,q.2++[l2]) else none) else some q.2
def kX(k:Nat)(t:aP)(i:Int):Nat→Int×List (Int×Int)×List (List Int)→Option (List (Int×Int)×List (List Int))
 |0,_=>none
 |n+1,q=>if q.1 < (t.2.1.length:Int) then((m7 k t (i,q.1) q.2.2).bind fun r=>if r.1=true then(if bm (q.2.1.length+1) then(ck (q.1+1)).bind fun w=>kX k t i n (w,q.2.1++[(i,q.1)],r.2) else none) else(ck (q.1+1)).bind fun w=>kX k t i n (w,q.2.1,r.2)) else some q.2
def jN(k:Nat)(t:aP):Nat→Int×List (Int×Int)×List (List Int)→Option (List (Int×Int)×List (List Int))
 |0,_=>none
 |n+1,q=>if q.1 < (t.2.1.length:Int) then((ck (q.1+1)).bind fun w=>(kX k t q.1 k (w,q.2)).bind fun p=>jN k t n (w,p)) else some q.2
def vn(k:Nat)(a0:aP)(a1:(List (List Int))):Option (Int×Int×Int×Int):=
 (qk k a0 a1).bind fun L=>if¬(L.2=0) then some (0,0,0,L.2) else
 (mQ k a1 k (0,[])).bind fun ls=>(jN k a0 k (0,[],ls)).bind fun p=>(lY k a0 p.1 p.2).bind fun b=>
 if(!b.2.2.1 || decide (L.1≤b.2.1))=true then some (0,0,0,11) else some (b.1.1,b.1.2,b.2.1,0)
theorem zL(k:Nat)(a0:aP)(a1:(List (List Int)))(r:Int×Int×Int×Int)(h:vn k a0 a1=some r):
 dC (i8 Tryz.prog) 29 [.rep ak a0,.rep (.slice (.slice (.int .i64))) a1] [.inv 0 f4] (fun _:Unit=>(bj [.eq (.int .i64 r.1),.eq (.int .i64 r.2.1),.eq (.int .i64 r.2.2.1),.eq (.int .i64 r.2.2.2)],[.inv 0 f4])):=by
 unfold vn at h
 replace h:=a9 h
 refine dC.of 97 Tryz.func29 rfl Tryz.ntmps29 rfl fun S w0=>?_
 refine ar ?_
 refine ab ?_
 refine aD rfl rfl rfl (oV rfl rfl) ⟨rfl,trivial⟩ fun b2=>?_
 refine dF rfl ?_
 refine dF rfl ?_
 refine dF rfl ?_
 refine dF rfl ?_
 refine ax ?_
 refine ag ?_
 show JC _ _ _ _ _
 obtain⟨L,eL,h⟩:=aa h
 have cL:=sf k a0 a1 L eL
 refine ar ?_
 refine ab ?_
 refine bW rfl rfl rfl (ai rfl G9 (zt) rfl) ⟨rfl,trivial⟩ ?_
 refine aC rfl rfl ?_
 refine bG 1 rfl ?_
 refine bW rfl rfl rfl (eP [.tmp 21,.tmp 22] rfl rfl QZ rfl cL) ⟨rfl,rfl,trivial⟩ ?_
 refine aC rfl rfl ?_
 refine aF rfl (fG rfl rfl) ⟨rfl,trivial⟩ ?_
 refine aF rfl (fG rfl rfl) ⟨rfl,trivial⟩ ?_
 refine dn rfl rfl ?_
 refine dn rfl rfl ?_
 refine ax ?_
 refine ag ?_
 show JC _ _ _ _ _
 refine ar ?_
 refine ar ?_
 refine ab ?_
 refine aC rfl rfl ?_
 refine aF rfl (gX rfl) ⟨rfl,rfl,trivial⟩ ?_
 refine ax ?_
 refine ag ?_
 show JC _ _ _ _ _
 refine bK rfl (fun hb=>?_) (fun hb=>?_)
 ·
  replace h:=cF (Ik hb) h
  refine ar ?_
  refine ab ?_
  refine aC rfl rfl ?_
  refine dF rfl ?_
  refine dF rfl ?_
  refine dF rfl ?_
  refine dn rfl rfl ?_
  refine ax ?_
  refine ag ?_
  show JC _ _ _ _ _
  refine bI ?_
  refine eC ?_
  obtain rfl:=Option.some.inj h
  exact aN () [_,_,_,_] 1 ⟨rfl,rfl,rfl,rfl,trivial⟩ rfl
 replace h:=bM (vT hb) h
 refine cR ?_
 refine ag ?_
 show JC _ _ _ _ _
 rw [Option.bind_assoc] at h
 refine ar ?_
 refine ab ?_
 refine bG 1 rfl ?_
 refine bW rfl rfl rfl (ai rfl G9 (zt) rfl) ⟨rfl,trivial⟩ ?_
 refine aD rfl rfl rfl (ao [.tmp 29] rfl rfl QY rfl (gq a0)) ⟨rfl,trivial⟩ fun m=>?_
 refine cp (kL (bC k a0) lR) ?_
 refine aF rfl (c9 [(0,.tmp 30,_)] rfl NQ Nv OY (iM ⟨trivial,trivial⟩) rfl) ⟨rfl,trivial⟩ ?_
 refine aD rfl rfl rfl (oV rfl trivial) ⟨rfl,trivial⟩ fun y=>?_
 refine dn rfl rfl ?_
 refine ax ?_
 refine ag ?_
 show JC _ _ _ _ _
 refine ar ?_
 refine ar ?_
 refine ab ?_
 refine aC rfl rfl ?_
 refine aF rfl (ju rfl rfl pY) ⟨rfl,trivial⟩ ?_
 refine ff rfl ?_
 refine cp (SE.nil 22 .val) ?_
 refine cp (fE (Δ':=[.obj y 111 (.agg (.pair (.at aw (a0,.map (some m))) (.eq (.slice none 0 0)))),.inv m (bC k a0),.obj b2 27 (.rep ak a0),.inv 0 f4]++fD 22 (.slice none 0 0,fun _=>undef) []) (List.Perm.trans (List.perm_append_comm (l₁:=([.sl (.slice none 0 0) 22 .val []]:List D))) (List.Perm.refl _))) ?_
 refine ax ?_
 refine ag ?_
 show JC _ _ _ _ _
 refine aj ?_
 refine aK (Z:=Value×(Nat→Value)) (α:=Int×List (List Int)) (fun z q=>[(2,.eq (bP b2)),(8,.eq (.int .i64 L.1)),(10,.eq (bP y)),(33,.rep (.slice (.slice (.int .i64))) a1),(34,.eq (.int .i64 (a1.length:Int))),(35,.eq (.int .i64 q.1))]) (fun z q=>[.obj y 111 (.agg (.pair (.at aw (a0,.map (some m))) (.eq z.1))),.inv m (bC k a0),.obj b2 27 (.rep ak a0),.inv 0 f4]++fD 22 z q.2) (mQ k a1) k (.slice none 0 0,fun _=>undef) (0,[]) (fun _=>rfl) h (bi [.obj y 111 (.agg (.pair (.at aw (a0,.map (some m))) (.eq (.slice none 0 0)))),.inv m (bC k a0),.obj b2 27 (.rep ak a0),.inv 0 f4] (fD 22 (.slice none 0 0,fun _=>undef) []) [0,1,2,3] ⟨rfl,rfl,rfl,rfl,rfl,rfl,trivial⟩ rfl) (fun n z q h=>?_)
 unfold mQ at h
 refine ar ?_
 refine ab ?_
 refine aF rfl (bq rfl) ⟨rfl,rfl,trivial⟩ ?_
 refine ax ?_
 refine ag ?_
 show JC _ _ _ _ _
 refine ar ?_
 refine bK rfl (fun hb=>?_) (fun hb=>?_)
 ·
  replace h:=cF (nX hb) h
  obtain⟨q1,q2⟩:=q
  obtain⟨l,el,h⟩:=aa h
  obtain⟨l2,el2,h⟩:=aa h
  have hk:bm (q2.length+1):=by
   apply Classical.byContradiction
   intro hn
   rw [if_neg hn] at h
   cases h
  replace h:=cF hk h
  have cc:=nC k l l2 el2
  refine cR ?_
  refine ag ?_
  show JC _ _ _ _ _
  refine ar ?_
  refine aj ?_
  refine ar ?_
  refine ab ?_
  refine aF rfl (aH (t:=.slice (.int .i64)) rfl pY DY el) ⟨rfl,rfl,trivial⟩ ?_
  refine aF rfl (an (t:=.slice (.int .i64)) rfl DY rfl) ⟨rfl,trivial⟩ ?_
  refine dn rfl rfl ?_
  refine ax ?_
  refine ag ?_
  show JC _ _ _ _ _
  refine dG (EJ (pre:=[.obj y 111 (.agg (.pair (.at aw (a0,.map (some m))) (.eq z.1))),.inv m (bC k a0),.obj b2 27 (.rep ak a0),.inv 0 f4])) ?_
  refine eJ 1 rfl ?_
  refine dG (SE.sub (Γ':=l5 b2 y L.1 q1 l a1) ⟨rfl,rfl,rfl,rfl,rfl,rfl,rfl,trivial⟩) ?_
  generalize hB:l5 b2 y L.1 q1 l a1=B
  refine ti (Δ:=[.obj y 111 (.agg (.pair (.at aw (a0,.map (some m))) (.eq z.1))),.sl z.1 22 .val (d6 z.2 0 q2)]) (F:=[.inv m (bC k a0),.obj b2 27 (.rep ak a0),.inv 0 f4]++kS z.2 0 q2) (Z:=Value×Value) (fun p=>B) (fun p=>[.obj y 111 (.agg (.pair (.at aw (a0,.map (some m))) (.eq p.2))),.sl p.2 22 .val (d6 z.2 0 q2++[p.1]),.sl p.1 3 (.int .i64) l2]) (fun S w=>?_) (fun p=>?_)
  ·
   subst hB
   refine wG (I:=Value×Value) (Ge:=fun _=>l5 b2 y L.1 q1 l a1) (De:=fun p=>[.obj y 111 (.agg (.pair (.at aw (a0,.map (some m))) (.eq p.2))),.sl p.2 22 .val (d6 z.2 0 q2++[p.1]),.sl p.1 3 (.int .i64) l2]) (L:=[true,true,true,true,true,true,true,true,true,true,true,true]) rH rfl (fun J hJ hE=>?_) (by kernel_rfl) (fun p=>?_)
   ·
    have s2047:∀(v v2:Value),J 1 [true,true,true,true,true,true,true,true,true,true,true,false] (fC [true,true,true,true,true,true,true,true,true,true,true,false] (mR y z.1 l v v2)++l5 b2 y L.1 q1 l a1) [.obj y 111 (.agg (.pair (.at aw (a0,.map (some m))) (.eq z.1))),.sl v2 22 .val (d6 z.2 0 q2++[v]),.sl v 3 (.int .i64) l2]:=fun v v2=>by
     subst hJ
     refine JD.step [11] (by kernel_rfl) rfl ?_
     refine co.cons rfl ?_ ?_
     ·
      refine bG 1 rfl ?_
      refine fA fun hv=>?_
      refine bG 1 rfl ?_
      refine a8 rfl rfl (aX rfl oR hv rfl rfl) ⟨rfl,rfl,trivial⟩ ?_
      exact aB (hE (v,v2)) [0,1,2] ⟨rfl,rfl,rfl,rfl,rfl,rfl,rfl,trivial⟩
     exact trivial
    have s1023:∀(v v2:Value),J 2 [true,true,true,true,true,true,true,true,true,true,false,false] (fC [true,true,true,true,true,true,true,true,true,true,false,false] (mR y z.1 l v v2)++l5 b2 y L.1 q1 l a1) [.obj y 111 (.agg (.pair (.at aw (a0,.map (some m))) (.eq z.1))),.sl v2 22 .val (d6 z.2 0 q2++[v]),.sl v 3 (.int .i64) l2]:=fun v v2=>by
     subst hJ
     refine JD.step [10] (by kernel_rfl) rfl ?_
     refine co.cons rfl ?_ ?_
     ·
      refine aF rfl (av rfl uQ) ⟨rfl,trivial⟩ ?_
      exact aB (s2047 v v2) [0,1,2] ⟨rfl,rfl,rfl,rfl,rfl,rfl,rfl,rfl,rfl,rfl,rfl,rfl,rfl,rfl,rfl,rfl,rfl,rfl,trivial⟩
     exact trivial
    have s511:∀(v v2:Value),J 3 [true,true,true,true,true,true,true,true,true,false,false,false] (fC [true,true,true,true,true,true,true,true,true,false,false,false] (mR y z.1 l v v2)++l5 b2 y L.1 q1 l a1) [.obj y 111 (.agg (.pair (.at aw (a0,.map (some m))) (.eq z.1))),.sl v2 22 .val (d6 z.2 0 q2++[v]),.sl v 3 (.int .i64) l2]:=fun v v2=>by
     subst hJ
     refine JD.step [9] (by kernel_rfl) rfl ?_
     refine co.cons rfl ?_ ?_
     ·
      refine aF rfl (ba rfl) ⟨rfl,trivial⟩ ?_
      exact aB (s1023 v v2) [0,1,2] ⟨rfl,rfl,rfl,rfl,rfl,rfl,rfl,rfl,rfl,rfl,rfl,rfl,rfl,rfl,rfl,rfl,rfl,trivial⟩
     exact trivial
    have s255:∀(v:Value),J 4 [true,true,true,true,true,true,true,true,false,false,false,false] (fC [true,true,true,true,true,true,true,true,false,false,false,false] (mR y z.1 l v undef)++l5 b2 y L.1 q1 l a1) [.obj y 111 (.agg (.pair (.at aw (a0,.map (some m))) (.eq z.1))),.sl z.1 22 .val (d6 z.2 0 q2),.sl v 3 (.int .i64) l2]:=fun v=>by
     subst hJ
     refine JD.step [8] (by kernel_rfl) rfl ?_
     refine co.cons rfl ?_ ?_
     ·
      refine bG 1 rfl ?_
      refine cz rfl rfl rfl (bf rfl rfl oS (by simpa [gY] using hk)) ⟨rfl,rfl,trivial⟩ fun v2=>?_
      exact aB (s511 v v2) [1,0,2] ⟨rfl,rfl,rfl,rfl,rfl,rfl,rfl,rfl,rfl,rfl,rfl,rfl,rfl,rfl,rfl,rfl,trivial⟩
     exact trivial
    have s510:∀(v v2:Value),J 4 [false,true,true,true,true,true,true,true,true,false,false,false] (fC [false,true,true,true,true,true,true,true,true,false,false,false] (mR y z.1 l v v2)++l5 b2 y L.1 q1 l a1) [.obj y 111 (.agg (.pair (.at aw (a0,.map (some m))) (.eq z.1))),.sl v2 22 .val (d6 z.2 0 q2++[v]),.sl v 3 (.int .i64) l2]:=fun v v2=>by
     subst hJ
     refine JD.step [0] (by kernel_rfl) rfl ?_
     refine co.cons rfl ?_ ?_
     ·
      refine aC rfl rfl ?_
      exact aB (s511 v v2) [0,1,2] ⟨rfl,rfl,rfl,rfl,rfl,rfl,rfl,rfl,rfl,rfl,rfl,rfl,rfl,rfl,rfl,rfl,trivial⟩
     exact trivial
    have s127:∀(v:Value),J 5 [true,true,true,true,true,true,true,false,false,false,false,false] (fC [true,true,true,true,true,true,true,false,false,false,false,false] (mR y z.1 l v undef)++l5 b2 y L.1 q1 l a1) [.obj y 111 (.agg (.pair (.at aw (a0,.map (some m))) (.eq z.1))),.sl z.1 22 .val (d6 z.2 0 q2),.sl v 3 (.int .i64) l2]:=fun v=>by
     subst hJ
     refine JD.step [7] (by kernel_rfl) rfl ?_
     refine co.cons rfl ?_ ?_
     ·
      refine bG 2 rfl ?_
      refine fA fun hv=>?_
      refine aF rfl (bg (t:=.val) [(.tmp 45,.eq v)] [v] rfl rfl oS (.cons hv (.val hv) .nil) rfl rfl) ⟨rfl,trivial⟩ ?_
      exact aB (s255 v) [1,2,0] ⟨rfl,rfl,rfl,rfl,rfl,rfl,rfl,rfl,rfl,rfl,rfl,rfl,rfl,rfl,rfl,trivial⟩
     exact trivial
    have s239:∀(v:Value),J 5 [true,true,true,true,false,true,true,true,false,false,false,false] (fC [true,true,true,true,false,true,true,true,false,false,false,false] (mR y z.1 l v undef)++l5 b2 y L.1 q1 l a1) [.obj y 111 (.agg (.pair (.at aw (a0,.map (some m))) (.eq z.1))),.sl z.1 22 .val (d6 z.2 0 q2),.sl v 3 (.int .i64) l2]:=fun v=>by
     subst hJ
     refine JD.step [4] (by kernel_rfl) rfl ?_
     refine co.cons rfl ?_ ?_
     ·
      refine bW rfl rfl rfl (ai rfl oR jw rfl) ⟨rfl,trivial⟩ ?_
      exact aB (s255 v) [0,1,2] ⟨rfl,rfl,rfl,rfl,rfl,rfl,rfl,rfl,rfl,rfl,rfl,rfl,rfl,rfl,rfl,trivial⟩
     exact trivial
    have s254:∀(v:Value),J 5 [false,true,true,true,true,true,true,true,false,false,false,false] (fC [false,true,true,true,true,true,true,true,false,false,false,false] (mR y z.1 l v undef)++l5 b2 y L.1 q1 l a1) [.obj y 111 (.agg (.pair (.at aw (a0,.map (some m))) (.eq z.1))),.sl z.1 22 .val (d6 z.2 0 q2),.sl v 3 (.int .i64) l2]:=fun v=>by
     subst hJ
     refine JD.step [0,8] (by kernel_rfl) rfl ?_
     refine co.cons rfl ?_ ?_
     ·
      refine aC rfl rfl ?_
      exact aB (s255 v) [0,1,2] ⟨rfl,rfl,rfl,rfl,rfl,rfl,rfl,rfl,rfl,rfl,rfl,rfl,rfl,rfl,rfl,trivial⟩
     refine co.cons rfl ?_ ?_
     ·
      refine bG 1 rfl ?_
      refine cz rfl rfl rfl (bf rfl rfl oS (by simpa [gY] using hk)) ⟨rfl,rfl,trivial⟩ fun v2=>?_
      exact aB (s510 v v2) [1,0,2] ⟨rfl,rfl,rfl,rfl,rfl,rfl,rfl,rfl,rfl,rfl,rfl,rfl,rfl,rfl,rfl,trivial⟩
     exact trivial
    have s63:J 6 [true,true,true,true,true,true,false,false,false,false,false,false] (fC [true,true,true,true,true,true,false,false,false,false,false,false] (mR y z.1 l undef undef)++l5 b2 y L.1 q1 l a1) [.obj y 111 (.agg (.pair (.at aw (a0,.map (some m))) (.eq z.1))),.sl z.1 22 .val (d6 z.2 0 q2)]:=by
     subst hJ
     refine JD.step [6] (by kernel_rfl) rfl ?_
     refine co.cons rfl ?_ ?_
     ·
      refine aD rfl rfl rfl (ao [.tmp 44] rfl rfl q8 rfl cc) ⟨rfl,trivial⟩ fun v=>?_
      exact aB (s127 v) [1,2,0] ⟨rfl,rfl,rfl,rfl,rfl,rfl,rfl,rfl,rfl,rfl,rfl,rfl,rfl,rfl,trivial⟩
     exact trivial
    have s111:∀(v:Value),J 6 [true,true,true,true,false,true,true,false,false,false,false,false] (fC [true,true,true,true,false,true,true,false,false,false,false,false] (mR y z.1 l v undef)++l5 b2 y L.1 q1 l a1) [.obj y 111 (.agg (.pair (.at aw (a0,.map (some m))) (.eq z.1))),.sl z.1 22 .val (d6 z.2 0 q2),.sl v 3 (.int .i64) l2]:=fun v=>by
     subst hJ
     refine JD.step [4,7] (by kernel_rfl) rfl ?_
     refine co.cons rfl ?_ ?_
     ·
      refine bW rfl rfl rfl (ai rfl oR jw rfl) ⟨rfl,trivial⟩ ?_
      exact aB (s127 v) [0,1,2] ⟨rfl,rfl,rfl,rfl,rfl,rfl,rfl,rfl,rfl,rfl,rfl,rfl,rfl,rfl,trivial⟩
     refine co.cons rfl ?_ ?_
     ·
      refine bG 2 rfl ?_
      refine fA fun hv=>?_
      refine aF rfl (bg (t:=.val) [(.tmp 45,.eq v)] [v] rfl rfl oS (.cons hv (.val hv) .nil) rfl rfl) ⟨rfl,trivial⟩ ?_
      exact aB (s239 v) [1,2,0] ⟨rfl,rfl,rfl,rfl,rfl,rfl,rfl,rfl,rfl,rfl,rfl,rfl,rfl,rfl,trivial⟩
     exact trivial
    have s126:∀(v:Value),J 6 [false,true,true,true,true,true,true,false,false,false,false,false] (fC [false,true,true,true,true,true,true,false,false,false,false,false] (mR y z.1 l v undef)++l5 b2 y L.1 q1 l a1) [.obj y 111 (.agg (.pair (.at aw (a0,.map (some m))) (.eq z.1))),.sl z.1 22 .val (d6 z.2 0 q2),.sl v 3 (.int .i64) l2]:=fun v=>by
     subst hJ
     refine JD.step [0,7] (by kernel_rfl) rfl ?_
     refine co.cons rfl ?_ ?_
     ·
      refine aC rfl rfl ?_
      exact aB (s127 v) [0,1,2] ⟨rfl,rfl,rfl,rfl,rfl,rfl,rfl,rfl,rfl,rfl,rfl,rfl,rfl,rfl,trivial⟩
     refine co.cons rfl ?_ ?_
     ·
      refine bG 2 rfl ?_
      refine fA fun hv=>?_
      refine aF rfl (bg (t:=.val) [(.tmp 45,.eq v)] [v] rfl rfl oS (.cons hv (.val hv) .nil) rfl rfl) ⟨rfl,trivial⟩ ?_
      exact aB (s254 v) [1,2,0] ⟨rfl,rfl,rfl,rfl,rfl,rfl,rfl,rfl,rfl,rfl,rfl,rfl,rfl,rfl,trivial⟩
     exact trivial
    have s231:∀(v:Value),J 6 [true,true,true,false,false,true,true,true,false,false,false,false] (fC [true,true,true,false,false,true,true,true,false,false,false,false] (mR y z.1 l v undef)++l5 b2 y L.1 q1 l a1) [.obj y 111 (.agg (.pair (.at aw (a0,.map (some m))) (.eq z.1))),.sl z.1 22 .val (d6 z.2 0 q2),.sl v 3 (.int .i64) l2]:=fun v=>by
     subst hJ
     refine JD.step [3] (by kernel_rfl) rfl ?_
     refine co.cons rfl ?_ ?_
     ·
      refine aF rfl (av rfl uQ) ⟨rfl,trivial⟩ ?_
      exact aB (s239 v) [0,1,2] ⟨rfl,rfl,rfl,rfl,rfl,rfl,rfl,rfl,rfl,rfl,rfl,rfl,rfl,rfl,trivial⟩
     exact trivial
    have s238:∀(v:Value),J 6 [false,true,true,true,false,true,true,true,false,false,false,false] (fC [false,true,true,true,false,true,true,true,false,false,false,false] (mR y z.1 l v undef)++l5 b2 y L.1 q1 l a1) [.obj y 111 (.agg (.pair (.at aw (a0,.map (some m))) (.eq z.1))),.sl z.1 22 .val (d6 z.2 0 q2),.sl v 3 (.int .i64) l2]:=fun v=>by
     subst hJ
     refine JD.step [0,4] (by kernel_rfl) rfl ?_
     refine co.cons rfl ?_ ?_
     ·
      refine aC rfl rfl ?_
      exact aB (s239 v) [0,1,2] ⟨rfl,rfl,rfl,rfl,rfl,rfl,rfl,rfl,rfl,rfl,rfl,rfl,rfl,rfl,trivial⟩
     refine co.cons rfl ?_ ?_
     ·
      refine bW rfl rfl rfl (ai rfl oR jw rfl) ⟨rfl,trivial⟩ ?_
      exact aB (s254 v) [0,1,2] ⟨rfl,rfl,rfl,rfl,rfl,rfl,rfl,rfl,rfl,rfl,rfl,rfl,rfl,rfl,trivial⟩
     exact trivial
    have s31:J 7 [true,true,true,true,true,false,false,false,false,false,false,false] (fC [true,true,true,true,true,false,false,false,false,false,false,false] (mR y z.1 l undef undef)++l5 b2 y L.1 q1 l a1) [.obj y 111 (.agg (.pair (.at aw (a0,.map (some m))) (.eq z.1))),.sl z.1 22 .val (d6 z.2 0 q2)]:=by
     subst hJ
     refine JD.step [5] (by kernel_rfl) rfl ?_
     refine co.cons rfl ?_ ?_
     ·
      refine aC rfl rfl ?_
      exact aB (s63) [0,1] ⟨rfl,rfl,rfl,rfl,rfl,rfl,rfl,rfl,rfl,rfl,rfl,rfl,rfl,trivial⟩
     exact trivial
    have s47:J 7 [true,true,true,true,false,true,false,false,false,false,false,false] (fC [true,true,true,true,false,true,false,false,false,false,false,false] (mR y z.1 l undef undef)++l5 b2 y L.1 q1 l a1) [.obj y 111 (.agg (.pair (.at aw (a0,.map (some m))) (.eq z.1))),.sl z.1 22 .val (d6 z.2 0 q2)]:=by
     subst hJ
     refine JD.step [4,6] (by kernel_rfl) rfl ?_
     refine co.cons rfl ?_ ?_
     ·
      refine bW rfl rfl rfl (ai rfl oR jw rfl) ⟨rfl,trivial⟩ ?_
      exact aB (s63) [0,1] ⟨rfl,rfl,rfl,rfl,rfl,rfl,rfl,rfl,rfl,rfl,rfl,rfl,rfl,trivial⟩
     refine co.cons rfl ?_ ?_
     ·
      refine aD rfl rfl rfl (ao [.tmp 44] rfl rfl q8 rfl cc) ⟨rfl,trivial⟩ fun v=>?_
      exact aB (s111 v) [1,2,0] ⟨rfl,rfl,rfl,rfl,rfl,rfl,rfl,rfl,rfl,rfl,rfl,rfl,rfl,trivial⟩
     exact trivial
    have s62:J 7 [false,true,true,true,true,true,false,false,false,false,false,false] (fC [false,true,true,true,true,true,false,false,false,false,false,false] (mR y z.1 l undef undef)++l5 b2 y L.1 q1 l a1) [.obj y 111 (.agg (.pair (.at aw (a0,.map (some m))) (.eq z.1))),.sl z.1 22 .val (d6 z.2 0 q2)]:=by
     subst hJ
     refine JD.step [0,6] (by kernel_rfl) rfl ?_
     refine co.cons rfl ?_ ?_
     ·
      refine aC rfl rfl ?_
      exact aB (s63) [0,1] ⟨rfl,rfl,rfl,rfl,rfl,rfl,rfl,rfl,rfl,rfl,rfl,rfl,rfl,trivial⟩
     refine co.cons rfl ?_ ?_
     ·
      refine aD rfl rfl rfl (ao [.tmp 44] rfl rfl q8 rfl cc) ⟨rfl,trivial⟩ fun v=>?_
      exact aB (s126 v) [1,2,0] ⟨rfl,rfl,rfl,rfl,rfl,rfl,rfl,rfl,rfl,rfl,rfl,rfl,rfl,trivial⟩
     exact trivial
    have s103:∀(v:Value),J 7 [true,true,true,false,false,true,true,false,false,false,false,false] (fC [true,true,true,false,false,true,true,false,false,false,false,false] (mR y z.1 l v undef)++l5 b2 y L.1 q1 l a1) [.obj y 111 (.agg (.pair (.at aw (a0,.map (some m))) (.eq z.1))),.sl z.1 22 .val (d6 z.2 0 q2),.sl v 3 (.int .i64) l2]:=fun v=>by
     subst hJ
     refine JD.step [3,7] (by kernel_rfl) rfl ?_
     refine co.cons rfl ?_ ?_
     ·
      refine aF rfl (av rfl uQ) ⟨rfl,trivial⟩ ?_
      exact aB (s111 v) [0,1,2] ⟨rfl,rfl,rfl,rfl,rfl,rfl,rfl,rfl,rfl,rfl,rfl,rfl,rfl,trivial⟩
     refine co.cons rfl ?_ ?_
     ·
      refine bG 2 rfl ?_
      refine fA fun hv=>?_
      refine aF rfl (bg (t:=.val) [(.tmp 45,.eq v)] [v] rfl rfl oS (.cons hv (.val hv) .nil) rfl rfl) ⟨rfl,trivial⟩ ?_
      exact aB (s231 v) [1,2,0] ⟨rfl,rfl,rfl,rfl,rfl,rfl,rfl,rfl,rfl,rfl,rfl,rfl,rfl,trivial⟩
     exact trivial
    have s110:∀(v:Value),J 7 [false,true,true,true,false,true,true,false,false,false,false,false] (fC [false,true,true,true,false,true,true,false,false,false,false,false] (mR y z.1 l v undef)++l5 b2 y L.1 q1 l a1) [.obj y 111 (.agg (.pair (.at aw (a0,.map (some m))) (.eq z.1))),.sl z.1 22 .val (d6 z.2 0 q2),.sl v 3 (.int .i64) l2]:=fun v=>by
     subst hJ
     refine JD.step [0,4,7] (by kernel_rfl) rfl ?_
     refine co.cons rfl ?_ ?_
     ·
      refine aC rfl rfl ?_
      exact aB (s111 v) [0,1,2] ⟨rfl,rfl,rfl,rfl,rfl,rfl,rfl,rfl,rfl,rfl,rfl,rfl,rfl,trivial⟩
     refine co.cons rfl ?_ ?_
     ·
      refine bW rfl rfl rfl (ai rfl oR jw rfl) ⟨rfl,trivial⟩ ?_
      exact aB (s126 v) [0,1,2] ⟨rfl,rfl,rfl,rfl,rfl,rfl,rfl,rfl,rfl,rfl,rfl,rfl,rfl,trivial⟩
     refine co.cons rfl ?_ ?_
     ·
      refine bG 2 rfl ?_
      refine fA fun hv=>?_
      refine aF rfl (bg (t:=.val) [(.tmp 45,.eq v)] [v] rfl rfl oS (.cons hv (.val hv) .nil) rfl rfl) ⟨rfl,trivial⟩ ?_
      exact aB (s238 v) [1,2,0] ⟨rfl,rfl,rfl,rfl,rfl,rfl,rfl,rfl,rfl,rfl,rfl,rfl,rfl,trivial⟩
     exact trivial
    have s227:∀(v:Value),J 7 [true,true,false,false,false,true,true,true,false,false,false,false] (fC [true,true,false,false,false,true,true,true,false,false,false,false] (mR y z.1 l v undef)++l5 b2 y L.1 q1 l a1) [.obj y 111 (.agg (.pair (.at aw (a0,.map (some m))) (.eq z.1))),.sl z.1 22 .val (d6 z.2 0 q2),.sl v 3 (.int .i64) l2]:=fun v=>by
     subst hJ
     refine JD.step [2] (by kernel_rfl) rfl ?_
     refine co.cons rfl ?_ ?_
     ·
      refine aF rfl (ba rfl) ⟨rfl,trivial⟩ ?_
      exact aB (s231 v) [0,1,2] ⟨rfl,rfl,rfl,rfl,rfl,rfl,rfl,rfl,rfl,rfl,rfl,rfl,rfl,trivial⟩
     exact trivial
    have s230:∀(v:Value),J 7 [false,true,true,false,false,true,true,true,false,false,false,false] (fC [false,true,true,false,false,true,true,true,false,false,false,false] (mR y z.1 l v undef)++l5 b2 y L.1 q1 l a1) [.obj y 111 (.agg (.pair (.at aw (a0,.map (some m))) (.eq z.1))),.sl z.1 22 .val (d6 z.2 0 q2),.sl v 3 (.int .i64) l2]:=fun v=>by
     subst hJ
     refine JD.step [0,3] (by kernel_rfl) rfl ?_
     refine co.cons rfl ?_ ?_
     ·
      refine aC rfl rfl ?_
      exact aB (s231 v) [0,1,2] ⟨rfl,rfl,rfl,rfl,rfl,rfl,rfl,rfl,rfl,rfl,rfl,rfl,rfl,trivial⟩
     refine co.cons rfl ?_ ?_
     ·
      refine aF rfl (av rfl uQ) ⟨rfl,trivial⟩ ?_
      exact aB (s238 v) [0,1,2] ⟨rfl,rfl,rfl,rfl,rfl,rfl,rfl,rfl,rfl,rfl,rfl,rfl,rfl,trivial⟩
     exact trivial
    have s15:J 8 [true,true,true,true,false,false,false,false,false,false,false,false] (fC [true,true,true,true,false,false,false,false,false,false,false,false] (mR y z.1 l undef undef)++l5 b2 y L.1 q1 l a1) [.obj y 111 (.agg (.pair (.at aw (a0,.map (some m))) (.eq z.1))),.sl z.1 22 .val (d6 z.2 0 q2)]:=by
     subst hJ
     refine JD.step [4,5] (by kernel_rfl) rfl ?_
     refine co.cons rfl ?_ ?_
     ·
      refine bW rfl rfl rfl (ai rfl oR jw rfl) ⟨rfl,trivial⟩ ?_
      exact aB (s31) [0,1] ⟨rfl,rfl,rfl,rfl,rfl,rfl,rfl,rfl,rfl,rfl,rfl,rfl,trivial⟩
     refine co.cons rfl ?_ ?_
     ·
      refine aC rfl rfl ?_
      exact aB (s47) [0,1] ⟨rfl,rfl,rfl,rfl,rfl,rfl,rfl,rfl,rfl,rfl,rfl,rfl,trivial⟩
     exact trivial
    have s30:J 8 [false,true,true,true,true,false,false,false,false,false,false,false] (fC [false,true,true,true,true,false,false,false,false,false,false,false] (mR y z.1 l undef undef)++l5 b2 y L.1 q1 l a1) [.obj y 111 (.agg (.pair (.at aw (a0,.map (some m))) (.eq z.1))),.sl z.1 22 .val (d6 z.2 0 q2)]:=by
     subst hJ
     refine JD.step [0,5] (by kernel_rfl) rfl ?_
     refine co.cons rfl ?_ ?_
     ·
      refine aC rfl rfl ?_
      exact aB (s31) [0,1] ⟨rfl,rfl,rfl,rfl,rfl,rfl,rfl,rfl,rfl,rfl,rfl,rfl,trivial⟩
     refine co.cons rfl ?_ ?_
     ·
      refine aC rfl rfl ?_
      exact aB (s62) [0,1] ⟨rfl,rfl,rfl,rfl,rfl,rfl,rfl,rfl,rfl,rfl,rfl,rfl,trivial⟩
     exact trivial
    have s39:J 8 [true,true,true,false,false,true,false,false,false,false,false,false] (fC [true,true,true,false,false,true,false,false,false,false,false,false] (mR y z.1 l undef undef)++l5 b2 y L.1 q1 l a1) [.obj y 111 (.agg (.pair (.at aw (a0,.map (some m))) (.eq z.1))),.sl z.1 22 .val (d6 z.2 0 q2)]:=by
     subst hJ
     refine JD.step [3,6] (by kernel_rfl) rfl ?_
     refine co.cons rfl ?_ ?_
     ·
      refine aF rfl (av rfl uQ) ⟨rfl,trivial⟩ ?_
      exact aB (s47) [0,1] ⟨rfl,rfl,rfl,rfl,rfl,rfl,rfl,rfl,rfl,rfl,rfl,rfl,trivial⟩
     refine co.cons rfl ?_ ?_
     ·
      refine aD rfl rfl rfl (ao [.tmp 44] rfl rfl q8 rfl cc) ⟨rfl,trivial⟩ fun v=>?_
      exact aB (s103 v) [1,2,0] ⟨rfl,rfl,rfl,rfl,rfl,rfl,rfl,rfl,rfl,rfl,rfl,rfl,trivial⟩
     exact trivial
    have s46:J 8 [false,true,true,true,false,true,false,false,false,false,false,false] (fC [false,true,true,true,false,true,false,false,false,false,false,false] (mR y z.1 l undef undef)++l5 b2 y L.1 q1 l a1) [.obj y 111 (.agg (.pair (.at aw (a0,.map (some m))) (.eq z.1))),.sl z.1 22 .val (d6 z.2 0 q2)]:=by
     subst hJ
     refine JD.step [0,4,6] (by kernel_rfl) rfl ?_
     refine co.cons rfl ?_ ?_
     ·
      refine aC rfl rfl ?_
      exact aB (s47) [0,1] ⟨rfl,rfl,rfl,rfl,rfl,rfl,rfl,rfl,rfl,rfl,rfl,rfl,trivial⟩
     refine co.cons rfl ?_ ?_
     ·
      refine bW rfl rfl rfl (ai rfl oR jw rfl) ⟨rfl,trivial⟩ ?_
      exact aB (s62) [0,1] ⟨rfl,rfl,rfl,rfl,rfl,rfl,rfl,rfl,rfl,rfl,rfl,rfl,trivial⟩
     refine co.cons rfl ?_ ?_
     ·
      refine aD rfl rfl rfl (ao [.tmp 44] rfl rfl q8 rfl cc) ⟨rfl,trivial⟩ fun v=>?_
      exact aB (s110 v) [1,2,0] ⟨rfl,rfl,rfl,rfl,rfl,rfl,rfl,rfl,rfl,rfl,rfl,rfl,trivial⟩
     exact trivial
    have s99:∀(v:Value),J 8 [true,true,false,false,false,true,true,false,false,false,false,false] (fC [true,true,false,false,false,true,true,false,false,false,false,false] (mR y z.1 l v undef)++l5 b2 y L.1 q1 l a1) [.obj y 111 (.agg (.pair (.at aw (a0,.map (some m))) (.eq z.1))),.sl z.1 22 .val (d6 z.2 0 q2),.sl v 3 (.int .i64) l2]:=fun v=>by
     subst hJ
     refine JD.step [2,7] (by kernel_rfl) rfl ?_
     refine co.cons rfl ?_ ?_
     ·
      refine aF rfl (ba rfl) ⟨rfl,trivial⟩ ?_
      exact aB (s103 v) [0,1,2] ⟨rfl,rfl,rfl,rfl,rfl,rfl,rfl,rfl,rfl,rfl,rfl,rfl,trivial⟩
     refine co.cons rfl ?_ ?_
     ·
      refine bG 2 rfl ?_
      refine fA fun hv=>?_
      refine aF rfl (bg (t:=.val) [(.tmp 45,.eq v)] [v] rfl rfl oS (.cons hv (.val hv) .nil) rfl rfl) ⟨rfl,trivial⟩ ?_
      exact aB (s227 v) [1,2,0] ⟨rfl,rfl,rfl,rfl,rfl,rfl,rfl,rfl,rfl,rfl,rfl,rfl,trivial⟩
     exact trivial
    have s102:∀(v:Value),J 8 [false,true,true,false,false,true,true,false,false,false,false,false] (fC [false,true,true,false,false,true,true,false,false,false,false,false] (mR y z.1 l v undef)++l5 b2 y L.1 q1 l a1) [.obj y 111 (.agg (.pair (.at aw (a0,.map (some m))) (.eq z.1))),.sl z.1 22 .val (d6 z.2 0 q2),.sl v 3 (.int .i64) l2]:=fun v=>by
     subst hJ
     refine JD.step [0,3,7] (by kernel_rfl) rfl ?_
     refine co.cons rfl ?_ ?_
     ·
      refine aC rfl rfl ?_
      exact aB (s103 v) [0,1,2] ⟨rfl,rfl,rfl,rfl,rfl,rfl,rfl,rfl,rfl,rfl,rfl,rfl,trivial⟩
     refine co.cons rfl ?_ ?_
     ·
      refine aF rfl (av rfl uQ) ⟨rfl,trivial⟩ ?_
      exact aB (s110 v) [0,1,2] ⟨rfl,rfl,rfl,rfl,rfl,rfl,rfl,rfl,rfl,rfl,rfl,rfl,trivial⟩
     refine co.cons rfl ?_ ?_
     ·
      refine bG 2 rfl ?_
      refine fA fun hv=>?_
      refine aF rfl (bg (t:=.val) [(.tmp 45,.eq v)] [v] rfl rfl oS (.cons hv (.val hv) .nil) rfl rfl) ⟨rfl,trivial⟩ ?_
      exact aB (s230 v) [1,2,0] ⟨rfl,rfl,rfl,rfl,rfl,rfl,rfl,rfl,rfl,rfl,rfl,rfl,trivial⟩
     exact trivial
    have s225:∀(v:Value),J 8 [true,false,false,false,false,true,true,true,false,false,false,false] (fC [true,false,false,false,false,true,true,true,false,false,false,false] (mR y z.1 l v undef)++l5 b2 y L.1 q1 l a1) [.obj y 111 (.agg (.pair (.at aw (a0,.map (some m))) (.eq z.1))),.sl z.1 22 .val (d6 z.2 0 q2),.sl v 3 (.int .i64) l2]:=fun v=>by
     subst hJ
     refine JD.step [1] (by kernel_rfl) rfl ?_
     refine co.cons rfl ?_ ?_
     ·
      refine aC rfl rfl ?_
      exact aB (s227 v) [0,1,2] ⟨rfl,rfl,rfl,rfl,rfl,rfl,rfl,rfl,rfl,rfl,rfl,rfl,trivial⟩
     exact trivial
    have s226:∀(v:Value),J 8 [false,true,false,false,false,true,true,true,false,false,false,false] (fC [false,true,false,false,false,true,true,true,false,false,false,false] (mR y z.1 l v undef)++l5 b2 y L.1 q1 l a1) [.obj y 111 (.agg (.pair (.at aw (a0,.map (some m))) (.eq z.1))),.sl z.1 22 .val (d6 z.2 0 q2),.sl v 3 (.int .i64) l2]:=fun v=>by
     subst hJ
     refine JD.step [0,2] (by kernel_rfl) rfl ?_
     refine co.cons rfl ?_ ?_
     ·
      refine aC rfl rfl ?_
      exact aB (s227 v) [0,1,2] ⟨rfl,rfl,rfl,rfl,rfl,rfl,rfl,rfl,rfl,rfl,rfl,rfl,trivial⟩
     refine co.cons rfl ?_ ?_
     ·
      refine aF rfl (ba rfl) ⟨rfl,trivial⟩ ?_
      exact aB (s230 v) [0,1,2] ⟨rfl,rfl,rfl,rfl,rfl,rfl,rfl,rfl,rfl,rfl,rfl,rfl,trivial⟩
     exact trivial
    have s7:J 9 [true,true,true,false,false,false,false,false,false,false,false,false] (fC [true,true,true,false,false,false,false,false,false,false,false,false] (mR y z.1 l undef undef)++l5 b2 y L.1 q1 l a1) [.obj y 111 (.agg (.pair (.at aw (a0,.map (some m))) (.eq z.1))),.sl z.1 22 .val (d6 z.2 0 q2)]:=by
     subst hJ
     refine JD.step [3,5] (by kernel_rfl) rfl ?_
     refine co.cons rfl ?_ ?_
     ·
      refine aF rfl (av rfl uQ) ⟨rfl,trivial⟩ ?_
      exact aB (s15) [0,1] ⟨rfl,rfl,rfl,rfl,rfl,rfl,rfl,rfl,rfl,rfl,rfl,trivial⟩
     refine co.cons rfl ?_ ?_
     ·
      refine aC rfl rfl ?_
      exact aB (s39) [0,1] ⟨rfl,rfl,rfl,rfl,rfl,rfl,rfl,rfl,rfl,rfl,rfl,trivial⟩
     exact trivial
    have s14:J 9 [false,true,true,true,false,false,false,false,false,false,false,false] (fC [false,true,true,true,false,false,false,false,false,false,false,false] (mR y z.1 l undef undef)++l5 b2 y L.1 q1 l a1) [.obj y 111 (.agg (.pair (.at aw (a0,.map (some m))) (.eq z.1))),.sl z.1 22 .val (d6 z.2 0 q2)]:=by
     subst hJ
     refine JD.step [0,4,5] (by kernel_rfl) rfl ?_
     refine co.cons rfl ?_ ?_
     ·
      refine aC rfl rfl ?_
      exact aB (s15) [0,1] ⟨rfl,rfl,rfl,rfl,rfl,rfl,rfl,rfl,rfl,rfl,rfl,trivial⟩
     refine co.cons rfl ?_ ?_
     ·
      refine bW rfl rfl rfl (ai rfl oR jw rfl) ⟨rfl,trivial⟩ ?_
      exact aB (s30) [0,1] ⟨rfl,rfl,rfl,rfl,rfl,rfl,rfl,rfl,rfl,rfl,rfl,trivial⟩
     refine co.cons rfl ?_ ?_
     ·
      refine aC rfl rfl ?_
      exact aB (s46) [0,1] ⟨rfl,rfl,rfl,rfl,rfl,rfl,rfl,rfl,rfl,rfl,rfl,trivial⟩
     exact trivial
    have s35:J 9 [true,true,false,false,false,true,false,false,false,false,false,false] (fC [true,true,false,false,false,true,false,false,false,false,false,false] (mR y z.1 l undef undef)++l5 b2 y L.1 q1 l a1) [.obj y 111 (.agg (.pair (.at aw (a0,.map (some m))) (.eq z.1))),.sl z.1 22 .val (d6 z.2 0 q2)]:=by
     subst hJ
     refine JD.step [2,6] (by kernel_rfl) rfl ?_
     refine co.cons rfl ?_ ?_
     ·
      refine aF rfl (ba rfl) ⟨rfl,trivial⟩ ?_
      exact aB (s39) [0,1] ⟨rfl,rfl,rfl,rfl,rfl,rfl,rfl,rfl,rfl,rfl,rfl,trivial⟩
     refine co.cons rfl ?_ ?_
     ·
      refine aD rfl rfl rfl (ao [.tmp 44] rfl rfl q8 rfl cc) ⟨rfl,trivial⟩ fun v=>?_
      exact aB (s99 v) [1,2,0] ⟨rfl,rfl,rfl,rfl,rfl,rfl,rfl,rfl,rfl,rfl,rfl,trivial⟩
     exact trivial
    have s38:J 9 [false,true,true,false,false,true,false,false,false,false,false,false] (fC [false,true,true,false,false,true,false,false,false,false,false,false] (mR y z.1 l undef undef)++l5 b2 y L.1 q1 l a1) [.obj y 111 (.agg (.pair (.at aw (a0,.map (some m))) (.eq z.1))),.sl z.1 22 .val (d6 z.2 0 q2)]:=by
     subst hJ
     refine JD.step [0,3,6] (by kernel_rfl) rfl ?_
     refine co.cons rfl ?_ ?_
     ·
      refine aC rfl rfl ?_
      exact aB (s39) [0,1] ⟨rfl,rfl,rfl,rfl,rfl,rfl,rfl,rfl,rfl,rfl,rfl,trivial⟩
     refine co.cons rfl ?_ ?_
     ·
      refine aF rfl (av rfl uQ) ⟨rfl,trivial⟩ ?_
      exact aB (s46) [0,1] ⟨rfl,rfl,rfl,rfl,rfl,rfl,rfl,rfl,rfl,rfl,rfl,trivial⟩
     refine co.cons rfl ?_ ?_
     ·
      refine aD rfl rfl rfl (ao [.tmp 44] rfl rfl q8 rfl cc) ⟨rfl,trivial⟩ fun v=>?_
      exact aB (s102 v) [1,2,0] ⟨rfl,rfl,rfl,rfl,rfl,rfl,rfl,rfl,rfl,rfl,rfl,trivial⟩
     exact trivial
    have s97:∀(v:Value),J 9 [true,false,false,false,false,true,true,false,false,false,false,false] (fC [true,false,false,false,false,true,true,false,false,false,false,false] (mR y z.1 l v undef)++l5 b2 y L.1 q1 l a1) [.obj y 111 (.agg (.pair (.at aw (a0,.map (some m))) (.eq z.1))),.sl z.1 22 .val (d6 z.2 0 q2),.sl v 3 (.int .i64) l2]:=fun v=>by
     subst hJ
     refine JD.step [1,7] (by kernel_rfl) rfl ?_
     refine co.cons rfl ?_ ?_
     ·
      refine aC rfl rfl ?_
      exact aB (s99 v) [0,1,2] ⟨rfl,rfl,rfl,rfl,rfl,rfl,rfl,rfl,rfl,rfl,rfl,trivial⟩
     refine co.cons rfl ?_ ?_
     ·
      refine bG 2 rfl ?_
      refine fA fun hv=>?_
      refine aF rfl (bg (t:=.val) [(.tmp 45,.eq v)] [v] rfl rfl oS (.cons hv (.val hv) .nil) rfl rfl) ⟨rfl,trivial⟩ ?_
      exact aB (s225 v) [1,2,0] ⟨rfl,rfl,rfl,rfl,rfl,rfl,rfl,rfl,rfl,rfl,rfl,trivial⟩
     exact trivial
    have s98:∀(v:Value),J 9 [false,true,false,false,false,true,true,false,false,false,false,false] (fC [false,true,false,false,false,true,true,false,false,false,false,false] (mR y z.1 l v undef)++l5 b2 y L.1 q1 l a1) [.obj y 111 (.agg (.pair (.at aw (a0,.map (some m))) (.eq z.1))),.sl z.1 22 .val (d6 z.2 0 q2),.sl v 3 (.int .i64) l2]:=fun v=>by
     subst hJ
     refine JD.step [0,2,7] (by kernel_rfl) rfl ?_
     refine co.cons rfl ?_ ?_
     ·
      refine aC rfl rfl ?_
      exact aB (s99 v) [0,1,2] ⟨rfl,rfl,rfl,rfl,rfl,rfl,rfl,rfl,rfl,rfl,rfl,trivial⟩
     refine co.cons rfl ?_ ?_
     ·
      refine aF rfl (ba rfl) ⟨rfl,trivial⟩ ?_
      exact aB (s102 v) [0,1,2] ⟨rfl,rfl,rfl,rfl,rfl,rfl,rfl,rfl,rfl,rfl,rfl,trivial⟩
     refine co.cons rfl ?_ ?_
     ·
      refine bG 2 rfl ?_
      refine fA fun hv=>?_
      refine aF rfl (bg (t:=.val) [(.tmp 45,.eq v)] [v] rfl rfl oS (.cons hv (.val hv) .nil) rfl rfl) ⟨rfl,trivial⟩ ?_
      exact aB (s226 v) [1,2,0] ⟨rfl,rfl,rfl,rfl,rfl,rfl,rfl,rfl,rfl,rfl,rfl,trivial⟩
     exact trivial
    have s224:∀(v:Value),J 9 [false,false,false,false,false,true,true,true,false,false,false,false] (fC [false,false,false,false,false,true,true,true,false,false,false,false] (mR y z.1 l v undef)++l5 b2 y L.1 q1 l a1) [.obj y 111 (.agg (.pair (.at aw (a0,.map (some m))) (.eq z.1))),.sl z.1 22 .val (d6 z.2 0 q2),.sl v 3 (.int .i64) l2]:=fun v=>by
     subst hJ
     refine JD.step [0,1] (by kernel_rfl) rfl ?_
     refine co.cons rfl ?_ ?_
     ·
      refine aC rfl rfl ?_
      exact aB (s225 v) [0,1,2] ⟨rfl,rfl,rfl,rfl,rfl,rfl,rfl,rfl,rfl,rfl,rfl,trivial⟩
     refine co.cons rfl ?_ ?_
     ·
      refine aC rfl rfl ?_
      exact aB (s226 v) [0,1,2] ⟨rfl,rfl,rfl,rfl,rfl,rfl,rfl,rfl,rfl,rfl,rfl,trivial⟩
     exact trivial
    have s3:J 10 [true,true,false,false,false,false,false,false,false,false,false,false] (fC [true,true,false,false,false,false,false,false,false,false,false,false] (mR y z.1 l undef undef)++l5 b2 y L.1 q1 l a1) [.obj y 111 (.agg (.pair (.at aw (a0,.map (some m))) (.eq z.1))),.sl z.1 22 .val (d6 z.2 0 q2)]:=by
     subst hJ
     refine JD.step [2,5] (by kernel_rfl) rfl ?_
     refine co.cons rfl ?_ ?_
     ·
      refine aF rfl (ba rfl) ⟨rfl,trivial⟩ ?_
      exact aB (s7) [0,1] ⟨rfl,rfl,rfl,rfl,rfl,rfl,rfl,rfl,rfl,rfl,trivial⟩
     refine co.cons rfl ?_ ?_
     ·
      refine aC rfl rfl ?_
      exact aB (s35) [0,1] ⟨rfl,rfl,rfl,rfl,rfl,rfl,rfl,rfl,rfl,rfl,trivial⟩
     exact trivial
    have s6:J 10 [false,true,true,false,false,false,false,false,false,false,false,false] (fC [false,true,true,false,false,false,false,false,false,false,false,false] (mR y z.1 l undef undef)++l5 b2 y L.1 q1 l a1) [.obj y 111 (.agg (.pair (.at aw (a0,.map (some m))) (.eq z.1))),.sl z.1 22 .val (d6 z.2 0 q2)]:=by
     subst hJ
     refine JD.step [0,3,5] (by kernel_rfl) rfl ?_
     refine co.cons rfl ?_ ?_
     ·
      refine aC rfl rfl ?_
      exact aB (s7) [0,1] ⟨rfl,rfl,rfl,rfl,rfl,rfl,rfl,rfl,rfl,rfl,trivial⟩
     refine co.cons rfl ?_ ?_
     ·
      refine aF rfl (av rfl uQ) ⟨rfl,trivial⟩ ?_
      exact aB (s14) [0,1] ⟨rfl,rfl,rfl,rfl,rfl,rfl,rfl,rfl,rfl,rfl,trivial⟩
     refine co.cons rfl ?_ ?_
     ·
      refine aC rfl rfl ?_
      exact aB (s38) [0,1] ⟨rfl,rfl,rfl,rfl,rfl,rfl,rfl,rfl,rfl,rfl,trivial⟩
     exact trivial
    have s33:J 10 [true,false,false,false,false,true,false,false,false,false,false,false] (fC [true,false,false,false,false,true,false,false,false,false,false,false] (mR y z.1 l undef undef)++l5 b2 y L.1 q1 l a1) [.obj y 111 (.agg (.pair (.at aw (a0,.map (some m))) (.eq z.1))),.sl z.1 22 .val (d6 z.2 0 q2)]:=by
     subst hJ
     refine JD.step [1,6] (by kernel_rfl) rfl ?_
     refine co.cons rfl ?_ ?_
     ·
      refine aC rfl rfl ?_
      exact aB (s35) [0,1] ⟨rfl,rfl,rfl,rfl,rfl,rfl,rfl,rfl,rfl,rfl,trivial⟩
     refine co.cons rfl ?_ ?_
     ·
      refine aD rfl rfl rfl (ao [.tmp 44] rfl rfl q8 rfl cc) ⟨rfl,trivial⟩ fun v=>?_
      exact aB (s97 v) [1,2,0] ⟨rfl,rfl,rfl,rfl,rfl,rfl,rfl,rfl,rfl,rfl,trivial⟩
     exact trivial
    have s34:J 10 [false,true,false,false,false,true,false,false,false,false,false,false] (fC [false,true,false,false,false,true,false,false,false,false,false,false] (mR y z.1 l undef undef)++l5 b2 y L.1 q1 l a1) [.obj y 111 (.agg (.pair (.at aw (a0,.map (some m))) (.eq z.1))),.sl z.1 22 .val (d6 z.2 0 q2)]:=by
     subst hJ
     refine JD.step [0,2,6] (by kernel_rfl) rfl ?_
     refine co.cons rfl ?_ ?_
     ·
      refine aC rfl rfl ?_
      exact aB (s35) [0,1] ⟨rfl,rfl,rfl,rfl,rfl,rfl,rfl,rfl,rfl,rfl,trivial⟩
     refine co.cons rfl ?_ ?_
     ·
      refine aF rfl (ba rfl) ⟨rfl,trivial⟩ ?_
      exact aB (s38) [0,1] ⟨rfl,rfl,rfl,rfl,rfl,rfl,rfl,rfl,rfl,rfl,trivial⟩
     refine co.cons rfl ?_ ?_
     ·
      refine aD rfl rfl rfl (ao [.tmp 44] rfl rfl q8 rfl cc) ⟨rfl,trivial⟩ fun v=>?_
      exact aB (s98 v) [1,2,0] ⟨rfl,rfl,rfl,rfl,rfl,rfl,rfl,rfl,rfl,rfl,trivial⟩
     exact trivial
    have s96:∀(v:Value),J 10 [false,false,false,false,false,true,true,false,false,false,false,false] (fC [false,false,false,false,false,true,true,false,false,false,false,false] (mR y z.1 l v undef)++l5 b2 y L.1 q1 l a1) [.obj y 111 (.agg (.pair (.at aw (a0,.map (some m))) (.eq z.1))),.sl z.1 22 .val (d6 z.2 0 q2),.sl v 3 (.int .i64) l2]:=fun v=>by
     subst hJ
     refine JD.step [0,1,7] (by kernel_rfl) rfl ?_
     refine co.cons rfl ?_ ?_
     ·
      refine aC rfl rfl ?_
      exact aB (s97 v) [0,1,2] ⟨rfl,rfl,rfl,rfl,rfl,rfl,rfl,rfl,rfl,rfl,trivial⟩
     refine co.cons rfl ?_ ?_
     ·
      refine aC rfl rfl ?_
      exact aB (s98 v) [0,1,2] ⟨rfl,rfl,rfl,rfl,rfl,rfl,rfl,rfl,rfl,rfl,trivial⟩
     refine co.cons rfl ?_ ?_
     ·
      refine bG 2 rfl ?_
      refine fA fun hv=>?_
      refine aF rfl (bg (t:=.val) [(.tmp 45,.eq v)] [v] rfl rfl oS (.cons hv (.val hv) .nil) rfl rfl) ⟨rfl,trivial⟩ ?_
      exact aB (s224 v) [1,2,0] ⟨rfl,rfl,rfl,rfl,rfl,rfl,rfl,rfl,rfl,rfl,trivial⟩
     exact trivial
    have s1:J 11 [true,false,false,false,false,false,false,false,false,false,false,false] (fC [true,false,false,false,false,false,false,false,false,false,false,false] (mR y z.1 l undef undef)++l5 b2 y L.1 q1 l a1) [.obj y 111 (.agg (.pair (.at aw (a0,.map (some m))) (.eq z.1))),.sl z.1 22 .val (d6 z.2 0 q2)]:=by
     subst hJ
     refine JD.step [1,5] (by kernel_rfl) rfl ?_
     refine co.cons rfl ?_ ?_
     ·
      refine aC rfl rfl ?_
      exact aB (s3) [0,1] ⟨rfl,rfl,rfl,rfl,rfl,rfl,rfl,rfl,rfl,trivial⟩
     refine co.cons rfl ?_ ?_
     ·
      refine aC rfl rfl ?_
      exact aB (s33) [0,1] ⟨rfl,rfl,rfl,rfl,rfl,rfl,rfl,rfl,rfl,trivial⟩
     exact trivial
    have s2:J 11 [false,true,false,false,false,false,false,false,false,false,false,false] (fC [false,true,false,false,false,false,false,false,false,false,false,false] (mR y z.1 l undef undef)++l5 b2 y L.1 q1 l a1) [.obj y 111 (.agg (.pair (.at aw (a0,.map (some m))) (.eq z.1))),.sl z.1 22 .val (d6 z.2 0 q2)]:=by
     subst hJ
     refine JD.step [0,2,5] (by kernel_rfl) rfl ?_
     refine co.cons rfl ?_ ?_
     ·
      refine aC rfl rfl ?_
      exact aB (s3) [0,1] ⟨rfl,rfl,rfl,rfl,rfl,rfl,rfl,rfl,rfl,trivial⟩
     refine co.cons rfl ?_ ?_
     ·
      refine aF rfl (ba rfl) ⟨rfl,trivial⟩ ?_
      exact aB (s6) [0,1] ⟨rfl,rfl,rfl,rfl,rfl,rfl,rfl,rfl,rfl,trivial⟩
     refine co.cons rfl ?_ ?_
     ·
      refine aC rfl rfl ?_
      exact aB (s34) [0,1] ⟨rfl,rfl,rfl,rfl,rfl,rfl,rfl,rfl,rfl,trivial⟩
     exact trivial
    have s32:J 11 [false,false,false,false,false,true,false,false,false,false,false,false] (fC [false,false,false,false,false,true,false,false,false,false,false,false] (mR y z.1 l undef undef)++l5 b2 y L.1 q1 l a1) [.obj y 111 (.agg (.pair (.at aw (a0,.map (some m))) (.eq z.1))),.sl z.1 22 .val (d6 z.2 0 q2)]:=by
     subst hJ
     refine JD.step [0,1,6] (by kernel_rfl) rfl ?_
     refine co.cons rfl ?_ ?_
     ·
      refine aC rfl rfl ?_
      exact aB (s33) [0,1] ⟨rfl,rfl,rfl,rfl,rfl,rfl,rfl,rfl,rfl,trivial⟩
     refine co.cons rfl ?_ ?_
     ·
      refine aC rfl rfl ?_
      exact aB (s34) [0,1] ⟨rfl,rfl,rfl,rfl,rfl,rfl,rfl,rfl,rfl,trivial⟩
     refine co.cons rfl ?_ ?_
     ·
      refine aD rfl rfl rfl (ao [.tmp 44] rfl rfl q8 rfl cc) ⟨rfl,trivial⟩ fun v=>?_
      exact aB (s96 v) [1,2,0] ⟨rfl,rfl,rfl,rfl,rfl,rfl,rfl,rfl,rfl,trivial⟩
     exact trivial
    have s0:J 12 [false,false,false,false,false,false,false,false,false,false,false,false] (fC [false,false,false,false,false,false,false,false,false,false,false,false] (mR y z.1 l undef undef)++l5 b2 y L.1 q1 l a1) [.obj y 111 (.agg (.pair (.at aw (a0,.map (some m))) (.eq z.1))),.sl z.1 22 .val (d6 z.2 0 q2)]:=by
     subst hJ
     refine JD.step [0,1,5] (by kernel_rfl) rfl ?_
     refine co.cons rfl ?_ ?_
     ·
      refine aC rfl rfl ?_
      exact aB (s1) [0,1] ⟨rfl,rfl,rfl,rfl,rfl,rfl,rfl,rfl,trivial⟩
     refine co.cons rfl ?_ ?_
     ·
      refine aC rfl rfl ?_
      exact aB (s2) [0,1] ⟨rfl,rfl,rfl,rfl,rfl,rfl,rfl,rfl,trivial⟩
     refine co.cons rfl ?_ ?_
     ·
      refine aC rfl rfl ?_
      exact aB (s32) [0,1] ⟨rfl,rfl,rfl,rfl,rfl,rfl,rfl,rfl,trivial⟩
     exact trivial
    exact s0
   ·
    exact fun a w st=>⟨rfl,p,st⟩
  ·
   subst hB
   refine bS ?_
   refine ag ?_
   refine bu (fE (Δ':=.sl p.1 3 (.int .i64) l2:: .sl p.2 22 .val (d6 z.2 0 q2++[p.1])::([.obj y 111 (.agg (.pair (.at aw (a0,.map (some m))) (.eq p.2))),.inv m (bC k a0),.obj b2 27 (.rep ak a0),.inv 0 f4]++kS z.2 0 q2)) ?_) ?_
   ·
    exact List.Perm.trans (List.Perm.swap _ _ _) (List.Perm.trans (List.Perm.cons _ (List.Perm.swap _ _ _)) (List.Perm.swap _ _ _))
   refine bu (yb (pre:=[.obj y 111 (.agg (.pair (.at aw (a0,.map (some m))) (.eq p.2))),.inv m (bC k a0),.obj b2 27 (.rep ak a0),.inv 0 f4])) ?_
   show JC _ _ _ _ _
   refine ab ?_
   obtain⟨w3,ew,h⟩:=aa h
   refine aF rfl (be rfl ew) ⟨rfl,rfl,trivial⟩ ?_
   refine aC rfl rfl ?_
   refine ax ?_
   refine ag ?_
   exact jg ((p.2,nD z.2 q2.length p.1),(w3,q2++[l2])) h (bi [.obj y 111 (.agg (.pair (.at aw (a0,.map (some m))) (.eq p.2))),.inv m (bC k a0),.obj b2 27 (.rep ak a0),.inv 0 f4] (fD 22 (p.2,nD z.2 q2.length p.1) (q2++[l2])) [0,1,2,3] ⟨rfl,rfl,rfl,rfl,rfl,rfl,trivial⟩ rfl)
 replace h:=bM (nk hb) h
 refine jI ?_
 refine cC ?_
 refine cC ?_
 refine eH ?_
 refine ag ?_
 show JC _ _ _ _ _
 replace h:((jN k a0 k (0,[],q.2)).bind fun p=>(lY k a0 p.1 p.2).bind fun b=>if(!b.2.2.1 || decide (L.1≤b.2.1))=true then some (0,0,0,11) else some (b.1.1,b.1.2,b.2.1,0)).bind some=some r:=h
 rw [Option.bind_assoc] at h
 generalize q.2=ls at h⊢
 refine ar ?_
 refine ab ?_
 refine dF rfl ?_
 refine cp (SE.nil 114 fo) ?_
 refine ax ?_
 refine ag ?_
 show JC _ _ _ _ _
 refine dG (bi (Γ':=[(2,.eq (bP b2)),(8,.eq (.int .i64 L.1)),(10,.eq (bP y)),(13,.eq (.slice none 0 0))]) (pre':=[.inv m (bC k a0),.obj b2 27 (.rep ak a0),.inv 0 f4,.sl (.slice none 0 0) 114 fo [],.obj y 111 (.agg (.pair (.at aw (a0,.map (some m))) (.eq z.1)))]) [.sl (.slice none 0 0) 114 fo [],.obj y 111 (.agg (.pair (.at aw (a0,.map (some m))) (.eq z.1))),.inv m (bC k a0),.obj b2 27 (.rep ak a0),.inv 0 f4] (fD 22 z ls) [2,3,4,0,1] ⟨rfl,rfl,rfl,rfl,trivial⟩ rfl) ?_
 refine ar ?_
 refine ar ?_
 refine ab ?_
 refine aF rfl (av rfl Ni) ⟨rfl,trivial⟩ ?_
 refine bG 1 rfl ?_
 refine bW rfl rfl rfl (ai rfl MV jw rfl) ⟨rfl,trivial⟩ ?_
 refine aF rfl (ju rfl rfl nn) ⟨rfl,trivial⟩ ?_
 refine ff rfl ?_
 refine ax ?_
 refine ag ?_
 show JC _ _ _ _ _
 refine aj ?_
 refine aK (Z:=Value) (α:=Int×List (Int×Int)×List (List Int)) (fun c q=>[(2,.eq (bP b2)),(8,.eq (.int .i64 L.1)),(10,.eq (bP y)),(13,.eq c),(53,.eq (.int .i64 (a0.2.1.length:Int))),(54,.eq (.int .i64 q.1))]) (fun c q=>[.obj b2 27 (.rep ak a0),.inv m (bC k a0),.inv 0 f4,.sl c 114 fo q.2.1,.obj y 111 (.agg (.pair (.at aw (a0,.map (some m))) (.eq z.1)))]++fD 22 z q.2.2) (jN k a0) k (.slice none 0 0) (0,[],ls) (fun _=>rfl) h (bi [.obj b2 27 (.rep ak a0),.inv m (bC k a0),.inv 0 f4,.sl (.slice none 0 0) 114 fo [],.obj y 111 (.agg (.pair (.at aw (a0,.map (some m))) (.eq z.1)))] (fD 22 z ls) [0,1,2,3,4] ⟨rfl,rfl,rfl,rfl,rfl,rfl,trivial⟩ rfl) (fun n c q h=>?_)
 obtain⟨q1,qp,ql⟩:=q
 unfold jN at h
 refine ar ?_
 refine ab ?_
 refine aF rfl (bq rfl) ⟨rfl,rfl,trivial⟩ ?_
 refine ax ?_
 refine ag ?_
 show JC _ _ _ _ _
 refine ar ?_
 refine bK rfl (fun hb=>?_) (fun hb=>?_)
 ·
  replace h:=cF (nX hb) h
  obtain⟨w,ew,h⟩:=aa h
  rw [Option.bind_assoc] at h
  refine cR ?_
  refine ag ?_
  show JC _ _ _ _ _
  refine ar ?_
  refine aj ?_
  refine ar ?_
  refine ab ?_
  refine aC rfl rfl ?_
  refine dn rfl rfl ?_
  refine ax ?_
  refine ag ?_
  show JC _ _ _ _ _
  refine ar ?_
  refine ab ?_
  refine aC rfl rfl ?_
  refine aF rfl (be rfl ew) ⟨rfl,rfl,trivial⟩ ?_
  refine dn rfl rfl ?_
  refine ax ?_
  refine ag ?_
  show JC _ _ _ _ _
  refine aj ?_
  refine aK (Z:=Value) (α:=Int×List (Int×Int)×List (List Int)) (fun c q=>[(2,.eq (bP b2)),(8,.eq (.int .i64 L.1)),(10,.eq (bP y)),(13,.eq c),(14,.eq (.int .i64 q1)),(15,.eq (.int .i64 q.1)),(53,.eq (.int .i64 (a0.2.1.length:Int))),(54,.eq (.int .i64 q1))]) (fun c q=>[.obj b2 27 (.rep ak a0),.inv m (bC k a0),.inv 0 f4,.sl c 114 fo q.2.1,.obj y 111 (.agg (.pair (.at aw (a0,.map (some m))) (.eq z.1)))]++fD 22 z q.2.2) (kX k a0 q1) k c (w,qp,ql) (fun _=>rfl) h (bi [.obj b2 27 (.rep ak a0),.inv m (bC k a0),.inv 0 f4,.sl c 114 fo qp,.obj y 111 (.agg (.pair (.at aw (a0,.map (some m))) (.eq z.1)))] (fD 22 z ql) [0,1,2,3,4] ⟨rfl,rfl,rfl,rfl,rfl,rfl,rfl,rfl,trivial⟩ rfl) (fun n3 c q h=>?_)
  obtain⟨j,rp,rl⟩:=q
  unfold kX at h
  refine ar ?_
  refine ar ?_
  refine ab ?_
  refine aC rfl rfl ?_
  refine aF rfl (av rfl Ni) ⟨rfl,trivial⟩ ?_
  refine bW rfl rfl rfl (ai rfl MV jw rfl) ⟨rfl,trivial⟩ ?_
  refine aF rfl (ju rfl rfl nn) ⟨rfl,trivial⟩ ?_
  refine aF rfl (bq rfl) ⟨rfl,rfl,trivial⟩ ?_
  refine ax ?_
  refine ag ?_
  show JC _ _ _ _ _
  refine bK rfl (fun hb=>?_) (fun hb=>?_)
  ·
   replace h:=cF (nX hb) h
   obtain⟨r1,Q,h⟩:=aa h
   have cv:=tA k a0 (q1,j) rl r1 y m z Q
   refine cR ?_
   refine ag ?_
   show JC _ _ _ _ _
   refine ar ?_
   refine aj ?_
   refine ar ?_
   refine ab ?_
   refine aC rfl rfl ?_
   refine aC rfl rfl ?_
   refine aF rfl (c9 [(0,.tmp 66,_),(1,.tmp 67,_)] rfl NP tq L0 (iM ⟨rfl,rfl,trivial⟩) rfl) ⟨rfl,rfl,trivial⟩ ?_
   refine aD rfl rfl rfl (aY rfl tq wq) trivial fun e=>?_
   refine a8 rfl rfl (aX rfl g7 trivial rfl rfl) ⟨rfl,rfl,trivial⟩ ?_
   refine cp (qL (a':=.rep fo (q1,j)) RV) ?_
   refine ax ?_
   refine ag ?_
   show JC _ _ _ _ _
   refine ar ?_
   refine ab ?_
   refine aC rfl rfl ?_
   refine bW rfl rfl rfl (ai rfl g7 (zt) rfl) ⟨rfl,trivial⟩ ?_
   refine cp (fE (Δ':=([.obj y 111 (.agg (.pair (.at aw (a0,.map (some m))) (.eq z.1)))]++fD 22 z rl)++[.obj e 114 (.rep fo (q1,j)),.obj b2 27 (.rep ak a0),.inv m (bC k a0),.inv 0 f4,.sl c 114 fo rp]) (List.perm_append_comm (l₁:=([.obj e 114 (.rep fo (q1,j)),.obj b2 27 (.rep ak a0),.inv m (bC k a0),.inv 0 f4,.sl c 114 fo rp]:List D)))) ?_
   refine bN (Δ:=_++_) (F:=[_,_,_,_,_]) (fun _ _ _=>ay rfl _) rfl rfl (ao [.tmp 69,.tmp 70] rfl rfl QV rfl cv) ⟨rfl,rfl,trivial⟩ fun _=>?_
   refine cp (fE (Δ':=[.obj e 114 (.rep fo (q1,j)),.obj b2 27 (.rep ak a0),.inv m (bC k a0),.inv 0 f4,.sl c 114 fo rp]++([.obj y 111 (.agg (.pair (.at aw (a0,.map (some m))) (.eq z.1)))]++fD 22 z r1.2)) List.perm_append_comm) ?_
   refine ax ?_
   refine ag ?_
   show JC _ _ _ _ _
   refine bK rfl (fun hb=>?_) (fun hb=>?_)
   ·
    replace h:=cF (DO hb) h
    have hk:bm (rp.length+1):=by
     apply Classical.byContradiction
     intro hn
     rw [if_neg hn] at h
     cases h
    replace h:=cF hk h
    refine ab ?_
    refine aC rfl rfl ?_
    refine bW rfl rfl rfl (ai rfl g7 (zt) rfl) ⟨rfl,trivial⟩ ?_
    refine aF rfl (bg (t:=fo) [(.tmp 73,_)] [(q1,j)] rfl rfl Hh (.cons rfl .rep .nil) rfl rfl) ⟨rfl,trivial⟩ ?_
    refine bG 4 rfl ?_
    refine cz rfl rfl rfl (bf rfl rfl Hh (by simpa using hk)) ⟨rfl,rfl,trivial⟩ fun v'=>?_
    refine dn rfl rfl ?_
    refine ax ?_
    refine bS ?_
    refine ag ?_
    show JC _ _ _ _ _
    refine ab ?_
    refine aC rfl rfl ?_
    obtain⟨w2,ew2,h⟩:=aa h
    refine aF rfl (be rfl ew2) ⟨rfl,rfl,trivial⟩ ?_
    refine dn rfl rfl ?_
    refine ax ?_
    refine ag ?_
    exact jg (v',(w2,rp++[(q1,j)],r1.2)) h (bi [.sl v' 114 fo (rp++[(q1,j)]),.obj e 114 (.rep fo (q1,j)),.obj b2 27 (.rep ak a0),.inv m (bC k a0),.inv 0 f4,.obj y 111 (.agg (.pair (.at aw (a0,.map (some m))) (.eq z.1)))] (fD 22 z r1.2) [2,3,4,0,5] ⟨rfl,rfl,rfl,rfl,rfl,rfl,rfl,rfl,trivial⟩ rfl)
   ·
    replace h:=bM (DT hb) h
    refine cR ?_
    refine bS ?_
    refine ag ?_
    show JC _ _ _ _ _
    refine ab ?_
    refine aC rfl rfl ?_
    obtain⟨w2,ew2,h⟩:=aa h
    refine aF rfl (be rfl ew2) ⟨rfl,rfl,trivial⟩ ?_
    refine dn rfl rfl ?_
    refine ax ?_
    refine ag ?_
    exact jg (c,(w2,rp,r1.2)) h (bi [.obj e 114 (.rep fo (q1,j)),.obj b2 27 (.rep ak a0),.inv m (bC k a0),.inv 0 f4,.sl c 114 fo rp,.obj y 111 (.agg (.pair (.at aw (a0,.map (some m))) (.eq z.1)))] (fD 22 z r1.2) [1,2,3,4,5] ⟨rfl,rfl,rfl,rfl,rfl,rfl,rfl,rfl,trivial⟩ rfl)
  replace h:=bM (nk hb) h
  refine jI ?_
  refine cC ?_
  refine cC ?_
  refine eH ?_
  refine bS ?_
  refine ag ?_
  show JC _ _ _ _ _
  replace h:(jN k a0 n (w,rp,rl)).bind _=some r:=h
  refine ab ?_
  refine aF rfl (be rfl ew) ⟨rfl,rfl,trivial⟩ ?_
  refine aC rfl rfl ?_
  refine ax ?_
  refine ag ?_
  exact jg (c,(w,rp,rl)) h (bi [.obj b2 27 (.rep ak a0),.inv m (bC k a0),.inv 0 f4,.sl c 114 fo rp,.obj y 111 (.agg (.pair (.at aw (a0,.map (some m))) (.eq z.1)))] (fD 22 z rl) [0,1,2,3,4] ⟨rfl,rfl,rfl,rfl,rfl,rfl,trivial⟩ rfl)
 replace h:=bM (nk hb) h
 refine jI ?_
 refine cC ?_
 refine cC ?_
 refine eH ?_
 refine ag ?_
 show JC _ _ _ _ _
 replace h:((lY k a0 qp ql).bind fun b=>if(!b.2.2.1 || decide (L.1≤b.2.1))=true then some (0,0,0,11) else some (b.1.1,b.1.2,b.2.1,0)).bind some=some r:=h
 obtain⟨b,eb,h⟩:=aa h
 have cx:=wM k a0 qp ql b y m z eb
 refine ar ?_
 refine ab ?_
 refine aC rfl rfl ?_
 refine aF rfl (tQ [.tmp 78] [] [bP y] [] rfl rfl rfl) ⟨rfl,trivial⟩ ?_
 refine bG 3 rfl ?_
 refine cp (dM [13] ⟨rfl,trivial⟩) ?_
 refine aC rfl rfl ?_
 refine cp (bi (Γ':=[(8,.eq (.int .i64 L.1)),(79,.eq (.func (.func 62) #[bP y] #[])),(80,Rs fo qp)]) (pre':=[.inv 0 f4,.obj b2 27 (.rep ak a0),.inv m (bC k a0),.obj y 111 (.agg (.pair (.at aw (a0,.map (some m))) (.eq z.1)))]) [.obj b2 27 (.rep ak a0),.inv m (bC k a0),.inv 0 f4,.obj y 111 (.agg (.pair (.at aw (a0,.map (some m))) (.eq z.1)))] (fD 22 z ql) [2,0,1,3] ⟨rfl,rfl,rfl,trivial⟩ rfl) ?_
 refine cp (fE (Δ':=([.inv m (bC k a0),.obj y 111 (.agg (.pair (.at aw (a0,.map (some m))) (.eq z.1)))]++fD 22 z ql)++[.inv 0 f4,.obj b2 27 (.rep ak a0)]) (List.perm_append_comm (l₁:=([.inv 0 f4,.obj b2 27 (.rep ak a0)]:List D)))) ?_
 refine bN (Δ:=_++_) (F:=[_,_]) (fun _ _ _=>ay rfl _) rfl rfl (eP [.tmp 79,.tmp 80] rfl rfl QU rfl cx) ⟨rfl,rfl,trivial⟩ fun _=>?_
 refine cp (fE (Δ':=[.inv 0 f4,.obj b2 27 (.rep ak a0)]++([.inv m (bC k a0),.obj y 111 (.agg (.pair (.at aw (a0,.map (some m))) (.eq z.1)))]++fD 22 z b.2.2.2)) List.perm_append_comm) ?_
 refine aC rfl rfl ?_
 refine aF rfl (fG rfl rfl) ⟨rfl,trivial⟩ ?_
 refine aF rfl (fG rfl rfl) ⟨rfl,trivial⟩ ?_
 refine aF rfl (fG rfl rfl) ⟨rfl,trivial⟩ ?_
 refine aD rfl rfl rfl (aY rfl tq wq) trivial fun s=>?_
 refine a8 rfl rfl (aX rfl g7 rfl rfl rfl) ⟨rfl,rfl,trivial⟩ ?_
 refine dn rfl rfl ?_
 refine dn rfl rfl ?_
 refine ax ?_
 refine ag ?_
 show JC _ _ _ _ _
 obtain⟨bx,bn,bo,bl⟩:=b
 cases bo with
 |false=>
  replace h:some (0,0,0,11)=some r:=by simpa using h
  obtain rfl:=Option.some.inj h
  refine ar ?_
  refine ar ?_
  refine ab ?_
  refine aC rfl rfl ?_
  refine aF rfl (eW rfl) ⟨rfl,trivial⟩ ?_
  refine aC rfl rfl ?_
  refine zl rfl rfl rfl rfl rfl rfl rfl ?_
  refine zl rfl rfl rfl rfl rfl rfl rfl ?_
  refine zl rfl rfl rfl rfl rfl rfl rfl ?_
  refine aF rfl (gy rfl) ⟨rfl,rfl,trivial⟩ ?_
  refine ax ?_
  refine ag ?_
  show JC _ _ _ _ _
  refine bK rfl (fun hb=>?_) (fun hb=>(by cases hb))
  refine ar ?_
  refine ab ?_
  refine dF rfl ?_
  refine dF rfl ?_
  refine dF rfl ?_
  refine dF rfl ?_
  refine ax ?_
  refine ag ?_
  show JC _ _ _ _ _
  refine bI ?_
  refine eC ?_
  refine bH 1 rfl ?_
  exact aN () [_,_,_,_] 1 ⟨rfl,rfl,rfl,rfl,trivial⟩ rfl
 |true=>
  refine ar ?_
  refine ar ?_
  refine ab ?_
  refine aC rfl rfl ?_
  refine aF rfl (eW rfl) ⟨rfl,trivial⟩ ?_
  refine aC rfl rfl ?_
  refine ng rfl rfl rfl rfl rfl rfl (aL rfl) ⟨rfl,trivial⟩ ?_
  refine ng rfl rfl rfl rfl rfl rfl (aL rfl) ⟨rfl,trivial⟩ ?_
  refine ng rfl rfl rfl rfl rfl rfl (qX rfl) ⟨rfl,rfl,trivial⟩ ?_
  refine aF rfl (mi rfl) ⟨rfl,rfl,trivial⟩ ?_
  refine ax ?_
  refine ag ?_
  show JC _ _ _ _ _
  refine bK rfl (fun hb=>?_) (fun hb=>?_)
  ·
   have hd:L.1≤bn:=of_decide_eq_true hb
   replace h:some (0,0,0,11)=some r:=by simpa [hd] using h
   obtain rfl:=Option.some.inj h
   refine ar ?_
   refine ab ?_
   refine dF rfl ?_
   refine dF rfl ?_
   refine dF rfl ?_
   refine dF rfl ?_
   refine ax ?_
   refine ag ?_
   show JC _ _ _ _ _
   refine bI ?_
   refine eC ?_
   refine bH 1 rfl ?_
   exact aN () [_,_,_,_] 1 ⟨rfl,rfl,rfl,rfl,trivial⟩ rfl
  ·
   have hd:¬L.1≤bn:=of_decide_eq_false hb
   replace h:some (bx.1,bx.2,bn,0)=some r:=by simpa [hd] using h
   refine cR ?_
   refine ag ?_
   obtain rfl:=Option.some.inj h
   show JC _ _ _ _ _
   refine ar ?_
   refine ti (Δ:=[.obj s 114 (.rep fo bx)]) (F:=[.inv 0 f4,.obj b2 27 (.rep ak a0),.inv m (bC k a0),.obj y 111 (.agg (.pair (.at aw (a0,.map (some m))) (.eq z.1)))]++fD 22 z bl) (Z:=Unit) (fun _=>[(4,.eq (.int .i64 bx.1)),(5,.eq (.int .i64 bx.2)),(6,.eq (.int .i64 bn)),(7,.eq (.int .i64 0))]) (fun _=>[.obj s 114 (.rep fo bx)]) (fun S w=>?_) (fun _=>?_)
   ·
    refine dG (SE.sub (Γ':=[(17,.eq (bP s)),(18,.eq (.int .i64 bn))]) ⟨rfl,rfl,trivial⟩) ?_
    refine mD ?_
    refine aR rfl rfl rfl (av rfl Ol) ⟨rfl,trivial⟩ ?_
    refine dt 0 rfl rfl rfl rfl (ai rfl uK jw rfl) ⟨rfl,trivial⟩ ?_
    refine aR rfl rfl rfl (av rfl Oj) ⟨rfl,trivial⟩ ?_
    refine dt 0 rfl rfl rfl rfl (ai rfl uK jw rfl) ⟨rfl,trivial⟩ ?_
    refine aR rfl rfl rfl (aL rfl) ⟨rfl,trivial⟩ ?_
    refine oN 5 [true,true,false,false,false] [4,5,6,7] [0] [.obj s 114 (.rep fo bx)] rfl (by kernel_rfl) (by kernel_rfl) (by kernel_rfl) rH (fun vs hv hB=>?_)
    obtain⟨u0,mc,rfl,O⟩:=ap hv
    obtain⟨u1,ac,rfl,M⟩:=ap O
    obtain⟨u2,Y,rfl,E⟩:=ap M
    obtain⟨u3,X,rfl,x⟩:=ap E
    obtain⟨u4,U,rfl,u⟩:=ap x
    obtain rfl:=lE u
    refine⟨[0],[],by kernel_rfl,by decide,?_⟩
    refine uj rfl rfl rfl rfl (j9 rfl) ⟨rfl,trivial⟩ (by kernel_rfl) ?_
    refine uj rfl rfl rfl rfl (j9 rfl) ⟨rfl,trivial⟩ (by kernel_rfl) ?_
    refine uj rfl rfl rfl rfl (j9 rfl) ⟨rfl,trivial⟩ (by kernel_rfl) ?_
    refine uj rfl rfl rfl rfl (j9 rfl) ⟨rfl,trivial⟩ (by kernel_rfl) ?_
    refine uk ?_
    exact fun a w st=>⟨rfl,(),(SE.fin (Γ':=[(4,.eq (.int .i64 bx.1)),(5,.eq (.int .i64 bx.2)),(6,.eq (.int .i64 bn)),(7,.eq (.int .i64 0))]) [0] ⟨rfl,rfl,rfl,rfl,trivial⟩ rfl) a w st⟩
   ·
    refine ag ?_
    show JC _ _ _ _ _
    refine bI ?_
    refine bH 1 rfl ?_
    exact aN () [_,_,_,_] 1 ⟨rfl,rfl,rfl,rfl,trivial⟩ rfl
def od(k:Nat)(a0:aP)(r7:Int×(List (List Int))):Nat→((List Int)×Int)→Option (List Int)
 |0,_=>none
 |n+1,c=>
  if c.2 < (a0.2.1.length:Int) then((((dY k r7.1 c.2).bind fun j=>
  if j=true then((cU (bm (List.length c.1+List.length [c.2]))).bind fun _=>
  some (c.1++[c.2])) else(some c.1)):Option ((List Int))).bind fun h=>
  (ck (c.2+1)).bind fun e=>
  od k a0 r7 n (h,e)) else(some c.1)
def yk(k:Nat)(a0:aP)(a1:(List (List Int)))(a2:Int):Option ((List Int)×(List (List Int))×Int):=
 (cY k a0 a1).bind fun r2=>
 if¬(r2=0) then(some ([],[],r2)) else((ck (a0.1 - 1)).bind fun x3=>
 (eD k a2 0 x3).bind fun r4=>
 if¬(r4=true) then(some ([],[],3)) else((dZ k a1).bind fun r6=>
 (lB k (a0,()) r6 a2).bind fun r7=>
 ((od k a0 r7 k (([]:(List Int)),0)):Option ((List Int))).bind fun x9=>
 (fp k (a0,()) r7.2).bind fun c=>
 some (x9,c,0)))
theorem BQ(k:Nat)(a0:aP)(a1:(List (List Int)))(a2:Int)(r:(List Int)×(List (List Int))×Int)(h:yk k a0 a1 a2=some r):
 bX Tryz.prog 34 [.rep ak a0,.rep (.slice (.slice (.int .i64))) a1,I a2] [.inv 0 (f4)] (fun _:Unit=>(bj [Ri r.1,.rep (.slice (.slice (.int .i64))) r.2.1,I r.2.2],[.inv 0 (f4)])):=by
 unfold yk at h
 replace h:=a9 h
 refine bX.of 55 Tryz.func34 rfl Tryz.ntmps34 rfl fun S w0=>?_
 refine sr ?_
 refine bx fun b1=>?_
 refine au ?_
 refine lo c6 ?_
 refine mq ?_
 obtain⟨r2,ac,h⟩:=aa h
 have mc:=gh k a0 a1 r2 ac
 refine fr 1 ?_
 refine kb (ao [.tmp 15,.tmp 16] rfl rfl OJ rfl mc) ?_
 refine au ?_
 refine jb (gX rfl) ?_
 refine nt ?_
 refine cn h (fun h=>?_) (fun h=>?_)
 ·
  refine sr (mq ?_);refine cq ?_;refine cq ?_;refine aq (nt (rx ?_));refine bu (lq (t:=(.slice (.int .i64))) (x:=[]) 6 rfl .nil rfl rfl) ?_;refine bu (lq (t:=(.slice (.slice (.int .i64)))) (x:=[]) 7 rfl .nil rfl rfl) ?_;cases h;exact aN () [_,_,_] 1 ⟨rfl,rfl,rfl,trivial⟩ rfl
 ·
  refine au ?_;refine fl gI ?_;refine fr 1 ?_;refine lo ct ?_;obtain⟨x3,Q,h⟩:=aa h;refine jb (fu rfl Q) ?_;obtain⟨r4,Y,h⟩:=aa h;refine jc (ao [.tmp 21,.const (.int .i64 (0)),.tmp 24] rfl rfl AZ rfl (eU k a2 0 x3 r4 Y)) ?_;refine ja (eW rfl) ?_;refine nt (cw h (fun h=>?_) (fun h=>?_))
  ·refine sr (cq ?_);refine cq ?_;refine cq (nt (rx ?_));refine bu (lq (t:=(.slice (.int .i64))) (x:=[]) 6 rfl .nil rfl rfl) ?_;refine bu (lq (t:=(.slice (.slice (.int .i64)))) (x:=[]) 7 rfl .nil rfl rfl) ?_;refine bu (SE.fin (Γ':=[(6,_),(7,_),(8,_)]) [1,0] ⟨rfl,rfl,rfl,trivial⟩ rfl) ?_;cases h;exact aN () [_,_,_] 1 ⟨rfl,rfl,rfl,trivial⟩ rfl
  ·refine au ?_;refine lo c6 ?_;refine aD rfl rfl rfl (ao [.tmp 27] rfl rfl I6 rfl (gq a0)) ⟨rfl,trivial⟩ fun z5=>?_;refine cp (kL (bC k a0) lR) ?_;refine au ?_;obtain⟨r6,X,h⟩:=aa h;refine ja (ao [.tmp 31] rfl rfl F8 rfl (fq k a1 r6 X)) ?_;refine mq ?_;obtain⟨r7,U,h⟩:=aa h;refine jc (cV (N:=[(.tmp 30,.at aw (a0,(.map (some z5)))),(.tmp 32,.rep (.arr 3 (.arr 5 (.int .i64))) r6),(.tmp 33,I a2)]) (ao [.tmp 30,.tmp 32,.tmp 33] rfl rfl Q6 rfl (oQ k (a0,()) r6 a2 r7 U)) fun _ _ _ hn=>⟨(rP hn.1),hn.2.1,hn.2.2.1,trivial⟩) ?_;refine au ?_;refine aD rfl rfl rfl (aY rfl rT s8) trivial fun b8=>?_;refine aq ?_;refine a8 rfl rfl (aX rfl fP rfl rfl rfl) ⟨rfl,rfl,trivial⟩ ?_;refine nt (sr (cq (nt ?_)));refine aI (Z:=Value) (α:=(List Int)) (fun l x9=>[(10,.at aw (a0,(.map (some z5)))),(12,Pt b8),(13,.eq l)]) (fun l x9=>[.obj b8 85 (.rep (.arr 3 (.arr 5 (.int .i64))) r7.2),.sl l 3 (.int .i64) x9,.inv 0 (f4),.inv z5 (bC k a0)]) h (fun K h=>?_) (fun l x9 h=>?_)
   ·refine sr (fl cd ?_);refine fr 2 ?_;refine lo fQ ?_;refine ol nn ?_;refine ff rfl ?_;refine nt (aj (dG (SE.nil 3 (.int .i64)) ?_));refine aK (fun e c=>[(10,.at aw (a0,(.map (some z5)))),(11,.eq (.int .u8 r7.1)),(12,Pt b8),(13,.eq e),(39,I (a0.2.1.length:Int)),(40,I c.2)]) (fun e c=>[.obj b8 85 (.rep (.arr 3 (.arr 5 (.int .i64))) r7.2),.sl e 3 (.int .i64) c.1,.inv 0 (f4),.inv z5 (bC k a0)]) (od k a0 r7) k (.slice none 0 0) (([]:(List Int)),0) (fun _=>rfl) h (SE.fin [2,0,4,3] ⟨rfl,rfl,rfl,rfl,rfl,rfl,trivial⟩ rfl) (fun n e c h=>?_);unfold od at h;refine sr (jb (bq rfl) ?_);refine au ?_;refine ci h (fun h=>?_) (fun h=>?_)
    ·refine sk (aI (Z:=Value) (α:=(List Int)) (fun j s=>[(10,.at aw (a0,(.map (some z5)))),(11,.eq (.int .u8 r7.1)),(12,Pt b8),(13,.eq j),(39,I (a0.2.1.length:Int)),(40,I c.2)]) (fun j s=>[.obj b8 85 (.rep (.arr 3 (.arr 5 (.int .i64))) r7.2),.sl j 3 (.int .i64) s,.inv 0 (f4),.inv z5 (bC k a0)]) h (fun K h=>?_) (fun j s h=>?_))
     ·refine aj (au ?_);obtain⟨O,E,h⟩:=aa h;refine jb (ao [.tmp 43,.tmp 44] rfl rfl LI rfl (iI k r7.1 c.2 O E)) ?_;refine nt (cv h (fun h=>?_) (fun h=>?_))
      ·refine ab (au ?_);refine ja (bg (t:=(.int .i64)) [(.tmp 47,_)] [c.2] rfl rfl dk (.cons rfl .int .nil) rfl rfl) ?_;obtain⟨u16,y,h⟩:=aa h;refine fr 1 ?_;refine cz rfl rfl rfl (bf rfl rfl dk (aA y)) ⟨rfl,rfl,trivial⟩ fun J=>?_;refine au ?_;exact jz (J,c.1++[c.2]) h [1,0,2,3]
      ·refine au ?_;exact jz (e,c.1) h [0,1,2,3]
     ·refine ab ?_;obtain⟨F,u,h⟩:=aa h;refine jb (be rfl u) ?_;refine au ?_;exact jz (j,(s,F)) h [0,1,2,3]
    ·refine au ?_;exact jz (e,c.1) h [0,1,2,3]
   ·refine au ?_;refine lo fP ?_;obtain⟨M,D,h⟩:=aa h;refine aD rfl rfl rfl (cV (N:=[(.tmp 52,.at aw (a0,(.map (some z5)))),(.tmp 53,.rep (.arr 3 (.arr 5 (.int .i64))) r7.2)]) (ao [.tmp 52,.tmp 53] rfl rfl OI rfl (jW k (a0,()) r7.2 M D)) fun _ _ _ hn=>⟨(rP hn.1),hn.2.1,trivial⟩) ⟨rfl,rfl,trivial⟩ fun pp=>?_;refine aq ?_;refine aq ?_;refine cq (nt (bI ?_));refine bH 2 rfl ?_;refine bu (dM [6,13,51] ⟨rfl,rfl,rfl,trivial⟩) ?_;refine bu (dM [7,54] ⟨rfl,rfl,trivial⟩) ?_;refine bu (SE.fin (Γ':=[(6,_),(7,_),(8,_)]) [1,0,2] ⟨rfl,rfl,rfl,trivial⟩ rfl) ?_;cases h;exact aN () [_,_,_] 1 ⟨rfl,rfl,rfl,trivial⟩ rfl
def oc(k:Nat)(a0:(List Int))(a1:dr)(a2:(List (List Int)))(a3:Int)(a4:Int):Option Int:=
 (fp k a1 a2).bind fun r1=>
 (aQ r1 a3).bind fun x3=>
 (dZ k (List.set r1 (Int.toNat a3) a0)).bind fun r4=>
 (f6 k a1 r4 a4).bind fun r5=>
 some r5
theorem uJ(k:Nat)(a0:(List Int))(a1:dr)(l:Nat)(a2:(List (List Int)))(j:Nat)(a3:Int)(e:Nat)(a4:Int)(c:Nat)(r:Int)(h:oc k a0 a1 a2 a3 a4=some r):
 dC (i8 Tryz.prog) 72 [Ri a0,Pt l,Pt j,Pt e,Pt c] [.obj l 80 (.at bD a1),.obj j 85 (.rep (.arr 3 (.arr 5 (.int .i64))) a2),.obj e 3 (I a3),.obj c 3 (I a4)] (fun _:Unit=>(bj [I r],[.obj l 80 (.at bD a1),.obj j 85 (.rep (.arr 3 (.arr 5 (.int .i64))) a2),.obj e 3 (I a3),.obj c 3 (I a4)])):=by
 unfold oc at h
 replace h:=a9 h
 refine dC.of 20 Tryz.func72 rfl Tryz.ntmps72 rfl fun S w0=>?_
 refine au ?_
 refine lo uL ?_
 refine fr 1 ?_
 refine lo fP ?_
 obtain⟨r1,x,h⟩:=aa h
 have E:=jW k a1 a2 r1 x
 refine aD rfl rfl rfl (ao [.tmp 8,.tmp 9] rfl rfl OI rfl E) ⟨rfl,rfl,trivial⟩ fun v2=>?_
 refine aq ?_
 refine nt ?_
 refine sr ?_
 refine mq ?_
 refine fr 3 ?_
 refine lo ct ?_
 refine mq ?_
 obtain⟨x3,n,h⟩:=aa h
 refine fr 1 ?_
 refine kb (aU (t:=(.slice (.int .i64))) rfl pY bZ n) ?_
 refine a8 rfl rfl (cG (i:=Int.toNat a3) rfl bZ rfl (gj n) rfl .rep rfl) ⟨rfl,rfl,trivial⟩ ?_
 refine nt ?_
 refine ar ?_
 refine dG (dM [7,10,11] ⟨rfl,rfl,rfl,trivial⟩) ?_
 refine bJ ?_
 refine ea 2 (ai rfl uL jw rfl) ?_
 refine dm ?_
 obtain⟨r4,u,h⟩:=aa h
 have D:=fq k (List.set r1 (Int.toNat a3) a0) r4 u
 refine da (ao [.tmp 16] rfl rfl F8 rfl D) ?_
 refine ea 3 (ai rfl ct jw rfl) ?_
 refine df cH ?_
 obtain⟨r5,s,h⟩:=aa h
 have y:=mP k a1 r4 a4 r5 s
 refine jc (eP [.tmp 15,.tmp 17,.tmp 18] rfl rfl Q5 rfl y) ?_
 refine aq ?_
 refine nt ?_
 refine bI ?_
 refine bu (SE.fin (Γ':=[(6,_)]) [2,1,0,3] ⟨rfl,trivial⟩ rfl) ?_
 cases h
 exact aN () [_] 4 ⟨rfl,trivial⟩ rfl
def iz(k:Nat)(a0_0:dr)(a0_1:(List (List Int)))(a0_2:Int)(a0_3:Int)(a1:(List (List Int))):Nat→((List Int)×Int×Bool×Int)→Option ((List Int)×Int×Bool)
 |0,_=>none
 |n+1,y3=>
  if y3.2.2.2 < (a1.length:Int) then((((aQ a1 y3.2.2.2).bind fun x7=>
  (oc k x7 a0_0 a0_1 a0_2 a0_3).bind fun r8=>
  ((if¬(y3.2.2.1=true) then(some true) else(some (decide (r8 < y3.2.1)))):Option (Bool)).bind fun x9=>
  if x9=true then(some (x7,r8,true)) else(some (y3.1,y3.2.1,y3.2.2.1))):Option ((List Int)×Int×Bool)).bind fun x5=>
  (ck (y3.2.2.2+1)).bind fun c=>
  iz k a0_0 a0_1 a0_2 a0_3 a1 n (x5.1,x5.2.1,x5.2.2,c)) else(some (y3.1,y3.2.1,y3.2.2.1))
def lZ(k:Nat)(a0_0:dr)(a0_1:(List (List Int)))(a0_2:Int)(a0_3:Int)(a1:(List (List Int))):Option ((List Int)×Int×Bool):=
 ((iz k a0_0 a0_1 a0_2 a0_3 a1 k ([],0,false,0)):Option ((List Int)×Int×Bool)).bind fun x1=>
 some (x1.1,x1.2.1,x1.2.2)
theorem sb(k:Nat)(a0_0:dr)(c_a0_0:Nat)(a0_1:(List (List Int)))(c_a0_1:Nat)(a0_2:Int)(c_a0_2:Nat)(a0_3:Int)(c_a0_3:Nat)(a1:(List (List Int)))(r:(List Int)×Int×Bool)(h:lZ k a0_0 a0_1 a0_2 a0_3 a1=some r):
 dC (i8 Tryz.prog) 74 [.eq (.func (.func 72) #[] #[(Pv c_a0_0),(Pv c_a0_1),(Pv c_a0_2),(Pv c_a0_3)]),.rep (.slice (.slice (.int .i64))) a1] [.obj c_a0_0 80 (.at bD a0_0),.obj c_a0_1 85 (.rep (.arr 3 (.arr 5 (.int .i64))) a0_1),.obj c_a0_2 3 (I a0_2),.obj c_a0_3 3 (I a0_3)] (fun _:Unit=>(bj [Ri r.1,I r.2.1,.eq (.bool r.2.2)],[.obj c_a0_0 80 (.at bD a0_0),.obj c_a0_1 85 (.rep (.arr 3 (.arr 5 (.int .i64))) a0_1),.obj c_a0_2 3 (I a0_2),.obj c_a0_3 3 (I a0_3)])):=by
 unfold lZ at h
 replace h:=a9 h
 refine dC.of 35 Tryz.func74 rfl Tryz.ntmps74 rfl fun S w0=>?_
 refine sr ?_
 refine cq ?_
 refine cq ?_
 refine cq ?_
 refine nt ?_
 refine sr ?_
 refine cq ?_
 refine nt ?_
 refine sr ?_
 refine cq ?_
 refine cq ?_
 refine nt ?_
 refine aI (Z:=Unit) (α:=(List Int)×Int×Bool) (fun z2 x1=>[(7,Ri x1.1),(8,I x1.2.1),(9,.eq (.bool x1.2.2))]) (fun z2 x1=>[.obj c_a0_0 80 (.at bD a0_0),.obj c_a0_1 85 (.rep (.arr 3 (.arr 5 (.int .i64))) a0_1),.obj c_a0_2 3 (I a0_2),.obj c_a0_3 3 (I a0_3)]) h (fun K h=>?_) (fun z2 x1 h=>?_)
 ·
  refine au ?_;refine ol pY ?_;refine ff rfl ?_;refine nt (aj (dG (lq (t:=(.slice (.int .i64))) (x:=[]) 7 rfl .nil rfl rfl) ?_));refine aK (fun z4 y3=>[(0,.eq (.func (.func 72) #[] #[(Pv c_a0_0),(Pv c_a0_1),(Pv c_a0_2),(Pv c_a0_3)])),(7,Ri y3.1),(8,I y3.2.1),(9,.eq (.bool y3.2.2.1)),(13,.rep (.slice (.slice (.int .i64))) a1),(14,I (a1.length:Int)),(15,I y3.2.2.2)]) (fun z4 y3=>[.obj c_a0_0 80 (.at bD a0_0),.obj c_a0_1 85 (.rep (.arr 3 (.arr 5 (.int .i64))) a0_1),.obj c_a0_2 3 (I a0_2),.obj c_a0_3 3 (I a0_3)]) (iz k a0_0 a0_1 a0_2 a0_3 a1) k () ([],0,false,0) (fun _=>rfl) h (SE.fin [0,1,2,3] ⟨rfl,rfl,rfl,rfl,rfl,rfl,rfl,trivial⟩ rfl) (fun n z4 y3 h=>?_);unfold iz at h;refine sr (jb (bq rfl) ?_);refine au ?_;refine ci h (fun h=>?_) (fun h=>?_)
  ·refine sk (aI (Z:=Unit) (α:=(List Int)×Int×Bool) (fun z6 x5=>[(0,.eq (.func (.func 72) #[] #[(Pv c_a0_0),(Pv c_a0_1),(Pv c_a0_2),(Pv c_a0_3)])),(7,Ri x5.1),(8,I x5.2.1),(9,.eq (.bool x5.2.2)),(13,.rep (.slice (.slice (.int .i64))) a1),(14,I (a1.length:Int)),(15,I y3.2.2.2)]) (fun z6 x5=>[.obj c_a0_0 80 (.at bD a0_0),.obj c_a0_1 85 (.rep (.arr 3 (.arr 5 (.int .i64))) a0_1),.obj c_a0_2 3 (I a0_2),.obj c_a0_3 3 (I a0_3)]) h (fun K h=>?_) (fun z6 x5 h=>?_))
   ·refine aj (sr ?_);obtain⟨x7,l,h⟩:=aa h;refine jb (aH (t:=(.slice (.int .i64))) rfl pY bZ l) ?_;refine ja (an (t:=(.slice (.int .i64))) rfl bZ rfl) ?_;refine aq (nt (sr ?_));iterate 2 refine mq ?_
    obtain⟨r8,u,h⟩:=aa h;refine fr 3 ?_;refine fr 3 ?_;refine fr 3 ?_;refine fr 3 ?_;refine bN (Δ:=[_,_,_,_]) (F:=_) (fun _ _ _=>ay rfl _) rfl rfl (pC (fs:=[]) (cs:=[(Pv c_a0_0),(Pv c_a0_1),(Pv c_a0_2),(Pv c_a0_3)]) (ags:=[Ri x7]) [.tmp 20] rfl rfl T8 rfl (uJ k x7 a0_0 c_a0_0 a0_1 c_a0_1 a0_2 c_a0_2 a0_3 c_a0_3 r8 u)) ⟨rfl,rfl,trivial⟩ fun _=>?_;refine aq (nt ?_);refine aI (Z:=Unit) (α:=Bool) (fun c x9=>[(0,.eq (.func (.func 72) #[] #[(Pv c_a0_0),(Pv c_a0_1),(Pv c_a0_2),(Pv c_a0_3)])),(7,Ri y3.1),(8,I y3.2.1),(9,.eq (.bool y3.2.2.1)),(11,Ri x7),(12,I r8),(13,.rep (.slice (.slice (.int .i64))) a1),(14,I (a1.length:Int)),(15,I y3.2.2.2),(28,.eq (.bool x9))]) (fun c x9=>[.obj c_a0_0 80 (.at bD a0_0),.obj c_a0_1 85 (.rep (.arr 3 (.arr 5 (.int .i64))) a0_1),.obj c_a0_2 3 (I a0_2),.obj c_a0_3 3 (I a0_3)]) h (fun K h=>?_) (fun c x9 h=>?_)
    ·refine ab (mq ?_);refine ja (eW rfl) ?_;refine mq ?_;refine cg (s:=24) rfl (fun hb=>?_) (fun hb=>?_)
     ·replace h:=cF (FG hb) h;refine au ?_;exact jz ((),true) h [0,1,2,3]
     ·replace h:=bM (xp hb) h;refine au ?_;refine gb (bq rfl) ?_;refine au ?_;exact jz ((),decide (r8 < y3.2.1)) h [0,1,2,3]
    ·refine cv h (fun h=>?_) (fun h=>?_)
     ·refine ab (au ?_);exact jz ((),(x7,r8,true)) h [0,1,2,3]
     ·refine au ?_;exact jz ((),(y3.1,y3.2.1,y3.2.2.1)) h [0,1,2,3]
   ·refine ab ?_;obtain⟨j,e,h⟩:=aa h;refine jb (be rfl e) ?_;refine au ?_;exact jz ((),(x5.1,x5.2.1,x5.2.2,j)) h [0,1,2,3]
  ·refine au ?_;exact jz ((),(y3.1,y3.2.1,y3.2.2.1)) h [0,1,2,3]
 ·
  refine au ?_;cases h;exact aN () [_,_,_] 4 ⟨rfl,rfl,rfl,trivial⟩ rfl
def ri(k:Nat)(a0:aP)(a1:(List (List Int)))(a2:Int)(a3:Int):Option ((List Int)×Int×Int):=
 (cY k a0 a1).bind fun r4=>
 if¬(r4=0) then(some ([],0,r4)) else((((ck ((a0.2.2.length:Int) - 1)).bind fun x7=>
 (eD k a2 0 x7).bind fun r8=>
 if¬(r8=true) then(some true) else((eD k a3 0 a0.1).bind fun r9=>
 some (!r9))):Option (Bool)).bind fun x5=>
 if x5=true then(some ([],0,3)) else((dZ k a1).bind fun n=>
 (lV k (a0,()) n a3).bind fun e=>
 (dU k e a2).bind fun l=>
 (l8 k l).bind fun j=>
 (lX k k j).bind fun h=>
 (lZ k (a0,()) e a2 a3 h).bind fun c=>
 some (c.1,c.2.1,0)))
theorem wN(k:Nat)(a0:aP)(a1:(List (List Int)))(a2:Int)(a3:Int)(r:(List Int)×Int×Int)(h:ri k a0 a1 a2 a3=some r):
 dC (i8 Tryz.prog) 38 [.rep ak a0,.rep (.slice (.slice (.int .i64))) a1,I a2,I a3] [.inv 0 (f4)] (fun _:Unit=>(bj [Ri r.1,I r.2.1,I r.2.2],[.inv 0 (f4)])):=by
 unfold ri at h
 replace h:=a9 h
 refine dC.of 60 Tryz.func38 rfl Tryz.ntmps38 rfl fun S w0=>?_
 refine sr ?_
 refine bx fun b1=>?_
 refine bx fun b2=>?_
 refine bx fun b3=>?_
 refine cq ?_
 refine cq ?_
 refine cq ?_
 refine nt ?_
 refine ar ?_
 refine sr ?_
 refine fr 2 ?_
 refine lo c6 ?_
 refine mq ?_
 obtain⟨r4,U8,h⟩:=aa h
 have Va:=gh k a0 a1 r4 U8
 refine fr 3 ?_
 refine kb (ao [.tmp 18,.tmp 19] rfl rfl OJ rfl Va) ?_
 refine au ?_
 refine jb (gX rfl) ?_
 refine nt ?_
 refine cn h (fun h=>?_) (fun h=>?_)
 ·
  refine sr (mq ?_);refine cq ?_;refine cq ?_;refine aq (nt (rx ?_));refine bu (lq (t:=(.slice (.int .i64))) (x:=[]) 8 rfl .nil rfl rfl) ?_;cases h;exact aN () [_,_,_] 1 ⟨rfl,rfl,rfl,trivial⟩ rfl
 ·
  refine sk (ar (aI (Z:=Unit) (α:=Bool) (fun z6 x5=>[(1,.rep (.slice (.slice (.int .i64))) a1),(4,Pt b1),(6,Pt b2),(7,Pt b3),(37,.eq (.bool x5))]) (fun z6 x5=>[.obj b1 27 (.rep ak a0),.obj b2 3 (I a2),.obj b3 3 (I a3),.inv 0 (f4)]) h (fun K h=>?_) (fun z6 x5 h=>?_)))
  ·refine ab (fr 3 ?_);refine lo ct ?_;refine fl cM ?_;refine fr 2 ?_;refine lo bZ ?_;refine ol dP ?_;obtain⟨x7,U4,h⟩:=aa h;refine jb (fu rfl U4) ?_;obtain⟨r8,U7,h⟩:=aa h;refine jc (ao [.tmp 24,.const (.int .i64 (0)),.tmp 28] rfl rfl AZ rfl (eU k a2 0 x7 r8 U7)) ?_;refine ja (eW rfl) ?_;refine mq ?_;refine cg (s:=31) rfl (fun hb=>?_) (fun hb=>?_)
   ·replace h:=cF (FG hb) h;refine au ?_;exact jz ((),true) h [0,1,3,2]
   ·replace h:=bM (xp hb) h;refine fr 3 ?_;refine jr rfl rfl rfl rfl rfl rfl (ai rfl ct jw rfl) ⟨rfl,trivial⟩ ?_;refine ga (av rfl gI) ?_;refine fr 1 ?_;refine jr rfl rfl rfl rfl rfl rfl (ai rfl ct jw rfl) ⟨rfl,trivial⟩ ?_;obtain⟨r9,U6,h⟩:=aa h;refine gc (ao [.tmp 32,.const (.int .i64 (0)),.tmp 34] rfl rfl AZ rfl (eU k a3 0 a0.1 r9 U6)) ?_;refine ga (eW rfl) ?_;refine au ?_;exact jz ((), !r9) h [0,2,1,3]
  ·refine cv h (fun h=>?_) (fun h=>?_)
   ·refine sr (cq ?_);refine cq ?_;refine cq (nt (rx ?_));refine bu (lq (t:=(.slice (.int .i64))) (x:=[]) 8 rfl .nil rfl rfl) ?_;refine bu (SE.fin (Γ':=[(8,_),(9,_),(10,_)]) [3,0,1,2] ⟨rfl,rfl,rfl,trivial⟩ rfl) ?_;cases h;exact aN () [_,_,_] 1 ⟨rfl,rfl,rfl,trivial⟩ rfl
   ·refine au ?_;refine lo c6 ?_;refine aD rfl rfl rfl (ao [.tmp 38] rfl rfl I6 rfl (gq a0)) ⟨rfl,trivial⟩ fun c=>?_;refine cp (kL (bC k a0) lR) ?_;refine aD rfl rfl rfl (aY rfl PK RN) trivial fun j=>?_;refine a8 rfl rfl (aX rfl uL trivial rfl rfl) ⟨rfl,rfl,trivial⟩ ?_;refine au ?_;refine mD ?_;refine dt 0 rfl rfl rfl rfl (ai rfl uL jw rfl) ⟨rfl,trivial⟩ ?_;refine aR rfl rfl rfl (aL rfl) ⟨rfl,trivial⟩ ?_;obtain⟨u,U,h⟩:=aa h;refine aR rfl rfl rfl (ao [.tmp 41] rfl rfl F8 rfl (fq k a1 u U)) ⟨rfl,trivial⟩ ?_;refine dt 4 rfl rfl rfl rfl (ai rfl ct jw rfl) ⟨rfl,trivial⟩ ?_;obtain⟨l,Q,h⟩:=aa h;refine aR rfl rfl rfl (cV (N:=[(.tmp 40,.at aw (a0,(.map (some c)))),(.tmp 42,.rep (.arr 3 (.arr 5 (.int .i64))) u),(.tmp 43,I a3)]) (ao [.tmp 40,.tmp 42,.tmp 43] rfl rfl Uf rfl (sa k (a0,()) u a3 l Q)) fun _ _ _ hn=>⟨(rP hn.1),hn.2.1,hn.2.2.1,trivial⟩) ⟨rfl,rfl,rfl,trivial⟩ ?_;refine zn (NN 85 (.rep (.arr 3 (.arr 5 (.int .i64))) [[0,0,0,0,0],[0,0,0,0,0],[0,0,0,0,0]])) (fun _=>rfl) rfl rfl rfl (aY rfl rT s8) trivial ?_;refine oN 6 [true,true,true,true,true,true] [] [] [] rfl (by kernel_rfl) (by kernel_rfl) (by kernel_rfl) cH (fun vs hv hB=>?_);obtain⟨w0,Vi,rfl,se⟩:=ap hv;obtain⟨w1,Vh,rfl,qt⟩:=ap se;obtain⟨w2,Vg,rfl,pp⟩:=ap qt;obtain⟨w3,Vf,rfl,mc⟩:=ap pp;obtain⟨w4,Ve,rfl,ac⟩:=ap mc;obtain⟨w5,Vd,rfl,Y⟩:=ap ac;obtain rfl:=lE Y;obtain⟨e,rfl⟩:=NL hB.2.2.2.2.2.1;refine⟨[0,1,2,3,4,5,6],[.obj j 80 (.at aw (a0,(.map (some c)))),.inv c (bC k a0),.obj b1 27 (.rep ak a0),.obj b2 3 (I a2),.obj b3 3 (I a3),.inv 0 (f4),.obj e 85 (.rep (.arr 3 (.arr 5 (.int .i64))) [[0,0,0,0,0],[0,0,0,0,0],[0,0,0,0,0]])],by kernel_rfl,by decide,?_⟩;refine jA 6 rfl ?_;refine rR rfl rfl (aX rfl fP rfl rfl rfl) ⟨rfl,rfl,trivial⟩ (by kernel_rfl) ?_;refine uk ?_;refine bu (SE.fin (Γ':=[(6,Pt b2),(7,Pt b3),(12,Pt j),(13,Pt e)]) (Δ':=[.obj e 85 (.rep (.arr 3 (.arr 5 (.int .i64))) l),.obj j 80 (.at aw (a0,(.map (some c)))),.inv c (bC k a0),.obj b1 27 (.rep ak a0),.obj b2 3 (I a2),.obj b3 3 (I a3),.inv 0 (f4)]) [0,1,2,3,4,5,6] ⟨rfl,rfl,rfl,rfl,trivial⟩ rfl) ?_;refine au ?_;refine aF rfl (tQ [] [.tmp 12,.tmp 13,.tmp 6,.tmp 7] [] [(Pv j),(Pv e),(Pv b2),(Pv b3)] rfl rfl rfl) ⟨rfl,rfl,rfl,rfl,trivial⟩ ?_;refine au ?_;refine lo fP ?_;refine fr 4 ?_;refine lo ct ?_;obtain⟨n,O,h⟩:=aa h;refine jb (ao [.tmp 48,.tmp 49] rfl rfl LH rfl (gr k l a2 n O)) ?_;refine aD rfl rfl rfl (ao [.tmp 50] rfl rfl TX rfl (sn n)) ⟨rfl,trivial⟩ fun Vb=>?_;obtain⟨D,M,h⟩:=aa h;refine ka (ao [.tmp 51] rfl rfl TY rfl (so k n Vb D M)) ?_;obtain⟨y,J,h⟩:=aa h;refine ja (ao [.tmp 52] rfl rfl Q4 rfl (wL k k D y J)) ?_;refine fr 3 ?_;refine cp (qL (a:=.at aw (a0,(.map (some c)))) (a':=.at bD (a0,())) O3) ?_;obtain⟨X,E,h⟩:=aa h
    refine fr 6 ?_;refine fr 3 ?_;refine fr 4 ?_;refine fr 3 ?_;refine bN (Δ:=[_,_,_,_]) (F:=_) (fun _ _ _=>ay rfl _) rfl rfl (eP [.tmp 47,.tmp 53] rfl rfl TZ rfl (sb k (a0,()) j l e a2 b2 a3 b3 y X E)) ⟨rfl,rfl,trivial⟩ fun _=>?_;refine mq ?_;refine xr ?_;refine xr ?_;refine xr ?_;refine aq ?_;refine aq ?_;refine aq (nt (sr ?_));iterate 2 refine mq ?_
    refine aq ?_;refine aq ?_;refine cq (nt (bI ?_));refine bu (SE.fin (Γ':=[(8,_),(9,_),(10,_)]) [7,0,1,2,3,4,5,6] ⟨rfl,rfl,rfl,trivial⟩ rfl) ?_;cases h;exact aN () [_,_,_] 1 ⟨rfl,rfl,rfl,trivial⟩ rfl
def kC(k:Nat):Option Bool:=
 (kZ k ([]:(List Int))).bind fun r1=>
 (xE k).bind fun r2=>
 (yk k r1 r2 1).bind fun r3=>
 (kZ k ([]:(List Int))).bind fun r4=>
 (xE k).bind fun r5=>
 (qk k r4 r5).bind fun r6=>
 (kZ k ([]:(List Int))).bind fun r7=>
 (iL k r7).bind fun r8=>
 (kZ k ([]:(List Int))).bind fun r9=>
 (IB k).bind fun E=>
 (vn k r9 E).bind fun c=>
 (kZ k ([]:(List Int))).bind fun D=>
 (xE k).bind fun y=>
 (ri k D y 0 1).bind fun h=>
 (kZ k ([]:(List Int))).bind fun x=>
 (xE k).bind fun u=>
 (tD k x u).bind fun e=>
 ((if r3.2.2=0 then(if r6.2=0 then(if r8.2.2=0 then(if c.2.2.2=0 then(if h.2.2=0 then(if e.2=0 then(if r6.1=3 then(if r8.2.1=0 then(if c.1=0 then(if c.2.1=2 then(if c.2.2.1=1 then(if h.2.1=2 then((cU (Nc e.1=true)).bind fun _=>
 if I2 e.1 (⟨#[98,97,100,47,99]⟩:ByteArray)=true then((dV k r3.1 [0]).bind fun s=>
 if s=true then((f9 k r3.2.1 [[0,1,3],[2]]).bind fun r=>
 if r=true then((f9 k r8.1 [[2,0],[1,3]]).bind fun n=>
 if n=true then((dV k h.1 [0,1,3]).bind fun l=>
 some l) else(some false)) else(some false)) else(some false)) else(some false)) else(some false)) else(some false)) else(some false)) else(some false)) else(some false)) else(some false)) else(some false)) else(some false)) else(some false)) else(some false)) else(some false)) else(some false)):Option (Bool)).bind fun j=>
 some j
theorem qZ(k:Nat)(r:Bool)(h:kC k=some r):
 dC (i8 Tryz.prog) 9 [] [.inv 0 (f4)] (fun _:Unit=>(bj [.eq (.bool r)],[.inv 0 (f4)])):=by
 unfold kC at h
 replace h:=a9 h
 refine dC.of 132 Tryz.func9 rfl Tryz.ntmps9 rfl fun S w0=>?_
 refine au ?_
 obtain⟨r1,Vr,h⟩:=aa h
 have VA:=jR k ([]:(List Int)) r1 Vr
 refine ja (cV (N:=[(.const (.slice none 0 0),.eq (.slice none 0 0))]) (ao [.const (.slice none 0 0)] rfl rfl F9 rfl VA) fun _ _ _ hn=>⟨(fL (t:=(.slice (.int .i64))) (x:=([]:(List Int))) .nil rfl rfl hn.1),trivial⟩) ?_
 obtain⟨r2,Vq,h⟩:=aa h
 have Vz:=sL k r2 Vq
 refine aF rfl (ao [] rfl rfl LJ rfl Vz) trivial ?_
 obtain⟨r3,Vp,h⟩:=aa h
 have Vy:=BQ k r1 r2 1 r3 Vp
 refine kc (ao [.tmp 19,.tmp 20,.const (.int .i64 (1))] rfl rfl Ui rfl Vy) ?_
 refine au ?_
 obtain⟨r4,Vo,h⟩:=aa h
 have Vx:=jR k ([]:(List Int)) r4 Vo
 refine ja (cV (N:=[(.const (.slice none 0 0),.eq (.slice none 0 0))]) (ao [.const (.slice none 0 0)] rfl rfl F9 rfl Vx) fun _ _ _ hn=>⟨(fL (t:=(.slice (.int .i64))) (x:=([]:(List Int))) .nil rfl rfl hn.1),trivial⟩) ?_
 obtain⟨r5,Vn,h⟩:=aa h
 have Vw:=sL k r5 Vn
 refine aF rfl (ao [] rfl rfl LJ rfl Vw) trivial ?_
 obtain⟨r6,Vm,h⟩:=aa h
 have Vv:=sf k r4 r5 r6 Vm
 refine kb (eP [.tmp 26,.tmp 27] rfl rfl Ut rfl Vv) ?_
 refine au ?_
 obtain⟨r7,Vl,h⟩:=aa h
 have Vu:=jR k ([]:(List Int)) r7 Vl
 refine ja (cV (N:=[(.const (.slice none 0 0),.eq (.slice none 0 0))]) (ao [.const (.slice none 0 0)] rfl rfl F9 rfl Vu) fun _ _ _ hn=>⟨(fL (t:=(.slice (.int .i64))) (x:=([]:(List Int))) .nil rfl rfl hn.1),trivial⟩) ?_
 obtain⟨r8,Vk,h⟩:=aa h
 have Vt:=po k r7 r8 Vk
 refine ja (eP [.tmp 32] rfl rfl OK rfl Vt) ?_
 refine au ?_
 obtain⟨r9,Vj,h⟩:=aa h
 have Vs:=jR k ([]:(List Int)) r9 Vj
 refine ja (cV (N:=[(.const (.slice none 0 0),.eq (.slice none 0 0))]) (ao [.const (.slice none 0 0)] rfl rfl F9 rfl Vs) fun _ _ _ hn=>⟨(fL (t:=(.slice (.int .i64))) (x:=([]:(List Int))) .nil rfl rfl hn.1),trivial⟩) ?_
 obtain⟨E,qt,h⟩:=aa h
 have Vd:=IA k E qt
 refine aF rfl (ao [] rfl rfl Uh rfl Vd) trivial ?_
 obtain⟨Vi,pp,h⟩:=aa h
 have Vb:=zL k r9 E Vi pp
 refine kb (eP [.tmp 38,.tmp 39] rfl rfl Uk rfl Vb) ?_
 refine au ?_
 obtain⟨D,mc,h⟩:=aa h
 have Va:=jR k ([]:(List Int)) D mc
 refine ja (cV (N:=[(.const (.slice none 0 0),.eq (.slice none 0 0))]) (ao [.const (.slice none 0 0)] rfl rfl F9 rfl Va) fun _ _ _ hn=>⟨(fL (t:=(.slice (.int .i64))) (x:=([]:(List Int))) .nil rfl rfl hn.1),trivial⟩) ?_
 obtain⟨y,ac,h⟩:=aa h
 have U8:=sL k y ac
 refine aF rfl (ao [] rfl rfl LJ rfl U8) trivial ?_
 obtain⟨u,Y,h⟩:=aa h
 have U7:=wN k D y 0 1 u Y
 refine bW rfl rfl rfl (eP [.tmp 46,.tmp 47,.const (.int .i64 (0)),.const (.int .i64 (1))] rfl rfl Ug rfl U7) ⟨rfl,rfl,rfl,rfl,trivial⟩ ?_
 refine au ?_
 obtain⟨n,X,h⟩:=aa h
 have U6:=jR k ([]:(List Int)) n X
 refine ja (cV (N:=[(.const (.slice none 0 0),.eq (.slice none 0 0))]) (ao [.const (.slice none 0 0)] rfl rfl F9 rfl U6) fun _ _ _ hn=>⟨(fL (t:=(.slice (.int .i64))) (x:=([]:(List Int))) .nil rfl rfl hn.1),trivial⟩) ?_
 obtain⟨l,U,h⟩:=aa h
 have U4:=sL k l U
 refine aF rfl (ao [] rfl rfl LJ rfl U4) trivial ?_
 obtain⟨Vh,Q,h⟩:=aa h
 have se:=yj k n l Vh Q
 refine kb (ao [.tmp 53,.tmp 54] rfl rfl Ur rfl se) ?_
 refine mq ?_
 refine xr ?_
 refine xr ?_
 refine aq ?_
 refine aq ?_
 refine nt ?_
 refine aI (Z:=Unit) (α:=Bool) (fun e c=>[(0,.eq (.bool c))]) (fun e c=>[.inv 0 (f4)]) h (fun K h=>?_) (fun e c h=>?_)
 ·
  refine ab (mq ?_);refine jb (dO rfl) ?_;refine mq ?_;refine cg (s:=60) rfl (fun hb=>?_) (fun hb=>?_)
  ·replace h:=cF (nX hb) h;refine gm ?_;refine gb (dO rfl) ?_;refine pt ?_;refine mq ?_;refine cg (s:=64) rfl (fun hb=>?_) (fun hb=>?_)
   ·replace h:=cF (nX hb) h;refine gm ?_;refine gb (dO rfl) ?_;refine pt ?_;refine mq ?_;refine cg (s:=68) rfl (fun hb=>?_) (fun hb=>?_)
    ·replace h:=cF (nX hb) h;refine gm ?_;refine gb (dO rfl) ?_;refine pt ?_;refine mq ?_;refine cg (s:=72) rfl (fun hb=>?_) (fun hb=>?_)
     ·replace h:=cF (nX hb) h;refine gm ?_;refine gb (dO rfl) ?_;refine pt ?_;refine mq ?_;refine cg (s:=76) rfl (fun hb=>?_) (fun hb=>?_)
      ·replace h:=cF (nX hb) h;refine gm ?_;refine gb (dO rfl) ?_;refine pt ?_;refine mq ?_;refine cg (s:=80) rfl (fun hb=>?_) (fun hb=>?_)
       ·replace h:=cF (nX hb) h;refine gm ?_;refine gb (dO rfl) ?_;refine pt ?_;refine mq ?_;refine cg (s:=84) rfl (fun hb=>?_) (fun hb=>?_)
        ·replace h:=cF (nX hb) h;refine gm ?_;refine gb (dO rfl) ?_;refine pt ?_;refine mq ?_;refine cg (s:=88) rfl (fun hb=>?_) (fun hb=>?_)
         ·replace h:=cF (nX hb) h;refine gm ?_;refine gb (dO rfl) ?_;refine pt ?_;refine mq ?_;refine cg (s:=92) rfl (fun hb=>?_) (fun hb=>?_)
          ·replace h:=cF (nX hb) h;refine gm ?_;refine gb (dO rfl) ?_;refine pt ?_;refine mq ?_;refine cg (s:=96) rfl (fun hb=>?_) (fun hb=>?_)
           ·replace h:=cF (nX hb) h;refine gm ?_;refine gb (dO rfl) ?_;refine pt ?_;refine mq ?_;refine cg (s:=100) rfl (fun hb=>?_) (fun hb=>?_)
            ·replace h:=cF (nX hb) h;refine gm ?_;refine gb (dO rfl) ?_;refine pt ?_;refine mq ?_;refine cg (s:=104) rfl (fun hb=>?_) (fun hb=>?_)
             ·replace h:=cF (nX hb) h;refine gm ?_;obtain⟨VB,F,h⟩:=aa h;refine gb (HT rfl (aA F)) ?_;refine pt ?_;refine mq ?_;refine cg (s:=108) rfl (fun hb=>?_) (fun hb=>?_)
              ·replace h:=cF (DO hb) h;refine gm ?_;refine ga (bg (t:=(.int .i64)) [(.const (.int .i64 (0)),_)] [0] rfl rfl dk (.cons rfl .int .nil) rfl rfl) ?_;obtain⟨Vg,O,h⟩:=aa h;refine gb (ao [.tmp 109,.tmp 110] rfl rfl I8 rfl (ik k r3.1 [0] Vg O)) ?_;refine pt ?_;refine mq ?_;refine cg (s:=113) rfl (fun hb=>?_) (fun hb=>?_)
               ·replace h:=cF (DO hb) h;refine gm ?_;refine gc (bg (t:=(.int .i64)) [(.const (.int .i64 (0)),_),(.const (.int .i64 (1)),_),(.const (.int .i64 (3)),_)] [0,1,3] rfl rfl dk (.cons rfl .int (.cons rfl .int (.cons rfl .int .nil))) rfl rfl) ?_;refine ga (bg (t:=(.int .i64)) [(.const (.int .i64 (2)),_)] [2] rfl rfl dk (.cons rfl .int .nil) rfl rfl) ?_;refine gb (bg (t:=(.slice (.int .i64))) [(.tmp 115,_),(.tmp 116,_)] [[0,1,3],[2]] rfl rfl mI (.cons rfl .rep (.cons rfl .rep .nil)) rfl rfl) ?_;obtain⟨Vf,M,h⟩:=aa h;refine gb (ao [.tmp 114,.tmp 117] rfl rfl OL rfl (kE k r3.2.1 [[0,1,3],[2]] Vf M)) ?_;refine pt ?_;refine mq ?_;refine cg (s:=120) rfl (fun hb=>?_) (fun hb=>?_)
                ·replace h:=cF (DO hb) h;refine gm ?_;refine gb (bg (t:=(.int .i64)) [(.const (.int .i64 (2)),_),(.const (.int .i64 (0)),_)] [2,0] rfl rfl dk (.cons rfl .int (.cons rfl .int .nil)) rfl rfl) ?_;refine gb (bg (t:=(.int .i64)) [(.const (.int .i64 (1)),_),(.const (.int .i64 (3)),_)] [1,3] rfl rfl dk (.cons rfl .int (.cons rfl .int .nil)) rfl rfl) ?_;refine gb (bg (t:=(.slice (.int .i64))) [(.tmp 122,_),(.tmp 123,_)] [[2,0],[1,3]] rfl rfl mI (.cons rfl .rep (.cons rfl .rep .nil)) rfl rfl) ?_;obtain⟨Ve,J,h⟩:=aa h;refine gb (ao [.tmp 121,.tmp 124] rfl rfl OL rfl (kE k r8.1 [[2,0],[1,3]] Ve J)) ?_;refine pt ?_;refine mq ?_;refine cg (s:=127) rfl (fun hb=>?_) (fun hb=>?_)
                 ·replace h:=cF (DO hb) h;refine gm ?_;refine gc (bg (t:=(.int .i64)) [(.const (.int .i64 (0)),_),(.const (.int .i64 (1)),_),(.const (.int .i64 (3)),_)] [0,1,3] rfl rfl dk (.cons rfl .int (.cons rfl .int (.cons rfl .int .nil))) rfl rfl) ?_;obtain⟨j,I,h⟩:=aa h;refine gb (ao [.tmp 128,.tmp 129] rfl rfl I8 rfl (ik k u.1 [0,1,3] j I)) ?_;refine au ?_;exact jz ((),j) h [0]
                 ·replace h:=bM (DT hb) h;refine au ?_;exact jz ((),false) h [0]
                ·replace h:=bM (DT hb) h;refine au ?_;exact jz ((),false) h [0]
               ·replace h:=bM (DT hb) h;refine au ?_;exact jz ((),false) h [0]
              ·replace h:=bM (DT hb) h;refine au ?_;exact jz ((),false) h [0]
             ·replace h:=bM (nk hb) h;refine au ?_;exact jz ((),false) h [0]
            ·replace h:=bM (nk hb) h;refine au ?_;exact jz ((),false) h [0]
           ·replace h:=bM (nk hb) h;refine au ?_;exact jz ((),false) h [0]
          ·replace h:=bM (nk hb) h;refine au ?_;exact jz ((),false) h [0]
         ·replace h:=bM (nk hb) h;refine au ?_;exact jz ((),false) h [0]
        ·replace h:=bM (nk hb) h;refine au ?_;exact jz ((),false) h [0]
       ·replace h:=bM (nk hb) h;refine au ?_;exact jz ((),false) h [0]
      ·replace h:=bM (nk hb) h;refine au ?_;exact jz ((),false) h [0]
     ·replace h:=bM (nk hb) h;refine au ?_;exact jz ((),false) h [0]
    ·replace h:=bM (nk hb) h;refine au ?_;exact jz ((),false) h [0]
   ·replace h:=bM (nk hb) h;refine au ?_;exact jz ((),false) h [0]
  ·replace h:=bM (nk hb) h;refine au ?_;exact jz ((),false) h [0]
 ·
  refine bI ?_;cases h;exact aN () [_] 1 ⟨rfl,trivial⟩ rfl
def k7(k:Nat)(a0:aP)(a1:gf)(a2:(List (List Int)))(a3:bV):Option ((List aP)×(List (List (List Int)))×bV):=
 (kD k (a3.1,a3.2.1,a3.2.2) 4 3).bind fun r3=>
 (je k r3.1).bind fun r5=>
 (fW k a1.2).bind fun r8=>
 (cU (bm (List.length r5.2.1+List.length [(a1.1,r8)]))).bind fun _=>
 (fa k (r3.2.1,r3.2.2.1,r3.2.2.2) r3.1).bind fun e=>
 (fa k (e.2.1,e.2.2.1,e.2.2.2) r3.1).bind fun c=>
 (((ck ((r3.1.2.2.length:Int) - 1)).bind fun h=>
 if(r5.2.2.length:Int) < 3 then((aQ r5.2.2 h).bind fun u=>
 (ck (u+3)).bind fun s=>
 (aQ r5.2.2 h).bind fun y=>
 (aQ [a2,e.1,a2,c.1] 3).bind fun r=>
 (jy k r).bind fun n=>
 (aQ [a2,e.1,a2,c.1] 3).bind fun x=>
 (aQ n h).bind fun j=>
 (cU (bm (List.length j+List.length [(r3.1.2.1.length:Int)]))).bind fun _=>
 some (List.set r5.2.2 (Int.toNat h) (kj 9 s),List.set [a2,e.1,a2,c.1] (Int.toNat 3) (List.set n (Int.toNat h) (j++[(r3.1.2.1.length:Int)])))) else(some (r5.2.2,[a2,e.1,a2,c.1]))):Option ((List Int)×(List (List (List Int))))).bind fun l=>
 some ([a0,r3.1,r3.1,(r5.1,r5.2.1++[(a1.1,r8)],l.1)],l.2,(c.2.1,c.2.2.1,c.2.2.2))
theorem vW(k:Nat)(a0:aP)(a1:gf)(a2:(List (List Int)))(a3:bV)(e:Nat)(r:(List aP)×(List (List (List Int)))×bV)(h:k7 k a0 a1 a2 a3=some r):
 bX Tryz.prog 16 [.rep ak a0,.rep aJ a1,.rep (.slice (.slice (.int .i64))) a2,Pt e] [.obj e 66 (.agg (.pair (Ri a3.1) (.pair (I a3.2.1) (.eq (.int .u64 a3.2.2)))))] (fun _:Unit=>(bj [Rs ak r.1,.rep (.slice (.slice (.slice (.int .i64)))) r.2.1],[.obj e 66 (.agg (.pair (Ri r.2.2.1) (.pair (I r.2.2.2.1) (.eq (.int .u64 r.2.2.2.2)))))])):=by
 unfold k7 at h
 replace h:=a9 h
 refine bX.of 85 Tryz.func16 rfl Tryz.ntmps16 rfl fun S w0=>?_
 refine sr ?_
 refine bx fun b1=>?_
 refine bx fun b2=>?_
 refine cq ?_
 refine cq ?_
 refine nt ?_
 refine sr ?_
 refine mq ?_
 obtain⟨r3,VB,h⟩:=aa h
 have VE:=wY k (a3.1,a3.2.1,a3.2.2) e 4 3 r3 VB
 refine fr 2 ?_
 refine kc (ao [.tmp 14,.const (.int .i64 (4)),.const (.int .i64 (3))] rfl rfl Uj rfl VE) ?_
 refine aD rfl rfl rfl (aY rfl lz nU) trivial fun b4=>?_
 refine a8 rfl rfl (aX rfl c6 rfl rfl rfl) ⟨rfl,rfl,trivial⟩ ?_
 refine au ?_
 refine lo c6 ?_
 obtain⟨r5,VA,h⟩:=aa h
 have VD:=oY k r3.1 r5 VA
 refine bN (Δ:=[]) (F:=_) (fun _ _ _=>ay rfl _) rfl rfl (ao [.tmp 16] rfl rfl RB rfl VD) ⟨rfl,trivial⟩ fun z6=>?_
 refine aD rfl rfl rfl (aY rfl lz nU) trivial fun b7=>?_
 refine a8 rfl rfl (aX rfl c6 trivial rfl rfl) ⟨rfl,rfl,trivial⟩ ?_
 refine au ?_
 refine bJ ?_
 refine da (av rfl cd) ?_
 refine ea 0 (ai rfl fQ jw rfl) ?_
 refine da (av rfl kJ) ?_
 refine ea 5 (ai rfl ct jw rfl) ?_
 refine da (av rfl kH) ?_
 refine ea 5 (ai rfl bZ jw rfl) ?_
 obtain⟨r8,Vz,h⟩:=aa h
 have VC:=dp k a1.2 r8 Vz
 refine da (EL (ao [.tmp 23] rfl rfl za rfl VC)) ?_
 refine db (c9 [(0,.tmp 21,_),(1,.tmp 24,_)] rfl CC vg wu (iM ⟨rfl,rfl,trivial⟩) rfl) ?_
 refine da (bg (t:=aJ) [(.tmp 25,_)] [(a1.1,r8)] rfl rfl BY (.cons trivial (.agg (.pair .int .rep)) .nil) rfl rfl) ?_
 refine df cH ?_
 obtain⟨u9,Vy,h⟩:=aa h
 refine fr 1 ?_
 refine cz rfl rfl rfl (bf rfl rfl BY (aA Vy)) ⟨rfl,rfl,trivial⟩ fun j=>?_
 refine fl cd ?_
 refine qf fun o11=>?_
 refine fr 1 ?_
 refine a8 rfl rfl (aX rfl fQ o11 rfl rfl) ⟨rfl,rfl,trivial⟩ ?_
 refine au ?_
 refine yf [0,2,4,5,6,1,3,7,8,9] (by kernel_rfl) ?_
 refine aR rfl rfl rfl (aL rfl) ⟨rfl,trivial⟩ ?_
 refine dt 3 rfl rfl rfl rfl (ai rfl c6 (uA) rfl) ⟨rfl,trivial⟩ ?_
 refine aR rfl rfl rfl (aL rfl) ⟨rfl,trivial⟩ ?_
 refine aR rfl rfl rfl (aL rfl) ⟨rfl,trivial⟩ ?_
 refine dt 3 rfl rfl rfl rfl (ai rfl c6 (uA) rfl) ⟨rfl,trivial⟩ ?_
 refine aR rfl rfl rfl (aL rfl) ⟨rfl,trivial⟩ ?_
 refine oN 6 [false,true,false,false,false,true] [32,36] [3] [.obj b4 27 (.rep ak r3.1)] rfl (by kernel_rfl) (by kernel_rfl) (by kernel_rfl) cH (fun vs hv hB=>?_)
 obtain⟨w0,Vu,rfl,U6⟩:=ap hv
 obtain⟨w1,Vt,rfl,U4⟩:=ap U6
 obtain⟨w2,Vs,rfl,se⟩:=ap U4
 obtain⟨w3,Vr,rfl,qt⟩:=ap se
 obtain⟨w4,Vq,rfl,pp⟩:=ap qt
 obtain⟨w5,Vp,rfl,mc⟩:=ap pp
 obtain rfl:=lE mc
 refine⟨[3,0,1,2,4,5,6],[.obj b7 27 (.agg (.pair (I r5.1) (.pair (.eq j) (.eq z6.2)))),.sl j 35 aJ (r5.2.1++[(a1.1,r8)]),.sl z6.2 3 (.int .i64) r5.2.2,.obj e 66 (.agg (.pair (Ri r3.2.1) (.pair (I r3.2.2.1) (.eq (.int .u64 r3.2.2.2))))),.obj b2 35 (.rep aJ a1),.obj b1 27 (.rep ak a0)],by kernel_rfl,by decide,?_⟩
 obtain⟨x,Vl,h⟩:=aa h
 have Vn:=nN k (r3.2.1,r3.2.2.1,r3.2.2.2) e r3.1 x Vl
 refine jA 3 rfl ?_
 refine wE rfl rfl rfl rfl (ao [.tmp 30,.tmp 31] rfl rfl Rh rfl Vn) ⟨rfl,rfl,trivial⟩ (by kernel_rfl) ?_
 obtain⟨c,Vk,h⟩:=aa h
 have Vm:=nN k (x.2.1,x.2.2.1,x.2.2.2) e r3.1 c Vk
 refine wE rfl rfl rfl rfl (ao [.tmp 34,.tmp 35] rfl rfl Rh rfl Vm) ⟨rfl,rfl,trivial⟩ (by kernel_rfl) ?_
 refine DC (by kernel_rfl) ?_
 refine aD rfl rfl rfl (ib (t:=(.slice (.slice (.int .i64)))) [(.tmp 29,_),(.tmp 32,_),(.tmp 33,_),(.tmp 36,_)] [a2,x.1,a2,c.1] rfl rfl Hk (.cons rfl .rep (.cons rfl .rep (.cons rfl .rep (.cons rfl .rep .nil)))) rfl rfl) ⟨rfl,rfl,rfl,rfl,trivial⟩ fun y=>?_
 refine aq ?_
 refine nt ?_
 refine aI (Z:=Unit) (α:=(List Int)×(List (List (List Int)))) (fun U7 U=>[(4,Pt b1),(10,Pt b4),(11,Pt b7),(12,.eq y)]) (fun U7 U=>[.obj b1 27 (.rep ak a0),.obj b4 27 (.rep ak r3.1),.obj b7 27 (.agg (.pair (I r5.1) (.pair (.eq j) (.eq z6.2)))),.sl j 35 aJ (r5.2.1++[(a1.1,r8)]),.sl z6.2 3 (.int .i64) U.1,.sl y 28 (.slice (.slice (.int .i64))) U.2,.obj e 66 (.agg (.pair (Ri c.2.1) (.pair (I c.2.2.1) (.eq (.int .u64 c.2.2.2)))))]) h (fun K h=>?_) (fun U7 U h=>?_)
 ·
  refine sr (fl cM ?_);refine fr 1 ?_;refine lo bZ ?_;refine ol dP ?_;obtain⟨s,Vh,h⟩:=aa h;refine jb (fu rfl Vh) ?_;refine au ?_;refine fl cM ?_;refine fr 3 ?_;refine lo bZ ?_;refine fr 5 ?_;refine ka (dy rfl rfl dP) ?_;refine jb (bq rfl) ?_;refine nt (ci h (fun h=>?_) (fun h=>?_))
  ·refine ar (bJ ?_);refine da (av rfl cM) ?_;refine ea 1 (ai rfl bZ jw rfl) ?_;refine dm ?_;refine da (av rfl cM) ?_;refine ea 1 (ai rfl bZ jw rfl) ?_;refine dm ?_;obtain⟨VN,ac,h⟩:=aa h;refine eb 0 (aU (t:=(.int .i64)) rfl dP ct ac) ?_;refine ea 0 (dQ (i:=Int.toNat s) (off:=0) rfl ct (fun _=>rfl) rfl (cy ac).2.2 rfl) ?_;obtain⟨D,Vg,h⟩:=aa h;refine db (be rfl Vg) ?_;refine db (Eb rfl rfl) ?_;refine df cH ?_;obtain⟨VM,Y,h⟩:=aa h;refine kb (aU (t:=(.int .i64)) rfl dP ct Y) ?_;refine a8 rfl rfl (cG (i:=Int.toNat s) rfl ct rfl (gj Y) rfl .int rfl) ⟨rfl,rfl,trivial⟩ ?_;refine nt (sr ?_);iterate 2 refine mq ?_
   obtain⟨Vo,X,h⟩:=aa h;refine fr 3 ?_;refine kb (aU (t:=(.slice (.slice (.int .i64)))) rfl O5 uM X) ?_;refine ka (dQ (i:=Int.toNat 3) (off:=0) rfl uM (fun _=>rfl) rfl (cy X).2.2 rfl) ?_;obtain⟨E,Vj,h⟩:=aa h;refine bN (Δ:=[]) (F:=[.sl y 28 (.slice (.slice (.int .i64))) [a2,x.1,a2,c.1],.sl z6.2 3 (.int .i64) (List.set r5.2.2 (Int.toNat s) (kj 9 D)),.obj b7 27 (.agg (.pair (I r5.1) (.pair (.eq j) (.eq z6.2)))),.obj b4 27 (.rep ak r3.1),.obj e 66 (.agg (.pair (Ri c.2.1) (.pair (I c.2.2.1) (.eq (.int .u64 c.2.2.2))))),.sl j 35 aJ (r5.2.1++[(a1.1,r8)]),.obj b2 35 (.rep aJ a1),.obj b1 27 (.rep ak a0)]) (fun _ _ _=>ay rfl _) rfl rfl (ao [.tmp 60] rfl rfl Ul rfl (sO k Vo E Vj)) ⟨rfl,trivial⟩ fun n=>?_;refine cp (fE List.perm_append_comm) ?_;obtain⟨VL,M,h⟩:=aa h;refine kb (aU (t:=(.slice (.slice (.int .i64)))) rfl O5 uM M) ?_;refine JH (pre:=[.sl y 28 (.slice (.slice (.int .i64))) [a2,x.1,a2,c.1],.sl z6.2 3 (.int .i64) (List.set r5.2.2 (Int.toNat s) (kj 9 D)),.obj b7 27 (.agg (.pair (I r5.1) (.pair (.eq j) (.eq z6.2)))),.obj b4 27 (.rep ak r3.1),.obj e 66 (.agg (.pair (Ri c.2.1) (.pair (I c.2.2.1) (.eq (.int .u64 c.2.2.2))))),.sl j 35 aJ (r5.2.1++[(a1.1,r8)]),.obj b2 35 (.rep aJ a1),.obj b1 27 (.rep ak a0)]) fun oz25=>?_;refine cp Gt ?_;refine a8 rfl rfl (cG (i:=Int.toNat 3) rfl uM rfl (by rw [List.length_map];exact gj M) rfl (.altR oz25) oz25) ⟨rfl,rfl,trivial⟩ ?_;refine nt ?_;obtain⟨Q,J,h⟩:=aa h;refine dG (ui (pre:=[.sl y 28 (.alt (.slice (.slice (.int .i64)))) (List.set (List.map Sum.inl [a2,x.1,a2,c.1]) (Int.toNat 3) (.inr n.1)),.sl z6.2 3 (.int .i64) (List.set r5.2.2 (Int.toNat s) (kj 9 D)),.obj b7 27 (.agg (.pair (I r5.1) (.pair (.eq j) (.eq z6.2)))),.obj b4 27 (.rep ak r3.1),.obj e 66 (.agg (.pair (Ri c.2.1) (.pair (I c.2.2.1) (.eq (.int .u64 c.2.2.2))))),.sl j 35 aJ (r5.2.1++[(a1.1,r8)]),.obj b2 35 (.rep aJ a1),.obj b1 27 (.rep ak a0)]) (qC J).2) ?_;obtain⟨VX,Vi,h⟩:=aa h;refine ti (Δ:=[.sl (n.2 (Int.toNat s)) 3 (.int .i64) Q,.sl n.1 22 .val (d6 n.2 0 E),.sl y 28 (.alt (.slice (.slice (.int .i64)))) (List.set (List.map Sum.inl [a2,x.1,a2,c.1]) (Int.toNat 3) (.inr n.1)),.sl z6.2 3 (.int .i64) (List.set r5.2.2 (Int.toNat s) (kj 9 D)),.obj b7 27 (.agg (.pair (I r5.1) (.pair (.eq j) (.eq z6.2)))),.obj b4 27 (.rep ak r3.1),.obj e 66 (.agg (.pair (Ri c.2.1) (.pair (I c.2.2.1) (.eq (.int .u64 c.2.2.2))))),.sl j 35 aJ (r5.2.1++[(a1.1,r8)]),.obj b2 35 (.rep aJ a1),.obj b1 27 (.rep ak a0)]) (F:=(kS n.2 0 E).eraseIdx (Int.toNat s)) (Z:=Value) (fun i=>[(4,Pt b1),(10,Pt b4),(11,Pt b7),(12,.eq y)]) (fun i=>[.sl n.1 22 .val (List.set (d6 n.2 0 E) (Int.toNat s) i),.sl i 3 (.int .i64) (Q++[(r3.1.2.1.length:Int)]),.sl y 28 (.alt (.slice (.slice (.int .i64)))) (List.set (List.map Sum.inl [a2,x.1,a2,c.1]) (Int.toNat 3) (.inr n.1)),.sl z6.2 3 (.int .i64) (List.set r5.2.2 (Int.toNat s) (kj 9 D)),.obj b7 27 (.agg (.pair (I r5.1) (.pair (.eq j) (.eq z6.2)))),.obj b4 27 (.rep ak r3.1),.obj e 66 (.agg (.pair (Ri c.2.1) (.pair (I c.2.2.1) (.eq (.int .u64 c.2.2.2))))),.sl j 35 aJ (r5.2.1++[(a1.1,r8)]),.obj b2 35 (.rep aJ a1),.obj b1 27 (.rep ak a0)]) (fun S w=>?_) (fun O=>?_)
   ·refine mD ?_;refine aR rfl rfl rfl (aL rfl) ⟨rfl,trivial⟩ ?_;refine dt 2 rfl rfl rfl rfl (aU (t:=.alt (.slice (.slice (.int .i64)))) rfl O5 uM (sR M _)) ⟨rfl,rfl,trivial⟩ ?_;refine dt 2 rfl rfl rfl rfl (vO (i:=Int.toNat 3) rfl uM rfl (cy (sR M _)).2.2) ⟨rfl,trivial⟩ ?_;refine aR rfl rfl rfl (aL rfl) ⟨rfl,trivial⟩ ?_;refine aR rfl rfl rfl (aL rfl) ⟨rfl,trivial⟩ ?_;refine dt 2 rfl rfl rfl rfl (aU (t:=.alt (.slice (.slice (.int .i64)))) rfl O5 uM (sR M _)) ⟨rfl,rfl,trivial⟩ ?_;refine dt 2 rfl rfl rfl rfl (vO (i:=Int.toNat 3) rfl uM rfl (cy (sR M _)).2.2) ⟨rfl,trivial⟩ ?_;refine aR rfl rfl rfl (aL rfl) ⟨rfl,trivial⟩ ?_;refine dt 1 rfl rfl rfl rfl (aU (t:=.val) rfl pY bZ (kN J)) ⟨rfl,rfl,trivial⟩ ?_;refine dt 1 rfl rfl rfl rfl (dQ (i:=Int.toNat s) (off:=0) rfl bZ (fun _=>rfl) rfl (cy (kN J)).2.2 rfl) ⟨rfl,trivial⟩ ?_;refine aR rfl rfl rfl (av rfl cd) ⟨rfl,trivial⟩ ?_;refine dt 5 rfl rfl rfl rfl (ai rfl fQ jw rfl) ⟨rfl,trivial⟩ ?_;refine aR rfl rfl rfl (ju rfl rfl nn) ⟨rfl,trivial⟩ ?_;refine aR rfl rfl rfl (bg (t:=(.int .i64)) [(.tmp 75,_)] [(r3.1.2.1.length:Int)] rfl rfl dk (.cons rfl .int .nil) rfl rfl) ⟨rfl,trivial⟩ ?_;refine wI 0 rfl (fun v=>[.sl v 3 (.int .i64) (Q++[(r3.1.2.1.length:Int)])]) (fun _=>rfl) rfl rfl rfl (bf rfl rfl dk (aA Vi)) ⟨rfl,rfl,trivial⟩ ?_;refine oN 15 [true,true,true,true,true,true,true,true,true,true,true,true,true,true,true] [78] [] [] rfl (by kernel_rfl) (by kernel_rfl) (by kernel_rfl) cH (fun vs hv hB=>?_);obtain⟨w0,Vu,rfl,U6⟩:=ap hv;obtain⟨w1,Vt,rfl,U4⟩:=ap U6;obtain⟨w2,Vs,rfl,se⟩:=ap U4;obtain⟨w3,Vr,rfl,qt⟩:=ap se;obtain⟨w4,Vq,rfl,pp⟩:=ap qt;obtain⟨w5,Vp,rfl,mc⟩:=ap pp;obtain⟨w6,VV,rfl,Vx⟩:=ap mc;obtain⟨w7,VU,rfl,Vw⟩:=ap Vx;obtain⟨w8,VT,rfl,Vv⟩:=ap Vw;obtain⟨w9,VK,rfl,Vf⟩:=ap Vv;obtain⟨VS,VJ,rfl,Ve⟩:=ap Vf;obtain⟨VQ,VI,rfl,Vd⟩:=ap Ve;obtain⟨VP,VH,rfl,Vb⟩:=ap Vd;obtain⟨VO,VG,rfl,Va⟩:=ap Vb;obtain⟨O,VF,rfl,U8⟩:=ap Va;obtain rfl:=lE U8;refine⟨[0,1,2,3,4,5,6,7,8,9],[.sl n.1 22 .val (d6 n.2 0 E),.sl y 28 (.alt (.slice (.slice (.int .i64)))) (List.set (List.map Sum.inl [a2,x.1,a2,c.1]) (Int.toNat 3) (.inr n.1)),.sl z6.2 3 (.int .i64) (List.set r5.2.2 (Int.toNat s) (kj 9 D)),.obj b7 27 (.agg (.pair (I r5.1) (.pair (.eq j) (.eq z6.2)))),.obj b4 27 (.rep ak r3.1),.obj e 66 (.agg (.pair (Ri c.2.1) (.pair (I c.2.2.1) (.eq (.int .u64 c.2.2.2))))),.sl j 35 aJ (r5.2.1++[(a1.1,r8)]),.obj b2 35 (.rep aJ a1),.obj b1 27 (.rep ak a0),.sl O 3 (.int .i64) (Q++[(r3.1.2.1.length:Int)])],by kernel_rfl,by decide,?_⟩;refine wE rfl rfl rfl rfl (aU (t:=.val) rfl pY bZ (kN J)) ⟨rfl,rfl,trivial⟩ (by kernel_rfl) ?_;refine jA 9 rfl ?_;refine Dz fun o29=>?_;refine jA 1 rfl ?_;refine rR rfl rfl (cG (i:=Int.toNat s) rfl bZ rfl (gj (kN J)) rfl (.val o29) o29) ⟨rfl,rfl,trivial⟩ (by kernel_rfl) ?_;refine uk ?_;refine bu (SE.fin (Γ':=[(4,Pt b1),(10,Pt b4),(11,Pt b7),(12,.eq y)]) (Δ':=[.sl n.1 22 .val (List.set (d6 n.2 0 E) (Int.toNat s) O),.sl O 3 (.int .i64) (Q++[(r3.1.2.1.length:Int)]),.sl y 28 (.alt (.slice (.slice (.int .i64)))) (List.set (List.map Sum.inl [a2,x.1,a2,c.1]) (Int.toNat 3) (.inr n.1)),.sl z6.2 3 (.int .i64) (List.set r5.2.2 (Int.toNat s) (kj 9 D)),.obj b7 27 (.agg (.pair (I r5.1) (.pair (.eq j) (.eq z6.2)))),.obj b4 27 (.rep ak r3.1),.obj e 66 (.agg (.pair (Ri c.2.1) (.pair (I c.2.2.1) (.eq (.int .u64 c.2.2.2))))),.sl j 35 aJ (r5.2.1++[(a1.1,r8)]),.obj b2 35 (.rep aJ a1),.obj b1 27 (.rep ak a0)]) [0,1,2,3,4,5,6,7,8,9] ⟨rfl,rfl,rfl,rfl,trivial⟩ rfl) ?_
    exact fun a w st=>⟨rfl,(O),(SE.fin (Γ':=[(4,Pt b1),(10,Pt b4),(11,Pt b7),(12,.eq y)]) (Δ':=[.sl n.1 22 .val (List.set (d6 n.2 0 E) (Int.toNat s) O),.sl O 3 (.int .i64) (Q++[(r3.1.2.1.length:Int)]),.sl y 28 (.alt (.slice (.slice (.int .i64)))) (List.set (List.map Sum.inl [a2,x.1,a2,c.1]) (Int.toNat 3) (.inr n.1)),.sl z6.2 3 (.int .i64) (List.set r5.2.2 (Int.toNat s) (kj 9 D)),.obj b7 27 (.agg (.pair (I r5.1) (.pair (.eq j) (.eq z6.2)))),.obj b4 27 (.rep ak r3.1),.obj e 66 (.agg (.pair (Ri c.2.1) (.pair (I c.2.2.1) (.eq (.int .u64 c.2.2.2))))),.sl j 35 aJ (r5.2.1++[(a1.1,r8)]),.obj b2 35 (.rep aJ a1),.obj b1 27 (.rep ak a0)]) [0,1,2,3,4,5,6,7,8,9] ⟨rfl,rfl,rfl,rfl,trivial⟩ rfl) a w st⟩
   ·show JN _ _ [(4,Pt b1),(10,Pt b4),(11,Pt b7),(12,.eq y)] ([.sl n.1 22 .val (List.set (d6 n.2 0 E) (Int.toNat s) O),.sl O 3 (.int .i64) (Q++[(r3.1.2.1.length:Int)]),.sl y 28 (.alt (.slice (.slice (.int .i64)))) (List.set (List.map Sum.inl [a2,x.1,a2,c.1]) (Int.toNat 3) (.inr n.1)),.sl z6.2 3 (.int .i64) (List.set r5.2.2 (Int.toNat s) (kj 9 D)),.obj b7 27 (.agg (.pair (I r5.1) (.pair (.eq j) (.eq z6.2)))),.obj b4 27 (.rep ak r3.1),.obj e 66 (.agg (.pair (Ri c.2.1) (.pair (I c.2.2.1) (.eq (.int .u64 c.2.2.2))))),.sl j 35 aJ (r5.2.1++[(a1.1,r8)]),.obj b2 35 (.rep aJ a1),.obj b1 27 (.rep ak a0)]++(kS n.2 0 E).eraseIdx (Int.toNat s));refine bH 1 rfl ?_;refine bu (wB (pre:=[.sl y 28 (.alt (.slice (.slice (.int .i64)))) (List.set (List.map Sum.inl [a2,x.1,a2,c.1]) (Int.toNat 3) (.inr n.1)),.sl z6.2 3 (.int .i64) (List.set r5.2.2 (Int.toNat s) (kj 9 D)),.obj b7 27 (.agg (.pair (I r5.1) (.pair (.eq j) (.eq z6.2)))),.obj b4 27 (.rep ak r3.1),.obj e 66 (.agg (.pair (Ri c.2.1) (.pair (I c.2.2.1) (.eq (.int .u64 c.2.2.2))))),.sl j 35 aJ (r5.2.1++[(a1.1,r8)]),.obj b2 35 (.rep aJ a1),.obj b1 27 (.rep ak a0)]) (z:=n) (i:=Int.toNat s) (qC J).2) ?_;refine ag (bu (Bo (pre:=[.sl y 28 (.alt (.slice (.slice (.int .i64)))) (List.set (List.map Sum.inl [a2,x.1,a2,c.1]) (Int.toNat 3) (.inr n.1)),.sl z6.2 3 (.int .i64) (List.set r5.2.2 (Int.toNat s) (kj 9 D)),.obj b7 27 (.agg (.pair (I r5.1) (.pair (.eq j) (.eq z6.2)))),.obj b4 27 (.rep ak r3.1),.obj e 66 (.agg (.pair (Ri c.2.1) (.pair (I c.2.2.1) (.eq (.int .u64 c.2.2.2))))),.sl j 35 aJ (r5.2.1++[(a1.1,r8)]),.obj b2 35 (.rep aJ a1),.obj b1 27 (.rep ak a0)])) ?_);refine bu (Gu (u:=.slice (.int .i64)) (l:=[a2,x.1,a2,c.1]) (i:=Int.toNat 3)) ?_;exact jz ((),(List.set r5.2.2 (Int.toNat s) (kj 9 D),List.set [a2,x.1,a2,c.1] (Int.toNat 3) (List.set E (Int.toNat s) (Q++[(r3.1.2.1.length:Int)])))) h [7,3,2,5,1,0,4]
  ·refine au ?_;exact jz ((),(r5.2.2,[a2,x.1,a2,c.1])) h [7,2,1,5,0,3,4]
 ·
  refine sr (lo c6 ?_);refine fr 1 ?_;refine lo c6 ?_;refine lo c6 ?_;refine fr 2 ?_;refine fr 3 ?_;refine cp (jL (off:=1) [] trivial rfl rfl) ?_;refine fr 3 ?_;refine cp (jL (off:=2) [] trivial rfl rfl) ?_;refine lo c6 ?_;refine aF rfl (bg (t:=ak) [(.tmp 79,_),(.tmp 80,_),(.tmp 81,_),(.tmp 82,_)] [a0,r3.1,r3.1,(r5.1,r5.2.1++[(a1.1,r8)],U.1)] rfl rfl SV (.cons rfl .rep (.cons rfl .rep (.cons rfl .rep (.cons trivial (.agg (.pair .int (.pair .rep .rep))) .nil)))) rfl rfl) ⟨rfl,rfl,rfl,rfl,trivial⟩ ?_;refine mq ?_;refine aq ?_;refine aq (nt (bI ?_));refine bH 3 rfl ?_;refine bu (dM [9,12,84] ⟨rfl,rfl,rfl,trivial⟩) ?_;refine bu (SE.fin (Γ':=[(8,_),(9,_)]) [3,0,1,2] ⟨rfl,rfl,trivial⟩ rfl) ?_;cases h;exact aN () [_,_] 1 ⟨rfl,rfl,trivial⟩ rfl
def jO(k:Nat)(a0:aP):Option (Int×Int):=
 (iL k a0).bind fun r2=>
 if¬(r2.2.2=0) then(some (0,r2.2.2)) else((dH k (l6 (fun(y8:Int) (j:(List (List Int)))=>
  (bQ k a0 j).bind fun h=>
  if h=r2.2.1 then((ck (y8+1)).bind fun e=>
  some (e,true)) else(some (y8,true)))) (a0,()) (0,false)).bind fun c=>
 if c.2=true then(none) else(some (c.1,0)))
theorem yl(k:Nat)(a0:aP)(r:Int×Int)(h:jO k a0=some r):
 dC (i8 Tryz.prog) 25 [.rep ak a0] [] (fun _:Unit=>(bj [I r.1,I r.2],[])):=by
 unfold jO at h
 replace h:=a9 h
 refine BA 32 Tryz.func25 rfl Tryz.ntmps25 rfl fun S w0=>?_
 refine sr ?_
 refine bx fun b1=>?_
 refine au ?_
 refine lo c6 ?_
 obtain⟨r2,D,h⟩:=aa h
 have O:=po k a0 r2 D
 refine ja (eP [.tmp 11] rfl rfl OK rfl O) ?_
 refine au ?_
 refine aD rfl rfl rfl (aY rfl UE UN) trivial fun b3=>?_
 refine aq ?_
 refine a8 rfl rfl (aX rfl ct rfl rfl rfl) ⟨rfl,rfl,trivial⟩ ?_
 refine au ?_
 refine jb (gX rfl) ?_
 refine nt ?_
 refine cn h (fun h=>?_) (fun h=>?_)
 ·
  refine au ?_;refine JI ?_;cases h;exact rb
 ·
  refine sk (sr (fr 1 ?_));refine lo c6 ?_;refine aD rfl rfl rfl (ao [.tmp 19] rfl rfl I6 rfl (gq a0)) ⟨rfl,trivial⟩ fun z4=>?_;refine cp (kL (bC k a0) lR) ?_;refine aD rfl rfl rfl (aY rfl PK RN) trivial fun b5=>?_;refine aD rfl rfl rfl (aY rfl UE UN) trivial fun b6=>?_;refine fr 1 ?_;refine a8 rfl rfl (aX rfl uL trivial rfl rfl) ⟨rfl,rfl,trivial⟩ ?_;refine fr 1 ?_;refine a8 rfl rfl (aX rfl ct rfl rfl rfl) ⟨rfl,rfl,trivial⟩ ?_;refine nt (ar (sr (fr 1 ?_)));refine lo uL ?_;refine aD rfl rfl rfl (cV (N:=[(.tmp 21,.at aw (a0,(.map (some z4))))]) (ao [.tmp 21] rfl rfl Rb rfl (kW (a0,()))) fun _ _ _ hn=>⟨rP hn.1,trivial⟩) ⟨rfl,trivial⟩ fun b7=>?_;refine nt (aj (eJ 5 rfl ?_));refine eJ 5 rfl ?_;refine eJ 5 rfl ?_;refine eJ 5 rfl ?_;refine eJ 5 rfl ?_;refine eJ 5 rfl ?_;obtain⟨e,y,h⟩:=aa h;refine lG (Δ:=[.obj b7 80 (.at bD (a0,())),.obj b5 80 (.at aw (a0,(.map (some z4)))),.obj b6 3 (I 0),.inv z4 (bC k a0),.obj b1 27 (.rep ak a0),.obj b3 3 (I r2.2.1)]) (F:=[]) (X:=Unit) (J:=fun _=>GO e.2) (E:=fun z9=>[.obj b7 80 (.at bD (a0,())),.obj b5 80 (.at aw (a0,(.map (some z4)))),.obj b6 3 (I e.1),.inv z4 (bC k a0),.obj b1 27 (.rep ak a0),.obj b3 3 (I r2.2.1)]) (r0:=fun _=>.tup .any) rfl rfl Q2 (fun rec hp ha hb hs hpe hN hv l=>?_) (fun dl z9=>og (fun hj=>?_) (fun hj=>?_))
  ·rcases rec with⟨st0,pe0,fn0,tm0,ps0,as0,bd0,df0⟩;dsimp only at hp ha hb hs hpe hN hv;subst hp hs hpe;have vN:uT tm0 [(5,Pt b3),(7,Pt b5),(8,Pt b6)]:=⟨congrArg A.eq (hv 5 _ rfl).symm,congrArg A.eq (hv 7 _ rfl).symm,congrArg A.eq (hv 8 _ rfl).symm,trivial⟩;refine dC.pick (M:=(i8 Tryz.prog)) [1,0,2,3,4,5,6] [1,0,2,3,4,5,6] (jV (fun(z9:Unit) (q:Int×Bool)=>[.raw l (.loop (jm ⟨.ready,none,fn0,tm0, #[23],as0,bd0,df0⟩ (GO q.2))),.obj b5 80 (.at aw (a0,(.map (some z4)))),.obj b6 3 (I q.1),.inv z4 (bC k a0),.obj b1 27 (.rep ak a0),.obj b3 3 (I r2.2.1)]) l (l6 (fun(y8:Int) (j:(List (List Int)))=>
   (bQ k a0 j).bind fun c=>
   if c=r2.2.1 then((ck (y8+1)).bind fun n=>
   some (n,true)) else(some (y8,true)))) k (a0,()) b7 (fun z9 q p r' h=>?_) () (0,false) e y) rfl (fun _=>rfl) (fun _=>rfl)
   obtain⟨rq,hq,h2,rfl⟩:=oh h;obtain⟨y8,b5⟩:=q;obtain rfl:b5=false:=hq;replace h:=a9 h2;obtain⟨j,hpv⟩:∃x,x=p:=⟨_,rfl⟩;subst hpv;refine YT.pick (R':=(fun z9:Unit=>(.eq (.bool rq.2),[.raw l (.loop (jm ⟨.ready,none,fn0,tm0, #[23],as0,bd0,df0⟩ (GO (!rq.2)))),.obj b5 80 (.at aw (a0,(.map (some z4)))),.obj b6 3 (I rq.1),.inv z4 (bC k a0),.obj b1 27 (.rep ak a0),.obj b3 3 (I r2.2.1)]))) [0,1,2,3,4,5] [0,1,2,3,4,5] (Dw ha hb (N:=32) (Γ:=[(5,Pt b3),(7,Pt b5),(8,Pt b6)]) rfl hN (by decide) vN (fun S w=>?_)) rfl (fun _=>rfl) (fun _=>rfl);refine ab (aD rfl rfl rfl (aY rfl rT s8) trivial fun Q=>?_);refine a8 rfl rfl (aX rfl fP rfl rfl rfl) ⟨rfl,rfl,trivial⟩ ?_;refine nl (bH 1 rfl ?_);refine tf rfl rfl ?_;refine aj (ar (bJ ?_));refine ea 2 (ai rfl uL jw rfl) ?_;refine ea 1 (ai rfl fP (uA) rfl) ?_;obtain⟨c,u,h⟩:=aa h;refine eb 4 (eP [.tmp 24,.tmp 25] rfl rfl OH rfl (ix k a0 z4 j c u)) ?_;refine ea 6 (ai rfl ct jw rfl) ?_;refine df cH ?_;refine jb (dO rfl) ?_;refine nt (ci h (fun h=>?_) (fun h=>?_))
   ·refine ab (fr 3 ?_);refine lo ct ?_;obtain⟨n,s,h⟩:=aa h;refine jb (be rfl s) ?_;refine a8 rfl rfl (aX rfl ct rfl rfl rfl) ⟨rfl,rfl,trivial⟩ ?_;refine ax (bS (bH 6 rfl ?_));refine bH 6 rfl ?_;refine bH 6 rfl ?_;refine bH 3 rfl ?_;refine bH 6 rfl ?_;refine bH 5 rfl ?_;cases h;exact nV () 5 rfl
   ·refine cR (bS (bH 6 rfl ?_));refine bH 6 rfl ?_;refine bH 6 rfl ?_;refine bH 6 rfl ?_;refine bH 6 rfl ?_;refine bH 5 rfl ?_;cases h;exact nV () 5 rfl
  ·replace h:=bM (DT hj) h;refine bS (tn (sr (fr 3 ?_)));refine lo ct ?_;refine aq ?_;refine cq (nt (bI ?_));refine bH 1 rfl ?_;refine vd ?_;cases h;exact rb
  ·replace h:=cF (DO hj) h;cases h
def di(k:Nat)(r9:(List aP)×(List (List (List Int)))×bV):Nat→Int→Option (Except Bool Unit)
 |0,_=>none
 |n+1,h=>
  if h < (r9.1.length:Int) then(bE (α:=Unit) (((if h=2 then(some true) else((aQ r9.1 h).bind fun I=>
  (mo k I).bind fun Q=>
  some Q)):Option (Bool)).bind fun J=>
  if J=true then(some (.ok ())) else((aQ r9.1 h).bind fun F=>
  (je k F).bind fun c=>
  (iL k (c.1,c.2.1,c.2.2)).bind fun l=>
  (aQ r9.1 h).bind fun E=>
  (nH k E).bind fun j=>
  (jO k (c.1,c.2.1,c.2.2)).bind fun s=>
  (aQ r9.1 h).bind fun D=>
  (lN k D).bind fun r=>
  ((if¬(l.2.1=j.2.1) then(some true) else(if¬(l.2.2=j.2.2) then(some true) else(if¬(s.1=r.1) then(some true) else(if¬(s.2=r.2) then(some true) else((f9 k l.1 j.1).bind fun O=>
  if¬(O=true) then(some true) else((aQ r9.1 h).bind fun x=>
  (iu k (c.1,c.2.1,c.2.2) x).bind fun M=>
  some (!M))))))):Option (Bool)).bind fun y=>
  if y=true then(some (.error false)) else(some (.ok ())))) (fun e=>some (.error e)) fun _=>
  (ck (h+1)).bind fun u=>
  di k r9 n u) else(some (.ok ()))
def kf(k:Nat)(a0:aP)(a1:gf)(a2:(List Int)):Option Bool:=
 (((mo k a0).bind fun r5=>
 if r5=true then(some true) else(some (decide (20 < (a1.2.length:Int))))):Option (Bool)).bind fun x3=>
 if x3=true then((kC k).bind fun r6=>
 some r6) else((mW k a2).bind fun r7=>
 (k7 k a0 a1 ([]:(List (List Int))) (r7.1,r7.2.1,r7.2.2)).bind fun r9=>
 bE (α:=Unit) (di k r9 k 0) (some) fun _=>
 (kC k).bind fun c=>
 some c)
theorem sM(k:Nat)(a0:aP)(a1:gf)(a2:(List Int))(r:Bool)(h:kf k a0 a1 a2=some r):
 dC (i8 Tryz.prog) 5 [.rep ak a0,.rep aJ a1,Ri a2] [.inv 0 (f4)] (fun _:Unit=>(bj [.eq (.bool r)],[.inv 0 (f4)])):=by
 unfold kf at h
 replace h:=a9 h
 refine dC.of 120 Tryz.func5 rfl Tryz.ntmps5 rfl fun S w0=>?_
 refine sr ?_
 refine bx fun b1=>?_
 refine bx fun b2=>?_
 refine cq ?_
 refine nt ?_
 refine ar ?_
 refine aI (Z:=Unit) (α:=Bool) (fun z4 x3=>[(2,Ri a2),(3,Pt b1),(4,Pt b2),(28,.eq (.bool x3))]) (fun z4 x3=>[.obj b1 27 (.rep ak a0),.obj b2 35 (.rep aJ a1),.inv 0 (f4)]) h (fun K h=>?_) (fun z4 x3 h=>?_)
 ·
  refine ab (fr 1 ?_);refine lo c6 ?_;obtain⟨r5,Vw,h⟩:=aa h;refine ja (ao [.tmp 21] rfl rfl Rw rfl (uB k a0 r5 Vw)) ?_;refine mq ?_;refine cg (s:=23) rfl (fun hb=>?_) (fun hb=>?_)
  ·replace h:=cF (DO hb) h;refine au ?_;exact jz ((),true) h [0,1,2]
  ·replace h:=bM (DT hb) h;refine ga (av rfl kH) ?_;refine fr 1 ?_;refine jr rfl rfl rfl rfl rfl rfl (ai rfl bZ jw rfl) ⟨rfl,trivial⟩ ?_;refine ga (ju rfl rfl dP) ?_;refine gb (jv rfl) ?_;refine au ?_;exact jz ((),decide (20 < (a1.2.length:Int))) h [1,0,2]
 ·
  refine cv h (fun h=>?_) (fun h=>?_)
  ·refine sr ?_;obtain⟨r6,Vv,h⟩:=aa h;refine fr 2 ?_;refine bW rfl rfl rfl (eP [] rfl rfl UK rfl (qZ k r6 Vv)) trivial ?_;refine au ?_;cases h;exact aN () [_] 1 ⟨rfl,trivial⟩ rfl
  ·refine sk (ar ?_);obtain⟨r7,l,h⟩:=aa h;obtain⟨r9,Vu,h⟩:=aa h;refine dG (SE.fin (Γ':=[(2,Ri a2),(3,Pt b1),(4,Pt b2)]) (Δ':=[.obj b1 27 (.rep ak a0),.obj b2 35 (.rep aJ a1),.inv 0 (f4)]) [0,1,2] ⟨rfl,rfl,rfl,trivial⟩ rfl) ?_;refine wG (I:=Nat) (Ge:=fun i=>[(7,Rs ak r9.1)]) (De:=fun i=>[.inv 0 (f4),.obj b1 27 (.rep ak a0),.obj b2 35 (.rep aJ a1),.obj i 66 (.agg (.pair (Ri r9.2.2.1) (.pair (I r9.2.2.2.1) (.eq (.int .u64 r9.2.2.2.2)))))]) (L:=[true,true,true,true,true,true,true,true,true,true]) cH rfl (fun J hJ hE=>?_) (by kernel_rfl) ?_
   ·have s511:∀(b8:Nat),J 1 [true,true,true,true,true,true,true,true,true,false] [(7,Rs ak r9.1),(37,.rep (.slice (.slice (.slice (.int .i64)))) r9.2.1)] [.inv 0 (f4),.obj b1 27 (.rep ak a0),.obj b2 35 (.rep aJ a1),.obj b8 66 (.agg (.pair (Ri r9.2.2.1) (.pair (I r9.2.2.2.1) (.eq (.int .u64 r9.2.2.2.2)))))]:=fun b8=>by
     subst hJ;refine JD.step [9] (by kernel_rfl) rfl ?_;refine co.cons rfl ?_ ?_
     ·refine aq ?_;exact aB (hE b8) [0,1,2,3] ⟨rfl,trivial⟩
     exact trivial
    have s255:∀(b8:Nat),J 2 [true,true,true,true,true,true,true,true,false,false] [(36,Rs ak r9.1),(37,.rep (.slice (.slice (.slice (.int .i64)))) r9.2.1)] [.inv 0 (f4),.obj b1 27 (.rep ak a0),.obj b2 35 (.rep aJ a1),.obj b8 66 (.agg (.pair (Ri r9.2.2.1) (.pair (I r9.2.2.2.1) (.eq (.int .u64 r9.2.2.2.2)))))]:=fun b8=>by
     subst hJ;refine JD.step [8] (by kernel_rfl) rfl ?_;refine co.cons rfl ?_ ?_
     ·refine aq ?_;exact aB (s511 b8) [0,1,2,3] ⟨rfl,rfl,trivial⟩
     exact trivial
    have s383:∀(b8:Nat),J 2 [true,true,true,true,true,true,true,false,true,false] [(7,Rs ak r9.1),(30,.tup (.pair (Rs ak r9.1) (.pair (.rep (.slice (.slice (.slice (.int .i64)))) r9.2.1) (.any))))] [.inv 0 (f4),.obj b1 27 (.rep ak a0),.obj b2 35 (.rep aJ a1),.obj b8 66 (.agg (.pair (Ri r9.2.2.1) (.pair (I r9.2.2.2.1) (.eq (.int .u64 r9.2.2.2.2)))))]:=fun b8=>by
     subst hJ;refine JD.step [7] (by kernel_rfl) rfl ?_;refine co.cons rfl ?_ ?_
     ·refine xr ?_;exact aB (s511 b8) [0,1,2,3] ⟨rfl,rfl,trivial⟩
     exact trivial
    have s127:∀(b8:Nat),J 3 [true,true,true,true,true,true,true,false,false,false] [(30,.tup (.pair (Rs ak r9.1) (.pair (.rep (.slice (.slice (.slice (.int .i64)))) r9.2.1) (.any)))),(36,Rs ak r9.1)] [.inv 0 (f4),.obj b1 27 (.rep ak a0),.obj b2 35 (.rep aJ a1),.obj b8 66 (.agg (.pair (Ri r9.2.2.1) (.pair (I r9.2.2.2.1) (.eq (.int .u64 r9.2.2.2.2)))))]:=fun b8=>by
     subst hJ;refine JD.step [7,8] (by kernel_rfl) rfl ?_;refine co.cons rfl ?_ ?_
     ·refine xr ?_;exact aB (s255 b8) [0,1,2,3] ⟨rfl,rfl,trivial⟩
     refine co.cons rfl ?_ ?_
     ·refine aq ?_;exact aB (s383 b8) [0,1,2,3] ⟨rfl,rfl,trivial⟩
     exact trivial
    have s191:∀(b8:Nat),J 3 [true,true,true,true,true,true,false,true,false,false] [(30,.tup (.pair (Rs ak r9.1) (.pair (.rep (.slice (.slice (.slice (.int .i64)))) r9.2.1) (.any)))),(37,.rep (.slice (.slice (.slice (.int .i64)))) r9.2.1)] [.inv 0 (f4),.obj b1 27 (.rep ak a0),.obj b2 35 (.rep aJ a1),.obj b8 66 (.agg (.pair (Ri r9.2.2.1) (.pair (I r9.2.2.2.1) (.eq (.int .u64 r9.2.2.2.2)))))]:=fun b8=>by
     subst hJ;refine JD.step [6] (by kernel_rfl) rfl ?_;refine co.cons rfl ?_ ?_
     ·refine xr ?_;exact aB (s255 b8) [0,1,2,3] ⟨rfl,rfl,trivial⟩
     exact trivial
    have s63:∀(b8:Nat),J 4 [true,true,true,true,true,true,false,false,false,false] [(30,.tup (.pair (Rs ak r9.1) (.pair (.rep (.slice (.slice (.slice (.int .i64)))) r9.2.1) (.any))))] [.inv 0 (f4),.obj b1 27 (.rep ak a0),.obj b2 35 (.rep aJ a1),.obj b8 66 (.agg (.pair (Ri r9.2.2.1) (.pair (I r9.2.2.2.1) (.eq (.int .u64 r9.2.2.2.2)))))]:=fun b8=>by
     subst hJ;refine JD.step [6,7] (by kernel_rfl) rfl ?_;refine co.cons rfl ?_ ?_
     ·refine xr ?_;exact aB (s127 b8) [0,1,2,3] ⟨rfl,rfl,trivial⟩
     refine co.cons rfl ?_ ?_
     ·refine xr ?_;exact aB (s191 b8) [0,1,2,3] ⟨rfl,rfl,trivial⟩
     exact trivial
    have s31:∀(b8:Nat),J 5 [true,true,true,true,true,false,false,false,false,false] [(35,.tup (.pair (Rs ak r9.1) (.pair (.rep (.slice (.slice (.slice (.int .i64)))) r9.2.1) (.any))))] [.inv 0 (f4),.obj b1 27 (.rep ak a0),.obj b2 35 (.rep aJ a1),.obj b8 66 (.agg (.pair (Ri r9.2.2.1) (.pair (I r9.2.2.2.1) (.eq (.int .u64 r9.2.2.2.2)))))]:=fun b8=>by
     subst hJ;refine JD.step [5] (by kernel_rfl) rfl ?_;refine co.cons rfl ?_ ?_
     ·refine mq ?_;exact aB (s63 b8) [0,1,2,3] ⟨rfl,trivial⟩
     exact trivial
    have s15:∀(b8:Nat),J 6 [true,true,true,true,false,false,false,false,false,false] [(31,.rep ak a0),(32,.rep aJ a1),(34,Pt b8)] [.inv 0 (f4),.obj b1 27 (.rep ak a0),.obj b2 35 (.rep aJ a1),.obj b8 66 (.agg (.pair (Ri r7.1) (.pair (I r7.2.1) (.eq (.int .u64 r7.2.2)))))]:=fun b8=>by
     subst hJ;refine JD.step [4] (by kernel_rfl) rfl ?_;refine co.cons rfl ?_ ?_
     ·refine fr 3 ?_;refine bW rfl rfl rfl (cV (N:=[(.tmp 31,.rep ak a0),(.tmp 32,.rep aJ a1),(.const (.slice none 0 0),.eq (.slice none 0 0)),(.tmp 34,Pt b8)]) (ao [.tmp 31,.tmp 32,.const (.slice none 0 0),.tmp 34] rfl rfl Us rfl (vW k a0 a1 ([]:(List (List Int))) (r7.1,r7.2.1,r7.2.2) b8 r9 Vu)) fun _ _ _ hn=>⟨hn.1,hn.2.1,(fL (t:=(.slice (.slice (.int .i64)))) (x:=([]:(List (List Int)))) .nil rfl rfl hn.2.2.1),hn.2.2.2.1,trivial⟩) ⟨rfl,rfl,rfl,rfl,trivial⟩ ?_;exact aB (s31 b8) [1,2,3,0] ⟨rfl,trivial⟩
     exact trivial
    have s7:J 7 [true,true,true,false,false,false,false,false,false,false] [(31,.rep ak a0),(32,.rep aJ a1),(33,Ri a2)] [.inv 0 (f4),.obj b1 27 (.rep ak a0),.obj b2 35 (.rep aJ a1)]:=by
     subst hJ;refine JD.step [3] (by kernel_rfl) rfl ?_;refine co.cons rfl ?_ ?_
     ·refine aD rfl rfl rfl (ao [.tmp 33] rfl rfl Sz rfl (kg k a2 r7 l)) ⟨rfl,trivial⟩ fun b8=>?_;exact aB (s15 b8) [1,2,3,0] ⟨rfl,rfl,rfl,trivial⟩
     exact trivial
    have s13:∀(b8:Nat),J 7 [true,false,true,true,false,false,false,false,false,false] [(4,Pt b2),(31,.rep ak a0),(34,Pt b8)] [.inv 0 (f4),.obj b1 27 (.rep ak a0),.obj b2 35 (.rep aJ a1),.obj b8 66 (.agg (.pair (Ri r7.1) (.pair (I r7.2.1) (.eq (.int .u64 r7.2.2)))))]:=fun b8=>by
     subst hJ;refine JD.step [1] (by kernel_rfl) rfl ?_;refine co.cons rfl ?_ ?_
     ·refine fr 2 ?_;refine lo jl ?_;exact aB (s15 b8) [1,2,0,3] ⟨rfl,rfl,rfl,trivial⟩
     exact trivial
    have s14:∀(b8:Nat),J 7 [false,true,true,true,false,false,false,false,false,false] [(3,Pt b1),(32,.rep aJ a1),(34,Pt b8)] [.inv 0 (f4),.obj b1 27 (.rep ak a0),.obj b2 35 (.rep aJ a1),.obj b8 66 (.agg (.pair (Ri r7.1) (.pair (I r7.2.1) (.eq (.int .u64 r7.2.2)))))]:=fun b8=>by
     subst hJ;refine JD.step [0] (by kernel_rfl) rfl ?_;refine co.cons rfl ?_ ?_
     ·refine fr 1 ?_;refine lo c6 ?_;exact aB (s15 b8) [1,0,2,3] ⟨rfl,rfl,rfl,trivial⟩
     exact trivial
    have s3:J 8 [true,true,false,false,false,false,false,false,false,false] [(2,Ri a2),(31,.rep ak a0),(32,.rep aJ a1)] [.inv 0 (f4),.obj b1 27 (.rep ak a0),.obj b2 35 (.rep aJ a1)]:=by
     subst hJ;refine JD.step [2] (by kernel_rfl) rfl ?_;refine co.cons rfl ?_ ?_
     ·refine mq ?_;exact aB s7 [0,1,2] ⟨rfl,rfl,rfl,trivial⟩
     exact trivial
    have s5:J 8 [true,false,true,false,false,false,false,false,false,false] [(4,Pt b2),(31,.rep ak a0),(33,Ri a2)] [.inv 0 (f4),.obj b1 27 (.rep ak a0),.obj b2 35 (.rep aJ a1)]:=by
     subst hJ;refine JD.step [1,3] (by kernel_rfl) rfl ?_;refine co.cons rfl ?_ ?_
     ·refine fr 2 ?_;refine lo jl ?_;exact aB s7 [1,2,0] ⟨rfl,rfl,rfl,trivial⟩
     refine co.cons rfl ?_ ?_
     ·refine aD rfl rfl rfl (ao [.tmp 33] rfl rfl Sz rfl (kg k a2 r7 l)) ⟨rfl,trivial⟩ fun b8=>?_;exact aB (s13 b8) [1,2,3,0] ⟨rfl,rfl,rfl,trivial⟩
     exact trivial
    have s6:J 8 [false,true,true,false,false,false,false,false,false,false] [(3,Pt b1),(32,.rep aJ a1),(33,Ri a2)] [.inv 0 (f4),.obj b1 27 (.rep ak a0),.obj b2 35 (.rep aJ a1)]:=by
     subst hJ;refine JD.step [0,3] (by kernel_rfl) rfl ?_;refine co.cons rfl ?_ ?_
     ·refine fr 1 ?_;refine lo c6 ?_;exact aB s7 [1,0,2] ⟨rfl,rfl,rfl,trivial⟩
     refine co.cons rfl ?_ ?_
     ·refine aD rfl rfl rfl (ao [.tmp 33] rfl rfl Sz rfl (kg k a2 r7 l)) ⟨rfl,trivial⟩ fun b8=>?_;exact aB (s14 b8) [1,2,3,0] ⟨rfl,rfl,rfl,trivial⟩
     exact trivial
    have s12:∀(b8:Nat),J 8 [false,false,true,true,false,false,false,false,false,false] [(3,Pt b1),(4,Pt b2),(34,Pt b8)] [.inv 0 (f4),.obj b1 27 (.rep ak a0),.obj b2 35 (.rep aJ a1),.obj b8 66 (.agg (.pair (Ri r7.1) (.pair (I r7.2.1) (.eq (.int .u64 r7.2.2)))))]:=fun b8=>by
     subst hJ;refine JD.step [0,1] (by kernel_rfl) rfl ?_;refine co.cons rfl ?_ ?_
     ·refine fr 1 ?_;refine lo c6 ?_;exact aB (s13 b8) [1,0,2,3] ⟨rfl,rfl,rfl,trivial⟩
     refine co.cons rfl ?_ ?_
     ·refine fr 2 ?_;refine lo jl ?_;exact aB (s14 b8) [1,2,0,3] ⟨rfl,rfl,rfl,trivial⟩
     exact trivial
    have s1:J 9 [true,false,false,false,false,false,false,false,false,false] [(2,Ri a2),(4,Pt b2),(31,.rep ak a0)] [.inv 0 (f4),.obj b1 27 (.rep ak a0),.obj b2 35 (.rep aJ a1)]:=by
     subst hJ;refine JD.step [1,2] (by kernel_rfl) rfl ?_;refine co.cons rfl ?_ ?_
     ·refine fr 2 ?_;refine lo jl ?_;exact aB s3 [1,2,0] ⟨rfl,rfl,rfl,trivial⟩
     refine co.cons rfl ?_ ?_
     ·refine mq ?_;exact aB s5 [0,1,2] ⟨rfl,rfl,rfl,trivial⟩
     exact trivial
    have s2:J 9 [false,true,false,false,false,false,false,false,false,false] [(2,Ri a2),(3,Pt b1),(32,.rep aJ a1)] [.inv 0 (f4),.obj b1 27 (.rep ak a0),.obj b2 35 (.rep aJ a1)]:=by
     subst hJ;refine JD.step [0,2] (by kernel_rfl) rfl ?_;refine co.cons rfl ?_ ?_
     ·refine fr 1 ?_;refine lo c6 ?_;exact aB s3 [1,0,2] ⟨rfl,rfl,rfl,trivial⟩
     refine co.cons rfl ?_ ?_
     ·refine mq ?_;exact aB s6 [0,1,2] ⟨rfl,rfl,rfl,trivial⟩
     exact trivial
    have s4:J 9 [false,false,true,false,false,false,false,false,false,false] [(3,Pt b1),(4,Pt b2),(33,Ri a2)] [.inv 0 (f4),.obj b1 27 (.rep ak a0),.obj b2 35 (.rep aJ a1)]:=by
     subst hJ;refine JD.step [0,1,3] (by kernel_rfl) rfl ?_;refine co.cons rfl ?_ ?_
     ·refine fr 1 ?_;refine lo c6 ?_;exact aB s5 [1,0,2] ⟨rfl,rfl,rfl,trivial⟩
     refine co.cons rfl ?_ ?_
     ·refine fr 2 ?_;refine lo jl ?_;exact aB s6 [1,2,0] ⟨rfl,rfl,rfl,trivial⟩
     refine co.cons rfl ?_ ?_
     ·refine aD rfl rfl rfl (ao [.tmp 33] rfl rfl Sz rfl (kg k a2 r7 l)) ⟨rfl,trivial⟩ fun b8=>?_;exact aB (s12 b8) [1,2,3,0] ⟨rfl,rfl,rfl,trivial⟩
     exact trivial
    have s0:J 10 [false,false,false,false,false,false,false,false,false,false] [(2,Ri a2),(3,Pt b1),(4,Pt b2)] [.obj b1 27 (.rep ak a0),.obj b2 35 (.rep aJ a1),.inv 0 (f4)]:=by
     subst hJ;refine JD.step [0,1,2] (by kernel_rfl) rfl ?_;refine co.cons rfl ?_ ?_
     ·refine lo c6 ?_;exact aB s1 [2,0,1] ⟨rfl,rfl,rfl,trivial⟩
     refine co.cons rfl ?_ ?_
     ·refine fr 1 ?_;refine lo jl ?_;exact aB s2 [2,1,0] ⟨rfl,rfl,rfl,trivial⟩
     refine co.cons rfl ?_ ?_
     ·refine mq ?_;exact aB s4 [2,0,1] ⟨rfl,rfl,rfl,trivial⟩
     exact trivial
    exact s0
   intro b8;show JN _ _ [(7,Rs ak r9.1)] [.inv 0 (f4),.obj b1 27 (.rep ak a0),.obj b2 35 (.rep aJ a1),.obj b8 66 (.agg (.pair (Ri r9.2.2.1) (.pair (I r9.2.2.2.1) (.eq (.int .u64 r9.2.2.2.2)))))];refine tn (eT (Z:=Unit) (α:=Unit) (fun Q Y=>[]) (fun Q Y=>[.inv 0 (f4)]) (fun e=>e=r) h (fun e h=>Option.some.inj h) (fun K hR h=>?_) (fun Q Y h=>?_))
   ·refine au ?_;refine aj (aK (fun O j=>[(7,Rs ak r9.1),(9,I j)]) (fun O j=>[.inv 0 (f4)]) (di k r9) k () 0 (fun _=>rfl) h (SE.fin [0] ⟨rfl,rfl,trivial⟩ rfl) (fun n O j h=>?_));unfold di at h;refine au ?_;refine ol PE ?_;refine jb (bq rfl) ?_;refine nt (ci h (fun h=>?_) (fun h=>?_))
    ·refine sk (eT (Z:=Unit) (α:=Unit) (fun M X=>[(7,Rs ak r9.1),(9,I j)]) (fun M X=>[.inv 0 (f4)]) (fun e=>e=r) h (fun e h=>hR e h) (fun K hR h=>?_) (fun M X h=>?_))
     ·refine aj (ar (aI (Z:=Unit) (α:=Bool) (fun E y=>[(7,Rs ak r9.1),(9,I j),(52,.eq (.bool y))]) (fun E y=>[.inv 0 (f4)]) h (fun K h=>?_) (fun E y h=>?_)))
      ·refine ab (mq ?_);refine jb (dO rfl) ?_;refine mq ?_;refine cg (s:=46) rfl (fun hb=>?_) (fun hb=>?_)
       ·replace h:=cF (nX hb) h;refine au ?_;exact jz ((),true) h [0]
       ·replace h:=bM (nk hb) h;refine au ?_;obtain⟨Vp,Va,h⟩:=aa h;refine gb (aH (t:=ak) rfl PE c6 Va) ?_;refine ga (an (t:=ak) rfl c6 rfl) ?_;obtain⟨qt,Vk,h⟩:=aa h;refine ga (ao [.tmp 50] rfl rfl Rw rfl (uB k Vp qt Vk)) ?_;refine au ?_;exact jz ((),qt) h [0]
      ·refine cv h (fun h=>?_) (fun h=>?_)
       ·refine au ?_;exact jz ((),()) h [0]
       ·refine au ?_;obtain⟨Vo,U8,h⟩:=aa h;refine jb (aH (t:=ak) rfl PE c6 U8) ?_;refine ja (an (t:=ak) rfl c6 rfl) ?_;obtain⟨c,Vj,h⟩:=aa h;refine bN (Δ:=[]) (F:=_) (fun _ _ _=>ay rfl _) rfl rfl (ao [.tmp 56] rfl rfl RB rfl (oY k Vo c Vj)) ⟨rfl,trivial⟩ fun Vx=>?_;refine aD rfl rfl rfl (aY rfl lz nU) trivial fun Vy=>?_;refine a8 rfl rfl (aX rfl c6 trivial rfl rfl) ⟨rfl,rfl,trivial⟩ ?_;refine nt (sr (fr 1 ?_));refine cp (jL (off:=1) [] trivial rfl rfl) ?_;refine fr 1 ?_;refine cp (jL (off:=2) [] trivial rfl rfl) ?_;refine lo c6 ?_;obtain⟨pp,Vi,h⟩:=aa h;refine ja (cV (N:=[(.tmp 59,.agg (.pair (I c.1) (.pair (Rs aJ c.2.1) (Ri c.2.2))))]) (eP [.tmp 59] rfl rfl OK rfl (po k (c.1,c.2.1,c.2.2) pp Vi)) fun _ _ _ hn=>⟨(fL (t:=ak) (x:=(c.1,c.2.1,c.2.2)) (.agg (.pair .int (.pair .rep .rep))) trivial rfl hn.1),trivial⟩) ?_;refine au ?_;obtain⟨Vn,U7,h⟩:=aa h;refine jb (aH (t:=ak) rfl PE c6 U7) ?_;refine ja (an (t:=ak) rfl c6 rfl) ?_;obtain⟨mc,Vh,h⟩:=aa h;refine ja (ao [.tmp 68] rfl rfl Up rfl (zW k Vn mc Vh)) ?_;refine au ?_;refine lo c6 ?_;obtain⟨Vt,Vg,h⟩:=aa h;refine ja (cV (N:=[(.tmp 74,.agg (.pair (I c.1) (.pair (Rs aJ c.2.1) (Ri c.2.2))))]) (eP [.tmp 74] rfl rfl Uo rfl (yl k (c.1,c.2.1,c.2.2) Vt Vg)) fun _ _ _ hn=>⟨(fL (t:=ak) (x:=(c.1,c.2.1,c.2.2)) (.agg (.pair .int (.pair .rep .rep))) trivial rfl hn.1),trivial⟩) ?_;refine au ?_;obtain⟨Vm,U6,h⟩:=aa h;refine jb (aH (t:=ak) rfl PE c6 U6) ?_;refine ja (an (t:=ak) rfl c6 rfl) ?_;obtain⟨Vs,Vf,h⟩:=aa h;refine ja (ao [.tmp 82] rfl rfl Un rfl (yv k Vm Vs Vf)) ?_;refine mq ?_;refine xr ?_;refine xr ?_;refine aq ?_;refine aq (nt ?_);refine aI (Z:=Unit) (α:=Bool) (fun D u=>[(7,Rs ak r9.1),(9,I j),(118,.eq (.bool u))]) (fun D u=>[.inv 0 (f4)]) h (fun K h=>?_) (fun D u h=>?_)
        ·refine bJ ?_;refine dm ?_;refine dm ?_;refine db (gX rfl) ?_;refine kU rfl rfl rfl (aL rfl) ⟨rfl,trivial⟩ (fun hb=>?_) (fun hb=>?_)
         ·replace h:=cF (Ik hb) h;iterate 3 refine dg ?_
          refine db (gy rfl) ?_;refine dm ?_;iterate 3 refine dg ?_
          refine db (gy rfl) ?_;refine dm ?_;iterate 3 refine dg ?_
          refine db (gy rfl) ?_;refine dm ?_;iterate 4 refine dg ?_
          refine db (gy rfl) ?_;refine dm ?_;iterate 5 refine dg ?_
          refine df cH ?_;refine au ?_;exact jz ((),true) h [1]
         ·replace h:=bM (vT hb) h;refine aV rfl rfl rfl rfl rfl (aL rfl) ⟨rfl,rfl,trivial⟩ ?_;refine aV rfl rfl rfl rfl rfl (aL rfl) ⟨rfl,rfl,trivial⟩ ?_;refine aV rfl rfl rfl rfl rfl (gX rfl) ⟨rfl,rfl,rfl,trivial⟩ ?_;refine db (mi rfl) ?_;refine kU rfl rfl rfl (aL rfl) ⟨rfl,trivial⟩ (fun hb=>?_) (fun hb=>?_)
          ·replace h:=cF (Ik hb) h;iterate 3 refine dg ?_
           refine db (gy rfl) ?_;refine dm ?_;iterate 3 refine dg ?_
           refine db (gy rfl) ?_;refine dm ?_;iterate 4 refine dg ?_
           refine db (gy rfl) ?_;refine dm ?_;iterate 5 refine dg ?_
           refine df cH ?_;refine au ?_;exact jz ((),true) h [1]
          ·replace h:=bM (vT hb) h;refine aV rfl rfl rfl rfl rfl (aL rfl) ⟨rfl,rfl,trivial⟩ ?_;refine aV rfl rfl rfl rfl rfl (aL rfl) ⟨rfl,rfl,trivial⟩ ?_;refine aV rfl rfl rfl rfl rfl (gX rfl) ⟨rfl,rfl,rfl,trivial⟩ ?_;refine db (mi rfl) ?_;refine kU rfl rfl rfl (aL rfl) ⟨rfl,trivial⟩ (fun hb=>?_) (fun hb=>?_)
           ·replace h:=cF (Ik hb) h;iterate 3 refine dg ?_
            refine db (gy rfl) ?_;refine dm ?_;iterate 4 refine dg ?_
            refine db (gy rfl) ?_;refine dm ?_;iterate 5 refine dg ?_
            refine df cH ?_;refine au ?_;exact jz ((),true) h [1]
           ·replace h:=bM (vT hb) h;refine aV rfl rfl rfl rfl rfl (aL rfl) ⟨rfl,rfl,trivial⟩ ?_;refine aV rfl rfl rfl rfl rfl (aL rfl) ⟨rfl,rfl,trivial⟩ ?_;refine aV rfl rfl rfl rfl rfl (gX rfl) ⟨rfl,rfl,rfl,trivial⟩ ?_;refine db (mi rfl) ?_;refine kU rfl rfl rfl (aL rfl) ⟨rfl,trivial⟩ (fun hb=>?_) (fun hb=>?_)
            ·replace h:=cF (Ik hb) h;iterate 4 refine dg ?_
             refine db (gy rfl) ?_;refine dm ?_;iterate 5 refine dg ?_
             refine df cH ?_;refine au ?_;exact jz ((),true) h [1]
            ·replace h:=bM (vT hb) h;refine aV rfl rfl rfl rfl rfl (aL rfl) ⟨rfl,rfl,trivial⟩ ?_;refine aV rfl rfl rfl rfl rfl (aL rfl) ⟨rfl,rfl,trivial⟩ ?_;obtain⟨Vr,Ve,h⟩:=aa h;refine aV rfl rfl rfl rfl rfl (ao [.tmp 105,.tmp 106] rfl rfl OL rfl (kE k pp.1 mc.1 Vr Ve)) ⟨rfl,rfl,rfl,trivial⟩ ?_;refine aV rfl rfl rfl rfl rfl (eW rfl) ⟨rfl,rfl,trivial⟩ ?_;refine db (mi rfl) ?_;refine kU rfl rfl rfl (aL rfl) ⟨rfl,trivial⟩ (fun hb=>?_) (fun hb=>?_)
             ·replace h:=cF (FG hb) h;iterate 5 refine dg ?_
              refine df cH ?_;refine au ?_;exact jz ((),true) h [1]
             ·replace h:=bM (xp hb) h;refine ko 0 rfl rfl rfl rfl rfl rfl (ai rfl c6 (uA) rfl) ⟨rfl,rfl,trivial⟩ ?_;refine aV rfl rfl rfl rfl rfl (aL rfl) ⟨rfl,rfl,trivial⟩ ?_;refine aV rfl rfl rfl rfl rfl (aL rfl) ⟨rfl,rfl,trivial⟩ ?_;obtain⟨U,U4,h⟩:=aa h;refine aV rfl rfl rfl rfl rfl (aH (t:=ak) rfl PE c6 U4) ⟨rfl,rfl,rfl,trivial⟩ ?_;refine aV rfl rfl rfl rfl rfl (an (t:=ak) rfl c6 rfl) ⟨rfl,rfl,trivial⟩ ?_;refine df cH ?_;obtain⟨ac,Vd,h⟩:=aa h;refine gb (cV (N:=[(.tmp 111,.agg (.pair (I c.1) (.pair (Rs aJ c.2.1) (Ri c.2.2)))),(.tmp 115,.rep ak U)]) (ao [.tmp 111,.tmp 115] rfl rfl Um rfl (t6 k (c.1,c.2.1,c.2.2) U ac Vd)) fun _ _ _ hn=>⟨(fL (t:=ak) (x:=(c.1,c.2.1,c.2.2)) (.agg (.pair .int (.pair .rep .rep))) trivial rfl hn.1),hn.2.1,trivial⟩) ?_;refine ga (eW rfl) ?_;refine au ?_;exact jz ((), !ac) h [1]
        ·refine cv h (fun h=>?_) (fun h=>?_)
         ·refine au ?_;obtain rfl:=hR _ h;exact aN () [_] 1 ⟨rfl,trivial⟩ rfl
         ·refine au ?_;exact jz ((),()) h [0]
     ·refine ab (mq ?_);obtain⟨Vl,se,h⟩:=aa h;refine jb (be rfl se) ?_;refine au ?_;exact jz ((),Vl) h [0]
    ·refine au ?_;exact jz ((),()) h [0]
   ·refine sr ?_;obtain⟨Vq,Vb,h⟩:=aa h;refine bW rfl rfl rfl (eP [] rfl rfl UK rfl (qZ k Vq Vb)) trivial ?_;refine au ?_;cases h;exact aN () [_] 1 ⟨rfl,trivial⟩ rfl
end Go.Proofs.YtmeojbemjkmebaaGreatDoor
