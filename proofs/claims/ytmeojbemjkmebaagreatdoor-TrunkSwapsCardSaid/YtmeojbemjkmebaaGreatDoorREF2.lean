import Derived.Test.YtmeojbemjkmebaaGreatDoorREB11
import Derived.Test.YtmeojbemjkmebaaGreatDoorREB9
import Derived.Test.YtmeojbemjkmebaaGreatDoorREB10
import Derived.Test.YtmeojbemjkmebaaGreatDoorREB5
import Derived.Test.YtmeojbemjkmebaaGreatDoorREB6
set_option linter.unusedSimpArgs false
set_option linter.unusedVariables false
set_option maxRecDepth 4000
set_option maxHeartbeats 1000000
namespace Go.Proofs.YtmeojbemjkmebaaGreatDoor
open K Go Go.Proofs
def cC(k:Nat)(a0:aQ)(a1:(List (List Int))):Option Int:=
 (lM k a0).bind fun r2=>
 if¬(r2=0) then(some r2) else((lL k a0 a1).bind fun r4=>
 (RX r4).bind fun q5=>
 if q5.isSome=true then(some (q5.getD 0)) else(some 0))
theorem gg(k:Nat)(a0:aQ)(a1:(List (List Int)))(r:Int)(h:cC k a0 a1=some r):
 bV Tryz.prog 42 [.rep ao a0,.rep (.slice (.slice (.int .i64))) a1] [.inv 0 (eM)] (fun _:Unit=>(bm [I r],[.inv 0 (eM)])):=by
 unfold cC at h
 replace h:=aZ h
 refine bV.of 19 Tryz.func42 rfl Tryz.ntmps42 rfl fun S w0=>?_
 refine sr ?_
 refine bx fun b1=>?_
 refine au ?_
 refine lo cU ?_
 obtain⟨r2,e,h⟩:=aa h
 have l:=rH k a0 r2 e
 refine ja (ap [.tmp 7] rfl rfl QU rfl l) ?_
 refine au ?_
 refine jb (g7 rfl) ?_
 refine nt ?_
 refine cn h (fun h=>?_) (fun h=>?_)
 ·
  refine sr (mq ?_);refine aq (nt (rx ?_));refine bz (SE.fin (Γ':=[(4,_)]) [1,0] ⟨rfl,trivial⟩ rfl) ?_;cases h;exact aO () [_] 1 ⟨rfl,trivial⟩ rfl
 ·
  refine au ?_;refine aE rfl rfl rfl (a9 rfl uO RA) trivial fun b3=>?_;refine nt (ar (sr (fr 1 ?_)));refine lo cU ?_;refine mq ?_;obtain⟨r4,c,h⟩:=aa h;refine jb (ap [.tmp 12,.tmp 13] rfl rfl TF rfl (rA k a0 a1 r4 c)) ?_;refine ja (HB rfl Ur) ?_;obtain⟨q5,j,h⟩:=aa h;refine fr 2 ?_;refine fr 2 ?_;refine bQ (Δ:=[_,_]) (F:=_) (fun _ _ _=>aA rfl _) rfl rfl (ap [.tmp 14,.tmp 15] rfl rfl QL rfl (Rr j)) ⟨rfl,rfl,trivial⟩ fun _=>?_;refine nt (cv h (fun h=>?_) (fun h=>?_))
  ·refine sr (fl Ln ?_);refine lo SB ?_;refine aq (nt (rx ?_));refine bz (SE.fin (Γ':=[(4,_)]) [1,0,2] ⟨rfl,trivial⟩ rfl) ?_;cases h;exact aO () [_] 1 ⟨rfl,trivial⟩ rfl
  ·refine sk (sr (cq (nt (bH ?_))));refine bz (SE.fin (Γ':=[(4,_)]) [1,0,2] ⟨rfl,trivial⟩ rfl) ?_;cases h;exact aO () [_] 1 ⟨rfl,trivial⟩ rfl
theorem jY(k:Nat)(a0:aQ)(z_a0:Nat)(a1:(List (List Int)))(r:Int)(h:cy k a0 a1=some r):
 dG (jv Tryz.prog) 48 [.at ax (a0,(.map (some z_a0))),.rep (.arr 3 (.arr 5 (.int .i64))) a1] [.inv z_a0 (bL k a0)] (fun _:Unit=>(bm [I r],[.inv z_a0 (bL k a0)])):=by
 have h0:=h
 unfold cy at h
 replace h:=aZ h
 obtain⟨u1,eg,h⟩:=aa h
 have hg:=aB eg
 have gk:=Ip hg
 refine dG.of 28 Tryz.func48 rfl Tryz.ntmps48 rfl fun S w0=>?_
 refine sr ?_
 refine bx fun b1=>?_
 refine cq ?_
 refine nt ?_
 refine ar ?_
 refine jx 1 rfl ?_
 refine Dq fun ob hob=>?_
 obtain⟨lnn,lbb,hlR,hlk⟩:=yD (z:=z_a0) RF Ni AI gk Fp hob
 refine bR ?_
 refine dm ?_
 refine da (dL rfl) ?_
 refine da (aJ 1 false rfl D9 rfl) ?_
 refine da (ak (t:=.val) rfl ML rfl) ?_
 refine ea 1 (aj rfl ge (wy) rfl) ?_
 refine eb 0 (E7 (kv:=lB a1) (xo _) (my.calm hob) rfl (fun _ _ _ hh=>vJ hh) hlk) ?_
 refine dm ?_
 refine da (dF rfl rfl) ?_
 refine da (dF rfl rfl) ?_
 refine da (fU rfl) ?_
 refine df cE ?_
 refine au ?_
 refine ja (eJ rfl) ?_
 refine nt ?_
 refine dA (lR (bL k a0) hob) ?_
 refine bG rfl (fun hb=>?_) (fun hb=>?_)
 ·
  refine sr (mq ?_);refine fr 1 ?_;refine lo ge ?_;obtain⟨r2,c,h⟩:=aa h;refine jc (d6 (N:=[(.tmp 18,.at ax (a0,(.map (some z_a0)))),(.tmp 19,.rep (.arr 3 (.arr 5 (.int .i64))) a1),(.const (.int .i64 (0)),I 0)]) (gi [.tmp 18,.tmp 19,.const (.int .i64 (0))] rfl rfl QN rfl (mM k (a0,()) a1 0 r2 c)) fun _ _ _ hn=>⟨(tY hn.1),hn.2.1,hn.2.2.1,trivial⟩) ?_;refine au ?_;refine bR ?_;refine dm ?_;refine da (dL rfl) ?_;refine da (aJ 1 false rfl D9 rfl) ?_;refine da (ak (t:=.val) rfl ML rfl) ?_;refine ea 0 (aj rfl ge (wy) rfl) ?_;refine dm ?_;refine df cE ?_;refine fr 1 ?_;have hl:cy k a0 a1=some r2:=h0.trans (show some r=some r2 from h.symm);refine bf rfl rfl (Aa (kv:=lB a1) (xo _) rfl RF AI (fun _ _ _ hh=>vJ hh) gk ⟨a1,hg,rfl,hl⟩) ⟨rfl,rfl,rfl,trivial⟩ ?_;refine au ?_;cases h;exact aO () [_] 1 ⟨rfl,trivial⟩ rfl
 ·
  obtain⟨p,hp,he,hl⟩:=hlR (by simpa using hb);obtain rfl:=xp hg hp he;replace h:some lnn=some r:=hl.symm.trans h0;refine au ?_;cases h;exact aO () [_] 1 ⟨rfl,trivial⟩ rfl
def jO(k:Nat)(a0:aQ)(a1:(List (List Int))):Option (Int×Int):=
 (cC k a0 a1).bind fun r2=>
 if¬(r2=0) then(some (0,r2)) else((dV k a1).bind fun r4=>
 (cy k a0 r4).bind fun r5=>
 some (r5,0))
theorem rG(k:Nat)(a0:aQ)(a1:(List (List Int)))(r:Int×Int)(h:jO k a0 a1=some r):
 dG (jv Tryz.prog) 13 [.rep ao a0,.rep (.slice (.slice (.int .i64))) a1] [.inv 0 (eM)] (fun _:Unit=>(bm [I r.1,I r.2],[.inv 0 (eM)])):=by
 unfold jO at h
 replace h:=aZ h
 refine dG.of 18 Tryz.func13 rfl Tryz.ntmps13 rfl fun S w0=>?_
 refine sr ?_
 refine bx fun b1=>?_
 refine au ?_
 refine lo cU ?_
 refine mq ?_
 obtain⟨r2,j,h⟩:=aa h
 have l:=gg k a0 a1 r2 j
 refine fr 1 ?_
 refine kb (ap [.tmp 7,.tmp 8] rfl rfl Ou rfl l) ?_
 refine au ?_
 refine jb (g7 rfl) ?_
 refine nt ?_
 refine cn h (fun h=>?_) (fun h=>?_)
 ·
  refine au ?_;cases h;exact aO () [_,_] 1 ⟨rfl,rfl,trivial⟩ rfl
 ·
  refine sk (sr (fr 1 ?_));refine lo cU ?_;refine aE rfl rfl rfl (ap [.tmp 13] rfl rfl Lx rfl (iL a0)) ⟨rfl,trivial⟩ fun z3=>?_;refine ct (lR (bL k a0) nz) ?_;refine mq ?_;obtain⟨r4,e,h⟩:=aa h;refine ja (ap [.tmp 15] rfl rfl FN rfl (fo k a1 r4 e)) ?_;obtain⟨r5,c,h⟩:=aa h;refine kb (gi [.tmp 14,.tmp 16] rfl rfl QV rfl (jY k a0 z3 r4 r5 c)) ?_;refine aq ?_;refine cq (nt (bH ?_));refine bz (SE.fin (Γ':=[(4,_),(5,_)]) [2,0,1] ⟨rfl,rfl,trivial⟩ rfl) ?_;cases h;exact aO () [_,_] 1 ⟨rfl,rfl,trivial⟩ rfl
set_option maxRecDepth 20000
set_option maxHeartbeats 4000000
def O7(b:Nat):List Int→Option Addr
 |[]=>none
 |_::_=>some ⟨b,0,none⟩
def RV:List Int→Value→Value
 |[],_=>.slice none 0 0
 |_::_,v=>v
theorem OD(b:Nat)(l:List Int):O7 b l=none∨O7 b l=some ⟨b,0,none⟩:=by cases l <;> simp [O7]
theorem Jd(b:Nat)(l:List Int)(c:Int):O7 b (l++[c])=some ⟨b,0,none⟩:=by cases l <;> rfl
theorem Jc(l:List Int)(c:Int)(v:Value):RV (l++[c]) v=v:=by cases l <;> rfl
theorem MN:mt Tryz.prog 51 9 1 16:=.of (z:=(.string .empty)) UR (by kernel_rfl) rfl rfl rfl
theorem On:ae Tryz.prog 51:=ae.of Tryz.func51 (by kernel_rfl) (by kernel_rfl)
theorem QJ:ae Tryz.prog 42:=ae.of Tryz.func42 (by kernel_rfl) (by kernel_rfl)
theorem PN:dJ Tryz.prog 27 3 true:=⟨fun w=>by kernel_rfl,fun w=>by kernel_rfl⟩
theorem MK:dJ Tryz.prog 22 1 false:=⟨fun w=>by kernel_rfl,fun w=>by kernel_rfl⟩
theorem PM:dJ Tryz.prog 3 1 false:=⟨fun w=>by kernel_rfl,fun w=>by kernel_rfl⟩
def lV(c:Int):Int:=IntKind.i32.wrap (97+IntKind.i32.wrap c)
def lF(xs:List Int):Nat→Int×List Int→Option (List Int)
 |0,_=>none
 |n+1,y=>if y.1 < (xs.length:Int) then((aR xs y.1).bind fun c=>if 0≤lV c∧lV c≤127∧bq (y.2.length+1) then(ck (y.1+1)).bind fun z=>lF xs n (z,y.2++[lV c]) else none) else some y.2
def jZ(k:Nat)(a1:List (List Int)):Nat→Int×List ByteArray→Option (List ByteArray)
 |0,_=>none
 |n+1,y=>if y.1 < (a1.length:Int) then((aR a1 y.1).bind fun xs=>(lF xs k (0,[])).bind fun l=>if bq (y.2.length+1) then(ck (y.1+1)).bind fun z=>jZ k a1 n (z,y.2++[qL l]) else none) else some y.2
def sZ(k:Nat)(a0:aQ)(a1:(List (List Int))):Option (Value×Int):=
 (cC k a0 a1).bind fun e=>if¬(e=0) then some (.string .empty,e) else(jZ k a1 k (0,[])).bind fun ss=>(uC k ss ⟨#[47]⟩).bind fun r=>some (.string r,0)
theorem yc(k:Nat)(a0:aQ)(a1:(List (List Int)))(r:Value×Int)(h:sZ k a0 a1=some r):
 bV Tryz.prog 17 [.rep ao a0,.rep (.slice (.slice (.int .i64))) a1] [.inv 0 eM] (fun _:Unit=>(bm [.eq r.1,I r.2],[.inv 0 eM])):=by
 unfold sZ at h
 replace h:=aZ h
 refine bV.of 43 Tryz.func17 rfl Tryz.ntmps17 rfl fun S w0=>?_
 refine sr ?_
 refine bx fun b2=>?_
 refine cq ?_
 refine cq ?_
 refine nt ?_
 refine ar ?_
 refine sr ?_
 obtain⟨e,ee,h⟩:=aa h
 have ce:=gg k a0 a1 e ee
 refine ka (aj rfl PN (zj) rfl) ?_
 refine mq ?_
 refine fr 1 ?_
 refine kb (ap [.tmp 13,.tmp 14] rfl rfl QJ rfl ce) ?_
 refine aq ?_
 refine nt ?_
 refine sr ?_
 refine mq ?_
 refine jb (g7 rfl) ?_
 refine nt ?_
 refine bG rfl (fun hb=>?_) (fun hb=>?_)
 ·
  replace h:=cG (H5 hb) h;refine sr (mq ?_);refine cq ?_;refine aq (nt (rx ?_));cases h;exact aO () [_,_] 1 ⟨rfl,rfl,trivial⟩ rfl
 replace h:=bO (vH hb) h
 refine sk ?_
 refine sr ?_
 refine cq ?_
 refine nt ?_
 rw [Option.bind_assoc] at h
 refine ar ?_
 refine sr ?_
 refine mq ?_
 refine ol lJ ?_
 refine ff rfl ?_
 refine ct (SE.nil 9 .str) ?_
 refine nt ?_
 refine ai ?_
 refine aK (fun v y=>[(7,.eq v),(19,.rep (.slice (.slice (.int .i64))) a1),(20,I (a1.length:Int)),(21,I y.1)]) (fun v y=>[.sl v 9 .str y.2,.inv 0 eM]) (jZ k a1) k (.slice none 0 0) (0,[]) (fun _=>rfl) h (SE.fin [0,1] ⟨rfl,rfl,rfl,rfl,trivial⟩ rfl) (fun n v7 y h=>?_)
 unfold jZ at h
 refine sr ?_
 refine jb (bg rfl) ?_
 refine nt ?_
 refine ar ?_
 refine bG rfl (fun hb=>?_) (fun hb=>?_)
 ·
  replace h:=cG (oK hb) h;refine sk (ar (ai ?_));obtain⟨xs,exs,h⟩:=aa h;refine sr (jb (aD (t:=.slice (.int .i64)) rfl lJ MK exs) ?_);refine ja (ak (t:=.slice (.int .i64)) rfl MK rfl) ?_;refine aq (nt (sr ?_));refine aE rfl rfl rfl (a9 rfl Gx M9) trivial fun b=>?_;refine nt ?_;rw [Option.bind_assoc] at h;refine ar (sr (mq ?_));refine ol dB ?_;refine ff rfl ?_;refine ct (SE.nil 5 (.int .u8)) ?_;refine nt (ai ?_)
  refine aK (fun v q=>[(7,.eq v7),(10,.eq (bP b)),(19,.rep (.slice (.slice (.int .i64))) a1),(20,I (a1.length:Int)),(21,I y.1),(25,Ri xs),(26,I (xs.length:Int)),(27,I q.1)])
   (fun v q=>[.obj b 92 (bA (.pointer (O7 b q.2)) (RV q.2 v)),.sl (RV q.2 v) 5 (.int .u8) q.2,.sl v7 9 .str y.2,.inv 0 eM]) (lF xs) k undef (0,[]) (fun _=>rfl) h (SE.fin [1,0,2,3] ⟨rfl,rfl,rfl,rfl,rfl,rfl,rfl,rfl,trivial⟩ rfl) (fun n2 v q h=>?_)
  unfold lF at h;refine sr (jb (bg rfl) ?_);refine nt (ar (bG rfl (fun hb=>?_) (fun hb=>?_)))
  ·replace h:=cG (oK hb) h;refine sk (ar (ai ?_));obtain⟨c,ec,h⟩:=aa h;refine sr (jb (aD (t:=.int .i64) rfl dB PM ec) ?_);refine ja (ak (t:=.int .i64) rfl PM rfl) ?_;refine aq (nt ?_)
   have hk:0≤lV c∧lV c≤127∧bq (q.2.length+1):=by
    apply Classical.byContradiction;intro hn;rw [if_neg hn] at h;cases h
   replace h:=cG hk h;refine wu 1 rfl fun hv=>?_;refine ab (mq ?_);refine ja (pi rfl U3 US) ?_;refine jb (CJ rfl) ?_;refine bQ (Δ:=[_,_]) (F:=_) (fun _ _ _=>aA rfl _) rfl rfl (ap [.tmp 10,.tmp 33] rfl rfl Oo rfl (yk (b:=b) (p:=O7 b q.2) (v:=RV q.2 v) (l:=q.2) (r:=lV c) (OD b q.2) hv hk.1 hk.2.1 hk.2.2)) ⟨rfl,rfl,trivial⟩ fun v2=>?_;refine ay (bX (tn (ab ?_)));obtain⟨z3,ez3,h⟩:=aa h;refine jb (aW rfl ez3) ?_;refine mq (nl ?_);exact jf (v2,(z3,q.2++[lV c])) h (SE.fin [0,1,2,3] ⟨rfl,rfl,rfl,rfl,rfl,rfl,rfl,rfl,trivial⟩ (by simp only [Jd,Jc];rfl))
  replace h:=bO (nL hb) h;refine jH (cp (cp (eH (tn ?_))));replace h:(if bq (y.2.length+1) then(ck (y.1+1)).bind fun z=>jZ k a1 n (z,y.2++[qL q.2]) else none).bind _=some r:=h
  have hk:bq (y.2.length+1):=by
   apply Classical.byContradiction;intro hn;rw [if_neg hn] at h;cases h
  replace h:=cG hk h;refine ab (mq ?_);refine bQ (Δ:=[_,_]) (F:=_) (fun _ _ _=>aA rfl _) rfl rfl (ap [.tmp 10] rfl rfl IT rfl (xc (b:=b) (l:=q.2) (fun hn=>by rw [hn];rfl))) ⟨rfl,trivial⟩ fun _=>?_;refine ja (be (t:=.str) [(.tmp 37,.eq (.string (qL q.2)))] [qL q.2] rfl rfl MN (.cons rfl .str .nil) rfl rfl) ?_;refine cz rfl rfl rfl (bp rfl rfl MN (by simpa using hk)) ⟨rfl,rfl,trivial⟩ fun v'=>?_;refine aq (ay (bX (tn (ab ?_))));obtain⟨z3,ez3,h⟩:=aa h;refine jb (aW rfl ez3) ?_;refine mq (nl ?_);exact jz (v',(z3,y.2++[qL q.2])) h [0,1]
 replace h:=bO (nL hb) h
 refine jH ?_
 refine cp ?_
 refine cp ?_
 refine eH ?_
 refine tn ?_
 replace h:((uC k y.2 ⟨#[47]⟩).bind fun r=>some (.string r,0)).bind some=some r:=h
 obtain⟨r1,j,h⟩:=aa h
 cases h
 have cj:=BO k y.2 _ r1 j
 refine sr ?_
 refine ct (d5 [7] ⟨rfl,trivial⟩) ?_
 refine mq ?_
 refine jb (ap [.tmp 41,.const (.string ⟨#[47]⟩)] rfl rfl On rfl cj) ?_
 refine aq ?_
 refine cq ?_
 refine nt ?_
 refine bH ?_
 exact aO () [_,_] 1 ⟨rfl,rfl,trivial⟩ rfl
def iC(k:Nat)(a0:aQ)(a1:(List (List (List Int)))):Nat→((List (List Int))×Int×Bool×Int)→Option ((List (List Int))×Int×Bool)
 |0,_=>none
 |n+1,y5=>
  if y5.2.2.2 < (a1.length:Int) then((((aR a1 y5.2.2.2).bind fun x9=>
  (cy k a0 x9).bind fun c=>
  ((if¬(y5.2.2.1=true) then(some true) else(some (decide (c < y5.2.1)))):Option (Bool)).bind fun h=>
  if h=true then(some (x9,c,true)) else(some (y5.1,y5.2.1,y5.2.2.1))):Option ((List (List Int))×Int×Bool)).bind fun x7=>
  (ck (y5.2.2.2+1)).bind fun e=>
  iC k a0 a1 n (x7.1,x7.2.1,x7.2.2,e)) else(some (y5.1,y5.2.1,y5.2.2.1))
def lY(k:Nat)(a0:aQ)(a1:(List (List (List Int)))):Option ((List (List Int))×Int×Bool):=
 ((iC k a0 a1 k ([[0,0,0,0,0],[0,0,0,0,0],[0,0,0,0,0]],0,false,0)):Option ((List (List Int))×Int×Bool)).bind fun x3=>
 some (x3.1,x3.2.1,x3.2.2)
theorem rE(k:Nat)(a0:aQ)(z_a0:Nat)(a1:(List (List (List Int))))(r:(List (List Int))×Int×Bool)(h:lY k a0 a1=some r):
 dG (jv Tryz.prog) 55 [.fn 48 (uQ [.at ax (a0,(.map (some z_a0)))]),.rep (.slice (.arr 3 (.arr 5 (.int .i64)))) a1] [.inv z_a0 (bL k a0)] (fun _:Unit=>(bm [.rep (.arr 3 (.arr 5 (.int .i64))) r.1,I r.2.1,.eq (.bool r.2.2)],[.inv z_a0 (bL k a0)])):=by
 unfold lY at h
 replace h:=aZ h
 refine dG.of 35 Tryz.func55 rfl Tryz.ntmps55 rfl fun S w0=>?_
 refine sr ?_
 refine aE rfl rfl rfl (a9 rfl sT t3) trivial fun b1=>?_
 refine au ?_
 refine aE rfl rfl rfl (a9 rfl sT t3) trivial fun b2=>?_
 refine nt ?_
 refine sr ?_
 refine cq ?_
 refine cq ?_
 refine nt ?_
 refine aM (Z:=Unit) (α:=(List (List Int))×Int×Bool) (fun z4 x3=>[(4,Pt b1),(7,Pt b2),(8,I x3.2.1),(9,.eq (.bool x3.2.2))]) (fun z4 x3=>[.obj b1 85 (.rep (.arr 3 (.arr 5 (.int .i64))) [[0,0,0,0,0],[0,0,0,0,0],[0,0,0,0,0]]),.obj b2 85 (.rep (.arr 3 (.arr 5 (.int .i64))) x3.1),.inv z_a0 (bL k a0)]) h (fun K h=>?_) (fun z4 x3 h=>?_)
 ·
  refine au ?_;refine ol RG ?_;refine ff rfl ?_;refine nt (ai (aK (fun z6 y5=>[(0,.fn 48 (uQ [.at ax (a0,(.map (some z_a0)))])),(4,Pt b1),(7,Pt b2),(8,I y5.2.1),(9,.eq (.bool y5.2.2.1)),(13,.rep (.slice (.arr 3 (.arr 5 (.int .i64)))) a1),(14,I (a1.length:Int)),(15,I y5.2.2.2)]) (fun z6 y5=>[.obj b1 85 (.rep (.arr 3 (.arr 5 (.int .i64))) [[0,0,0,0,0],[0,0,0,0,0],[0,0,0,0,0]]),.obj b2 85 (.rep (.arr 3 (.arr 5 (.int .i64))) y5.1),.inv z_a0 (bL k a0)]) (iC k a0 a1) k () ([[0,0,0,0,0],[0,0,0,0,0],[0,0,0,0,0]],0,false,0) (fun _=>rfl) h (SE.fin [1,0,2] ⟨rfl,rfl,rfl,rfl,rfl,rfl,rfl,rfl,trivial⟩ rfl) (fun n z6 y5 h=>?_)));unfold iC at h;refine sr (jb (bg rfl) ?_);refine au ?_;refine ci h (fun h=>?_) (fun h=>?_)
  ·refine sk (aM (Z:=Unit) (α:=(List (List Int))×Int×Bool) (fun z8 x7=>[(0,.fn 48 (uQ [.at ax (a0,(.map (some z_a0)))])),(4,Pt b1),(7,Pt b2),(8,I x7.2.1),(9,.eq (.bool x7.2.2)),(13,.rep (.slice (.arr 3 (.arr 5 (.int .i64)))) a1),(14,I (a1.length:Int)),(15,I y5.2.2.2)]) (fun z8 x7=>[.obj b1 85 (.rep (.arr 3 (.arr 5 (.int .i64))) [[0,0,0,0,0],[0,0,0,0,0],[0,0,0,0,0]]),.obj b2 85 (.rep (.arr 3 (.arr 5 (.int .i64))) x7.1),.inv z_a0 (bL k a0)]) h (fun K h=>?_) (fun z8 x7 h=>?_))
   ·refine ai (sr ?_);obtain⟨x9,D,h⟩:=aa h;refine jb (aD (t:=(.arr 3 (.arr 5 (.int .i64)))) rfl RG ge D) ?_;refine ja (ak (t:=(.arr 3 (.arr 5 (.int .i64)))) rfl ge rfl) ?_;refine aE rfl rfl rfl (a9 rfl sT t3) trivial fun x=>?_;refine bf rfl rfl (a8 rfl ge rfl rfl rfl) ⟨rfl,rfl,trivial⟩ ?_;refine au ?_;refine lo ge ?_;obtain⟨c,u,h⟩:=aa h;refine fr 3 ?_;refine kb (HH (fs:=[.at ax (a0,(.map (some z_a0)))]) (ags:=[.rep (.arr 3 (.arr 5 (.int .i64))) x9]) [.tmp 20] rfl rfl QV rfl (jY k a0 z_a0 x9 c u)) ?_;refine aq (nt ?_);refine aM (Z:=Unit) (α:=Bool) (fun j e=>[(0,.fn 48 (uQ [.at ax (a0,(.map (some z_a0)))])),(4,Pt b1),(7,Pt b2),(8,I y5.2.1),(9,.eq (.bool y5.2.2.1)),(11,Pt x),(12,I c),(13,.rep (.slice (.arr 3 (.arr 5 (.int .i64)))) a1),(14,I (a1.length:Int)),(15,I y5.2.2.2),(28,.eq (.bool e))]) (fun j e=>[.obj b1 85 (.rep (.arr 3 (.arr 5 (.int .i64))) [[0,0,0,0,0],[0,0,0,0,0],[0,0,0,0,0]]),.obj b2 85 (.rep (.arr 3 (.arr 5 (.int .i64))) y5.1),.obj x 85 (.rep (.arr 3 (.arr 5 (.int .i64))) x9),.inv z_a0 (bL k a0)]) h (fun K h=>?_) (fun j e h=>?_)
    ·refine ab (mq ?_);refine ja (eJ rfl) ?_;refine mq ?_;refine cd (s:=24) rfl (fun hb=>?_) (fun hb=>?_)
     ·replace h:=cG (Fa hb) h;refine au ?_;exact jz ((),true) h [2,3,1,0]
     ·replace h:=bO (xh hb) h;refine au ?_;refine gb (bg rfl) ?_;refine au ?_;exact jz ((),decide (c < y5.2.1)) h [2,3,1,0]
    ·refine cv h (fun h=>?_) (fun h=>?_)
     ·refine ab (fr 2 ?_);refine lo ge ?_;refine mq ?_;refine fr 2 ?_;refine bf rfl rfl (a8 rfl ge rfl rfl rfl) ⟨rfl,rfl,trivial⟩ ?_;refine au ?_;exact jz ((),(x9,c,true)) h [2,0,3]
     ·refine au ?_;exact jz ((),(y5.1,y5.2.1,y5.2.2.1)) h [0,1,3]
   ·refine ab ?_;obtain⟨y,l,h⟩:=aa h;refine jb (aW rfl l) ?_;refine au ?_;exact jz ((),(x7.1,x7.2.1,x7.2.2,y)) h [0,1,2]
  ·refine au ?_;exact jz ((),(y5.1,y5.2.1,y5.2.2.1)) h [0,1,2]
 ·
  refine sr (fr 1 ?_);refine lo ge ?_;iterate 2 refine mq ?_
  refine fr 1 ?_;refine bf rfl rfl (a8 rfl ge rfl rfl rfl) ⟨rfl,rfl,trivial⟩ ?_;refine aq ?_;refine aq (nt (bH ?_));refine bz (SE.fin (Γ':=[(4,_),(5,_),(6,_)]) [2,0,1] ⟨rfl,rfl,rfl,trivial⟩ rfl) ?_;cases h;exact aO () [.rep (.arr 3 (.arr 5 (.int .i64))) x3.1,_,_] 1 ⟨⟨_,_,_,_,_,rfl,(.tail _ (.head _)),ge,(wy),rfl⟩,rfl,rfl,trivial⟩ rfl
def uR(k:Nat)(a0:aQ):Option ((List (List Int))×Int×Int):=
 (lM k a0).bind fun r2=>
 if¬(r2=0) then(some ([],0,r2)) else((kE k (a0,())).bind fun r5=>
 (lY k a0 r5).bind fun r6=>
 if¬(r6.2.2=true) then(some ([],0,11)) else((iJ k (a0,()) r6.1).bind fun r8=>
 some (r8,r6.2.1,0)))
theorem zB(k:Nat)(a0:aQ)(r:(List (List Int))×Int×Int)(h:uR k a0=some r):
 dG (jv Tryz.prog) 23 [.rep ao a0] [] (fun _:Unit=>(bm [.rep (.slice (.slice (.int .i64))) r.1,I r.2.1,I r.2.2],[])):=by
 unfold uR at h
 replace h:=aZ h
 refine dG.of 33 Tryz.func23 rfl Tryz.ntmps23 rfl fun S w0=>?_
 refine sr ?_
 refine bx fun b1=>?_
 refine au ?_
 refine lo cU ?_
 obtain⟨r2,l,h⟩:=aa h
 have n:=rH k a0 r2 l
 refine ja (ap [.tmp 10] rfl rfl QU rfl n) ?_
 refine au ?_
 refine jb (g7 rfl) ?_
 refine nt ?_
 refine cn h (fun h=>?_) (fun h=>?_)
 ·
  refine sr (mq ?_);refine cq ?_;refine cq ?_;refine aq (nt (rx ?_));refine bz (ot (t:=(.slice (.slice (.int .i64)))) (x:=[]) 2 rfl .nil rfl rfl) ?_;cases h;exact aO () [_,_,_] 0 ⟨rfl,rfl,rfl,trivial⟩ rfl
 ·
  refine au ?_;refine lo cU ?_;refine aE rfl rfl rfl (ap [.tmp 15] rfl rfl Lx rfl (iL a0)) ⟨rfl,trivial⟩ fun z3=>?_;refine ct (lR (bL k a0) nz) ?_;refine au ?_;refine ja (Ky [.tmp 18] [.at ax (a0,(.map (some z3)))] rfl rfl) ?_;refine mq ?_;refine aE rfl rfl rfl (d6 (N:=[(.tmp 20,.at ax (a0,(.map (some z3))))]) (ap [.tmp 20] rfl rfl TS rfl (oW (a0,()))) fun _ _ _ hn=>⟨tY hn.1,trivial⟩) ⟨rfl,trivial⟩ fun b4=>?_;obtain⟨r5,j,h⟩:=aa h;refine ka (ap [.tmp 21] rfl rfl TU rfl (qs k (a0,()) b4 r5 j)) ?_;obtain⟨r6,e,h⟩:=aa h;refine fr 1 ?_;refine kb (gi [.tmp 19,.tmp 22] rfl rfl TX rfl (rE k a0 z3 r5 r6 e)) ?_;refine au ?_;refine aE rfl rfl rfl (a9 rfl sT t3) trivial fun b7=>?_;refine bf rfl rfl (a8 rfl ge rfl rfl rfl) ⟨rfl,rfl,trivial⟩ ?_;refine au ?_;refine ja (eJ rfl) ?_;refine nt (cw h (fun h=>?_) (fun h=>?_))
  ·refine sr (cq ?_);refine cq ?_;refine cq (nt (rx ?_));refine bz (ot (t:=(.slice (.slice (.int .i64)))) (x:=[]) 2 rfl .nil rfl rfl) ?_;cases h;exact aO () [_,_,_] 0 ⟨rfl,rfl,rfl,trivial⟩ rfl
  ·refine au ?_;refine lo ge ?_;obtain⟨r8,c,h⟩:=aa h;refine aE rfl rfl rfl (d6 (N:=[(.tmp 29,.at ax (a0,(.map (some z3)))),(.tmp 30,.rep (.arr 3 (.arr 5 (.int .i64))) r6.1)]) (ap [.tmp 29,.tmp 30] rfl rfl Ot rfl (jX k (a0,()) r6.1 r8 c)) fun _ _ _ hn=>⟨(tY hn.1),hn.2.1,trivial⟩) ⟨rfl,rfl,trivial⟩ fun v9=>?_;refine mq ?_;refine aq ?_;refine aq ?_;refine cq (nt (bH ?_));refine bz (d5 [2,31] ⟨rfl,rfl,trivial⟩) ?_;cases h;exact aO () [_,_,_] 0 ⟨rfl,rfl,rfl,trivial⟩ rfl
set_option maxRecDepth 20000
set_option maxHeartbeats 4000000
@[reducible] def fk:Ty:=.agg (.pair (.int .i64) (.int .i64))
def QB(x:Int×Int):Value:=.agg #[.int .i64 x.1,.int .i64 x.2]
theorem Lq{S:FS}{w:World}{x:Int×Int}:(A.rep fk x).holds S w (QB x):=⟨[_,_],⟨[_],[_],rfl,rfl,rfl⟩,rfl⟩
theorem IP{S:FS}{w:World}{x:Int×Int}{v:Value}(h:(A.rep fk x).holds S w v):(A.eq (QB x)).holds S w v:=by
 obtain⟨cs,⟨c1,c2,rfl,h1,h2⟩,rfl⟩:=h;have h1:c1=_:=h1;have h2:c2=_:=h2;subst h1 h2;rfl
theorem hH:dJ Tryz.prog 114 2 true:=⟨fun w=>by kernel_rfl,fun w=>by kernel_rfl⟩
theorem oD:dJ Tryz.prog 28 1 false:=⟨fun w=>by kernel_rfl,fun w=>by kernel_rfl⟩
theorem Dy:dJ Tryz.prog 22 1 false:=⟨fun w=>by kernel_rfl,fun w=>by kernel_rfl⟩
theorem ut:dJ Tryz.prog 3 1 false:=⟨fun w=>by kernel_rfl,fun w=>by kernel_rfl⟩
theorem GX:dJ Tryz.prog 80 1 false:=⟨fun w=>by kernel_rfl,fun w=>by kernel_rfl⟩
theorem N7:aX Tryz.prog 114 0 0:=aX.of (by kernel_rfl)
theorem N6:aX Tryz.prog 114 1 1:=aX.of (by kernel_rfl)
theorem QA:aX Tryz.prog 111 0 0:=aX.of (by kernel_rfl)
theorem ux:aX Tryz.prog 111 1 1:=aX.of (by kernel_rfl)
theorem yP:ae Tryz.prog 95:=ae.of Tryz.func95 (by kernel_rfl) (by kernel_rfl)
def eT(x:Int×Int)(m:Int):Nat→Int×List Int→Option (List Int)
 |0,_=>none
 |n+1,q=>if q.1 < m then((aR q.2 q.1).bind fun c=>if c=x.1 then(ck (q.1+1)).bind fun w=>eT x m n (w,q.2.set q.1.toNat x.2) else if c=x.2 then(ck (q.1+1)).bind fun w=>eT x m n (w,q.2.set q.1.toNat x.1) else(ck (q.1+1)).bind fun w=>eT x m n (w,q.2)) else some q.2
def gQ(k:Nat)(x:Int×Int)(m:Int):Nat→Int×List (List Int)→Option (List (List Int))
 |0,_=>none
 |n+1,q=>if q.1 < m then((aR q.2 q.1).bind fun l=>(eT x (l.length:Int) k (0,l)).bind fun l2=>(ck (q.1+1)).bind fun w=>gQ k x m n (w,q.2.set q.1.toNat l2)) else some q.2
def kX(k:Nat)(x:Int×Int)(ls:List (List Int)):Option (List (List Int)):=gQ k x (ls.length:Int) k (0,ls)
theorem mL(k:Nat)(x:Int×Int)(ls r:List (List Int))(y:Nat)(d0:ax.den)(z:Value×(Nat→Value))(h:kX k x ls=some r):
 bV Tryz.prog 95 [.eq (bP y),.rep fk x] ([.obj y 111 (.agg (.pair (.at ax d0) (.eq z.1)))]++fC 22 z ls) (fun _:Unit=>(bm [],[.obj y 111 (.agg (.pair (.at ax d0) (.eq z.1)))]++fC 22 z r)):=by
 unfold kX at h
 replace h:=aZ h
 refine bV.of 45 Tryz.func95 rfl Tryz.ntmps95 rfl fun S w0=>?_
 refine sr ?_
 refine bx fun b3=>?_
 refine nt ?_
 refine sr ?_
 refine mq ?_
 refine ja (aY rfl) ?_
 refine fl ux ?_
 refine fr 1 ?_
 refine lo oD ?_
 refine ct (Ej (pre:=[.obj y 111 (.agg (.pair (.at ax d0) (.eq z.1))),.obj b3 114 (.rep fk x)])) ?_
 refine ka (cZ rfl rfl lJ) ?_
 rw [g9]
 refine ct (F7 (pre:=[.obj y 111 (.agg (.pair (.at ax d0) (.eq z.1))),.obj b3 114 (.rep fk x)])) ?_
 refine ff rfl ?_
 refine nt ?_
 refine ai ?_
 refine aK (Z:=Unit) (α:=Int×List (List Int)) (fun _ q=>[(3,.eq (bP b3)),(11,.eq z.1),(12,I (ls.length:Int)),(13,I q.1)]) (fun _ q=>[.obj y 111 (.agg (.pair (.at ax d0) (.eq z.1))),.obj b3 114 (.rep fk x)]++fC 22 z q.2) (gQ k x (ls.length:Int)) k () (0,ls) (fun _=>rfl) h (bi [.obj y 111 (.agg (.pair (.at ax d0) (.eq z.1))),.obj b3 114 (.rep fk x)] (fC 22 z ls) [0,1] ⟨rfl,rfl,rfl,rfl,trivial⟩ rfl) (fun n u q h=>?_)
 unfold gQ at h
 refine sr ?_
 refine jb (bg rfl) ?_
 refine nt ?_
 refine ar ?_
 refine bG rfl (fun hb=>?_) (fun hb=>?_)
 ·
  replace h:=cG (oK hb) h;refine sk (ar (ai ?_));obtain⟨l,el,h⟩:=aa h;refine dA (t4 (pre:=[.obj y 111 (.agg (.pair (.at ax d0) (.eq z.1))),.obj b3 114 (.rep fk x)]) (qe el).2) ?_;refine sr (fr 1 ?_);refine kb (aV (t:=.val) rfl lJ Dy (kS el)) ?_;refine ka (dM (i:=q.1.toNat) (off:=0) rfl Dy (fun _=>rfl) rfl (co (kS el)).2.2 rfl) ?_;refine aq (nt ?_);rw [Option.bind_assoc] at h;refine sr (mq ?_);refine fr 1 ?_;refine ka (cZ rfl rfl dB) ?_;refine ff rfl ?_;refine nt (ai (aK (Z:=Unit) (α:=Int×List Int) (fun _ q2=>[(3,.eq (bP b3)),(5,.eq (z.2 q.1.toNat)),(11,.eq z.1),(12,I (ls.length:Int)),(13,I q.1),(17,.eq (z.2 q.1.toNat)),(18,I (l.length:Int)),(19,I q2.1)]) (fun _ q2=>[.sl (z.2 q.1.toNat) 3 (.int .i64) (q2.2),.sl z.1 22 .val (ek z.2 0 q.2),.obj y 111 (.agg (.pair (.at ax d0) (.eq z.1))),.obj b3 114 (.rep fk x)]++((kV z.2 0 q.2).eraseIdx q.1.toNat)) (eT x (l.length:Int)) k () (0,l) (fun _=>rfl) h (bi [.sl (z.2 q.1.toNat) 3 (.int .i64) (l),.sl z.1 22 .val (ek z.2 0 q.2),.obj y 111 (.agg (.pair (.at ax d0) (.eq z.1))),.obj b3 114 (.rep fk x)] ((kV z.2 0 q.2).eraseIdx q.1.toNat) [0,1,2,3] ⟨rfl,rfl,rfl,rfl,rfl,rfl,rfl,rfl,trivial⟩ rfl) (fun n2 u2 q2 h=>?_)));unfold eT at h;refine sr (jb (bg rfl) ?_);refine nt (ar (bG rfl (fun hb=>?_) (fun hb=>?_)))
  ·replace h:=cG (oK hb) h;refine sk (ar (ai ?_));obtain⟨c,ec,h⟩:=aa h;refine sr (mq ?_);refine kb (aV (t:=.int .i64) rfl dB ut ec) ?_;refine ka (dM (i:=q2.1.toNat) (off:=0) rfl ut (fun _=>rfl) rfl (co ec).2.2 rfl) ?_;refine aq ?_;refine aq (nt (sr ?_));refine mq (nt (ai (sr ?_)));refine fl N7 ?_;refine fr 3 ?_;refine lo ut ?_;refine jb (fq rfl) ?_;refine aq (nt ?_);refine ci h (fun h=>?_) (fun h=>?_)
   ·refine ab ?_;iterate 2 refine mq ?_
    refine fl N6 ?_;refine lo ut ?_;refine fr 1 ?_;refine kb (aV (t:=.int .i64) rfl dB ut ec) ?_;refine bf rfl rfl (cP (i:=q2.1.toNat) rfl ut rfl (ig ec) rfl .int rfl) ⟨rfl,rfl,trivial⟩ ?_;refine ay (bX (bX (tn (ab ?_))));obtain⟨w,ew,h⟩:=aa h;refine jb (aW rfl ew) ?_;refine mq (nl ?_);exact jf ((),(w,q2.2.set q2.1.toNat x.2)) h (bi [.sl (z.2 q.1.toNat) 3 (.int .i64) (q2.2.set q2.1.toNat x.2),.obj b3 114 (.rep fk x),.sl z.1 22 .val (ek z.2 0 q.2),.obj y 111 (.agg (.pair (.at ax d0) (.eq z.1)))] ((kV z.2 0 q.2).eraseIdx q.1.toNat) [0,2,3,1] ⟨rfl,rfl,rfl,rfl,rfl,rfl,rfl,rfl,trivial⟩ rfl)
   ·refine sr (fl N6 ?_);refine lo ut ?_;refine jb (fq rfl) ?_;refine aq (nt ?_);refine ci h (fun h=>?_) (fun h=>?_)
    ·refine ab ?_;iterate 2 refine mq ?_
     refine fl N7 ?_;refine lo ut ?_;refine fr 1 ?_;refine kb (aV (t:=.int .i64) rfl dB ut ec) ?_;refine bf rfl rfl (cP (i:=q2.1.toNat) rfl ut rfl (ig ec) rfl .int rfl) ⟨rfl,rfl,trivial⟩ ?_;refine ay (bX (bX (tn (ab ?_))));obtain⟨w,ew,h⟩:=aa h;refine jb (aW rfl ew) ?_;refine mq (nl ?_);exact jf ((),(w,q2.2.set q2.1.toNat x.1)) h (bi [.sl (z.2 q.1.toNat) 3 (.int .i64) (q2.2.set q2.1.toNat x.1),.obj b3 114 (.rep fk x),.sl z.1 22 .val (ek z.2 0 q.2),.obj y 111 (.agg (.pair (.at ax d0) (.eq z.1)))] ((kV z.2 0 q.2).eraseIdx q.1.toNat) [0,2,3,1] ⟨rfl,rfl,rfl,rfl,rfl,rfl,rfl,rfl,trivial⟩ rfl)
    ·refine cX (bX (bX (tn (ab ?_))));obtain⟨w,ew,h⟩:=aa h;refine jb (aW rfl ew) ?_;refine mq (nl ?_);exact jf ((),(w,q2.2)) h (bi [.obj b3 114 (.rep fk x),.sl (z.2 q.1.toNat) 3 (.int .i64) (q2.2),.sl z.1 22 .val (ek z.2 0 q.2),.obj y 111 (.agg (.pair (.at ax d0) (.eq z.1)))] ((kV z.2 0 q.2).eraseIdx q.1.toNat) [1,2,3,0] ⟨rfl,rfl,rfl,rfl,rfl,rfl,rfl,rfl,trivial⟩ rfl)
  replace h:=bO (nL hb) h;refine jH (cp (cp (eH (bX (tn (dA (Bf (pre:=[.obj y 111 (.agg (.pair (.at ax d0) (.eq z.1))),.obj b3 114 (.rep fk x)]) (l':=q2.2) (qe el).2) ?_))))));refine ab ?_;obtain⟨w,ew,h⟩:=aa (X:=ck (q.1+1)) (f:=fun w=>gQ k x (ls.length:Int) n (w,q.2.set q.1.toNat q2.2)) (K:=some) (r:=r) (by simpa using h);refine jb (aW rfl ew) ?_;refine mq (nl ?_);exact jf ((),(w,q.2.set q.1.toNat q2.2)) h (bi [.obj y 111 (.agg (.pair (.at ax d0) (.eq z.1))),.obj b3 114 (.rep fk x)] (fC 22 z (q.2.set q.1.toNat q2.2)) [0,1] ⟨rfl,rfl,rfl,rfl,trivial⟩ rfl)
 replace h:=bO (nL hb) h
 refine jH ?_
 refine cp ?_
 refine cp ?_
 refine eH ?_
 cases h
 refine jw ?_
 refine bz (bi (Γ':=[]) (pre':=[.obj y 111 (.agg (.pair (.at ax d0) (.eq z.1)))]) [.obj y 111 (.agg (.pair (.at ax d0) (.eq z.1))),.obj b3 114 (.rep fk x)] (fC 22 z q.2) [0] trivial rfl) ?_
 exact jg () [] trivial rfl
@[reducible] def J6:Ty:=.agg (.pair (.ptr ax) (.slice (.slice (.int .i64))))
theorem Nq{S:FS}{w:World}{y:Nat}{d0:ax.den}{z:Value×(Nat→Value)}{ls:List (List Int)}(h:∀d∈[D.obj y 111 (.agg (.pair (.at ax d0) (.eq z.1)))]++fC 22 z ls,d.holds S w∧∀b,d.foot=some b→S b):(A.at J6 (d0,ls)).holds S w (bP y):=by
 obtain⟨⟨cs,h1,c1,c2,rfl,g1,rfl,g2⟩,h2⟩:=h _ (List.mem_cons_self ..);have h3:=NR (fun d hd=>h d (List.mem_cons_of_mem _ hd));refine⟨y,0,_,111,(0,0),rfl,h2 y rfl,h1,c1,[z.1],?_,g1,?_⟩
 ·have l1:=aN (.ptr ax) g1;simp only [Ty.cells] at l1;match c1,l1 with
  |[u],_=>rfl
 ·obtain⟨cs,h4,h5⟩:=h3;have l1:=aN (.slice (.slice (.int .i64))) h4;simp only [Ty.cells] at l1;match cs,l1 with
  |[u],_=>rw [h5];exact h4
theorem zx{S:FS}{w:World}{a:Act}{Γ:Ga}{y:Nat}{d0:ax.den}{z:Value×(Nat→Value)}{ls:List (List Int)}(h:∀d∈[D.obj y 111 (.agg (.pair (.at ax d0) (.eq z.1)))]++fC 22 z ls,d.holds S w∧∀b,d.foot=some b→S b)
 (hk:∀s r,lk Γ s=some r→r.holds S w (a.tmps.getD s undef)) (h0:lk Γ 0=some (.eq (bP y))):∀s r,lk [(0,A.at J6 (d0,ls))] s=some r→r.holds S w (a.tmps.getD s undef):=fun s r hl=>by
 simp only [lk] at hl
 split at hl
 ·
  rename_i e
  cases hl
  subst e
  have e1:a.tmps.getD 0 undef=bP y:=hk 0 _ h0
  rw [e1]
  exact Nq h
 ·
  cases hl
theorem M5{n:Nat}{r0:A}(h:r0.flat=true):∀s r,lk [(n,r0)] s=some r→r.flat=true:=fun s r hl=>by
 simp only [lk] at hl
 split at hl
 ·
  cases hl;exact h
 ·
  cases hl
theorem N9{d0:D}(h:d0.flat=true):∀d∈[d0],d.flat=true:=fun d hd=>by
 simp only [List.mem_cons,List.not_mem_nil,or_false] at hd
 subst hd;exact h
theorem Lp{d0 d1:D}(h:d0.flat=true)(h1:d1.flat=true):∀d∈[d0,d1],d.flat=true:=fun d hd=>by
 simp only [List.mem_cons,List.not_mem_nil,or_false] at hd
 rcases hd with rfl |rfl <;> assumption
theorem zy{y:Nat}{x:Int×Int}(S:FS)(w:World):gf S w [.eq (bP y),.rep fk x] [bP y,QB x]:=⟨_,_,rfl,rfl,_,_,rfl,Lq,rfl⟩
theorem N5:aX Tryz.prog 146 0 0:=aX.of (by kernel_rfl)
theorem GW:dJ Tryz.prog 27 3 true:=⟨fun w=>by kernel_rfl,fun w=>by kernel_rfl⟩
theorem QF:ae Tryz.prog 81:=ae.of Tryz.func81 (by kernel_rfl) (by kernel_rfl)
theorem QG:ae Tryz.prog 47:=ae.of Tryz.func47 (by kernel_rfl) (by kernel_rfl)
theorem Oe:ae Tryz.prog 48:=ae.of Tryz.func48 (by kernel_rfl) (by kernel_rfl)
def jo(k:Nat)(t:aQ)(x:Int×Int)(ls:List (List Int)):Option (Bool×List (List Int)):=
 (kX k x ls).bind fun l1=>(lL k t l1).bind fun e=>if Fv e=true then(kX k x l1).bind fun l2=>some (!vL e,l2) else none
theorem sW(k:Nat)(t:aQ)(x:Int×Int)(ls:List (List Int))(r:Bool×List (List Int))(y m:Nat)(z:Value×(Nat→Value))(h:jo k t x ls=some r):
 bV Tryz.prog 60 [.eq (bP y),.rep fk x] ([.obj y 111 (.agg (.pair (.at ax (t,.map (some m))) (.eq z.1)))]++fC 22 z ls) (fun _:Unit=>(bm [.eq (.bool r.1)],[.obj y 111 (.agg (.pair (.at ax (t,.map (some m))) (.eq z.1)))]++fC 22 z r.2)):=by
 unfold jo at h
 replace h:=aZ h
 obtain⟨l1,e1,h⟩:=aa h
 obtain⟨e,e2,h⟩:=aa h
 have he:Fv e=true:=by
  apply Classical.byContradiction;intro hn;rw [if_neg hn] at h;cases h
 replace h:=cG he h
 obtain⟨l2,e3,h⟩:=aa h
 cases h
 have cv:=rA k t l1 e e2
 refine MF 23 Tryz.func60 rfl Tryz.ntmps60 rfl fun S w0=>?_
 refine sr ?_
 refine bx fun b3=>?_
 refine au ?_
 refine ka (aj rfl hH (zj) rfl) ?_
 refine ct (fD (Δ':=([.obj y 111 (.agg (.pair (.at ax (t,.map (some m))) (.eq z.1)))]++fC 22 z ls)++[.obj b3 114 (.rep fk x)]) (List.perm_append_comm (l₁:=([.obj b3 114 (.rep fk x)]:List D)))) ?_
 refine bQ (Δ:=_++_) (F:=[_]) (fun _ _ _=>aA rfl _) rfl rfl (ap [.tmp 5,.tmp 6] rfl rfl yP rfl (mL k x ls l1 y (t,.map (some m)) z e1)) ⟨rfl,rfl,trivial⟩ fun _=>?_
 refine nt ?_
 refine sr ?_
 refine mq ?_
 refine ct (fD (Δ':=[.obj b3 114 (.rep fk x)]++([.obj y 111 (.agg (.pair (.at ax (t,.map (some m))) (.eq z.1)))]++fC 22 z l1)) List.perm_append_comm) ?_
 refine ka (aj rfl hH (zj) rfl) ?_
 refine ct (sL 9 rfl fun _ _ _ h=>IP h) ?_
 refine xY (vs:=[bP y,QB x]) [.tmp 8,.tmp 9] rfl rfl rfl rfl rfl ⟨rfl,rfl,trivial⟩ ?_
 refine ay ?_
 refine ag ?_
 refine bz (fD (Δ':=([.obj y 111 (.agg (.pair (.at ax (t,.map (some m))) (.eq z.1)))]++fC 22 z l1)++[.obj b3 114 (.rep fk x)]) (List.perm_append_comm (l₁:=([.obj b3 114 (.rep fk x)]:List D)))) ?_
 show JC _ _ _ _ _
 refine ar ?_
 refine Eu (L:=_++_) (Δ:=[_]) (Γ1:=[(0,.at J6 ((t,.map (some m)),l1))]) (Z:=Unit) (fun _=>[(4,.eq (.bool (!vL e)))]) (fun _=>[.obj b3 114 (.rep fk x)]) (fun S w a hl hk=>zx hl hk rfl) (fun _=>⟨M5 rfl,N9 rfl⟩) (fun S w=>?_) (fun _=>?_)
 ·
  refine bR ?_;refine dm ?_;refine da (dL rfl) ?_;refine da (aJ 1 false rfl QA rfl) ?_;refine da (ak (t:=.ptr ax) rfl GX rfl) ?_;refine da (dL rfl) ?_;refine da (aJ 3 true rfl N5 rfl) ?_;refine da (ak (t:=ao) rfl GW rfl) ?_;refine dm ?_;refine da (dL rfl) ?_;refine da (aJ 1 false rfl ux rfl) ?_;refine da (ak (t:=.slice (.slice (.int .i64))) rfl oD rfl) ?_;refine t7 (by kernel_rfl) qY ?_;refine jb (ap [.tmp 16,.tmp 20] rfl rfl QF rfl cv) ?_;refine jb (rV rfl UQ he) ?_;refine au ?_;exact fun a w st=>⟨rfl,(),(SE.fin (Γ':=[(4,.eq (.bool (!vL e)))]) [0] ⟨rfl,trivial⟩ rfl) a w st⟩
 ·
  refine au ?_;refine Es (Δ1:=[.obj y 111 (.agg (.pair (.at ax (t,.map (some m))) (.eq z.1)))]++fC 22 z l1) (F:=[.obj b3 114 (.rep fk x)]) yP (mL k x l1 l2 y (t,.map (some m)) z e3 _) zy (fun _=>?_);refine bz (fD (Δ':=[.obj b3 114 (.rep fk x)]++([.obj y 111 (.agg (.pair (.at ax (t,.map (some m))) (.eq z.1)))]++fC 22 z l2)) List.perm_append_comm) ?_;refine bz (bi (pre':=[.obj y 111 (.agg (.pair (.at ax (t,.map (some m))) (.eq z.1)))]) (Γ':=[(4,.eq (.bool (!vL e)))]) [.obj b3 114 (.rep fk x),.obj y 111 (.agg (.pair (.at ax (t,.map (some m))) (.eq z.1)))] (fC 22 z l2) [1] ⟨rfl,trivial⟩ rfl) ?_;exact jg () [_] ⟨rfl,trivial⟩ rfl
def fY(k:Nat)(t:aQ)(x:Int×Int)(ls:List (List Int)):Option (Int×List (List Int)):=
 (kX k x ls).bind fun l1=>(dV k l1).bind fun ld=>(cy k t ld).bind fun n=>(kX k x l1).bind fun l2=>some (n,l2)
theorem sX(k:Nat)(t:aQ)(x:Int×Int)(ls:List (List Int))(r:Int×List (List Int))(y m:Nat)(z:Value×(Nat→Value))(h:fY k t x ls=some r):
 dG (jv Tryz.prog) 62 [.eq (bP y),.rep fk x] ([.inv m (bL k t)]++([.obj y 111 (.agg (.pair (.at ax (t,.map (some m))) (.eq z.1)))]++fC 22 z ls)) (fun _:Unit=>(bm [I r.1],[.inv m (bL k t)]++([.obj y 111 (.agg (.pair (.at ax (t,.map (some m))) (.eq z.1)))]++fC 22 z r.2))):=by
 unfold fY at h
 replace h:=aZ h
 obtain⟨l1,e1,h⟩:=aa h
 obtain⟨ld,e2,h⟩:=aa h
 obtain⟨n,e2',h⟩:=aa h
 obtain⟨l2,e3,h⟩:=aa h
 cases h
 have cv:=fo k l1 ld e2
 have cl:=jY k t m ld n e2'
 refine Bn 20 Tryz.func62 rfl Tryz.ntmps62 rfl fun S w0=>?_
 refine sr ?_
 refine bx fun b3=>?_
 refine au ?_
 refine ka (aj rfl hH (zj) rfl) ?_
 refine ct (fD (Δ':=([.obj y 111 (.agg (.pair (.at ax (t,.map (some m))) (.eq z.1)))]++fC 22 z ls)++[.obj b3 114 (.rep fk x),.inv m (bL k t)]) (List.perm_append_comm (l₁:=([.obj b3 114 (.rep fk x),.inv m (bL k t)]:List D)))) ?_
 refine bQ (Δ:=_++_) (F:=[_,_]) (fun _ _ _=>aA rfl _) rfl rfl (ap [.tmp 5,.tmp 6] rfl rfl yP rfl (mL k x ls l1 y (t,.map (some m)) z e1)) ⟨rfl,rfl,trivial⟩ fun _=>?_
 refine nt ?_
 refine sr ?_
 refine mq ?_
 refine ct (fD (Δ':=[.obj b3 114 (.rep fk x),.inv m (bL k t)]++([.obj y 111 (.agg (.pair (.at ax (t,.map (some m))) (.eq z.1)))]++fC 22 z l1)) List.perm_append_comm) ?_
 refine ka (aj rfl hH (zj) rfl) ?_
 refine ct (sL 9 rfl fun _ _ _ h=>IP h) ?_
 refine xY (vs:=[bP y,QB x]) [.tmp 8,.tmp 9] rfl rfl rfl rfl rfl ⟨rfl,rfl,trivial⟩ ?_
 refine ay ?_
 refine ag ?_
 refine bz (fD (Δ':=([.obj y 111 (.agg (.pair (.at ax (t,.map (some m))) (.eq z.1)))]++fC 22 z l1)++[.obj b3 114 (.rep fk x),.inv m (bL k t)]) (List.perm_append_comm (l₁:=([.obj b3 114 (.rep fk x),.inv m (bL k t)]:List D)))) ?_
 show JC _ _ _ _ _
 refine ar ?_
 refine Eu (L:=_++_) (Δ:=[_,_]) (Γ1:=[(0,.at J6 ((t,.map (some m)),l1))]) (Z:=Unit) (fun _=>[(4,I n)]) (fun _=>[.obj b3 114 (.rep fk x),.inv m (bL k t)]) (fun S w a hl hk=>zx hl hk rfl) (fun _=>⟨M5 rfl,Lp rfl rfl⟩) (fun S w=>?_) (fun _=>?_)
 ·
  refine bR ?_;refine dm ?_;refine da (dL rfl) ?_;refine da (aJ 1 false rfl QA rfl) ?_;refine da (ak (t:=.ptr ax) rfl GX rfl) ?_;refine dm ?_;refine da (dL rfl) ?_;refine da (aJ 1 false rfl ux rfl) ?_;refine da (ak (t:=.slice (.slice (.int .i64))) rfl oD rfl) ?_;refine da (ap [.tmp 17] rfl rfl QG rfl cv) ?_;refine t7 (by kernel_rfl) qY ?_;refine fr 1 ?_;refine kb (gi [.tmp 13,.tmp 18] rfl rfl Oe rfl cl) ?_;refine au ?_;exact fun a w st=>⟨rfl,(),(SE.fin (Γ':=[(4,I n)]) [1,0] ⟨rfl,trivial⟩ rfl) a w st⟩
 ·
  refine au ?_;refine Es (Δ1:=[.obj y 111 (.agg (.pair (.at ax (t,.map (some m))) (.eq z.1)))]++fC 22 z l1) (F:=[.obj b3 114 (.rep fk x),.inv m (bL k t)]) yP (mL k x l1 l2 y (t,.map (some m)) z e3 _) zy (fun _=>?_);refine bz (fD (Δ':=[.obj b3 114 (.rep fk x),.inv m (bL k t)]++([.obj y 111 (.agg (.pair (.at ax (t,.map (some m))) (.eq z.1)))]++fC 22 z l2)) List.perm_append_comm) ?_;refine bz (bi (pre':=[.inv m (bL k t),.obj y 111 (.agg (.pair (.at ax (t,.map (some m))) (.eq z.1)))]) (Γ':=[(4,I n)]) [.obj b3 114 (.rep fk x),.inv m (bL k t),.obj y 111 (.agg (.pair (.at ax (t,.map (some m))) (.eq z.1)))] (fC 22 z l2) [1,2] ⟨rfl,trivial⟩ rfl) ?_;exact jg () [_] ⟨rfl,trivial⟩ rfl
theorem sS:∀w,(zeroValue 114).run Tryz.prog w= .ok (.agg #[.int .i64 0,.int .i64 0]) w:=fun w=>by kernel_rfl
theorem wa:∀S w,(A.cells S w (.rep fk (0,0)) (Value.cells (.agg #[.int .i64 0,.int .i64 0])).toList):=fun _ _=>⟨[_],[_],rfl,rfl,rfl⟩
theorem Of:ae Tryz.prog 62:=ae.of Tryz.func62 (by kernel_rfl) (by kernel_rfl)
abbrev M8:=Int×(Int×Int)×Int×Bool×List (List Int)
def c9(k:Nat)(t:aQ)(xs:List (Int×Int)):Nat→M8→Option ((Int×Int)×Int×Bool×List (List Int))
 |0,_=>none
 |n+1,q=>if q.1 < (xs.length:Int) then((aR xs q.1).bind fun x=>(fY k t x q.2.2.2.2).bind fun r=>(ck (q.1+1)).bind fun w=>c9 k t xs n (if(!q.2.2.2.1 || decide (r.1 < q.2.2.1))=true then(w,x,r.1,true,r.2) else(w,q.2.1,q.2.2.1,q.2.2.2.1,r.2))) else some q.2
def jI(k:Nat)(t:aQ)(xs:List (Int×Int))(ls:List (List Int)):Option ((Int×Int)×Int×Bool×List (List Int)):=c9 k t xs k (0,(0,0),0,false,ls)
theorem wE(k:Nat)(t:aQ)(xs:List (Int×Int))(ls:List (List Int))(r:(Int×Int)×Int×Bool×List (List Int))(y m:Nat)(z:Value×(Nat→Value))(h:jI k t xs ls=some r):
 dG (jv Tryz.prog) 61 [.eq (.func (.func 62) #[bP y] #[]),Rs fk xs] ([.inv m (bL k t),.obj y 111 (.agg (.pair (.at ax (t,.map (some m))) (.eq z.1)))]++fC 22 z ls) (fun _:Unit=>(bm [.rep fk r.1,I r.2.1,.eq (.bool r.2.2.1)],[.inv m (bL k t),.obj y 111 (.agg (.pair (.at ax (t,.map (some m))) (.eq z.1)))]++fC 22 z r.2.2.2)):=by
 unfold jI at h
 replace h:=aZ h
 refine dG.of 35 Tryz.func61 rfl Tryz.ntmps61 rfl fun S w0=>?_
 refine sr ?_
 refine aE rfl rfl rfl (a9 rfl sS wa) trivial fun b4=>?_
 refine cq ?_
 refine cq ?_
 refine nt ?_
 refine sr ?_
 refine aE rfl rfl rfl (a9 rfl sS wa) trivial fun b7=>?_
 refine nt ?_
 refine sr ?_
 refine cq ?_
 refine cq ?_
 refine nt ?_
 refine ar ?_
 refine sr ?_
 refine mq ?_
 refine ol OP ?_
 refine ff rfl ?_
 refine nt ?_
 refine ai ?_
 refine aK (Z:=Unit) (α:=M8) (fun _ q=>[(0,.eq (.func (.func 62) #[bP y] #[])),(4,.eq (bP b4)),(7,.eq (bP b7)),(8,I q.2.2.1),(9,.eq (.bool q.2.2.2.1)),(13,Rs fk xs),(14,I (xs.length:Int)),(15,I q.1)]) (fun _ q=>[.obj b7 114 (.rep fk q.2.1),.obj b4 114 (.rep fk (0,0)),.inv m (bL k t),.obj y 111 (.agg (.pair (.at ax (t,.map (some m))) (.eq z.1)))]++fC 22 z q.2.2.2.2) (c9 k t xs) k () (0,(0,0),0,false,ls) (fun _=>rfl) h (bi [.obj b7 114 (.rep fk (0,0)),.obj b4 114 (.rep fk (0,0)),.inv m (bL k t),.obj y 111 (.agg (.pair (.at ax (t,.map (some m))) (.eq z.1)))] (fC 22 z ls) [0,1,2,3] ⟨rfl,rfl,rfl,rfl,rfl,rfl,rfl,rfl,trivial⟩ rfl) (fun n u q h=>?_)
 unfold c9 at h
 obtain⟨q1,q2,q3,q4,q5⟩:=q
 refine sr ?_
 refine jb (bg rfl) ?_
 refine nt ?_
 refine ar ?_
 refine bG rfl (fun hb=>?_) (fun hb=>?_)
 ·
  replace h:=cG (oK hb) h;obtain⟨x,ex,h⟩:=aa h;obtain⟨r1,e,h⟩:=aa h;obtain⟨w,ew,h⟩:=aa h;have cl:=sX k t x q5 r1 y m z e;refine sk (ar (ai (sr (jb (aD (t:=fk) rfl OP hH ex) ?_))));refine ja (ak (t:=fk) rfl hH rfl) ?_;refine aE rfl rfl rfl (a9 rfl sS wa) trivial fun c=>?_;refine bf rfl rfl (a8 rfl hH rfl rfl rfl) ⟨rfl,rfl,trivial⟩ ?_;refine nt (sr (mq ?_));refine ka (aj rfl hH (zj) rfl) ?_;refine ct (fD (Δ':=([.inv m (bL k t)]++([.obj y 111 (.agg (.pair (.at ax (t,.map (some m))) (.eq z.1)))]++fC 22 z q5))++[.obj c 114 (.rep fk x),.obj b7 114 (.rep fk q2),.obj b4 114 (.rep fk (0,0))]) (List.perm_append_comm (l₁:=([.obj c 114 (.rep fk x),.obj b7 114 (.rep fk q2),.obj b4 114 (.rep fk (0,0))]:List D)))) ?_;refine bQ (Δ:=_++_) (F:=[_,_,_]) (fun _ _ _=>aA rfl _) rfl rfl (pj (fs:=[bP y]) (cs:=[]) (ags:=[.rep fk x]) [.tmp 20] rfl rfl Of rfl cl) ⟨rfl,rfl,trivial⟩ fun _=>?_;refine aq ?_;refine ct (fD (Δ':=[.obj c 114 (.rep fk x),.obj b7 114 (.rep fk q2),.obj b4 114 (.rep fk (0,0))]++([.inv m (bL k t)]++([.obj y 111 (.agg (.pair (.at ax (t,.map (some m))) (.eq z.1)))]++fC 22 z r1.2))) List.perm_append_comm) ?_;refine nt ?_;cases q4 with
  |false=>
   refine sr (mq ?_);refine ja (eJ rfl) ?_;refine mq ?_;iterate 3 refine gn ?_
   refine pt (nt ?_);refine bG rfl (fun hb=>?_) (fun hb=>(by cases hb));refine ab (ka (aj rfl hH (zj) rfl) ?_);refine mq ?_;refine fr 1 ?_;refine bf rfl rfl (a8 rfl hH rfl rfl rfl) ⟨rfl,rfl,trivial⟩ ?_;refine aq ?_;refine cq (ay (bX (tn (ab ?_))));refine jb (aW rfl ew) ?_;refine mq (nl ?_);exact jf ((),(w,x,r1.1,true,r1.2)) h (bi [.obj b7 114 (.rep fk x),.obj c 114 (.rep fk x),.obj b4 114 (.rep fk (0,0)),.inv m (bL k t),.obj y 111 (.agg (.pair (.at ax (t,.map (some m))) (.eq z.1)))] (fC 22 z r1.2) [0,2,3,4] ⟨rfl,rfl,rfl,rfl,rfl,rfl,rfl,rfl,trivial⟩ rfl)
  |true=>
   refine sr (mq ?_);refine ja (eJ rfl) ?_;refine mq ?_;refine gm ?_;refine gm ?_;refine gb (bg rfl) ?_;refine pf (nt ?_);refine bG rfl (fun hb=>?_) (fun hb=>?_)
   ·replace h:(c9 k t xs n (w,x,r1.1,true,r1.2)).bind some=some r:=by
     have hd:r1.1 < q3:=of_decide_eq_true hb;simpa [hd] using h
    refine ab (ka (aj rfl hH (zj) rfl) ?_);refine mq ?_;refine fr 1 ?_;refine bf rfl rfl (a8 rfl hH rfl rfl rfl) ⟨rfl,rfl,trivial⟩ ?_;refine aq ?_;refine cq (ay (bX (tn (ab ?_))));refine jb (aW rfl ew) ?_;refine mq (nl ?_);exact jf ((),(w,x,r1.1,true,r1.2)) h (bi [.obj b7 114 (.rep fk x),.obj c 114 (.rep fk x),.obj b4 114 (.rep fk (0,0)),.inv m (bL k t),.obj y 111 (.agg (.pair (.at ax (t,.map (some m))) (.eq z.1)))] (fC 22 z r1.2) [0,2,3,4] ⟨rfl,rfl,rfl,rfl,rfl,rfl,rfl,rfl,trivial⟩ rfl)
   ·replace h:(c9 k t xs n (w,q2,q3,true,r1.2)).bind some=some r:=by
     have hd:¬r1.1 < q3:=of_decide_eq_false hb;simpa [hd] using h
    refine cX (bX (tn (ab (jb (aW rfl ew) ?_))));refine mq (nl ?_);exact jf ((),(w,q2,q3,true,r1.2)) h (bi [.obj c 114 (.rep fk x),.obj b7 114 (.rep fk q2),.obj b4 114 (.rep fk (0,0)),.inv m (bL k t),.obj y 111 (.agg (.pair (.at ax (t,.map (some m))) (.eq z.1)))] (fC 22 z r1.2) [1,2,3,4] ⟨rfl,rfl,rfl,rfl,rfl,rfl,rfl,rfl,trivial⟩ rfl)
 replace h:=bO (nL hb) h
 refine jH ?_
 refine cp ?_
 refine cp ?_
 refine eH ?_
 refine tn ?_
 cases h
 refine sr ?_
 refine ka (aj rfl hH (zj) rfl) ?_
 iterate 2 refine mq ?_
 refine fr 1 ?_
 refine bf rfl rfl (a8 rfl hH rfl rfl rfl) ⟨rfl,rfl,trivial⟩ ?_
 refine aq ?_
 refine aq ?_
 refine nt ?_
 refine bH ?_
 refine bz (fD (Δ':=([.inv m (bL k t),.obj y 111 (.agg (.pair (.at ax (t,.map (some m))) (.eq z.1)))]++fC 22 z q5)++[.obj b4 114 (.rep fk q2),.obj b7 114 (.rep fk q2)]) (List.perm_append_comm (l₁:=([.obj b4 114 (.rep fk q2),.obj b7 114 (.rep fk q2)]:List D)))) ?_
 exact aO () [_,_,_] ([.inv m (bL k t),.obj y 111 (.agg (.pair (.at ax (t,.map (some m))) (.eq z.1)))]++fC 22 z q5:List D).length ⟨⟨b4,114,.rep fk q2,2,true,rfl,List.mem_append.2 (.inr (List.mem_cons_self ..)),hH,zj,rfl⟩,rfl,rfl,trivial⟩ (by rw [List.take_left])
theorem qF:ae Tryz.prog 59:=ae.of Tryz.func59 (by kernel_rfl) (by kernel_rfl)
theorem QI:ae Tryz.prog 13:=ae.of Tryz.func13 (by kernel_rfl) (by kernel_rfl)
theorem QH:ae Tryz.prog 44:=ae.of Tryz.func44 (by kernel_rfl) (by kernel_rfl)
theorem QE:ae Tryz.prog 60:=ae.of Tryz.func60 (by kernel_rfl) (by kernel_rfl)
theorem QD:ae Tryz.prog 61:=ae.of Tryz.func61 (by kernel_rfl) (by kernel_rfl)
theorem MJ:dJ Tryz.prog 25 1 false:=⟨fun w=>by kernel_rfl,fun w=>by kernel_rfl⟩
theorem M4:aX Tryz.prog 27 1 1:=aX.of (by kernel_rfl)
theorem oG:mt Tryz.prog 28 22 1 24:=.of (z:=(.slice none 0 0)) lJ (by kernel_rfl) rfl rfl rfl
theorem G1:mt Tryz.prog 112 114 2 16:=.of (z:=(.agg #[.int .i64 0,.int .i64 0])) OP (by kernel_rfl) rfl rfl rfl
theorem ND:zh Tryz.prog 111 #[(0,1),(1,1)]:=⟨_,Ut,fun _=>by kernel_rfl⟩
theorem Nj:∀w,(zeroValue 111).run Tryz.prog w= .ok (.agg #[.pointer none,.slice none 0 0]) w:=fun w=>by kernel_rfl
theorem OI:∀S w,(A.cells S w (.pair (.eq (.pointer none)) (.eq (.slice none 0 0))) (Value.cells (.agg #[.pointer none,.slice none 0 0])).toList):=fun _ _=>⟨[_],_,rfl,⟨rfl,rfl⟩,rfl,rfl⟩
theorem NC:zh Tryz.prog 114 #[(0,1),(1,1)]:=⟨_,Us,fun _=>by kernel_rfl⟩
theorem LR:∀S w,(A.cells S w (.pair (I 0) (I 0)) (Value.cells (.agg #[.int .i64 0,.int .i64 0])).toList):=fun _ _=>⟨[_],_,rfl,⟨rfl,rfl⟩,rfl,rfl⟩
def fB:List Bool→Ga→Ga
 |true::l,e::g=>e::fB l g
 |false::l,_::g=>fB l g
 |_,_=>[]
def mN(y:Nat)(z1:Value)(l:List Int)(v v2:Value):Ga:=[(39,.eq (bP y)),(40,.eq (bP y)),(41,.eq (bP y)),(42,.eq (.pointer (some ⟨y,0+1,none⟩))),(43,.eq z1),(44,Ri l),(45,.eq v),(46,.rep (.slice .val) [v]),(47,.eq v2),(48,.eq (bP y)),(49,.eq (.pointer (some ⟨y,0+1,none⟩)))]
def lZ(b2 y:Nat)(n i:Int)(l:List Int)(a1:List (List Int)):Ga:=[(2,.eq (bP b2)),(8,I n),(10,.eq (bP y)),(12,Ri l),(33,.rep (.slice (.slice (.int .i64))) a1),(34,I (a1.length:Int)),(35,I i)]
theorem RB{i j:Int}:AE (.agg (.pair (I i) (I j))) (.rep fk (i,j)):=fun S w cs h=>by
 obtain⟨c1,c2,e,h1,h2⟩:=h
 exact⟨c1,c2,e,h1.1,h2.1⟩
def gW(k:Nat)(a1:List (List Int)):Nat→Int×List (List Int)→Option (List (List Int))
 |0,_=>none
 |n+1,q=>if q.1 < (a1.length:Int) then((aR a1 q.1).bind fun l=>(iq k l).bind fun l2=>if bq (q.2.length+1) then(ck (q.1+1)).bind fun w=>gW k a1 n (w,q.2++[l2]) else none) else some q.2
def gV(k:Nat)(t:aQ)(i:Int):Nat→Int×List (Int×Int)×List (List Int)→Option (List (Int×Int)×List (List Int))
 |0,_=>none
 |n+1,q=>if q.1 < (t.2.1.length:Int) then((jo k t (i,q.1) q.2.2).bind fun r=>if r.1=true then(if bq (q.2.1.length+1) then(ck (q.1+1)).bind fun w=>gV k t i n (w,q.2.1++[(i,q.1)],r.2) else none) else(ck (q.1+1)).bind fun w=>gV k t i n (w,q.2.1,r.2)) else some q.2
def eU(k:Nat)(t:aQ):Nat→Int×List (Int×Int)×List (List Int)→Option (List (Int×Int)×List (List Int))
 |0,_=>none
 |n+1,q=>if q.1 < (t.2.1.length:Int) then((ck (q.1+1)).bind fun w=>(gV k t q.1 k (w,q.2)).bind fun p=>eU k t n (w,p)) else some q.2
def kY(k:Nat)(a0:aQ)(a1:(List (List Int))):Option (Int×Int×Int×Int):=
 (jO k a0 a1).bind fun L=>if¬(L.2=0) then some (0,0,0,L.2) else
 (gW k a1 k (0,[])).bind fun ls=>(eU k a0 k (0,[],ls)).bind fun p=>(jI k a0 p.1 p.2).bind fun b=>
 if(!b.2.2.1 || decide (L.1≤b.2.1))=true then some (0,0,0,11) else some (b.1.1,b.1.2,b.2.1,0)
theorem ua(k:Nat)(a0:aQ)(a1:(List (List Int)))(r:Int×Int×Int×Int)(h:kY k a0 a1=some r):
 dG (jv Tryz.prog) 29 [.rep ao a0,.rep (.slice (.slice (.int .i64))) a1] [.inv 0 eM] (fun _:Unit=>(bm [.eq (.int .i64 r.1),.eq (.int .i64 r.2.1),.eq (.int .i64 r.2.2.1),.eq (.int .i64 r.2.2.2)],[.inv 0 eM])):=by
 unfold kY at h
 replace h:=aZ h
 refine dG.of 97 Tryz.func29 rfl Tryz.ntmps29 rfl fun S w0=>?_
 refine ar ?_
 refine ab ?_
 refine aE rfl rfl rfl (oH rfl rfl) ⟨rfl,trivial⟩ fun b2=>?_
 refine dE rfl ?_
 refine dE rfl ?_
 refine dE rfl ?_
 refine dE rfl ?_
 refine ay ?_
 refine ag ?_
 show JC _ _ _ _ _
 obtain⟨L,eL,h⟩:=aa h
 have cL:=rG k a0 a1 L eL
 refine ar ?_
 refine ab ?_
 refine bU rfl rfl rfl (aj rfl GW (zj) rfl) ⟨rfl,trivial⟩ ?_
 refine aC rfl rfl ?_
 refine bF 1 rfl ?_
 refine bU rfl rfl rfl (gi [.tmp 21,.tmp 22] rfl rfl QI rfl cL) ⟨rfl,rfl,trivial⟩ ?_
 refine aC rfl rfl ?_
 refine aG rfl (dF rfl rfl) ⟨rfl,trivial⟩ ?_
 refine aG rfl (dF rfl rfl) ⟨rfl,trivial⟩ ?_
 refine de rfl rfl ?_
 refine de rfl rfl ?_
 refine ay ?_
 refine ag ?_
 show JC _ _ _ _ _
 refine ar ?_
 refine ar ?_
 refine ab ?_
 refine aC rfl rfl ?_
 refine aG rfl (g7 rfl) ⟨rfl,rfl,trivial⟩ ?_
 refine ay ?_
 refine ag ?_
 show JC _ _ _ _ _
 refine bG rfl (fun hb=>?_) (fun hb=>?_)
 ·
  replace h:=cG (H5 hb) h
  refine ar ?_
  refine ab ?_
  refine aC rfl rfl ?_
  refine dE rfl ?_
  refine dE rfl ?_
  refine dE rfl ?_
  refine de rfl rfl ?_
  refine ay ?_
  refine ag ?_
  show JC _ _ _ _ _
  refine bH ?_
  refine eD ?_
  obtain rfl:=Option.some.inj h
  exact aO () [_,_,_,_] 1 ⟨rfl,rfl,rfl,rfl,trivial⟩ rfl
 replace h:=bO (vH hb) h
 refine cX ?_
 refine ag ?_
 show JC _ _ _ _ _
 rw [Option.bind_assoc] at h
 refine ar ?_
 refine ab ?_
 refine bF 1 rfl ?_
 refine bU rfl rfl rfl (aj rfl GW (zj) rfl) ⟨rfl,trivial⟩ ?_
 refine aE rfl rfl rfl (ap [.tmp 29] rfl rfl QH rfl (iL a0)) ⟨rfl,trivial⟩ fun m=>?_
 refine ct (lR (bL k a0) nz) ?_
 refine aG rfl (cH [(0,.tmp 30,_)] rfl ND Nj OI (il ⟨trivial,trivial⟩) rfl) ⟨rfl,trivial⟩ ?_
 refine aE rfl rfl rfl (oH rfl trivial) ⟨rfl,trivial⟩ fun y=>?_
 refine de rfl rfl ?_
 refine ay ?_
 refine ag ?_
 show JC _ _ _ _ _
 refine ar ?_
 refine ar ?_
 refine ab ?_
 refine aC rfl rfl ?_
 refine aG rfl (jQ rfl rfl lJ) ⟨rfl,trivial⟩ ?_
 refine ff rfl ?_
 refine ct (SE.nil 22 .val) ?_
 refine ct (fD (Δ':=[.obj y 111 (.agg (.pair (.at ax (a0,.map (some m))) (.eq (.slice none 0 0)))),.inv m (bL k a0),.obj b2 27 (.rep ao a0),.inv 0 eM]++fC 22 (.slice none 0 0,fun _=>undef) []) (List.Perm.trans (List.perm_append_comm (l₁:=([.sl (.slice none 0 0) 22 .val []]:List D))) (List.Perm.refl _))) ?_
 refine ay ?_
 refine ag ?_
 show JC _ _ _ _ _
 refine ai ?_
 refine aK (Z:=Value×(Nat→Value)) (α:=Int×List (List Int)) (fun z q=>[(2,.eq (bP b2)),(8,.eq (.int .i64 L.1)),(10,.eq (bP y)),(33,.rep (.slice (.slice (.int .i64))) a1),(34,.eq (.int .i64 (a1.length:Int))),(35,.eq (.int .i64 q.1))]) (fun z q=>[.obj y 111 (.agg (.pair (.at ax (a0,.map (some m))) (.eq z.1))),.inv m (bL k a0),.obj b2 27 (.rep ao a0),.inv 0 eM]++fC 22 z q.2) (gW k a1) k (.slice none 0 0,fun _=>undef) (0,[]) (fun _=>rfl) h (bi [.obj y 111 (.agg (.pair (.at ax (a0,.map (some m))) (.eq (.slice none 0 0)))),.inv m (bL k a0),.obj b2 27 (.rep ao a0),.inv 0 eM] (fC 22 (.slice none 0 0,fun _=>undef) []) [0,1,2,3] ⟨rfl,rfl,rfl,rfl,rfl,rfl,trivial⟩ rfl) (fun n z q h=>?_)
 unfold gW at h
 refine ar ?_
 refine ab ?_
 refine aG rfl (bg rfl) ⟨rfl,rfl,trivial⟩ ?_
 refine ay ?_
 refine ag ?_
 show JC _ _ _ _ _
 refine ar ?_
 refine bG rfl (fun hb=>?_) (fun hb=>?_)
 ·
  replace h:=cG (oK hb) h
  obtain⟨q1,q2⟩:=q
  obtain⟨l,el,h⟩:=aa h
  obtain⟨l2,el2,h⟩:=aa h
  have hk:bq (q2.length+1):=by
   apply Classical.byContradiction
   intro hn
   rw [if_neg hn] at h
   cases h
  replace h:=cG hk h
  have cc:=nj k l l2 el2
  refine cX ?_
  refine ag ?_
  show JC _ _ _ _ _
  refine ar ?_
  refine ai ?_
  refine ar ?_
  refine ab ?_
  refine aG rfl (aD (t:=.slice (.int .i64)) rfl lJ Dy el) ⟨rfl,rfl,trivial⟩ ?_
  refine aG rfl (ak (t:=.slice (.int .i64)) rfl Dy rfl) ⟨rfl,trivial⟩ ?_
  refine de rfl rfl ?_
  refine ay ?_
  refine ag ?_
  show JC _ _ _ _ _
  refine dA (Ej (pre:=[.obj y 111 (.agg (.pair (.at ax (a0,.map (some m))) (.eq z.1))),.inv m (bL k a0),.obj b2 27 (.rep ao a0),.inv 0 eM])) ?_
  refine jx 1 rfl ?_
  refine dA (SE.sub (Γ':=lZ b2 y L.1 q1 l a1) ⟨rfl,rfl,rfl,rfl,rfl,rfl,rfl,trivial⟩) ?_
  generalize hB:lZ b2 y L.1 q1 l a1=B
  refine sO (Δ:=[.obj y 111 (.agg (.pair (.at ax (a0,.map (some m))) (.eq z.1))),.sl z.1 22 .val (ek z.2 0 q2)]) (F:=[.inv m (bL k a0),.obj b2 27 (.rep ao a0),.inv 0 eM]++kV z.2 0 q2) (Z:=Value×Value) (fun p=>B) (fun p=>[.obj y 111 (.agg (.pair (.at ax (a0,.map (some m))) (.eq p.2))),.sl p.2 22 .val (ek z.2 0 q2++[p.1]),.sl p.1 3 (.int .i64) l2]) (fun S w=>?_) (fun p=>?_)
  ·
   subst hB
   refine wv (I:=Value×Value) (Ge:=fun _=>lZ b2 y L.1 q1 l a1) (De:=fun p=>[.obj y 111 (.agg (.pair (.at ax (a0,.map (some m))) (.eq p.2))),.sl p.2 22 .val (ek z.2 0 q2++[p.1]),.sl p.1 3 (.int .i64) l2]) (L:=[true,true,true,true,true,true,true,true,true,true,true,true]) qY rfl (fun J hJ hE=>?_) (by kernel_rfl) (fun p=>?_)
   ·
    have s2047:∀(v v2:Value),J 1 [true,true,true,true,true,true,true,true,true,true,true,false] (fB [true,true,true,true,true,true,true,true,true,true,true,false] (mN y z.1 l v v2)++lZ b2 y L.1 q1 l a1) [.obj y 111 (.agg (.pair (.at ax (a0,.map (some m))) (.eq z.1))),.sl v2 22 .val (ek z.2 0 q2++[v]),.sl v 3 (.int .i64) l2]:=fun v v2=>by
     subst hJ
     refine JD.step [11] (by kernel_rfl) rfl ?_
     refine bK.cons rfl ?_ ?_
     ·
      refine bF 1 rfl ?_
      refine fy fun hv=>?_
      refine bF 1 rfl ?_
      refine bf rfl rfl (a8 rfl oD hv rfl rfl) ⟨rfl,rfl,trivial⟩ ?_
      exact aw (hE (v,v2)) [0,1,2] ⟨rfl,rfl,rfl,rfl,rfl,rfl,rfl,trivial⟩
     exact trivial
    have s1023:∀(v v2:Value),J 2 [true,true,true,true,true,true,true,true,true,true,false,false] (fB [true,true,true,true,true,true,true,true,true,true,false,false] (mN y z.1 l v v2)++lZ b2 y L.1 q1 l a1) [.obj y 111 (.agg (.pair (.at ax (a0,.map (some m))) (.eq z.1))),.sl v2 22 .val (ek z.2 0 q2++[v]),.sl v 3 (.int .i64) l2]:=fun v v2=>by
     subst hJ
     refine JD.step [10] (by kernel_rfl) rfl ?_
     refine bK.cons rfl ?_ ?_
     ·
      refine aG rfl (av rfl ux) ⟨rfl,trivial⟩ ?_
      exact aw (s2047 v v2) [0,1,2] ⟨rfl,rfl,rfl,rfl,rfl,rfl,rfl,rfl,rfl,rfl,rfl,rfl,rfl,rfl,rfl,rfl,rfl,rfl,trivial⟩
     exact trivial
    have s511:∀(v v2:Value),J 3 [true,true,true,true,true,true,true,true,true,false,false,false] (fB [true,true,true,true,true,true,true,true,true,false,false,false] (mN y z.1 l v v2)++lZ b2 y L.1 q1 l a1) [.obj y 111 (.agg (.pair (.at ax (a0,.map (some m))) (.eq z.1))),.sl v2 22 .val (ek z.2 0 q2++[v]),.sl v 3 (.int .i64) l2]:=fun v v2=>by
     subst hJ
     refine JD.step [9] (by kernel_rfl) rfl ?_
     refine bK.cons rfl ?_ ?_
     ·
      refine aG rfl (aY rfl) ⟨rfl,trivial⟩ ?_
      exact aw (s1023 v v2) [0,1,2] ⟨rfl,rfl,rfl,rfl,rfl,rfl,rfl,rfl,rfl,rfl,rfl,rfl,rfl,rfl,rfl,rfl,rfl,trivial⟩
     exact trivial
    have s255:∀(v:Value),J 4 [true,true,true,true,true,true,true,true,false,false,false,false] (fB [true,true,true,true,true,true,true,true,false,false,false,false] (mN y z.1 l v undef)++lZ b2 y L.1 q1 l a1) [.obj y 111 (.agg (.pair (.at ax (a0,.map (some m))) (.eq z.1))),.sl z.1 22 .val (ek z.2 0 q2),.sl v 3 (.int .i64) l2]:=fun v=>by
     subst hJ
     refine JD.step [8] (by kernel_rfl) rfl ?_
     refine bK.cons rfl ?_ ?_
     ·
      refine bF 1 rfl ?_
      refine cz rfl rfl rfl (bp rfl rfl oG (by simpa [g9] using hk)) ⟨rfl,rfl,trivial⟩ fun v2=>?_
      exact aw (s511 v v2) [1,0,2] ⟨rfl,rfl,rfl,rfl,rfl,rfl,rfl,rfl,rfl,rfl,rfl,rfl,rfl,rfl,rfl,rfl,trivial⟩
     exact trivial
    have s510:∀(v v2:Value),J 4 [false,true,true,true,true,true,true,true,true,false,false,false] (fB [false,true,true,true,true,true,true,true,true,false,false,false] (mN y z.1 l v v2)++lZ b2 y L.1 q1 l a1) [.obj y 111 (.agg (.pair (.at ax (a0,.map (some m))) (.eq z.1))),.sl v2 22 .val (ek z.2 0 q2++[v]),.sl v 3 (.int .i64) l2]:=fun v v2=>by
     subst hJ
     refine JD.step [0] (by kernel_rfl) rfl ?_
     refine bK.cons rfl ?_ ?_
     ·
      refine aC rfl rfl ?_
      exact aw (s511 v v2) [0,1,2] ⟨rfl,rfl,rfl,rfl,rfl,rfl,rfl,rfl,rfl,rfl,rfl,rfl,rfl,rfl,rfl,rfl,trivial⟩
     exact trivial
    have s127:∀(v:Value),J 5 [true,true,true,true,true,true,true,false,false,false,false,false] (fB [true,true,true,true,true,true,true,false,false,false,false,false] (mN y z.1 l v undef)++lZ b2 y L.1 q1 l a1) [.obj y 111 (.agg (.pair (.at ax (a0,.map (some m))) (.eq z.1))),.sl z.1 22 .val (ek z.2 0 q2),.sl v 3 (.int .i64) l2]:=fun v=>by
     subst hJ
     refine JD.step [7] (by kernel_rfl) rfl ?_
     refine bK.cons rfl ?_ ?_
     ·
      refine bF 2 rfl ?_
      refine fy fun hv=>?_
      refine aG rfl (be (t:=.val) [(.tmp 45,.eq v)] [v] rfl rfl oG (.cons hv (.val hv) .nil) rfl rfl) ⟨rfl,trivial⟩ ?_
      exact aw (s255 v) [1,2,0] ⟨rfl,rfl,rfl,rfl,rfl,rfl,rfl,rfl,rfl,rfl,rfl,rfl,rfl,rfl,rfl,trivial⟩
     exact trivial
    have s239:∀(v:Value),J 5 [true,true,true,true,false,true,true,true,false,false,false,false] (fB [true,true,true,true,false,true,true,true,false,false,false,false] (mN y z.1 l v undef)++lZ b2 y L.1 q1 l a1) [.obj y 111 (.agg (.pair (.at ax (a0,.map (some m))) (.eq z.1))),.sl z.1 22 .val (ek z.2 0 q2),.sl v 3 (.int .i64) l2]:=fun v=>by
     subst hJ
     refine JD.step [4] (by kernel_rfl) rfl ?_
     refine bK.cons rfl ?_ ?_
     ·
      refine bU rfl rfl rfl (aj rfl oD jF rfl) ⟨rfl,trivial⟩ ?_
      exact aw (s255 v) [0,1,2] ⟨rfl,rfl,rfl,rfl,rfl,rfl,rfl,rfl,rfl,rfl,rfl,rfl,rfl,rfl,rfl,trivial⟩
     exact trivial
    have s254:∀(v:Value),J 5 [false,true,true,true,true,true,true,true,false,false,false,false] (fB [false,true,true,true,true,true,true,true,false,false,false,false] (mN y z.1 l v undef)++lZ b2 y L.1 q1 l a1) [.obj y 111 (.agg (.pair (.at ax (a0,.map (some m))) (.eq z.1))),.sl z.1 22 .val (ek z.2 0 q2),.sl v 3 (.int .i64) l2]:=fun v=>by
     subst hJ
     refine JD.step [0,8] (by kernel_rfl) rfl ?_
     refine bK.cons rfl ?_ ?_
     ·
      refine aC rfl rfl ?_
      exact aw (s255 v) [0,1,2] ⟨rfl,rfl,rfl,rfl,rfl,rfl,rfl,rfl,rfl,rfl,rfl,rfl,rfl,rfl,rfl,trivial⟩
     refine bK.cons rfl ?_ ?_
     ·
      refine bF 1 rfl ?_
      refine cz rfl rfl rfl (bp rfl rfl oG (by simpa [g9] using hk)) ⟨rfl,rfl,trivial⟩ fun v2=>?_
      exact aw (s510 v v2) [1,0,2] ⟨rfl,rfl,rfl,rfl,rfl,rfl,rfl,rfl,rfl,rfl,rfl,rfl,rfl,rfl,rfl,trivial⟩
     exact trivial
    have s63:J 6 [true,true,true,true,true,true,false,false,false,false,false,false] (fB [true,true,true,true,true,true,false,false,false,false,false,false] (mN y z.1 l undef undef)++lZ b2 y L.1 q1 l a1) [.obj y 111 (.agg (.pair (.at ax (a0,.map (some m))) (.eq z.1))),.sl z.1 22 .val (ek z.2 0 q2)]:=by
     subst hJ
     refine JD.step [6] (by kernel_rfl) rfl ?_
     refine bK.cons rfl ?_ ?_
     ·
      refine aE rfl rfl rfl (ap [.tmp 44] rfl rfl qF rfl cc) ⟨rfl,trivial⟩ fun v=>?_
      exact aw (s127 v) [1,2,0] ⟨rfl,rfl,rfl,rfl,rfl,rfl,rfl,rfl,rfl,rfl,rfl,rfl,rfl,rfl,trivial⟩
     exact trivial
    have s111:∀(v:Value),J 6 [true,true,true,true,false,true,true,false,false,false,false,false] (fB [true,true,true,true,false,true,true,false,false,false,false,false] (mN y z.1 l v undef)++lZ b2 y L.1 q1 l a1) [.obj y 111 (.agg (.pair (.at ax (a0,.map (some m))) (.eq z.1))),.sl z.1 22 .val (ek z.2 0 q2),.sl v 3 (.int .i64) l2]:=fun v=>by
     subst hJ
     refine JD.step [4,7] (by kernel_rfl) rfl ?_
     refine bK.cons rfl ?_ ?_
     ·
      refine bU rfl rfl rfl (aj rfl oD jF rfl) ⟨rfl,trivial⟩ ?_
      exact aw (s127 v) [0,1,2] ⟨rfl,rfl,rfl,rfl,rfl,rfl,rfl,rfl,rfl,rfl,rfl,rfl,rfl,rfl,trivial⟩
     refine bK.cons rfl ?_ ?_
     ·
      refine bF 2 rfl ?_
      refine fy fun hv=>?_
      refine aG rfl (be (t:=.val) [(.tmp 45,.eq v)] [v] rfl rfl oG (.cons hv (.val hv) .nil) rfl rfl) ⟨rfl,trivial⟩ ?_
      exact aw (s239 v) [1,2,0] ⟨rfl,rfl,rfl,rfl,rfl,rfl,rfl,rfl,rfl,rfl,rfl,rfl,rfl,rfl,trivial⟩
     exact trivial
    have s126:∀(v:Value),J 6 [false,true,true,true,true,true,true,false,false,false,false,false] (fB [false,true,true,true,true,true,true,false,false,false,false,false] (mN y z.1 l v undef)++lZ b2 y L.1 q1 l a1) [.obj y 111 (.agg (.pair (.at ax (a0,.map (some m))) (.eq z.1))),.sl z.1 22 .val (ek z.2 0 q2),.sl v 3 (.int .i64) l2]:=fun v=>by
     subst hJ
     refine JD.step [0,7] (by kernel_rfl) rfl ?_
     refine bK.cons rfl ?_ ?_
     ·
      refine aC rfl rfl ?_
      exact aw (s127 v) [0,1,2] ⟨rfl,rfl,rfl,rfl,rfl,rfl,rfl,rfl,rfl,rfl,rfl,rfl,rfl,rfl,trivial⟩
     refine bK.cons rfl ?_ ?_
     ·
      refine bF 2 rfl ?_
      refine fy fun hv=>?_
      refine aG rfl (be (t:=.val) [(.tmp 45,.eq v)] [v] rfl rfl oG (.cons hv (.val hv) .nil) rfl rfl) ⟨rfl,trivial⟩ ?_
      exact aw (s254 v) [1,2,0] ⟨rfl,rfl,rfl,rfl,rfl,rfl,rfl,rfl,rfl,rfl,rfl,rfl,rfl,rfl,trivial⟩
     exact trivial
    have s231:∀(v:Value),J 6 [true,true,true,false,false,true,true,true,false,false,false,false] (fB [true,true,true,false,false,true,true,true,false,false,false,false] (mN y z.1 l v undef)++lZ b2 y L.1 q1 l a1) [.obj y 111 (.agg (.pair (.at ax (a0,.map (some m))) (.eq z.1))),.sl z.1 22 .val (ek z.2 0 q2),.sl v 3 (.int .i64) l2]:=fun v=>by
     subst hJ
     refine JD.step [3] (by kernel_rfl) rfl ?_
     refine bK.cons rfl ?_ ?_
     ·
      refine aG rfl (av rfl ux) ⟨rfl,trivial⟩ ?_
      exact aw (s239 v) [0,1,2] ⟨rfl,rfl,rfl,rfl,rfl,rfl,rfl,rfl,rfl,rfl,rfl,rfl,rfl,rfl,trivial⟩
     exact trivial
    have s238:∀(v:Value),J 6 [false,true,true,true,false,true,true,true,false,false,false,false] (fB [false,true,true,true,false,true,true,true,false,false,false,false] (mN y z.1 l v undef)++lZ b2 y L.1 q1 l a1) [.obj y 111 (.agg (.pair (.at ax (a0,.map (some m))) (.eq z.1))),.sl z.1 22 .val (ek z.2 0 q2),.sl v 3 (.int .i64) l2]:=fun v=>by
     subst hJ
     refine JD.step [0,4] (by kernel_rfl) rfl ?_
     refine bK.cons rfl ?_ ?_
     ·
      refine aC rfl rfl ?_
      exact aw (s239 v) [0,1,2] ⟨rfl,rfl,rfl,rfl,rfl,rfl,rfl,rfl,rfl,rfl,rfl,rfl,rfl,rfl,trivial⟩
     refine bK.cons rfl ?_ ?_
     ·
      refine bU rfl rfl rfl (aj rfl oD jF rfl) ⟨rfl,trivial⟩ ?_
      exact aw (s254 v) [0,1,2] ⟨rfl,rfl,rfl,rfl,rfl,rfl,rfl,rfl,rfl,rfl,rfl,rfl,rfl,rfl,trivial⟩
     exact trivial
    have s31:J 7 [true,true,true,true,true,false,false,false,false,false,false,false] (fB [true,true,true,true,true,false,false,false,false,false,false,false] (mN y z.1 l undef undef)++lZ b2 y L.1 q1 l a1) [.obj y 111 (.agg (.pair (.at ax (a0,.map (some m))) (.eq z.1))),.sl z.1 22 .val (ek z.2 0 q2)]:=by
     subst hJ
     refine JD.step [5] (by kernel_rfl) rfl ?_
     refine bK.cons rfl ?_ ?_
     ·
      refine aC rfl rfl ?_
      exact aw (s63) [0,1] ⟨rfl,rfl,rfl,rfl,rfl,rfl,rfl,rfl,rfl,rfl,rfl,rfl,rfl,trivial⟩
     exact trivial
    have s47:J 7 [true,true,true,true,false,true,false,false,false,false,false,false] (fB [true,true,true,true,false,true,false,false,false,false,false,false] (mN y z.1 l undef undef)++lZ b2 y L.1 q1 l a1) [.obj y 111 (.agg (.pair (.at ax (a0,.map (some m))) (.eq z.1))),.sl z.1 22 .val (ek z.2 0 q2)]:=by
     subst hJ
     refine JD.step [4,6] (by kernel_rfl) rfl ?_
     refine bK.cons rfl ?_ ?_
     ·
      refine bU rfl rfl rfl (aj rfl oD jF rfl) ⟨rfl,trivial⟩ ?_
      exact aw (s63) [0,1] ⟨rfl,rfl,rfl,rfl,rfl,rfl,rfl,rfl,rfl,rfl,rfl,rfl,rfl,trivial⟩
     refine bK.cons rfl ?_ ?_
     ·
      refine aE rfl rfl rfl (ap [.tmp 44] rfl rfl qF rfl cc) ⟨rfl,trivial⟩ fun v=>?_
      exact aw (s111 v) [1,2,0] ⟨rfl,rfl,rfl,rfl,rfl,rfl,rfl,rfl,rfl,rfl,rfl,rfl,rfl,trivial⟩
     exact trivial
    have s62:J 7 [false,true,true,true,true,true,false,false,false,false,false,false] (fB [false,true,true,true,true,true,false,false,false,false,false,false] (mN y z.1 l undef undef)++lZ b2 y L.1 q1 l a1) [.obj y 111 (.agg (.pair (.at ax (a0,.map (some m))) (.eq z.1))),.sl z.1 22 .val (ek z.2 0 q2)]:=by
     subst hJ
     refine JD.step [0,6] (by kernel_rfl) rfl ?_
     refine bK.cons rfl ?_ ?_
     ·
      refine aC rfl rfl ?_
      exact aw (s63) [0,1] ⟨rfl,rfl,rfl,rfl,rfl,rfl,rfl,rfl,rfl,rfl,rfl,rfl,rfl,trivial⟩
     refine bK.cons rfl ?_ ?_
     ·
      refine aE rfl rfl rfl (ap [.tmp 44] rfl rfl qF rfl cc) ⟨rfl,trivial⟩ fun v=>?_
      exact aw (s126 v) [1,2,0] ⟨rfl,rfl,rfl,rfl,rfl,rfl,rfl,rfl,rfl,rfl,rfl,rfl,rfl,trivial⟩
     exact trivial
    have s103:∀(v:Value),J 7 [true,true,true,false,false,true,true,false,false,false,false,false] (fB [true,true,true,false,false,true,true,false,false,false,false,false] (mN y z.1 l v undef)++lZ b2 y L.1 q1 l a1) [.obj y 111 (.agg (.pair (.at ax (a0,.map (some m))) (.eq z.1))),.sl z.1 22 .val (ek z.2 0 q2),.sl v 3 (.int .i64) l2]:=fun v=>by
     subst hJ
     refine JD.step [3,7] (by kernel_rfl) rfl ?_
     refine bK.cons rfl ?_ ?_
     ·
      refine aG rfl (av rfl ux) ⟨rfl,trivial⟩ ?_
      exact aw (s111 v) [0,1,2] ⟨rfl,rfl,rfl,rfl,rfl,rfl,rfl,rfl,rfl,rfl,rfl,rfl,rfl,trivial⟩
     refine bK.cons rfl ?_ ?_
     ·
      refine bF 2 rfl ?_
      refine fy fun hv=>?_
      refine aG rfl (be (t:=.val) [(.tmp 45,.eq v)] [v] rfl rfl oG (.cons hv (.val hv) .nil) rfl rfl) ⟨rfl,trivial⟩ ?_
      exact aw (s231 v) [1,2,0] ⟨rfl,rfl,rfl,rfl,rfl,rfl,rfl,rfl,rfl,rfl,rfl,rfl,rfl,trivial⟩
     exact trivial
    have s110:∀(v:Value),J 7 [false,true,true,true,false,true,true,false,false,false,false,false] (fB [false,true,true,true,false,true,true,false,false,false,false,false] (mN y z.1 l v undef)++lZ b2 y L.1 q1 l a1) [.obj y 111 (.agg (.pair (.at ax (a0,.map (some m))) (.eq z.1))),.sl z.1 22 .val (ek z.2 0 q2),.sl v 3 (.int .i64) l2]:=fun v=>by
     subst hJ
     refine JD.step [0,4,7] (by kernel_rfl) rfl ?_
     refine bK.cons rfl ?_ ?_
     ·
      refine aC rfl rfl ?_
      exact aw (s111 v) [0,1,2] ⟨rfl,rfl,rfl,rfl,rfl,rfl,rfl,rfl,rfl,rfl,rfl,rfl,rfl,trivial⟩
     refine bK.cons rfl ?_ ?_
     ·
      refine bU rfl rfl rfl (aj rfl oD jF rfl) ⟨rfl,trivial⟩ ?_
      exact aw (s126 v) [0,1,2] ⟨rfl,rfl,rfl,rfl,rfl,rfl,rfl,rfl,rfl,rfl,rfl,rfl,rfl,trivial⟩
     refine bK.cons rfl ?_ ?_
     ·
      refine bF 2 rfl ?_
      refine fy fun hv=>?_
      refine aG rfl (be (t:=.val) [(.tmp 45,.eq v)] [v] rfl rfl oG (.cons hv (.val hv) .nil) rfl rfl) ⟨rfl,trivial⟩ ?_
      exact aw (s238 v) [1,2,0] ⟨rfl,rfl,rfl,rfl,rfl,rfl,rfl,rfl,rfl,rfl,rfl,rfl,rfl,trivial⟩
     exact trivial
    have s227:∀(v:Value),J 7 [true,true,false,false,false,true,true,true,false,false,false,false] (fB [true,true,false,false,false,true,true,true,false,false,false,false] (mN y z.1 l v undef)++lZ b2 y L.1 q1 l a1) [.obj y 111 (.agg (.pair (.at ax (a0,.map (some m))) (.eq z.1))),.sl z.1 22 .val (ek z.2 0 q2),.sl v 3 (.int .i64) l2]:=fun v=>by
     subst hJ
     refine JD.step [2] (by kernel_rfl) rfl ?_
     refine bK.cons rfl ?_ ?_
     ·
      refine aG rfl (aY rfl) ⟨rfl,trivial⟩ ?_
      exact aw (s231 v) [0,1,2] ⟨rfl,rfl,rfl,rfl,rfl,rfl,rfl,rfl,rfl,rfl,rfl,rfl,rfl,trivial⟩
     exact trivial
    have s230:∀(v:Value),J 7 [false,true,true,false,false,true,true,true,false,false,false,false] (fB [false,true,true,false,false,true,true,true,false,false,false,false] (mN y z.1 l v undef)++lZ b2 y L.1 q1 l a1) [.obj y 111 (.agg (.pair (.at ax (a0,.map (some m))) (.eq z.1))),.sl z.1 22 .val (ek z.2 0 q2),.sl v 3 (.int .i64) l2]:=fun v=>by
     subst hJ
     refine JD.step [0,3] (by kernel_rfl) rfl ?_
     refine bK.cons rfl ?_ ?_
     ·
      refine aC rfl rfl ?_
      exact aw (s231 v) [0,1,2] ⟨rfl,rfl,rfl,rfl,rfl,rfl,rfl,rfl,rfl,rfl,rfl,rfl,rfl,trivial⟩
     refine bK.cons rfl ?_ ?_
     ·
      refine aG rfl (av rfl ux) ⟨rfl,trivial⟩ ?_
      exact aw (s238 v) [0,1,2] ⟨rfl,rfl,rfl,rfl,rfl,rfl,rfl,rfl,rfl,rfl,rfl,rfl,rfl,trivial⟩
     exact trivial
    have s15:J 8 [true,true,true,true,false,false,false,false,false,false,false,false] (fB [true,true,true,true,false,false,false,false,false,false,false,false] (mN y z.1 l undef undef)++lZ b2 y L.1 q1 l a1) [.obj y 111 (.agg (.pair (.at ax (a0,.map (some m))) (.eq z.1))),.sl z.1 22 .val (ek z.2 0 q2)]:=by
     subst hJ
     refine JD.step [4,5] (by kernel_rfl) rfl ?_
     refine bK.cons rfl ?_ ?_
     ·
      refine bU rfl rfl rfl (aj rfl oD jF rfl) ⟨rfl,trivial⟩ ?_
      exact aw (s31) [0,1] ⟨rfl,rfl,rfl,rfl,rfl,rfl,rfl,rfl,rfl,rfl,rfl,rfl,trivial⟩
     refine bK.cons rfl ?_ ?_
     ·
      refine aC rfl rfl ?_
      exact aw (s47) [0,1] ⟨rfl,rfl,rfl,rfl,rfl,rfl,rfl,rfl,rfl,rfl,rfl,rfl,trivial⟩
     exact trivial
    have s30:J 8 [false,true,true,true,true,false,false,false,false,false,false,false] (fB [false,true,true,true,true,false,false,false,false,false,false,false] (mN y z.1 l undef undef)++lZ b2 y L.1 q1 l a1) [.obj y 111 (.agg (.pair (.at ax (a0,.map (some m))) (.eq z.1))),.sl z.1 22 .val (ek z.2 0 q2)]:=by
     subst hJ
     refine JD.step [0,5] (by kernel_rfl) rfl ?_
     refine bK.cons rfl ?_ ?_
     ·
      refine aC rfl rfl ?_
      exact aw (s31) [0,1] ⟨rfl,rfl,rfl,rfl,rfl,rfl,rfl,rfl,rfl,rfl,rfl,rfl,trivial⟩
     refine bK.cons rfl ?_ ?_
     ·
      refine aC rfl rfl ?_
      exact aw (s62) [0,1] ⟨rfl,rfl,rfl,rfl,rfl,rfl,rfl,rfl,rfl,rfl,rfl,rfl,trivial⟩
     exact trivial
    have s39:J 8 [true,true,true,false,false,true,false,false,false,false,false,false] (fB [true,true,true,false,false,true,false,false,false,false,false,false] (mN y z.1 l undef undef)++lZ b2 y L.1 q1 l a1) [.obj y 111 (.agg (.pair (.at ax (a0,.map (some m))) (.eq z.1))),.sl z.1 22 .val (ek z.2 0 q2)]:=by
     subst hJ
     refine JD.step [3,6] (by kernel_rfl) rfl ?_
     refine bK.cons rfl ?_ ?_
     ·
      refine aG rfl (av rfl ux) ⟨rfl,trivial⟩ ?_
      exact aw (s47) [0,1] ⟨rfl,rfl,rfl,rfl,rfl,rfl,rfl,rfl,rfl,rfl,rfl,rfl,trivial⟩
     refine bK.cons rfl ?_ ?_
     ·
      refine aE rfl rfl rfl (ap [.tmp 44] rfl rfl qF rfl cc) ⟨rfl,trivial⟩ fun v=>?_
      exact aw (s103 v) [1,2,0] ⟨rfl,rfl,rfl,rfl,rfl,rfl,rfl,rfl,rfl,rfl,rfl,rfl,trivial⟩
     exact trivial
    have s46:J 8 [false,true,true,true,false,true,false,false,false,false,false,false] (fB [false,true,true,true,false,true,false,false,false,false,false,false] (mN y z.1 l undef undef)++lZ b2 y L.1 q1 l a1) [.obj y 111 (.agg (.pair (.at ax (a0,.map (some m))) (.eq z.1))),.sl z.1 22 .val (ek z.2 0 q2)]:=by
     subst hJ
     refine JD.step [0,4,6] (by kernel_rfl) rfl ?_
     refine bK.cons rfl ?_ ?_
     ·
      refine aC rfl rfl ?_
      exact aw (s47) [0,1] ⟨rfl,rfl,rfl,rfl,rfl,rfl,rfl,rfl,rfl,rfl,rfl,rfl,trivial⟩
     refine bK.cons rfl ?_ ?_
     ·
      refine bU rfl rfl rfl (aj rfl oD jF rfl) ⟨rfl,trivial⟩ ?_
      exact aw (s62) [0,1] ⟨rfl,rfl,rfl,rfl,rfl,rfl,rfl,rfl,rfl,rfl,rfl,rfl,trivial⟩
     refine bK.cons rfl ?_ ?_
     ·
      refine aE rfl rfl rfl (ap [.tmp 44] rfl rfl qF rfl cc) ⟨rfl,trivial⟩ fun v=>?_
      exact aw (s110 v) [1,2,0] ⟨rfl,rfl,rfl,rfl,rfl,rfl,rfl,rfl,rfl,rfl,rfl,rfl,trivial⟩
     exact trivial
    have s99:∀(v:Value),J 8 [true,true,false,false,false,true,true,false,false,false,false,false] (fB [true,true,false,false,false,true,true,false,false,false,false,false] (mN y z.1 l v undef)++lZ b2 y L.1 q1 l a1) [.obj y 111 (.agg (.pair (.at ax (a0,.map (some m))) (.eq z.1))),.sl z.1 22 .val (ek z.2 0 q2),.sl v 3 (.int .i64) l2]:=fun v=>by
     subst hJ
     refine JD.step [2,7] (by kernel_rfl) rfl ?_
     refine bK.cons rfl ?_ ?_
     ·
      refine aG rfl (aY rfl) ⟨rfl,trivial⟩ ?_
      exact aw (s103 v) [0,1,2] ⟨rfl,rfl,rfl,rfl,rfl,rfl,rfl,rfl,rfl,rfl,rfl,rfl,trivial⟩
     refine bK.cons rfl ?_ ?_
     ·
      refine bF 2 rfl ?_
      refine fy fun hv=>?_
      refine aG rfl (be (t:=.val) [(.tmp 45,.eq v)] [v] rfl rfl oG (.cons hv (.val hv) .nil) rfl rfl) ⟨rfl,trivial⟩ ?_
      exact aw (s227 v) [1,2,0] ⟨rfl,rfl,rfl,rfl,rfl,rfl,rfl,rfl,rfl,rfl,rfl,rfl,trivial⟩
     exact trivial
    have s102:∀(v:Value),J 8 [false,true,true,false,false,true,true,false,false,false,false,false] (fB [false,true,true,false,false,true,true,false,false,false,false,false] (mN y z.1 l v undef)++lZ b2 y L.1 q1 l a1) [.obj y 111 (.agg (.pair (.at ax (a0,.map (some m))) (.eq z.1))),.sl z.1 22 .val (ek z.2 0 q2),.sl v 3 (.int .i64) l2]:=fun v=>by
     subst hJ
     refine JD.step [0,3,7] (by kernel_rfl) rfl ?_
     refine bK.cons rfl ?_ ?_
     ·
      refine aC rfl rfl ?_
      exact aw (s103 v) [0,1,2] ⟨rfl,rfl,rfl,rfl,rfl,rfl,rfl,rfl,rfl,rfl,rfl,rfl,trivial⟩
     refine bK.cons rfl ?_ ?_
     ·
      refine aG rfl (av rfl ux) ⟨rfl,trivial⟩ ?_
      exact aw (s110 v) [0,1,2] ⟨rfl,rfl,rfl,rfl,rfl,rfl,rfl,rfl,rfl,rfl,rfl,rfl,trivial⟩
     refine bK.cons rfl ?_ ?_
     ·
      refine bF 2 rfl ?_
      refine fy fun hv=>?_
      refine aG rfl (be (t:=.val) [(.tmp 45,.eq v)] [v] rfl rfl oG (.cons hv (.val hv) .nil) rfl rfl) ⟨rfl,trivial⟩ ?_
      exact aw (s230 v) [1,2,0] ⟨rfl,rfl,rfl,rfl,rfl,rfl,rfl,rfl,rfl,rfl,rfl,rfl,trivial⟩
     exact trivial
    have s225:∀(v:Value),J 8 [true,false,false,false,false,true,true,true,false,false,false,false] (fB [true,false,false,false,false,true,true,true,false,false,false,false] (mN y z.1 l v undef)++lZ b2 y L.1 q1 l a1) [.obj y 111 (.agg (.pair (.at ax (a0,.map (some m))) (.eq z.1))),.sl z.1 22 .val (ek z.2 0 q2),.sl v 3 (.int .i64) l2]:=fun v=>by
     subst hJ
     refine JD.step [1] (by kernel_rfl) rfl ?_
     refine bK.cons rfl ?_ ?_
     ·
      refine aC rfl rfl ?_
      exact aw (s227 v) [0,1,2] ⟨rfl,rfl,rfl,rfl,rfl,rfl,rfl,rfl,rfl,rfl,rfl,rfl,trivial⟩
     exact trivial
    have s226:∀(v:Value),J 8 [false,true,false,false,false,true,true,true,false,false,false,false] (fB [false,true,false,false,false,true,true,true,false,false,false,false] (mN y z.1 l v undef)++lZ b2 y L.1 q1 l a1) [.obj y 111 (.agg (.pair (.at ax (a0,.map (some m))) (.eq z.1))),.sl z.1 22 .val (ek z.2 0 q2),.sl v 3 (.int .i64) l2]:=fun v=>by
     subst hJ
     refine JD.step [0,2] (by kernel_rfl) rfl ?_
     refine bK.cons rfl ?_ ?_
     ·
      refine aC rfl rfl ?_
      exact aw (s227 v) [0,1,2] ⟨rfl,rfl,rfl,rfl,rfl,rfl,rfl,rfl,rfl,rfl,rfl,rfl,trivial⟩
     refine bK.cons rfl ?_ ?_
     ·
      refine aG rfl (aY rfl) ⟨rfl,trivial⟩ ?_
      exact aw (s230 v) [0,1,2] ⟨rfl,rfl,rfl,rfl,rfl,rfl,rfl,rfl,rfl,rfl,rfl,rfl,trivial⟩
     exact trivial
    have s7:J 9 [true,true,true,false,false,false,false,false,false,false,false,false] (fB [true,true,true,false,false,false,false,false,false,false,false,false] (mN y z.1 l undef undef)++lZ b2 y L.1 q1 l a1) [.obj y 111 (.agg (.pair (.at ax (a0,.map (some m))) (.eq z.1))),.sl z.1 22 .val (ek z.2 0 q2)]:=by
     subst hJ
     refine JD.step [3,5] (by kernel_rfl) rfl ?_
     refine bK.cons rfl ?_ ?_
     ·
      refine aG rfl (av rfl ux) ⟨rfl,trivial⟩ ?_
      exact aw (s15) [0,1] ⟨rfl,rfl,rfl,rfl,rfl,rfl,rfl,rfl,rfl,rfl,rfl,trivial⟩
     refine bK.cons rfl ?_ ?_
     ·
      refine aC rfl rfl ?_
      exact aw (s39) [0,1] ⟨rfl,rfl,rfl,rfl,rfl,rfl,rfl,rfl,rfl,rfl,rfl,trivial⟩
     exact trivial
    have s14:J 9 [false,true,true,true,false,false,false,false,false,false,false,false] (fB [false,true,true,true,false,false,false,false,false,false,false,false] (mN y z.1 l undef undef)++lZ b2 y L.1 q1 l a1) [.obj y 111 (.agg (.pair (.at ax (a0,.map (some m))) (.eq z.1))),.sl z.1 22 .val (ek z.2 0 q2)]:=by
     subst hJ
     refine JD.step [0,4,5] (by kernel_rfl) rfl ?_
     refine bK.cons rfl ?_ ?_
     ·
      refine aC rfl rfl ?_
      exact aw (s15) [0,1] ⟨rfl,rfl,rfl,rfl,rfl,rfl,rfl,rfl,rfl,rfl,rfl,trivial⟩
     refine bK.cons rfl ?_ ?_
     ·
      refine bU rfl rfl rfl (aj rfl oD jF rfl) ⟨rfl,trivial⟩ ?_
      exact aw (s30) [0,1] ⟨rfl,rfl,rfl,rfl,rfl,rfl,rfl,rfl,rfl,rfl,rfl,trivial⟩
     refine bK.cons rfl ?_ ?_
     ·
      refine aC rfl rfl ?_
      exact aw (s46) [0,1] ⟨rfl,rfl,rfl,rfl,rfl,rfl,rfl,rfl,rfl,rfl,rfl,trivial⟩
     exact trivial
    have s35:J 9 [true,true,false,false,false,true,false,false,false,false,false,false] (fB [true,true,false,false,false,true,false,false,false,false,false,false] (mN y z.1 l undef undef)++lZ b2 y L.1 q1 l a1) [.obj y 111 (.agg (.pair (.at ax (a0,.map (some m))) (.eq z.1))),.sl z.1 22 .val (ek z.2 0 q2)]:=by
     subst hJ
     refine JD.step [2,6] (by kernel_rfl) rfl ?_
     refine bK.cons rfl ?_ ?_
     ·
      refine aG rfl (aY rfl) ⟨rfl,trivial⟩ ?_
      exact aw (s39) [0,1] ⟨rfl,rfl,rfl,rfl,rfl,rfl,rfl,rfl,rfl,rfl,rfl,trivial⟩
     refine bK.cons rfl ?_ ?_
     ·
      refine aE rfl rfl rfl (ap [.tmp 44] rfl rfl qF rfl cc) ⟨rfl,trivial⟩ fun v=>?_
      exact aw (s99 v) [1,2,0] ⟨rfl,rfl,rfl,rfl,rfl,rfl,rfl,rfl,rfl,rfl,rfl,trivial⟩
     exact trivial
    have s38:J 9 [false,true,true,false,false,true,false,false,false,false,false,false] (fB [false,true,true,false,false,true,false,false,false,false,false,false] (mN y z.1 l undef undef)++lZ b2 y L.1 q1 l a1) [.obj y 111 (.agg (.pair (.at ax (a0,.map (some m))) (.eq z.1))),.sl z.1 22 .val (ek z.2 0 q2)]:=by
     subst hJ
     refine JD.step [0,3,6] (by kernel_rfl) rfl ?_
     refine bK.cons rfl ?_ ?_
     ·
      refine aC rfl rfl ?_
      exact aw (s39) [0,1] ⟨rfl,rfl,rfl,rfl,rfl,rfl,rfl,rfl,rfl,rfl,rfl,trivial⟩
     refine bK.cons rfl ?_ ?_
     ·
      refine aG rfl (av rfl ux) ⟨rfl,trivial⟩ ?_
      exact aw (s46) [0,1] ⟨rfl,rfl,rfl,rfl,rfl,rfl,rfl,rfl,rfl,rfl,rfl,trivial⟩
     refine bK.cons rfl ?_ ?_
     ·
      refine aE rfl rfl rfl (ap [.tmp 44] rfl rfl qF rfl cc) ⟨rfl,trivial⟩ fun v=>?_
      exact aw (s102 v) [1,2,0] ⟨rfl,rfl,rfl,rfl,rfl,rfl,rfl,rfl,rfl,rfl,rfl,trivial⟩
     exact trivial
    have s97:∀(v:Value),J 9 [true,false,false,false,false,true,true,false,false,false,false,false] (fB [true,false,false,false,false,true,true,false,false,false,false,false] (mN y z.1 l v undef)++lZ b2 y L.1 q1 l a1) [.obj y 111 (.agg (.pair (.at ax (a0,.map (some m))) (.eq z.1))),.sl z.1 22 .val (ek z.2 0 q2),.sl v 3 (.int .i64) l2]:=fun v=>by
     subst hJ
     refine JD.step [1,7] (by kernel_rfl) rfl ?_
     refine bK.cons rfl ?_ ?_
     ·
      refine aC rfl rfl ?_
      exact aw (s99 v) [0,1,2] ⟨rfl,rfl,rfl,rfl,rfl,rfl,rfl,rfl,rfl,rfl,rfl,trivial⟩
     refine bK.cons rfl ?_ ?_
     ·
      refine bF 2 rfl ?_
      refine fy fun hv=>?_
      refine aG rfl (be (t:=.val) [(.tmp 45,.eq v)] [v] rfl rfl oG (.cons hv (.val hv) .nil) rfl rfl) ⟨rfl,trivial⟩ ?_
      exact aw (s225 v) [1,2,0] ⟨rfl,rfl,rfl,rfl,rfl,rfl,rfl,rfl,rfl,rfl,rfl,trivial⟩
     exact trivial
    have s98:∀(v:Value),J 9 [false,true,false,false,false,true,true,false,false,false,false,false] (fB [false,true,false,false,false,true,true,false,false,false,false,false] (mN y z.1 l v undef)++lZ b2 y L.1 q1 l a1) [.obj y 111 (.agg (.pair (.at ax (a0,.map (some m))) (.eq z.1))),.sl z.1 22 .val (ek z.2 0 q2),.sl v 3 (.int .i64) l2]:=fun v=>by
     subst hJ
     refine JD.step [0,2,7] (by kernel_rfl) rfl ?_
     refine bK.cons rfl ?_ ?_
     ·
      refine aC rfl rfl ?_
      exact aw (s99 v) [0,1,2] ⟨rfl,rfl,rfl,rfl,rfl,rfl,rfl,rfl,rfl,rfl,rfl,trivial⟩
     refine bK.cons rfl ?_ ?_
     ·
      refine aG rfl (aY rfl) ⟨rfl,trivial⟩ ?_
      exact aw (s102 v) [0,1,2] ⟨rfl,rfl,rfl,rfl,rfl,rfl,rfl,rfl,rfl,rfl,rfl,trivial⟩
     refine bK.cons rfl ?_ ?_
     ·
      refine bF 2 rfl ?_
      refine fy fun hv=>?_
      refine aG rfl (be (t:=.val) [(.tmp 45,.eq v)] [v] rfl rfl oG (.cons hv (.val hv) .nil) rfl rfl) ⟨rfl,trivial⟩ ?_
      exact aw (s226 v) [1,2,0] ⟨rfl,rfl,rfl,rfl,rfl,rfl,rfl,rfl,rfl,rfl,rfl,trivial⟩
     exact trivial
    have s224:∀(v:Value),J 9 [false,false,false,false,false,true,true,true,false,false,false,false] (fB [false,false,false,false,false,true,true,true,false,false,false,false] (mN y z.1 l v undef)++lZ b2 y L.1 q1 l a1) [.obj y 111 (.agg (.pair (.at ax (a0,.map (some m))) (.eq z.1))),.sl z.1 22 .val (ek z.2 0 q2),.sl v 3 (.int .i64) l2]:=fun v=>by
     subst hJ
     refine JD.step [0,1] (by kernel_rfl) rfl ?_
     refine bK.cons rfl ?_ ?_
     ·
      refine aC rfl rfl ?_
      exact aw (s225 v) [0,1,2] ⟨rfl,rfl,rfl,rfl,rfl,rfl,rfl,rfl,rfl,rfl,rfl,trivial⟩
     refine bK.cons rfl ?_ ?_
     ·
      refine aC rfl rfl ?_
      exact aw (s226 v) [0,1,2] ⟨rfl,rfl,rfl,rfl,rfl,rfl,rfl,rfl,rfl,rfl,rfl,trivial⟩
     exact trivial
    have s3:J 10 [true,true,false,false,false,false,false,false,false,false,false,false] (fB [true,true,false,false,false,false,false,false,false,false,false,false] (mN y z.1 l undef undef)++lZ b2 y L.1 q1 l a1) [.obj y 111 (.agg (.pair (.at ax (a0,.map (some m))) (.eq z.1))),.sl z.1 22 .val (ek z.2 0 q2)]:=by
     subst hJ
     refine JD.step [2,5] (by kernel_rfl) rfl ?_
     refine bK.cons rfl ?_ ?_
     ·
      refine aG rfl (aY rfl) ⟨rfl,trivial⟩ ?_
      exact aw (s7) [0,1] ⟨rfl,rfl,rfl,rfl,rfl,rfl,rfl,rfl,rfl,rfl,trivial⟩
     refine bK.cons rfl ?_ ?_
     ·
      refine aC rfl rfl ?_
      exact aw (s35) [0,1] ⟨rfl,rfl,rfl,rfl,rfl,rfl,rfl,rfl,rfl,rfl,trivial⟩
     exact trivial
    have s6:J 10 [false,true,true,false,false,false,false,false,false,false,false,false] (fB [false,true,true,false,false,false,false,false,false,false,false,false] (mN y z.1 l undef undef)++lZ b2 y L.1 q1 l a1) [.obj y 111 (.agg (.pair (.at ax (a0,.map (some m))) (.eq z.1))),.sl z.1 22 .val (ek z.2 0 q2)]:=by
     subst hJ
     refine JD.step [0,3,5] (by kernel_rfl) rfl ?_
     refine bK.cons rfl ?_ ?_
     ·
      refine aC rfl rfl ?_
      exact aw (s7) [0,1] ⟨rfl,rfl,rfl,rfl,rfl,rfl,rfl,rfl,rfl,rfl,trivial⟩
     refine bK.cons rfl ?_ ?_
     ·
      refine aG rfl (av rfl ux) ⟨rfl,trivial⟩ ?_
      exact aw (s14) [0,1] ⟨rfl,rfl,rfl,rfl,rfl,rfl,rfl,rfl,rfl,rfl,trivial⟩
     refine bK.cons rfl ?_ ?_
     ·
      refine aC rfl rfl ?_
      exact aw (s38) [0,1] ⟨rfl,rfl,rfl,rfl,rfl,rfl,rfl,rfl,rfl,rfl,trivial⟩
     exact trivial
    have s33:J 10 [true,false,false,false,false,true,false,false,false,false,false,false] (fB [true,false,false,false,false,true,false,false,false,false,false,false] (mN y z.1 l undef undef)++lZ b2 y L.1 q1 l a1) [.obj y 111 (.agg (.pair (.at ax (a0,.map (some m))) (.eq z.1))),.sl z.1 22 .val (ek z.2 0 q2)]:=by
     subst hJ
     refine JD.step [1,6] (by kernel_rfl) rfl ?_
     refine bK.cons rfl ?_ ?_
     ·
      refine aC rfl rfl ?_
      exact aw (s35) [0,1] ⟨rfl,rfl,rfl,rfl,rfl,rfl,rfl,rfl,rfl,rfl,trivial⟩
     refine bK.cons rfl ?_ ?_
     ·
      refine aE rfl rfl rfl (ap [.tmp 44] rfl rfl qF rfl cc) ⟨rfl,trivial⟩ fun v=>?_
      exact aw (s97 v) [1,2,0] ⟨rfl,rfl,rfl,rfl,rfl,rfl,rfl,rfl,rfl,rfl,trivial⟩
     exact trivial
    have s34:J 10 [false,true,false,false,false,true,false,false,false,false,false,false] (fB [false,true,false,false,false,true,false,false,false,false,false,false] (mN y z.1 l undef undef)++lZ b2 y L.1 q1 l a1) [.obj y 111 (.agg (.pair (.at ax (a0,.map (some m))) (.eq z.1))),.sl z.1 22 .val (ek z.2 0 q2)]:=by
     subst hJ
     refine JD.step [0,2,6] (by kernel_rfl) rfl ?_
     refine bK.cons rfl ?_ ?_
     ·
      refine aC rfl rfl ?_
      exact aw (s35) [0,1] ⟨rfl,rfl,rfl,rfl,rfl,rfl,rfl,rfl,rfl,rfl,trivial⟩
     refine bK.cons rfl ?_ ?_
     ·
      refine aG rfl (aY rfl) ⟨rfl,trivial⟩ ?_
      exact aw (s38) [0,1] ⟨rfl,rfl,rfl,rfl,rfl,rfl,rfl,rfl,rfl,rfl,trivial⟩
     refine bK.cons rfl ?_ ?_
     ·
      refine aE rfl rfl rfl (ap [.tmp 44] rfl rfl qF rfl cc) ⟨rfl,trivial⟩ fun v=>?_
      exact aw (s98 v) [1,2,0] ⟨rfl,rfl,rfl,rfl,rfl,rfl,rfl,rfl,rfl,rfl,trivial⟩
     exact trivial
    have s96:∀(v:Value),J 10 [false,false,false,false,false,true,true,false,false,false,false,false] (fB [false,false,false,false,false,true,true,false,false,false,false,false] (mN y z.1 l v undef)++lZ b2 y L.1 q1 l a1) [.obj y 111 (.agg (.pair (.at ax (a0,.map (some m))) (.eq z.1))),.sl z.1 22 .val (ek z.2 0 q2),.sl v 3 (.int .i64) l2]:=fun v=>by
     subst hJ
     refine JD.step [0,1,7] (by kernel_rfl) rfl ?_
     refine bK.cons rfl ?_ ?_
     ·
      refine aC rfl rfl ?_
      exact aw (s97 v) [0,1,2] ⟨rfl,rfl,rfl,rfl,rfl,rfl,rfl,rfl,rfl,rfl,trivial⟩
     refine bK.cons rfl ?_ ?_
     ·
      refine aC rfl rfl ?_
      exact aw (s98 v) [0,1,2] ⟨rfl,rfl,rfl,rfl,rfl,rfl,rfl,rfl,rfl,rfl,trivial⟩
     refine bK.cons rfl ?_ ?_
     ·
      refine bF 2 rfl ?_
      refine fy fun hv=>?_
      refine aG rfl (be (t:=.val) [(.tmp 45,.eq v)] [v] rfl rfl oG (.cons hv (.val hv) .nil) rfl rfl) ⟨rfl,trivial⟩ ?_
      exact aw (s224 v) [1,2,0] ⟨rfl,rfl,rfl,rfl,rfl,rfl,rfl,rfl,rfl,rfl,trivial⟩
     exact trivial
    have s1:J 11 [true,false,false,false,false,false,false,false,false,false,false,false] (fB [true,false,false,false,false,false,false,false,false,false,false,false] (mN y z.1 l undef undef)++lZ b2 y L.1 q1 l a1) [.obj y 111 (.agg (.pair (.at ax (a0,.map (some m))) (.eq z.1))),.sl z.1 22 .val (ek z.2 0 q2)]:=by
     subst hJ
     refine JD.step [1,5] (by kernel_rfl) rfl ?_
     refine bK.cons rfl ?_ ?_
     ·
      refine aC rfl rfl ?_
      exact aw (s3) [0,1] ⟨rfl,rfl,rfl,rfl,rfl,rfl,rfl,rfl,rfl,trivial⟩
     refine bK.cons rfl ?_ ?_
     ·
      refine aC rfl rfl ?_
      exact aw (s33) [0,1] ⟨rfl,rfl,rfl,rfl,rfl,rfl,rfl,rfl,rfl,trivial⟩
     exact trivial
    have s2:J 11 [false,true,false,false,false,false,false,false,false,false,false,false] (fB [false,true,false,false,false,false,false,false,false,false,false,false] (mN y z.1 l undef undef)++lZ b2 y L.1 q1 l a1) [.obj y 111 (.agg (.pair (.at ax (a0,.map (some m))) (.eq z.1))),.sl z.1 22 .val (ek z.2 0 q2)]:=by
     subst hJ
     refine JD.step [0,2,5] (by kernel_rfl) rfl ?_
     refine bK.cons rfl ?_ ?_
     ·
      refine aC rfl rfl ?_
      exact aw (s3) [0,1] ⟨rfl,rfl,rfl,rfl,rfl,rfl,rfl,rfl,rfl,trivial⟩
     refine bK.cons rfl ?_ ?_
     ·
      refine aG rfl (aY rfl) ⟨rfl,trivial⟩ ?_
      exact aw (s6) [0,1] ⟨rfl,rfl,rfl,rfl,rfl,rfl,rfl,rfl,rfl,trivial⟩
     refine bK.cons rfl ?_ ?_
     ·
      refine aC rfl rfl ?_
      exact aw (s34) [0,1] ⟨rfl,rfl,rfl,rfl,rfl,rfl,rfl,rfl,rfl,trivial⟩
     exact trivial
    have s32:J 11 [false,false,false,false,false,true,false,false,false,false,false,false] (fB [false,false,false,false,false,true,false,false,false,false,false,false] (mN y z.1 l undef undef)++lZ b2 y L.1 q1 l a1) [.obj y 111 (.agg (.pair (.at ax (a0,.map (some m))) (.eq z.1))),.sl z.1 22 .val (ek z.2 0 q2)]:=by
     subst hJ
     refine JD.step [0,1,6] (by kernel_rfl) rfl ?_
     refine bK.cons rfl ?_ ?_
     ·
      refine aC rfl rfl ?_
      exact aw (s33) [0,1] ⟨rfl,rfl,rfl,rfl,rfl,rfl,rfl,rfl,rfl,trivial⟩
     refine bK.cons rfl ?_ ?_
     ·
      refine aC rfl rfl ?_
      exact aw (s34) [0,1] ⟨rfl,rfl,rfl,rfl,rfl,rfl,rfl,rfl,rfl,trivial⟩
     refine bK.cons rfl ?_ ?_
     ·
      refine aE rfl rfl rfl (ap [.tmp 44] rfl rfl qF rfl cc) ⟨rfl,trivial⟩ fun v=>?_
      exact aw (s96 v) [1,2,0] ⟨rfl,rfl,rfl,rfl,rfl,rfl,rfl,rfl,rfl,trivial⟩
     exact trivial
    have s0:J 12 [false,false,false,false,false,false,false,false,false,false,false,false] (fB [false,false,false,false,false,false,false,false,false,false,false,false] (mN y z.1 l undef undef)++lZ b2 y L.1 q1 l a1) [.obj y 111 (.agg (.pair (.at ax (a0,.map (some m))) (.eq z.1))),.sl z.1 22 .val (ek z.2 0 q2)]:=by
     subst hJ
     refine JD.step [0,1,5] (by kernel_rfl) rfl ?_
     refine bK.cons rfl ?_ ?_
     ·
      refine aC rfl rfl ?_
      exact aw (s1) [0,1] ⟨rfl,rfl,rfl,rfl,rfl,rfl,rfl,rfl,trivial⟩
     refine bK.cons rfl ?_ ?_
     ·
      refine aC rfl rfl ?_
      exact aw (s2) [0,1] ⟨rfl,rfl,rfl,rfl,rfl,rfl,rfl,rfl,trivial⟩
     refine bK.cons rfl ?_ ?_
     ·
      refine aC rfl rfl ?_
      exact aw (s32) [0,1] ⟨rfl,rfl,rfl,rfl,rfl,rfl,rfl,rfl,trivial⟩
     exact trivial
    exact s0
   ·
    exact fun a w st=>⟨rfl,p,st⟩
  ·
   subst hB
   refine bX ?_
   refine ag ?_
   refine bz (fD (Δ':=.sl p.1 3 (.int .i64) l2:: .sl p.2 22 .val (ek z.2 0 q2++[p.1])::([.obj y 111 (.agg (.pair (.at ax (a0,.map (some m))) (.eq p.2))),.inv m (bL k a0),.obj b2 27 (.rep ao a0),.inv 0 eM]++kV z.2 0 q2)) ?_) ?_
   ·
    exact List.Perm.trans (List.Perm.swap _ _ _) (List.Perm.trans (List.Perm.cons _ (List.Perm.swap _ _ _)) (List.Perm.swap _ _ _))
   refine bz (xU (pre:=[.obj y 111 (.agg (.pair (.at ax (a0,.map (some m))) (.eq p.2))),.inv m (bL k a0),.obj b2 27 (.rep ao a0),.inv 0 eM])) ?_
   show JC _ _ _ _ _
   refine ab ?_
   obtain⟨w3,ew,h⟩:=aa h
   refine aG rfl (aW rfl ew) ⟨rfl,rfl,trivial⟩ ?_
   refine aC rfl rfl ?_
   refine ay ?_
   refine ag ?_
   exact jf ((p.2,nk z.2 q2.length p.1),(w3,q2++[l2])) h (bi [.obj y 111 (.agg (.pair (.at ax (a0,.map (some m))) (.eq p.2))),.inv m (bL k a0),.obj b2 27 (.rep ao a0),.inv 0 eM] (fC 22 (p.2,nk z.2 q2.length p.1) (q2++[l2])) [0,1,2,3] ⟨rfl,rfl,rfl,rfl,rfl,rfl,trivial⟩ rfl)
 replace h:=bO (nL hb) h
 refine jH ?_
 refine cp ?_
 refine cp ?_
 refine eH ?_
 refine ag ?_
 show JC _ _ _ _ _
 replace h:((eU k a0 k (0,[],q.2)).bind fun p=>(jI k a0 p.1 p.2).bind fun b=>if(!b.2.2.1 || decide (L.1≤b.2.1))=true then some (0,0,0,11) else some (b.1.1,b.1.2,b.2.1,0)).bind some=some r:=h
 rw [Option.bind_assoc] at h
 generalize q.2=ls at h⊢
 refine ar ?_
 refine ab ?_
 refine dE rfl ?_
 refine ct (SE.nil 114 fk) ?_
 refine ay ?_
 refine ag ?_
 show JC _ _ _ _ _
 refine dA (bi (Γ':=[(2,.eq (bP b2)),(8,.eq (.int .i64 L.1)),(10,.eq (bP y)),(13,.eq (.slice none 0 0))]) (pre':=[.inv m (bL k a0),.obj b2 27 (.rep ao a0),.inv 0 eM,.sl (.slice none 0 0) 114 fk [],.obj y 111 (.agg (.pair (.at ax (a0,.map (some m))) (.eq z.1)))]) [.sl (.slice none 0 0) 114 fk [],.obj y 111 (.agg (.pair (.at ax (a0,.map (some m))) (.eq z.1))),.inv m (bL k a0),.obj b2 27 (.rep ao a0),.inv 0 eM] (fC 22 z ls) [2,3,4,0,1] ⟨rfl,rfl,rfl,rfl,trivial⟩ rfl) ?_
 refine ar ?_
 refine ar ?_
 refine ab ?_
 refine aG rfl (av rfl M4) ⟨rfl,trivial⟩ ?_
 refine bF 1 rfl ?_
 refine bU rfl rfl rfl (aj rfl MJ jF rfl) ⟨rfl,trivial⟩ ?_
 refine aG rfl (jQ rfl rfl mC) ⟨rfl,trivial⟩ ?_
 refine ff rfl ?_
 refine ay ?_
 refine ag ?_
 show JC _ _ _ _ _
 refine ai ?_
 refine aK (Z:=Value) (α:=Int×List (Int×Int)×List (List Int)) (fun c q=>[(2,.eq (bP b2)),(8,.eq (.int .i64 L.1)),(10,.eq (bP y)),(13,.eq c),(53,.eq (.int .i64 (a0.2.1.length:Int))),(54,.eq (.int .i64 q.1))]) (fun c q=>[.obj b2 27 (.rep ao a0),.inv m (bL k a0),.inv 0 eM,.sl c 114 fk q.2.1,.obj y 111 (.agg (.pair (.at ax (a0,.map (some m))) (.eq z.1)))]++fC 22 z q.2.2) (eU k a0) k (.slice none 0 0) (0,[],ls) (fun _=>rfl) h (bi [.obj b2 27 (.rep ao a0),.inv m (bL k a0),.inv 0 eM,.sl (.slice none 0 0) 114 fk [],.obj y 111 (.agg (.pair (.at ax (a0,.map (some m))) (.eq z.1)))] (fC 22 z ls) [0,1,2,3,4] ⟨rfl,rfl,rfl,rfl,rfl,rfl,trivial⟩ rfl) (fun n c q h=>?_)
 obtain⟨q1,qp,ql⟩:=q
 unfold eU at h
 refine ar ?_
 refine ab ?_
 refine aG rfl (bg rfl) ⟨rfl,rfl,trivial⟩ ?_
 refine ay ?_
 refine ag ?_
 show JC _ _ _ _ _
 refine ar ?_
 refine bG rfl (fun hb=>?_) (fun hb=>?_)
 ·
  replace h:=cG (oK hb) h
  obtain⟨w,ew,h⟩:=aa h
  rw [Option.bind_assoc] at h
  refine cX ?_
  refine ag ?_
  show JC _ _ _ _ _
  refine ar ?_
  refine ai ?_
  refine ar ?_
  refine ab ?_
  refine aC rfl rfl ?_
  refine de rfl rfl ?_
  refine ay ?_
  refine ag ?_
  show JC _ _ _ _ _
  refine ar ?_
  refine ab ?_
  refine aC rfl rfl ?_
  refine aG rfl (aW rfl ew) ⟨rfl,rfl,trivial⟩ ?_
  refine de rfl rfl ?_
  refine ay ?_
  refine ag ?_
  show JC _ _ _ _ _
  refine ai ?_
  refine aK (Z:=Value) (α:=Int×List (Int×Int)×List (List Int)) (fun c q=>[(2,.eq (bP b2)),(8,.eq (.int .i64 L.1)),(10,.eq (bP y)),(13,.eq c),(14,.eq (.int .i64 q1)),(15,.eq (.int .i64 q.1)),(53,.eq (.int .i64 (a0.2.1.length:Int))),(54,.eq (.int .i64 q1))]) (fun c q=>[.obj b2 27 (.rep ao a0),.inv m (bL k a0),.inv 0 eM,.sl c 114 fk q.2.1,.obj y 111 (.agg (.pair (.at ax (a0,.map (some m))) (.eq z.1)))]++fC 22 z q.2.2) (gV k a0 q1) k c (w,qp,ql) (fun _=>rfl) h (bi [.obj b2 27 (.rep ao a0),.inv m (bL k a0),.inv 0 eM,.sl c 114 fk qp,.obj y 111 (.agg (.pair (.at ax (a0,.map (some m))) (.eq z.1)))] (fC 22 z ql) [0,1,2,3,4] ⟨rfl,rfl,rfl,rfl,rfl,rfl,rfl,rfl,trivial⟩ rfl) (fun n3 c q h=>?_)
  obtain⟨j,rp,rl⟩:=q
  unfold gV at h
  refine ar ?_
  refine ar ?_
  refine ab ?_
  refine aC rfl rfl ?_
  refine aG rfl (av rfl M4) ⟨rfl,trivial⟩ ?_
  refine bU rfl rfl rfl (aj rfl MJ jF rfl) ⟨rfl,trivial⟩ ?_
  refine aG rfl (jQ rfl rfl mC) ⟨rfl,trivial⟩ ?_
  refine aG rfl (bg rfl) ⟨rfl,rfl,trivial⟩ ?_
  refine ay ?_
  refine ag ?_
  show JC _ _ _ _ _
  refine bG rfl (fun hb=>?_) (fun hb=>?_)
  ·
   replace h:=cG (oK hb) h
   obtain⟨r1,Q,h⟩:=aa h
   have cv:=sW k a0 (q1,j) rl r1 y m z Q
   refine cX ?_
   refine ag ?_
   show JC _ _ _ _ _
   refine ar ?_
   refine ai ?_
   refine ar ?_
   refine ab ?_
   refine aC rfl rfl ?_
   refine aC rfl rfl ?_
   refine aG rfl (cH [(0,.tmp 66,_),(1,.tmp 67,_)] rfl NC sS LR (il ⟨rfl,rfl,trivial⟩) rfl) ⟨rfl,rfl,trivial⟩ ?_
   refine aE rfl rfl rfl (a9 rfl sS wa) trivial fun e=>?_
   refine bf rfl rfl (a8 rfl hH trivial rfl rfl) ⟨rfl,rfl,trivial⟩ ?_
   refine ct (oq (a':=.rep fk (q1,j)) RB) ?_
   refine ay ?_
   refine ag ?_
   show JC _ _ _ _ _
   refine ar ?_
   refine ab ?_
   refine aC rfl rfl ?_
   refine bU rfl rfl rfl (aj rfl hH (zj) rfl) ⟨rfl,trivial⟩ ?_
   refine ct (fD (Δ':=([.obj y 111 (.agg (.pair (.at ax (a0,.map (some m))) (.eq z.1)))]++fC 22 z rl)++[.obj e 114 (.rep fk (q1,j)),.obj b2 27 (.rep ao a0),.inv m (bL k a0),.inv 0 eM,.sl c 114 fk rp]) (List.perm_append_comm (l₁:=([.obj e 114 (.rep fk (q1,j)),.obj b2 27 (.rep ao a0),.inv m (bL k a0),.inv 0 eM,.sl c 114 fk rp]:List D)))) ?_
   refine bQ (Δ:=_++_) (F:=[_,_,_,_,_]) (fun _ _ _=>aA rfl _) rfl rfl (ap [.tmp 69,.tmp 70] rfl rfl QE rfl cv) ⟨rfl,rfl,trivial⟩ fun _=>?_
   refine ct (fD (Δ':=[.obj e 114 (.rep fk (q1,j)),.obj b2 27 (.rep ao a0),.inv m (bL k a0),.inv 0 eM,.sl c 114 fk rp]++([.obj y 111 (.agg (.pair (.at ax (a0,.map (some m))) (.eq z.1)))]++fC 22 z r1.2)) List.perm_append_comm) ?_
   refine ay ?_
   refine ag ?_
   show JC _ _ _ _ _
   refine bG rfl (fun hb=>?_) (fun hb=>?_)
   ·
    replace h:=cG (EH hb) h
    have hk:bq (rp.length+1):=by
     apply Classical.byContradiction
     intro hn
     rw [if_neg hn] at h
     cases h
    replace h:=cG hk h
    refine ab ?_
    refine aC rfl rfl ?_
    refine bU rfl rfl rfl (aj rfl hH (zj) rfl) ⟨rfl,trivial⟩ ?_
    refine aG rfl (be (t:=fk) [(.tmp 73,_)] [(q1,j)] rfl rfl G1 (.cons rfl .rep .nil) rfl rfl) ⟨rfl,trivial⟩ ?_
    refine bF 4 rfl ?_
    refine cz rfl rfl rfl (bp rfl rfl G1 (by simpa using hk)) ⟨rfl,rfl,trivial⟩ fun v'=>?_
    refine de rfl rfl ?_
    refine ay ?_
    refine bX ?_
    refine ag ?_
    show JC _ _ _ _ _
    refine ab ?_
    refine aC rfl rfl ?_
    obtain⟨w2,ew2,h⟩:=aa h
    refine aG rfl (aW rfl ew2) ⟨rfl,rfl,trivial⟩ ?_
    refine de rfl rfl ?_
    refine ay ?_
    refine ag ?_
    exact jf (v',(w2,rp++[(q1,j)],r1.2)) h (bi [.sl v' 114 fk (rp++[(q1,j)]),.obj e 114 (.rep fk (q1,j)),.obj b2 27 (.rep ao a0),.inv m (bL k a0),.inv 0 eM,.obj y 111 (.agg (.pair (.at ax (a0,.map (some m))) (.eq z.1)))] (fC 22 z r1.2) [2,3,4,0,5] ⟨rfl,rfl,rfl,rfl,rfl,rfl,rfl,rfl,trivial⟩ rfl)
   ·
    replace h:=bO (EI hb) h
    refine cX ?_
    refine bX ?_
    refine ag ?_
    show JC _ _ _ _ _
    refine ab ?_
    refine aC rfl rfl ?_
    obtain⟨w2,ew2,h⟩:=aa h
    refine aG rfl (aW rfl ew2) ⟨rfl,rfl,trivial⟩ ?_
    refine de rfl rfl ?_
    refine ay ?_
    refine ag ?_
    exact jf (c,(w2,rp,r1.2)) h (bi [.obj e 114 (.rep fk (q1,j)),.obj b2 27 (.rep ao a0),.inv m (bL k a0),.inv 0 eM,.sl c 114 fk rp,.obj y 111 (.agg (.pair (.at ax (a0,.map (some m))) (.eq z.1)))] (fC 22 z r1.2) [1,2,3,4,5] ⟨rfl,rfl,rfl,rfl,rfl,rfl,rfl,rfl,trivial⟩ rfl)
  replace h:=bO (nL hb) h
  refine jH ?_
  refine cp ?_
  refine cp ?_
  refine eH ?_
  refine bX ?_
  refine ag ?_
  show JC _ _ _ _ _
  replace h:(eU k a0 n (w,rp,rl)).bind _=some r:=h
  refine ab ?_
  refine aG rfl (aW rfl ew) ⟨rfl,rfl,trivial⟩ ?_
  refine aC rfl rfl ?_
  refine ay ?_
  refine ag ?_
  exact jf (c,(w,rp,rl)) h (bi [.obj b2 27 (.rep ao a0),.inv m (bL k a0),.inv 0 eM,.sl c 114 fk rp,.obj y 111 (.agg (.pair (.at ax (a0,.map (some m))) (.eq z.1)))] (fC 22 z rl) [0,1,2,3,4] ⟨rfl,rfl,rfl,rfl,rfl,rfl,trivial⟩ rfl)
 replace h:=bO (nL hb) h
 refine jH ?_
 refine cp ?_
 refine cp ?_
 refine eH ?_
 refine ag ?_
 show JC _ _ _ _ _
 replace h:((jI k a0 qp ql).bind fun b=>if(!b.2.2.1 || decide (L.1≤b.2.1))=true then some (0,0,0,11) else some (b.1.1,b.1.2,b.2.1,0)).bind some=some r:=h
 obtain⟨b,eb,h⟩:=aa h
 have cx:=wE k a0 qp ql b y m z eb
 refine ar ?_
 refine ab ?_
 refine aC rfl rfl ?_
 refine aG rfl (tu [.tmp 78] [] [bP y] [] rfl rfl rfl) ⟨rfl,trivial⟩ ?_
 refine bF 3 rfl ?_
 refine ct (d5 [13] ⟨rfl,trivial⟩) ?_
 refine aC rfl rfl ?_
 refine ct (bi (Γ':=[(8,.eq (.int .i64 L.1)),(79,.eq (.func (.func 62) #[bP y] #[])),(80,Rs fk qp)]) (pre':=[.inv 0 eM,.obj b2 27 (.rep ao a0),.inv m (bL k a0),.obj y 111 (.agg (.pair (.at ax (a0,.map (some m))) (.eq z.1)))]) [.obj b2 27 (.rep ao a0),.inv m (bL k a0),.inv 0 eM,.obj y 111 (.agg (.pair (.at ax (a0,.map (some m))) (.eq z.1)))] (fC 22 z ql) [2,0,1,3] ⟨rfl,rfl,rfl,trivial⟩ rfl) ?_
 refine ct (fD (Δ':=([.inv m (bL k a0),.obj y 111 (.agg (.pair (.at ax (a0,.map (some m))) (.eq z.1)))]++fC 22 z ql)++[.inv 0 eM,.obj b2 27 (.rep ao a0)]) (List.perm_append_comm (l₁:=([.inv 0 eM,.obj b2 27 (.rep ao a0)]:List D)))) ?_
 refine bQ (Δ:=_++_) (F:=[_,_]) (fun _ _ _=>aA rfl _) rfl rfl (gi [.tmp 79,.tmp 80] rfl rfl QD rfl cx) ⟨rfl,rfl,trivial⟩ fun _=>?_
 refine ct (fD (Δ':=[.inv 0 eM,.obj b2 27 (.rep ao a0)]++([.inv m (bL k a0),.obj y 111 (.agg (.pair (.at ax (a0,.map (some m))) (.eq z.1)))]++fC 22 z b.2.2.2)) List.perm_append_comm) ?_
 refine aC rfl rfl ?_
 refine aG rfl (dF rfl rfl) ⟨rfl,trivial⟩ ?_
 refine aG rfl (dF rfl rfl) ⟨rfl,trivial⟩ ?_
 refine aG rfl (dF rfl rfl) ⟨rfl,trivial⟩ ?_
 refine aE rfl rfl rfl (a9 rfl sS wa) trivial fun s=>?_
 refine bf rfl rfl (a8 rfl hH rfl rfl rfl) ⟨rfl,rfl,trivial⟩ ?_
 refine de rfl rfl ?_
 refine de rfl rfl ?_
 refine ay ?_
 refine ag ?_
 show JC _ _ _ _ _
 obtain⟨bx,bn,bo,bl⟩:=b
 cases bo with
 |false=>
  replace h:some (0,0,0,11)=some r:=by simpa using h
  obtain rfl:=Option.some.inj h
  refine ar ?_
  refine ar ?_
  refine ab ?_
  refine aC rfl rfl ?_
  refine aG rfl (eJ rfl) ⟨rfl,trivial⟩ ?_
  refine aC rfl rfl ?_
  refine zc rfl rfl rfl rfl rfl rfl rfl ?_
  refine zc rfl rfl rfl rfl rfl rfl rfl ?_
  refine zc rfl rfl rfl rfl rfl rfl rfl ?_
  refine aG rfl (gx rfl) ⟨rfl,rfl,trivial⟩ ?_
  refine ay ?_
  refine ag ?_
  show JC _ _ _ _ _
  refine bG rfl (fun hb=>?_) (fun hb=>(by cases hb))
  refine ar ?_
  refine ab ?_
  refine dE rfl ?_
  refine dE rfl ?_
  refine dE rfl ?_
  refine dE rfl ?_
  refine ay ?_
  refine ag ?_
  show JC _ _ _ _ _
  refine bH ?_
  refine eD ?_
  refine dh 1 rfl ?_
  exact aO () [_,_,_,_] 1 ⟨rfl,rfl,rfl,rfl,trivial⟩ rfl
 |true=>
  refine ar ?_
  refine ar ?_
  refine ab ?_
  refine aC rfl rfl ?_
  refine aG rfl (eJ rfl) ⟨rfl,trivial⟩ ?_
  refine aC rfl rfl ?_
  refine m4 rfl rfl rfl rfl rfl rfl (aL rfl) ⟨rfl,trivial⟩ ?_
  refine m4 rfl rfl rfl rfl rfl rfl (aL rfl) ⟨rfl,trivial⟩ ?_
  refine m4 rfl rfl rfl rfl rfl rfl (qC rfl) ⟨rfl,rfl,trivial⟩ ?_
  refine aG rfl (mg rfl) ⟨rfl,rfl,trivial⟩ ?_
  refine ay ?_
  refine ag ?_
  show JC _ _ _ _ _
  refine bG rfl (fun hb=>?_) (fun hb=>?_)
  ·
   have hd:L.1≤bn:=of_decide_eq_true hb
   replace h:some (0,0,0,11)=some r:=by simpa [hd] using h
   obtain rfl:=Option.some.inj h
   refine ar ?_
   refine ab ?_
   refine dE rfl ?_
   refine dE rfl ?_
   refine dE rfl ?_
   refine dE rfl ?_
   refine ay ?_
   refine ag ?_
   show JC _ _ _ _ _
   refine bH ?_
   refine eD ?_
   refine dh 1 rfl ?_
   exact aO () [_,_,_,_] 1 ⟨rfl,rfl,rfl,rfl,trivial⟩ rfl
  ·
   have hd:¬L.1≤bn:=of_decide_eq_false hb
   replace h:some (bx.1,bx.2,bn,0)=some r:=by simpa [hd] using h
   refine cX ?_
   refine ag ?_
   obtain rfl:=Option.some.inj h
   show JC _ _ _ _ _
   refine ar ?_
   refine sO (Δ:=[.obj s 114 (.rep fk bx)]) (F:=[.inv 0 eM,.obj b2 27 (.rep ao a0),.inv m (bL k a0),.obj y 111 (.agg (.pair (.at ax (a0,.map (some m))) (.eq z.1)))]++fC 22 z bl) (Z:=Unit) (fun _=>[(4,.eq (.int .i64 bx.1)),(5,.eq (.int .i64 bx.2)),(6,.eq (.int .i64 bn)),(7,.eq (.int .i64 0))]) (fun _=>[.obj s 114 (.rep fk bx)]) (fun S w=>?_) (fun _=>?_)
   ·
    refine dA (SE.sub (Γ':=[(17,.eq (bP s)),(18,.eq (.int .i64 bn))]) ⟨rfl,rfl,trivial⟩) ?_
    refine jy ?_
    refine aI rfl rfl rfl (av rfl N7) ⟨rfl,trivial⟩ ?_
    refine di 0 rfl rfl rfl rfl (aj rfl ut jF rfl) ⟨rfl,trivial⟩ ?_
    refine aI rfl rfl rfl (av rfl N6) ⟨rfl,trivial⟩ ?_
    refine di 0 rfl rfl rfl rfl (aj rfl ut jF rfl) ⟨rfl,trivial⟩ ?_
    refine aI rfl rfl rfl (aL rfl) ⟨rfl,trivial⟩ ?_
    refine mA 5 [true,true,false,false,false] [4,5,6,7] [0] [.obj s 114 (.rep fk bx)] rfl (by kernel_rfl) (by kernel_rfl) (by kernel_rfl) qY (fun vs hv hB=>?_)
    obtain⟨u0,mc,rfl,O⟩:=an hv
    obtain⟨u1,ac,rfl,M⟩:=an O
    obtain⟨u2,Y,rfl,E⟩:=an M
    obtain⟨u3,X,rfl,x⟩:=an E
    obtain⟨u4,U,rfl,u⟩:=an x
    obtain rfl:=kg u
    refine⟨[0],[],by kernel_rfl,by decide,?_⟩
    refine pK rfl rfl rfl rfl (fU rfl) ⟨rfl,trivial⟩ (by kernel_rfl) ?_
    refine pK rfl rfl rfl rfl (fU rfl) ⟨rfl,trivial⟩ (by kernel_rfl) ?_
    refine pK rfl rfl rfl rfl (fU rfl) ⟨rfl,trivial⟩ (by kernel_rfl) ?_
    refine pK rfl rfl rfl rfl (fU rfl) ⟨rfl,trivial⟩ (by kernel_rfl) ?_
    refine pL ?_
    exact fun a w st=>⟨rfl,(),(SE.fin (Γ':=[(4,.eq (.int .i64 bx.1)),(5,.eq (.int .i64 bx.2)),(6,.eq (.int .i64 bn)),(7,.eq (.int .i64 0))]) [0] ⟨rfl,rfl,rfl,rfl,trivial⟩ rfl) a w st⟩
   ·
    refine ag ?_
    show JC _ _ _ _ _
    refine bH ?_
    refine dh 1 rfl ?_
    exact aO () [_,_,_,_] 1 ⟨rfl,rfl,rfl,rfl,trivial⟩ rfl
def nR(k:Nat)(a0:aQ)(r7:Int×(List (List Int))):Nat→((List Int)×Int)→Option (List Int)
 |0,_=>none
 |n+1,c=>
  if c.2 < (a0.2.1.length:Int) then((((dU k r7.1 c.2).bind fun j=>
  if j=true then((dj (bq (List.length c.1+List.length [c.2]))).bind fun _=>
  some (c.1++[c.2])) else(some c.1)):Option ((List Int))).bind fun h=>
  (ck (c.2+1)).bind fun e=>
  nR k a0 r7 n (h,e)) else(some c.1)
def yd(k:Nat)(a0:aQ)(a1:(List (List Int)))(a2:Int):Option ((List Int)×(List (List Int))×Int):=
 (cC k a0 a1).bind fun r2=>
 if¬(r2=0) then(some ([],[],r2)) else((ck (a0.1 - 1)).bind fun x3=>
 (eE k a2 0 x3).bind fun r4=>
 if¬(r4=true) then(some ([],[],3)) else((dV k a1).bind fun r6=>
 (lE k (a0,()) r6 a2).bind fun r7=>
 ((nR k a0 r7 k (([]:(List Int)),0)):Option ((List Int))).bind fun x9=>
 (iJ k (a0,()) r7.2).bind fun c=>
 some (x9,c,0)))
theorem BF(k:Nat)(a0:aQ)(a1:(List (List Int)))(a2:Int)(r:(List Int)×(List (List Int))×Int)(h:yd k a0 a1 a2=some r):
 bV Tryz.prog 34 [.rep ao a0,.rep (.slice (.slice (.int .i64))) a1,I a2] [.inv 0 (eM)] (fun _:Unit=>(bm [Ri r.1,.rep (.slice (.slice (.int .i64))) r.2.1,I r.2.2],[.inv 0 (eM)])):=by
 unfold yd at h
 replace h:=aZ h
 refine bV.of 55 Tryz.func34 rfl Tryz.ntmps34 rfl fun S w0=>?_
 refine sr ?_
 refine bx fun b1=>?_
 refine au ?_
 refine lo cU ?_
 refine mq ?_
 obtain⟨r2,ac,h⟩:=aa h
 have mc:=gg k a0 a1 r2 ac
 refine fr 1 ?_
 refine kb (ap [.tmp 15,.tmp 16] rfl rfl Ou rfl mc) ?_
 refine au ?_
 refine jb (g7 rfl) ?_
 refine nt ?_
 refine cn h (fun h=>?_) (fun h=>?_)
 ·
  refine sr (mq ?_);refine cq ?_;refine cq ?_;refine aq (nt (rx ?_));refine bz (ot (t:=(.slice (.int .i64))) (x:=[]) 6 rfl .nil rfl rfl) ?_;refine bz (ot (t:=(.slice (.slice (.int .i64)))) (x:=[]) 7 rfl .nil rfl rfl) ?_;cases h;exact aO () [_,_,_] 1 ⟨rfl,rfl,rfl,trivial⟩ rfl
 ·
  refine au ?_;refine fl f9 ?_;refine fr 1 ?_;refine lo bY ?_;obtain⟨x3,Q,h⟩:=aa h;refine jb (fS rfl Q) ?_;obtain⟨r4,Y,h⟩:=aa h;refine jc (ap [.tmp 21,.const (.int .i64 (0)),.tmp 24] rfl rfl AU rfl (eS k a2 0 x3 r4 Y)) ?_;refine ja (eJ rfl) ?_;refine nt (cw h (fun h=>?_) (fun h=>?_))
  ·refine sr (cq ?_);refine cq ?_;refine cq (nt (rx ?_));refine bz (ot (t:=(.slice (.int .i64))) (x:=[]) 6 rfl .nil rfl rfl) ?_;refine bz (ot (t:=(.slice (.slice (.int .i64)))) (x:=[]) 7 rfl .nil rfl rfl) ?_;refine bz (SE.fin (Γ':=[(6,_),(7,_),(8,_)]) [1,0] ⟨rfl,rfl,rfl,trivial⟩ rfl) ?_;cases h;exact aO () [_,_,_] 1 ⟨rfl,rfl,rfl,trivial⟩ rfl
  ·refine au ?_;refine lo cU ?_;refine aE rfl rfl rfl (ap [.tmp 27] rfl rfl Lx rfl (iL a0)) ⟨rfl,trivial⟩ fun z5=>?_;refine ct (lR (bL k a0) nz) ?_;refine au ?_;obtain⟨r6,X,h⟩:=aa h;refine ja (ap [.tmp 31] rfl rfl FN rfl (fo k a1 r6 X)) ?_;refine mq ?_;obtain⟨r7,U,h⟩:=aa h;refine jc (d6 (N:=[(.tmp 30,.at ax (a0,(.map (some z5)))),(.tmp 32,.rep (.arr 3 (.arr 5 (.int .i64))) r6),(.tmp 33,I a2)]) (ap [.tmp 30,.tmp 32,.tmp 33] rfl rfl QO rfl (oC k (a0,()) r6 a2 r7 U)) fun _ _ _ hn=>⟨(tY hn.1),hn.2.1,hn.2.2.1,trivial⟩) ?_;refine au ?_;refine aE rfl rfl rfl (a9 rfl sT t3) trivial fun b8=>?_;refine aq ?_;refine bf rfl rfl (a8 rfl ge rfl rfl rfl) ⟨rfl,rfl,trivial⟩ ?_;refine nt (sr (cq (nt ?_)));refine aM (Z:=Value) (α:=(List Int)) (fun l x9=>[(10,.at ax (a0,(.map (some z5)))),(12,Pt b8),(13,.eq l)]) (fun l x9=>[.obj b8 85 (.rep (.arr 3 (.arr 5 (.int .i64))) r7.2),.sl l 3 (.int .i64) x9,.inv 0 (eM),.inv z5 (bL k a0)]) h (fun K h=>?_) (fun l x9 h=>?_)
   ·refine sr (fl bN ?_);refine fr 2 ?_;refine lo eI ?_;refine ol mC ?_;refine ff rfl ?_;refine nt (ai (dA (SE.nil 3 (.int .i64)) ?_));refine aK (fun e c=>[(10,.at ax (a0,(.map (some z5)))),(11,.eq (.int .u8 r7.1)),(12,Pt b8),(13,.eq e),(39,I (a0.2.1.length:Int)),(40,I c.2)]) (fun e c=>[.obj b8 85 (.rep (.arr 3 (.arr 5 (.int .i64))) r7.2),.sl e 3 (.int .i64) c.1,.inv 0 (eM),.inv z5 (bL k a0)]) (nR k a0 r7) k (.slice none 0 0) (([]:(List Int)),0) (fun _=>rfl) h (SE.fin [2,0,4,3] ⟨rfl,rfl,rfl,rfl,rfl,rfl,trivial⟩ rfl) (fun n e c h=>?_);unfold nR at h;refine sr (jb (bg rfl) ?_);refine au ?_;refine ci h (fun h=>?_) (fun h=>?_)
    ·refine sk (aM (Z:=Value) (α:=(List Int)) (fun j s=>[(10,.at ax (a0,(.map (some z5)))),(11,.eq (.int .u8 r7.1)),(12,Pt b8),(13,.eq j),(39,I (a0.2.1.length:Int)),(40,I c.2)]) (fun j s=>[.obj b8 85 (.rep (.arr 3 (.arr 5 (.int .i64))) r7.2),.sl j 3 (.int .i64) s,.inv 0 (eM),.inv z5 (bL k a0)]) h (fun K h=>?_) (fun j s h=>?_))
     ·refine ai (au ?_);obtain⟨O,E,h⟩:=aa h;refine jb (ap [.tmp 43,.tmp 44] rfl rfl Lu rfl (iK k r7.1 c.2 O E)) ?_;refine nt (cv h (fun h=>?_) (fun h=>?_))
      ·refine ab (au ?_);refine ja (be (t:=(.int .i64)) [(.tmp 47,_)] [c.2] rfl rfl dp (.cons rfl .int .nil) rfl rfl) ?_;obtain⟨u16,y,h⟩:=aa h;refine fr 1 ?_;refine cz rfl rfl rfl (bp rfl rfl dp (aB y)) ⟨rfl,rfl,trivial⟩ fun J=>?_;refine au ?_;exact jz (J,c.1++[c.2]) h [1,0,2,3]
      ·refine au ?_;exact jz (e,c.1) h [0,1,2,3]
     ·refine ab ?_;obtain⟨F,u,h⟩:=aa h;refine jb (aW rfl u) ?_;refine au ?_;exact jz (j,(s,F)) h [0,1,2,3]
    ·refine au ?_;exact jz (e,c.1) h [0,1,2,3]
   ·refine au ?_;refine lo ge ?_;obtain⟨M,D,h⟩:=aa h;refine aE rfl rfl rfl (d6 (N:=[(.tmp 52,.at ax (a0,(.map (some z5)))),(.tmp 53,.rep (.arr 3 (.arr 5 (.int .i64))) r7.2)]) (ap [.tmp 52,.tmp 53] rfl rfl Ot rfl (jX k (a0,()) r7.2 M D)) fun _ _ _ hn=>⟨(tY hn.1),hn.2.1,trivial⟩) ⟨rfl,rfl,trivial⟩ fun pp=>?_;refine aq ?_;refine aq ?_;refine cq (nt (bH ?_));refine dh 2 rfl ?_;refine bz (d5 [6,13,51] ⟨rfl,rfl,rfl,trivial⟩) ?_;refine bz (d5 [7,54] ⟨rfl,rfl,trivial⟩) ?_;refine bz (SE.fin (Γ':=[(6,_),(7,_),(8,_)]) [1,0,2] ⟨rfl,rfl,rfl,trivial⟩ rfl) ?_;cases h;exact aO () [_,_,_] 1 ⟨rfl,rfl,rfl,trivial⟩ rfl
def nQ(k:Nat)(a0:(List Int))(a1:dn)(a2:(List (List Int)))(a3:Int)(a4:Int):Option Int:=
 (iJ k a1 a2).bind fun r1=>
 (aR r1 a3).bind fun x3=>
 (dV k (List.set r1 (Int.toNat a3) a0)).bind fun r4=>
 (fZ k a1 r4 a4).bind fun r5=>
 some r5
theorem uq(k:Nat)(a0:(List Int))(a1:dn)(l:Nat)(a2:(List (List Int)))(j:Nat)(a3:Int)(e:Nat)(a4:Int)(c:Nat)(r:Int)(h:nQ k a0 a1 a2 a3 a4=some r):
 dG (jv Tryz.prog) 72 [Ri a0,Pt l,Pt j,Pt e,Pt c] [.obj l 80 (.at bI a1),.obj j 85 (.rep (.arr 3 (.arr 5 (.int .i64))) a2),.obj e 3 (I a3),.obj c 3 (I a4)] (fun _:Unit=>(bm [I r],[.obj l 80 (.at bI a1),.obj j 85 (.rep (.arr 3 (.arr 5 (.int .i64))) a2),.obj e 3 (I a3),.obj c 3 (I a4)])):=by
 unfold nQ at h
 replace h:=aZ h
 refine dG.of 20 Tryz.func72 rfl Tryz.ntmps72 rfl fun S w0=>?_
 refine au ?_
 refine lo yf ?_
 refine fr 1 ?_
 refine lo ge ?_
 obtain⟨r1,x,h⟩:=aa h
 have E:=jX k a1 a2 r1 x
 refine aE rfl rfl rfl (ap [.tmp 8,.tmp 9] rfl rfl Ot rfl E) ⟨rfl,rfl,trivial⟩ fun v2=>?_
 refine aq ?_
 refine nt ?_
 refine sr ?_
 refine mq ?_
 refine fr 3 ?_
 refine lo bY ?_
 refine mq ?_
 obtain⟨x3,n,h⟩:=aa h
 refine fr 1 ?_
 refine kb (aV (t:=(.slice (.int .i64))) rfl lJ bC n) ?_
 refine bf rfl rfl (cP (i:=Int.toNat a3) rfl bC rfl (ig n) rfl .rep rfl) ⟨rfl,rfl,trivial⟩ ?_
 refine nt ?_
 refine ar ?_
 refine dA (d5 [7,10,11] ⟨rfl,rfl,rfl,trivial⟩) ?_
 refine bR ?_
 refine ea 2 (aj rfl yf jF rfl) ?_
 refine dm ?_
 obtain⟨r4,u,h⟩:=aa h
 have D:=fo k (List.set r1 (Int.toNat a3) a0) r4 u
 refine da (ap [.tmp 16] rfl rfl FN rfl D) ?_
 refine ea 3 (aj rfl bY jF rfl) ?_
 refine df cE ?_
 obtain⟨r5,s,h⟩:=aa h
 have y:=mM k a1 r4 a4 r5 s
 refine jc (gi [.tmp 15,.tmp 17,.tmp 18] rfl rfl QN rfl y) ?_
 refine aq ?_
 refine nt ?_
 refine bH ?_
 refine bz (SE.fin (Γ':=[(6,_)]) [2,1,0,3] ⟨rfl,trivial⟩ rfl) ?_
 cases h
 exact aO () [_] 4 ⟨rfl,trivial⟩ rfl
def iz(k:Nat)(a0_0:dn)(a0_1:(List (List Int)))(a0_2:Int)(a0_3:Int)(a1:(List (List Int))):Nat→((List Int)×Int×Bool×Int)→Option ((List Int)×Int×Bool)
 |0,_=>none
 |n+1,y3=>
  if y3.2.2.2 < (a1.length:Int) then((((aR a1 y3.2.2.2).bind fun x7=>
  (nQ k x7 a0_0 a0_1 a0_2 a0_3).bind fun r8=>
  ((if¬(y3.2.2.1=true) then(some true) else(some (decide (r8 < y3.2.1)))):Option (Bool)).bind fun x9=>
  if x9=true then(some (x7,r8,true)) else(some (y3.1,y3.2.1,y3.2.2.1))):Option ((List Int)×Int×Bool)).bind fun x5=>
  (ck (y3.2.2.2+1)).bind fun c=>
  iz k a0_0 a0_1 a0_2 a0_3 a1 n (x5.1,x5.2.1,x5.2.2,c)) else(some (y3.1,y3.2.1,y3.2.2.1))
def lX(k:Nat)(a0_0:dn)(a0_1:(List (List Int)))(a0_2:Int)(a0_3:Int)(a1:(List (List Int))):Option ((List Int)×Int×Bool):=
 ((iz k a0_0 a0_1 a0_2 a0_3 a1 k ([],0,false,0)):Option ((List Int)×Int×Bool)).bind fun x1=>
 some (x1.1,x1.2.1,x1.2.2)
theorem rD(k:Nat)(a0_0:dn)(c_a0_0:Nat)(a0_1:(List (List Int)))(c_a0_1:Nat)(a0_2:Int)(c_a0_2:Nat)(a0_3:Int)(c_a0_3:Nat)(a1:(List (List Int)))(r:(List Int)×Int×Bool)(h:lX k a0_0 a0_1 a0_2 a0_3 a1=some r):
 dG (jv Tryz.prog) 74 [.eq (.func (.func 72) #[] #[(Pv c_a0_0),(Pv c_a0_1),(Pv c_a0_2),(Pv c_a0_3)]),.rep (.slice (.slice (.int .i64))) a1] [.obj c_a0_0 80 (.at bI a0_0),.obj c_a0_1 85 (.rep (.arr 3 (.arr 5 (.int .i64))) a0_1),.obj c_a0_2 3 (I a0_2),.obj c_a0_3 3 (I a0_3)] (fun _:Unit=>(bm [Ri r.1,I r.2.1,.eq (.bool r.2.2)],[.obj c_a0_0 80 (.at bI a0_0),.obj c_a0_1 85 (.rep (.arr 3 (.arr 5 (.int .i64))) a0_1),.obj c_a0_2 3 (I a0_2),.obj c_a0_3 3 (I a0_3)])):=by
 unfold lX at h
 replace h:=aZ h
 refine dG.of 35 Tryz.func74 rfl Tryz.ntmps74 rfl fun S w0=>?_
 refine sr ?_
 refine cq ?_
 refine cq ?_
 refine cq ?_
 refine nt ?_
 refine sr ?_
 refine cq ?_
 refine nt ?_
 refine sr ?_
 refine cq ?_
 refine cq ?_
 refine nt ?_
 refine aM (Z:=Unit) (α:=(List Int)×Int×Bool) (fun z2 x1=>[(7,Ri x1.1),(8,I x1.2.1),(9,.eq (.bool x1.2.2))]) (fun z2 x1=>[.obj c_a0_0 80 (.at bI a0_0),.obj c_a0_1 85 (.rep (.arr 3 (.arr 5 (.int .i64))) a0_1),.obj c_a0_2 3 (I a0_2),.obj c_a0_3 3 (I a0_3)]) h (fun K h=>?_) (fun z2 x1 h=>?_)
 ·
  refine au ?_;refine ol lJ ?_;refine ff rfl ?_;refine nt (ai (dA (ot (t:=(.slice (.int .i64))) (x:=[]) 7 rfl .nil rfl rfl) ?_));refine aK (fun z4 y3=>[(0,.eq (.func (.func 72) #[] #[(Pv c_a0_0),(Pv c_a0_1),(Pv c_a0_2),(Pv c_a0_3)])),(7,Ri y3.1),(8,I y3.2.1),(9,.eq (.bool y3.2.2.1)),(13,.rep (.slice (.slice (.int .i64))) a1),(14,I (a1.length:Int)),(15,I y3.2.2.2)]) (fun z4 y3=>[.obj c_a0_0 80 (.at bI a0_0),.obj c_a0_1 85 (.rep (.arr 3 (.arr 5 (.int .i64))) a0_1),.obj c_a0_2 3 (I a0_2),.obj c_a0_3 3 (I a0_3)]) (iz k a0_0 a0_1 a0_2 a0_3 a1) k () ([],0,false,0) (fun _=>rfl) h (SE.fin [0,1,2,3] ⟨rfl,rfl,rfl,rfl,rfl,rfl,rfl,trivial⟩ rfl) (fun n z4 y3 h=>?_);unfold iz at h;refine sr (jb (bg rfl) ?_);refine au ?_;refine ci h (fun h=>?_) (fun h=>?_)
  ·refine sk (aM (Z:=Unit) (α:=(List Int)×Int×Bool) (fun z6 x5=>[(0,.eq (.func (.func 72) #[] #[(Pv c_a0_0),(Pv c_a0_1),(Pv c_a0_2),(Pv c_a0_3)])),(7,Ri x5.1),(8,I x5.2.1),(9,.eq (.bool x5.2.2)),(13,.rep (.slice (.slice (.int .i64))) a1),(14,I (a1.length:Int)),(15,I y3.2.2.2)]) (fun z6 x5=>[.obj c_a0_0 80 (.at bI a0_0),.obj c_a0_1 85 (.rep (.arr 3 (.arr 5 (.int .i64))) a0_1),.obj c_a0_2 3 (I a0_2),.obj c_a0_3 3 (I a0_3)]) h (fun K h=>?_) (fun z6 x5 h=>?_))
   ·refine ai (sr ?_);obtain⟨x7,l,h⟩:=aa h;refine jb (aD (t:=(.slice (.int .i64))) rfl lJ bC l) ?_;refine ja (ak (t:=(.slice (.int .i64))) rfl bC rfl) ?_;refine aq (nt (sr ?_));iterate 2 refine mq ?_
    obtain⟨r8,u,h⟩:=aa h;refine fr 3 ?_;refine fr 3 ?_;refine fr 3 ?_;refine fr 3 ?_;refine bQ (Δ:=[_,_,_,_]) (F:=_) (fun _ _ _=>aA rfl _) rfl rfl (pj (fs:=[]) (cs:=[(Pv c_a0_0),(Pv c_a0_1),(Pv c_a0_2),(Pv c_a0_3)]) (ags:=[Ri x7]) [.tmp 20] rfl rfl TM rfl (uq k x7 a0_0 c_a0_0 a0_1 c_a0_1 a0_2 c_a0_2 a0_3 c_a0_3 r8 u)) ⟨rfl,rfl,trivial⟩ fun _=>?_;refine aq (nt ?_);refine aM (Z:=Unit) (α:=Bool) (fun c x9=>[(0,.eq (.func (.func 72) #[] #[(Pv c_a0_0),(Pv c_a0_1),(Pv c_a0_2),(Pv c_a0_3)])),(7,Ri y3.1),(8,I y3.2.1),(9,.eq (.bool y3.2.2.1)),(11,Ri x7),(12,I r8),(13,.rep (.slice (.slice (.int .i64))) a1),(14,I (a1.length:Int)),(15,I y3.2.2.2),(28,.eq (.bool x9))]) (fun c x9=>[.obj c_a0_0 80 (.at bI a0_0),.obj c_a0_1 85 (.rep (.arr 3 (.arr 5 (.int .i64))) a0_1),.obj c_a0_2 3 (I a0_2),.obj c_a0_3 3 (I a0_3)]) h (fun K h=>?_) (fun c x9 h=>?_)
    ·refine ab (mq ?_);refine ja (eJ rfl) ?_;refine mq ?_;refine cd (s:=24) rfl (fun hb=>?_) (fun hb=>?_)
     ·replace h:=cG (Fa hb) h;refine au ?_;exact jz ((),true) h [0,1,2,3]
     ·replace h:=bO (xh hb) h;refine au ?_;refine gb (bg rfl) ?_;refine au ?_;exact jz ((),decide (r8 < y3.2.1)) h [0,1,2,3]
    ·refine cv h (fun h=>?_) (fun h=>?_)
     ·refine ab (au ?_);exact jz ((),(x7,r8,true)) h [0,1,2,3]
     ·refine au ?_;exact jz ((),(y3.1,y3.2.1,y3.2.2.1)) h [0,1,2,3]
   ·refine ab ?_;obtain⟨j,e,h⟩:=aa h;refine jb (aW rfl e) ?_;refine au ?_;exact jz ((),(x5.1,x5.2.1,x5.2.2,j)) h [0,1,2,3]
  ·refine au ?_;exact jz ((),(y3.1,y3.2.1,y3.2.2.1)) h [0,1,2,3]
 ·
  refine au ?_;cases h;exact aO () [_,_,_] 4 ⟨rfl,rfl,rfl,trivial⟩ rfl
def qK(k:Nat)(a0:aQ)(a1:(List (List Int)))(a2:Int)(a3:Int):Option ((List Int)×Int×Int):=
 (cC k a0 a1).bind fun r4=>
 if¬(r4=0) then(some ([],0,r4)) else((((ck ((a0.2.2.length:Int) - 1)).bind fun x7=>
 (eE k a2 0 x7).bind fun r8=>
 if¬(r8=true) then(some true) else((eE k a3 0 a0.1).bind fun r9=>
 some (!r9))):Option (Bool)).bind fun x5=>
 if x5=true then(some ([],0,3)) else((dV k a1).bind fun n=>
 (lU k (a0,()) n a3).bind fun e=>
 (dP k e a2).bind fun l=>
 (l6 k l).bind fun j=>
 (lW k k j).bind fun h=>
 (lX k (a0,()) e a2 a3 h).bind fun c=>
 some (c.1,c.2.1,0)))
theorem wF(k:Nat)(a0:aQ)(a1:(List (List Int)))(a2:Int)(a3:Int)(r:(List Int)×Int×Int)(h:qK k a0 a1 a2 a3=some r):
 dG (jv Tryz.prog) 38 [.rep ao a0,.rep (.slice (.slice (.int .i64))) a1,I a2,I a3] [.inv 0 (eM)] (fun _:Unit=>(bm [Ri r.1,I r.2.1,I r.2.2],[.inv 0 (eM)])):=by
 unfold qK at h
 replace h:=aZ h
 refine dG.of 60 Tryz.func38 rfl Tryz.ntmps38 rfl fun S w0=>?_
 refine sr ?_
 refine bx fun b1=>?_
 refine bx fun b2=>?_
 refine bx fun b3=>?_
 refine cq ?_
 refine cq ?_
 refine cq ?_
 refine nt ?_
 refine ar ?_
 refine sr ?_
 refine fr 2 ?_
 refine lo cU ?_
 refine mq ?_
 obtain⟨r4,UX,h⟩:=aa h
 have UY:=gg k a0 a1 r4 UX
 refine fr 3 ?_
 refine kb (ap [.tmp 18,.tmp 19] rfl rfl Ou rfl UY) ?_
 refine au ?_
 refine jb (g7 rfl) ?_
 refine nt ?_
 refine cn h (fun h=>?_) (fun h=>?_)
 ·
  refine sr (mq ?_);refine cq ?_;refine cq ?_;refine aq (nt (rx ?_));refine bz (ot (t:=(.slice (.int .i64))) (x:=[]) 8 rfl .nil rfl rfl) ?_;cases h;exact aO () [_,_,_] 1 ⟨rfl,rfl,rfl,trivial⟩ rfl
 ·
  refine sk (ar (aM (Z:=Unit) (α:=Bool) (fun z6 x5=>[(1,.rep (.slice (.slice (.int .i64))) a1),(4,Pt b1),(6,Pt b2),(7,Pt b3),(37,.eq (.bool x5))]) (fun z6 x5=>[.obj b1 27 (.rep ao a0),.obj b2 3 (I a2),.obj b3 3 (I a3),.inv 0 (eM)]) h (fun K h=>?_) (fun z6 x5 h=>?_)))
  ·refine ab (fr 3 ?_);refine lo bY ?_;refine fl cI ?_;refine fr 2 ?_;refine lo bC ?_;refine ol dB ?_;obtain⟨x7,UU,h⟩:=aa h;refine jb (fS rfl UU) ?_;obtain⟨r8,UW,h⟩:=aa h;refine jc (ap [.tmp 24,.const (.int .i64 (0)),.tmp 28] rfl rfl AU rfl (eS k a2 0 x7 r8 UW)) ?_;refine ja (eJ rfl) ?_;refine mq ?_;refine cd (s:=31) rfl (fun hb=>?_) (fun hb=>?_)
   ·replace h:=cG (Fa hb) h;refine au ?_;exact jz ((),true) h [0,1,3,2]
   ·replace h:=bO (xh hb) h;refine fr 3 ?_;refine jN rfl rfl rfl rfl rfl rfl (aj rfl bY jF rfl) ⟨rfl,trivial⟩ ?_;refine ga (av rfl f9) ?_;refine fr 1 ?_;refine jN rfl rfl rfl rfl rfl rfl (aj rfl bY jF rfl) ⟨rfl,trivial⟩ ?_;obtain⟨r9,UV,h⟩:=aa h;refine gc (ap [.tmp 32,.const (.int .i64 (0)),.tmp 34] rfl rfl AU rfl (eS k a3 0 a0.1 r9 UV)) ?_;refine ga (eJ rfl) ?_;refine au ?_;exact jz ((), !r9) h [0,2,1,3]
  ·refine cv h (fun h=>?_) (fun h=>?_)
   ·refine sr (cq ?_);refine cq ?_;refine cq (nt (rx ?_));refine bz (ot (t:=(.slice (.int .i64))) (x:=[]) 8 rfl .nil rfl rfl) ?_;refine bz (SE.fin (Γ':=[(8,_),(9,_),(10,_)]) [3,0,1,2] ⟨rfl,rfl,rfl,trivial⟩ rfl) ?_;cases h;exact aO () [_,_,_] 1 ⟨rfl,rfl,rfl,trivial⟩ rfl
   ·refine au ?_;refine lo cU ?_;refine aE rfl rfl rfl (ap [.tmp 38] rfl rfl Lx rfl (iL a0)) ⟨rfl,trivial⟩ fun c=>?_;refine ct (lR (bL k a0) nz) ?_;refine aE rfl rfl rfl (a9 rfl Ss Un) trivial fun j=>?_;refine bf rfl rfl (a8 rfl yf trivial rfl rfl) ⟨rfl,rfl,trivial⟩ ?_;refine au ?_;refine jy ?_;refine di 0 rfl rfl rfl rfl (aj rfl yf jF rfl) ⟨rfl,trivial⟩ ?_;refine aI rfl rfl rfl (aL rfl) ⟨rfl,trivial⟩ ?_;obtain⟨u,U,h⟩:=aa h;refine aI rfl rfl rfl (ap [.tmp 41] rfl rfl FN rfl (fo k a1 u U)) ⟨rfl,trivial⟩ ?_;refine di 4 rfl rfl rfl rfl (aj rfl bY jF rfl) ⟨rfl,trivial⟩ ?_;obtain⟨l,Q,h⟩:=aa h;refine aI rfl rfl rfl (d6 (N:=[(.tmp 40,.at ax (a0,(.map (some c)))),(.tmp 42,.rep (.arr 3 (.arr 5 (.int .i64))) u),(.tmp 43,I a3)]) (ap [.tmp 40,.tmp 42,.tmp 43] rfl rfl T8 rfl (rC k (a0,()) u a3 l Q)) fun _ _ _ hn=>⟨(tY hn.1),hn.2.1,hn.2.2.1,trivial⟩) ⟨rfl,rfl,rfl,trivial⟩ ?_;refine uM (Hf 85 (.rep (.arr 3 (.arr 5 (.int .i64))) [[0,0,0,0,0],[0,0,0,0,0],[0,0,0,0,0]])) (fun _=>rfl) rfl rfl rfl (a9 rfl sT t3) trivial ?_;refine mA 6 [true,true,true,true,true,true] [] [] [] rfl (by kernel_rfl) (by kernel_rfl) (by kernel_rfl) cE (fun vs hv hB=>?_);obtain⟨w0,U7,rfl,se⟩:=an hv;obtain⟨w1,U6,rfl,qt⟩:=an se;obtain⟨w2,U4,rfl,pp⟩:=an qt;obtain⟨w3,U2,rfl,mc⟩:=an pp;obtain⟨w4,U1,rfl,ac⟩:=an mc;obtain⟨w5,U0,rfl,Y⟩:=an ac;obtain rfl:=kg Y;obtain⟨e,rfl⟩:=Cd hB.2.2.2.2.2.1;refine⟨[0,1,2,3,4,5,6],[.obj j 80 (.at ax (a0,(.map (some c)))),.inv c (bL k a0),.obj b1 27 (.rep ao a0),.obj b2 3 (I a2),.obj b3 3 (I a3),.inv 0 (eM),.obj e 85 (.rep (.arr 3 (.arr 5 (.int .i64))) [[0,0,0,0,0],[0,0,0,0,0],[0,0,0,0,0]])],by kernel_rfl,by decide,?_⟩;refine i7 6 rfl ?_;refine ou rfl rfl (a8 rfl ge rfl rfl rfl) ⟨rfl,rfl,trivial⟩ (by kernel_rfl) ?_;refine pL ?_;refine bz (SE.fin (Γ':=[(6,Pt b2),(7,Pt b3),(12,Pt j),(13,Pt e)]) (Δ':=[.obj e 85 (.rep (.arr 3 (.arr 5 (.int .i64))) l),.obj j 80 (.at ax (a0,(.map (some c)))),.inv c (bL k a0),.obj b1 27 (.rep ao a0),.obj b2 3 (I a2),.obj b3 3 (I a3),.inv 0 (eM)]) [0,1,2,3,4,5,6] ⟨rfl,rfl,rfl,rfl,trivial⟩ rfl) ?_;refine au ?_;refine aG rfl (tu [] [.tmp 12,.tmp 13,.tmp 6,.tmp 7] [] [(Pv j),(Pv e),(Pv b2),(Pv b3)] rfl rfl rfl) ⟨rfl,rfl,rfl,rfl,trivial⟩ ?_;refine au ?_;refine lo ge ?_;refine fr 4 ?_;refine lo bY ?_;obtain⟨n,O,h⟩:=aa h;refine jb (ap [.tmp 48,.tmp 49] rfl rfl Lt rfl (gl k l a2 n O)) ?_;refine aE rfl rfl rfl (ap [.tmp 50] rfl rfl TJ rfl (rL n)) ⟨rfl,trivial⟩ fun UZ=>?_;obtain⟨D,M,h⟩:=aa h;refine ka (ap [.tmp 51] rfl rfl TK rfl (rM k n UZ D M)) ?_;obtain⟨y,J,h⟩:=aa h;refine ja (ap [.tmp 52] rfl rfl QM rfl (wC k k D y J)) ?_;refine fr 3 ?_;refine ct (oq (a:=.at ax (a0,(.map (some c)))) (a':=.at bI (a0,())) OM) ?_;obtain⟨X,E,h⟩:=aa h
    refine fr 6 ?_;refine fr 3 ?_;refine fr 4 ?_;refine fr 3 ?_;refine bQ (Δ:=[_,_,_,_]) (F:=_) (fun _ _ _=>aA rfl _) rfl rfl (gi [.tmp 47,.tmp 53] rfl rfl TL rfl (rD k (a0,()) j l e a2 b2 a3 b3 y X E)) ⟨rfl,rfl,trivial⟩ fun _=>?_;refine mq ?_;refine xr ?_;refine xr ?_;refine xr ?_;refine aq ?_;refine aq ?_;refine aq (nt (sr ?_));iterate 2 refine mq ?_
    refine aq ?_;refine aq ?_;refine cq (nt (bH ?_));refine bz (SE.fin (Γ':=[(8,_),(9,_),(10,_)]) [7,0,1,2,3,4,5,6] ⟨rfl,rfl,rfl,trivial⟩ rfl) ?_;cases h;exact aO () [_,_,_] 1 ⟨rfl,rfl,rfl,trivial⟩ rfl
def kH(k:Nat):Option Bool:=
 (lg k ([]:(List Int))).bind fun r1=>
 (xw k).bind fun r2=>
 (yd k r1 r2 1).bind fun r3=>
 (lg k ([]:(List Int))).bind fun r4=>
 (xw k).bind fun r5=>
 (jO k r4 r5).bind fun r6=>
 (lg k ([]:(List Int))).bind fun r7=>
 (uR k r7).bind fun r8=>
 (lg k ([]:(List Int))).bind fun r9=>
 (Im k).bind fun E=>
 (kY k r9 E).bind fun c=>
 (lg k ([]:(List Int))).bind fun D=>
 (xw k).bind fun y=>
 (qK k D y 0 1).bind fun h=>
 (lg k ([]:(List Int))).bind fun x=>
 (xw k).bind fun u=>
 (sZ k x u).bind fun e=>
 ((if r3.2.2=0 then(if r6.2=0 then(if r8.2.2=0 then(if c.2.2.2=0 then(if h.2.2=0 then(if e.2=0 then(if r6.1=3 then(if r8.2.1=0 then(if c.1=0 then(if c.2.1=2 then(if c.2.2.1=1 then(if h.2.1=2 then((dj (MY e.1=true)).bind fun _=>
 if IQ e.1 (⟨#[98,97,100,47,99]⟩:ByteArray)=true then((dQ k r3.1 [0]).bind fun s=>
 if s=true then((f7 k r3.2.1 [[0,1,3],[2]]).bind fun r=>
 if r=true then((f7 k r8.1 [[2,0],[1,3]]).bind fun n=>
 if n=true then((dQ k h.1 [0,1,3]).bind fun l=>
 some l) else(some false)) else(some false)) else(some false)) else(some false)) else(some false)) else(some false)) else(some false)) else(some false)) else(some false)) else(some false)) else(some false)) else(some false)) else(some false)) else(some false)) else(some false)) else(some false)):Option (Bool)).bind fun j=>
 some j
theorem qE(k:Nat)(r:Bool)(h:kH k=some r):
 dG (jv Tryz.prog) 9 [] [.inv 0 (eM)] (fun _:Unit=>(bm [.eq (.bool r)],[.inv 0 (eM)])):=by
 unfold kH at h
 replace h:=aZ h
 refine dG.of 132 Tryz.func9 rfl Tryz.ntmps9 rfl fun S w0=>?_
 refine au ?_
 obtain⟨r1,Vi,h⟩:=aa h
 have Vr:=jT k ([]:(List Int)) r1 Vi
 refine ja (d6 (N:=[(.const (.slice none 0 0),.eq (.slice none 0 0))]) (ap [.const (.slice none 0 0)] rfl rfl FO rfl Vr) fun _ _ _ hn=>⟨(kP (t:=(.slice (.int .i64))) (x:=([]:(List Int))) .nil rfl rfl hn.1),trivial⟩) ?_
 obtain⟨r2,Vh,h⟩:=aa h
 have Vq:=sc k r2 Vh
 refine aG rfl (ap [] rfl rfl Ly rfl Vq) trivial ?_
 obtain⟨r3,Vg,h⟩:=aa h
 have Vp:=BF k r1 r2 1 r3 Vg
 refine kc (ap [.tmp 19,.tmp 20,.const (.int .i64 (1))] rfl rfl Ub rfl Vp) ?_
 refine au ?_
 obtain⟨r4,Vf,h⟩:=aa h
 have Vo:=jT k ([]:(List Int)) r4 Vf
 refine ja (d6 (N:=[(.const (.slice none 0 0),.eq (.slice none 0 0))]) (ap [.const (.slice none 0 0)] rfl rfl FO rfl Vo) fun _ _ _ hn=>⟨(kP (t:=(.slice (.int .i64))) (x:=([]:(List Int))) .nil rfl rfl hn.1),trivial⟩) ?_
 obtain⟨r5,Ve,h⟩:=aa h
 have Vn:=sc k r5 Ve
 refine aG rfl (ap [] rfl rfl Ly rfl Vn) trivial ?_
 obtain⟨r6,Vd,h⟩:=aa h
 have Vm:=rG k r4 r5 r6 Vd
 refine kb (gi [.tmp 26,.tmp 27] rfl rfl Uk rfl Vm) ?_
 refine au ?_
 obtain⟨r7,Vb,h⟩:=aa h
 have Vl:=jT k ([]:(List Int)) r7 Vb
 refine ja (d6 (N:=[(.const (.slice none 0 0),.eq (.slice none 0 0))]) (ap [.const (.slice none 0 0)] rfl rfl FO rfl Vl) fun _ _ _ hn=>⟨(kP (t:=(.slice (.int .i64))) (x:=([]:(List Int))) .nil rfl rfl hn.1),trivial⟩) ?_
 obtain⟨r8,Va,h⟩:=aa h
 have Vk:=zB k r7 r8 Va
 refine ja (gi [.tmp 32] rfl rfl Uf rfl Vk) ?_
 refine au ?_
 obtain⟨r9,U8,h⟩:=aa h
 have Vj:=jT k ([]:(List Int)) r9 U8
 refine ja (d6 (N:=[(.const (.slice none 0 0),.eq (.slice none 0 0))]) (ap [.const (.slice none 0 0)] rfl rfl FO rfl Vj) fun _ _ _ hn=>⟨(kP (t:=(.slice (.int .i64))) (x:=([]:(List Int))) .nil rfl rfl hn.1),trivial⟩) ?_
 obtain⟨E,qt,h⟩:=aa h
 have U0:=Il k E qt
 refine aG rfl (ap [] rfl rfl Ua rfl U0) trivial ?_
 obtain⟨U7,pp,h⟩:=aa h
 have UZ:=ua k r9 E U7 pp
 refine kb (gi [.tmp 38,.tmp 39] rfl rfl QY rfl UZ) ?_
 refine au ?_
 obtain⟨D,mc,h⟩:=aa h
 have UY:=jT k ([]:(List Int)) D mc
 refine ja (d6 (N:=[(.const (.slice none 0 0),.eq (.slice none 0 0))]) (ap [.const (.slice none 0 0)] rfl rfl FO rfl UY) fun _ _ _ hn=>⟨(kP (t:=(.slice (.int .i64))) (x:=([]:(List Int))) .nil rfl rfl hn.1),trivial⟩) ?_
 obtain⟨y,ac,h⟩:=aa h
 have UX:=sc k y ac
 refine aG rfl (ap [] rfl rfl Ly rfl UX) trivial ?_
 obtain⟨u,Y,h⟩:=aa h
 have UW:=wF k D y 0 1 u Y
 refine bU rfl rfl rfl (gi [.tmp 46,.tmp 47,.const (.int .i64 (0)),.const (.int .i64 (1))] rfl rfl T9 rfl UW) ⟨rfl,rfl,rfl,rfl,trivial⟩ ?_
 refine au ?_
 obtain⟨n,X,h⟩:=aa h
 have UV:=jT k ([]:(List Int)) n X
 refine ja (d6 (N:=[(.const (.slice none 0 0),.eq (.slice none 0 0))]) (ap [.const (.slice none 0 0)] rfl rfl FO rfl UV) fun _ _ _ hn=>⟨(kP (t:=(.slice (.int .i64))) (x:=([]:(List Int))) .nil rfl rfl hn.1),trivial⟩) ?_
 obtain⟨l,U,h⟩:=aa h
 have UU:=sc k l U
 refine aG rfl (ap [] rfl rfl Ly rfl UU) trivial ?_
 obtain⟨U6,Q,h⟩:=aa h
 have se:=yc k n l U6 Q
 refine kb (ap [.tmp 53,.tmp 54] rfl rfl Ug rfl se) ?_
 refine mq ?_
 refine xr ?_
 refine xr ?_
 refine aq ?_
 refine aq ?_
 refine nt ?_
 refine aM (Z:=Unit) (α:=Bool) (fun e c=>[(0,.eq (.bool c))]) (fun e c=>[.inv 0 (eM)]) h (fun K h=>?_) (fun e c h=>?_)
 ·
  refine ab (mq ?_);refine jb (fq rfl) ?_;refine mq ?_;refine cd (s:=60) rfl (fun hb=>?_) (fun hb=>?_)
  ·replace h:=cG (oK hb) h;refine gm ?_;refine gb (fq rfl) ?_;refine pt ?_;refine mq ?_;refine cd (s:=64) rfl (fun hb=>?_) (fun hb=>?_)
   ·replace h:=cG (oK hb) h;refine gm ?_;refine gb (fq rfl) ?_;refine pt ?_;refine mq ?_;refine cd (s:=68) rfl (fun hb=>?_) (fun hb=>?_)
    ·replace h:=cG (oK hb) h;refine gm ?_;refine gb (fq rfl) ?_;refine pt ?_;refine mq ?_;refine cd (s:=72) rfl (fun hb=>?_) (fun hb=>?_)
     ·replace h:=cG (oK hb) h;refine gm ?_;refine gb (fq rfl) ?_;refine pt ?_;refine mq ?_;refine cd (s:=76) rfl (fun hb=>?_) (fun hb=>?_)
      ·replace h:=cG (oK hb) h;refine gm ?_;refine gb (fq rfl) ?_;refine pt ?_;refine mq ?_;refine cd (s:=80) rfl (fun hb=>?_) (fun hb=>?_)
       ·replace h:=cG (oK hb) h;refine gm ?_;refine gb (fq rfl) ?_;refine pt ?_;refine mq ?_;refine cd (s:=84) rfl (fun hb=>?_) (fun hb=>?_)
        ·replace h:=cG (oK hb) h;refine gm ?_;refine gb (fq rfl) ?_;refine pt ?_;refine mq ?_;refine cd (s:=88) rfl (fun hb=>?_) (fun hb=>?_)
         ·replace h:=cG (oK hb) h;refine gm ?_;refine gb (fq rfl) ?_;refine pt ?_;refine mq ?_;refine cd (s:=92) rfl (fun hb=>?_) (fun hb=>?_)
          ·replace h:=cG (oK hb) h;refine gm ?_;refine gb (fq rfl) ?_;refine pt ?_;refine mq ?_;refine cd (s:=96) rfl (fun hb=>?_) (fun hb=>?_)
           ·replace h:=cG (oK hb) h;refine gm ?_;refine gb (fq rfl) ?_;refine pt ?_;refine mq ?_;refine cd (s:=100) rfl (fun hb=>?_) (fun hb=>?_)
            ·replace h:=cG (oK hb) h;refine gm ?_;refine gb (fq rfl) ?_;refine pt ?_;refine mq ?_;refine cd (s:=104) rfl (fun hb=>?_) (fun hb=>?_)
             ·replace h:=cG (oK hb) h;refine gm ?_;obtain⟨Vs,F,h⟩:=aa h;refine gb (HF rfl (aB F)) ?_;refine pt ?_;refine mq ?_;refine cd (s:=108) rfl (fun hb=>?_) (fun hb=>?_)
              ·replace h:=cG (EH hb) h;refine gm ?_;refine ga (be (t:=(.int .i64)) [(.const (.int .i64 (0)),_)] [0] rfl rfl dp (.cons rfl .int .nil) rfl rfl) ?_;obtain⟨U4,O,h⟩:=aa h;refine gb (ap [.tmp 109,.tmp 110] rfl rfl IW rfl (io k r3.1 [0] U4 O)) ?_;refine pt ?_;refine mq ?_;refine cd (s:=113) rfl (fun hb=>?_) (fun hb=>?_)
               ·replace h:=cG (EH hb) h;refine gm ?_;refine gc (be (t:=(.int .i64)) [(.const (.int .i64 (0)),_),(.const (.int .i64 (1)),_),(.const (.int .i64 (3)),_)] [0,1,3] rfl rfl dp (.cons rfl .int (.cons rfl .int (.cons rfl .int .nil))) rfl rfl) ?_;refine ga (be (t:=(.int .i64)) [(.const (.int .i64 (2)),_)] [2] rfl rfl dp (.cons rfl .int .nil) rfl rfl) ?_;refine gb (be (t:=(.slice (.int .i64))) [(.tmp 115,_),(.tmp 116,_)] [[0,1,3],[2]] rfl rfl nW (.cons rfl .rep (.cons rfl .rep .nil)) rfl rfl) ?_;obtain⟨U2,M,h⟩:=aa h;refine gb (ap [.tmp 114,.tmp 117] rfl rfl Ov rfl (kK k r3.2.1 [[0,1,3],[2]] U2 M)) ?_;refine pt ?_;refine mq ?_;refine cd (s:=120) rfl (fun hb=>?_) (fun hb=>?_)
                ·replace h:=cG (EH hb) h;refine gm ?_;refine gb (be (t:=(.int .i64)) [(.const (.int .i64 (2)),_),(.const (.int .i64 (0)),_)] [2,0] rfl rfl dp (.cons rfl .int (.cons rfl .int .nil)) rfl rfl) ?_;refine gb (be (t:=(.int .i64)) [(.const (.int .i64 (1)),_),(.const (.int .i64 (3)),_)] [1,3] rfl rfl dp (.cons rfl .int (.cons rfl .int .nil)) rfl rfl) ?_;refine gb (be (t:=(.slice (.int .i64))) [(.tmp 122,_),(.tmp 123,_)] [[2,0],[1,3]] rfl rfl nW (.cons rfl .rep (.cons rfl .rep .nil)) rfl rfl) ?_;obtain⟨U1,J,h⟩:=aa h;refine gb (ap [.tmp 121,.tmp 124] rfl rfl Ov rfl (kK k r8.1 [[2,0],[1,3]] U1 J)) ?_;refine pt ?_;refine mq ?_;refine cd (s:=127) rfl (fun hb=>?_) (fun hb=>?_)
                 ·replace h:=cG (EH hb) h;refine gm ?_;refine gc (be (t:=(.int .i64)) [(.const (.int .i64 (0)),_),(.const (.int .i64 (1)),_),(.const (.int .i64 (3)),_)] [0,1,3] rfl rfl dp (.cons rfl .int (.cons rfl .int (.cons rfl .int .nil))) rfl rfl) ?_;obtain⟨j,I,h⟩:=aa h;refine gb (ap [.tmp 128,.tmp 129] rfl rfl IW rfl (io k u.1 [0,1,3] j I)) ?_;refine au ?_;exact jz ((),j) h [0]
                 ·replace h:=bO (EI hb) h;refine au ?_;exact jz ((),false) h [0]
                ·replace h:=bO (EI hb) h;refine au ?_;exact jz ((),false) h [0]
               ·replace h:=bO (EI hb) h;refine au ?_;exact jz ((),false) h [0]
              ·replace h:=bO (EI hb) h;refine au ?_;exact jz ((),false) h [0]
             ·replace h:=bO (nL hb) h;refine au ?_;exact jz ((),false) h [0]
            ·replace h:=bO (nL hb) h;refine au ?_;exact jz ((),false) h [0]
           ·replace h:=bO (nL hb) h;refine au ?_;exact jz ((),false) h [0]
          ·replace h:=bO (nL hb) h;refine au ?_;exact jz ((),false) h [0]
         ·replace h:=bO (nL hb) h;refine au ?_;exact jz ((),false) h [0]
        ·replace h:=bO (nL hb) h;refine au ?_;exact jz ((),false) h [0]
       ·replace h:=bO (nL hb) h;refine au ?_;exact jz ((),false) h [0]
      ·replace h:=bO (nL hb) h;refine au ?_;exact jz ((),false) h [0]
     ·replace h:=bO (nL hb) h;refine au ?_;exact jz ((),false) h [0]
    ·replace h:=bO (nL hb) h;refine au ?_;exact jz ((),false) h [0]
   ·replace h:=bO (nL hb) h;refine au ?_;exact jz ((),false) h [0]
  ·replace h:=bO (nL hb) h;refine au ?_;exact jz ((),false) h [0]
 ·
  refine bH ?_;cases h;exact aO () [_] 1 ⟨rfl,trivial⟩ rfl
def lh(k:Nat)(a0:aQ)(a1:eC)(a2:(List (List Int)))(a3:bT):Option ((List aQ)×(List (List (List Int)))×bT):=
 (kJ k (a3.1,a3.2.1,a3.2.2) 4 3).bind fun r3=>
 (jd k r3.1).bind fun r5=>
 (dS k a1.2).bind fun r8=>
 (dj (bq (List.length r5.2.1+List.length [(a1.1,r8)]))).bind fun _=>
 (eZ k (r3.2.1,r3.2.2.1,r3.2.2.2) r3.1).bind fun e=>
 (eZ k (e.2.1,e.2.2.1,e.2.2.2) r3.1).bind fun c=>
 (((ck ((r3.1.2.2.length:Int) - 1)).bind fun h=>
 if(r5.2.2.length:Int) < 3 then((aR r5.2.2 h).bind fun u=>
 (ck (u+3)).bind fun s=>
 (aR r5.2.2 h).bind fun y=>
 (aR [a2,e.1,a2,c.1] 3).bind fun r=>
 (fe k r).bind fun n=>
 (aR [a2,e.1,a2,c.1] 3).bind fun x=>
 (aR n h).bind fun j=>
 (dj (bq (List.length j+List.length [(r3.1.2.1.length:Int)]))).bind fun _=>
 some (List.set r5.2.2 (Int.toNat h) (kl 9 s),List.set [a2,e.1,a2,c.1] (Int.toNat 3) (List.set n (Int.toNat h) (j++[(r3.1.2.1.length:Int)])))) else(some (r5.2.2,[a2,e.1,a2,c.1]))):Option ((List Int)×(List (List (List Int))))).bind fun l=>
 some ([a0,r3.1,r3.1,(r5.1,r5.2.1++[(a1.1,r8)],l.1)],l.2,(c.2.1,c.2.2.1,c.2.2.2))
theorem vK(k:Nat)(a0:aQ)(a1:eC)(a2:(List (List Int)))(a3:bT)(e:Nat)(r:(List aQ)×(List (List (List Int)))×bT)(h:lh k a0 a1 a2 a3=some r):
 bV Tryz.prog 16 [.rep ao a0,.rep aH a1,.rep (.slice (.slice (.int .i64))) a2,Pt e] [.obj e 66 (.agg (.pair (Ri a3.1) (.pair (I a3.2.1) (.eq (.int .u64 a3.2.2)))))] (fun _:Unit=>(bm [Rs ao r.1,.rep (.slice (.slice (.slice (.int .i64)))) r.2.1],[.obj e 66 (.agg (.pair (Ri r.2.2.1) (.pair (I r.2.2.2.1) (.eq (.int .u64 r.2.2.2.2)))))])):=by
 unfold lh at h
 replace h:=aZ h
 refine bV.of 85 Tryz.func16 rfl Tryz.ntmps16 rfl fun S w0=>?_
 refine sr ?_
 refine bx fun b1=>?_
 refine bx fun b2=>?_
 refine cq ?_
 refine cq ?_
 refine nt ?_
 refine sr ?_
 refine mq ?_
 obtain⟨r3,Vs,h⟩:=aa h
 have Vv:=wQ k (a3.1,a3.2.1,a3.2.2) e 4 3 r3 Vs
 refine fr 2 ?_
 refine kc (ap [.tmp 14,.const (.int .i64 (4)),.const (.int .i64 (3))] rfl rfl Uc rfl Vv) ?_
 refine aE rfl rfl rfl (a9 rfl kC mG) trivial fun b4=>?_
 refine bf rfl rfl (a8 rfl cU rfl rfl rfl) ⟨rfl,rfl,trivial⟩ ?_
 refine au ?_
 refine lo cU ?_
 obtain⟨r5,Vr,h⟩:=aa h
 have Vu:=uw k r3.1 r5 Vr
 refine bQ (Δ:=[]) (F:=_) (fun _ _ _=>aA rfl _) rfl rfl (ap [.tmp 16] rfl rfl Rj rfl Vu) ⟨rfl,trivial⟩ fun z6=>?_
 refine aE rfl rfl rfl (a9 rfl kC mG) trivial fun b7=>?_
 refine bf rfl rfl (a8 rfl cU trivial rfl rfl) ⟨rfl,rfl,trivial⟩ ?_
 refine au ?_
 refine bR ?_
 refine da (av rfl bN) ?_
 refine ea 0 (aj rfl eI jF rfl) ?_
 refine da (av rfl kN) ?_
 refine ea 5 (aj rfl bY jF rfl) ?_
 refine da (av rfl km) ?_
 refine ea 5 (aj rfl bC jF rfl) ?_
 obtain⟨r8,Vq,h⟩:=aa h
 have Vt:=cm k a1.2 r8 Vq
 refine da (sM (ap [.tmp 23] rfl rfl uA rfl Vt)) ?_
 refine db (cH [(0,.tmp 21,_),(1,.tmp 24,_)] rfl zV ul ui (il ⟨rfl,rfl,trivial⟩) rfl) ?_
 refine da (be (t:=aH) [(.tmp 25,_)] [(a1.1,r8)] rfl rfl yj (.cons trivial (.agg (.pair .int .rep)) .nil) rfl rfl) ?_
 refine df cE ?_
 obtain⟨u9,Vp,h⟩:=aa h
 refine fr 1 ?_
 refine cz rfl rfl rfl (bp rfl rfl yj (aB Vp)) ⟨rfl,rfl,trivial⟩ fun j=>?_
 refine fl bN ?_
 refine ov fun o11=>?_
 refine fr 1 ?_
 refine bf rfl rfl (a8 rfl eI o11 rfl rfl) ⟨rfl,rfl,trivial⟩ ?_
 refine au ?_
 refine Gk [0,2,4,5,6,1,3,7,8,9] (by kernel_rfl) ?_
 refine aI rfl rfl rfl (aL rfl) ⟨rfl,trivial⟩ ?_
 refine di 3 rfl rfl rfl rfl (aj rfl cU (wy) rfl) ⟨rfl,trivial⟩ ?_
 refine aI rfl rfl rfl (aL rfl) ⟨rfl,trivial⟩ ?_
 refine aI rfl rfl rfl (aL rfl) ⟨rfl,trivial⟩ ?_
 refine di 3 rfl rfl rfl rfl (aj rfl cU (wy) rfl) ⟨rfl,trivial⟩ ?_
 refine aI rfl rfl rfl (aL rfl) ⟨rfl,trivial⟩ ?_
 refine mA 6 [false,true,false,false,false,true] [32,36] [3] [.obj b4 27 (.rep ao r3.1)] rfl (by kernel_rfl) (by kernel_rfl) (by kernel_rfl) cE (fun vs hv hB=>?_)
 obtain⟨w0,Vl,rfl,UV⟩:=an hv
 obtain⟨w1,Vk,rfl,UU⟩:=an UV
 obtain⟨w2,Vj,rfl,se⟩:=an UU
 obtain⟨w3,Vi,rfl,qt⟩:=an se
 obtain⟨w4,Vh,rfl,pp⟩:=an qt
 obtain⟨w5,Vg,rfl,mc⟩:=an pp
 obtain rfl:=kg mc
 refine⟨[3,0,1,2,4,5,6],[.obj b7 27 (.agg (.pair (I r5.1) (.pair (.eq j) (.eq z6.2)))),.sl j 35 aH (r5.2.1++[(a1.1,r8)]),.sl z6.2 3 (.int .i64) r5.2.2,.obj e 66 (.agg (.pair (Ri r3.2.1) (.pair (I r3.2.2.1) (.eq (.int .u64 r3.2.2.2))))),.obj b2 35 (.rep aH a1),.obj b1 27 (.rep ao a0)],by kernel_rfl,by decide,?_⟩
 obtain⟨x,Vb,h⟩:=aa h
 have Ve:=nB k (r3.2.1,r3.2.2.1,r3.2.2.2) e r3.1 x Vb
 refine i7 3 rfl ?_
 refine wo rfl rfl rfl rfl (ap [.tmp 30,.tmp 31] rfl rfl QX rfl Ve) ⟨rfl,rfl,trivial⟩ (by kernel_rfl) ?_
 obtain⟨c,Va,h⟩:=aa h
 have Vd:=nB k (x.2.1,x.2.2.1,x.2.2.2) e r3.1 c Va
 refine wo rfl rfl rfl rfl (ap [.tmp 34,.tmp 35] rfl rfl QX rfl Vd) ⟨rfl,rfl,trivial⟩ (by kernel_rfl) ?_
 refine Dp (by kernel_rfl) ?_
 refine aE rfl rfl rfl (mh (t:=(.slice (.slice (.int .i64)))) [(.tmp 29,_),(.tmp 32,_),(.tmp 33,_),(.tmp 36,_)] [a2,x.1,a2,c.1] rfl rfl SD (.cons rfl .rep (.cons rfl .rep (.cons rfl .rep (.cons rfl .rep .nil)))) rfl rfl) ⟨rfl,rfl,rfl,rfl,trivial⟩ fun y=>?_
 refine aq ?_
 refine nt ?_
 refine aM (Z:=Unit) (α:=(List Int)×(List (List (List Int)))) (fun UW U=>[(4,Pt b1),(10,Pt b4),(11,Pt b7),(12,.eq y)]) (fun UW U=>[.obj b1 27 (.rep ao a0),.obj b4 27 (.rep ao r3.1),.obj b7 27 (.agg (.pair (I r5.1) (.pair (.eq j) (.eq z6.2)))),.sl j 35 aH (r5.2.1++[(a1.1,r8)]),.sl z6.2 3 (.int .i64) U.1,.sl y 28 (.slice (.slice (.int .i64))) U.2,.obj e 66 (.agg (.pair (Ri c.2.1) (.pair (I c.2.2.1) (.eq (.int .u64 c.2.2.2)))))]) h (fun K h=>?_) (fun UW U h=>?_)
 ·
  refine sr (fl cI ?_);refine fr 1 ?_;refine lo bC ?_;refine ol dB ?_;obtain⟨s,U6,h⟩:=aa h;refine jb (fS rfl U6) ?_;refine au ?_;refine fl cI ?_;refine fr 3 ?_;refine lo bC ?_;refine fr 5 ?_;refine ka (cZ rfl rfl dB) ?_;refine jb (bg rfl) ?_;refine nt (ci h (fun h=>?_) (fun h=>?_))
  ·refine ar (bR ?_);refine da (av rfl cI) ?_;refine ea 1 (aj rfl bC jF rfl) ?_;refine dm ?_;refine da (av rfl cI) ?_;refine ea 1 (aj rfl bC jF rfl) ?_;refine dm ?_;obtain⟨VE,ac,h⟩:=aa h;refine eb 0 (aV (t:=(.int .i64)) rfl dB bY ac) ?_;refine ea 0 (dM (i:=Int.toNat s) (off:=0) rfl bY (fun _=>rfl) rfl (co ac).2.2 rfl) ?_;obtain⟨D,U4,h⟩:=aa h;refine db (aW rfl U4) ?_;refine db (DT rfl rfl) ?_;refine df cE ?_;obtain⟨VD,Y,h⟩:=aa h;refine kb (aV (t:=(.int .i64)) rfl dB bY Y) ?_;refine bf rfl rfl (cP (i:=Int.toNat s) rfl bY rfl (ig Y) rfl .int rfl) ⟨rfl,rfl,trivial⟩ ?_;refine nt (sr ?_);iterate 2 refine mq ?_
   obtain⟨Vf,X,h⟩:=aa h;refine fr 3 ?_;refine kb (aV (t:=(.slice (.slice (.int .i64)))) rfl OO rI X) ?_;refine ka (dM (i:=Int.toNat 3) (off:=0) rfl rI (fun _=>rfl) rfl (co X).2.2 rfl) ?_;obtain⟨E,U8,h⟩:=aa h;refine bQ (Δ:=[]) (F:=[.sl y 28 (.slice (.slice (.int .i64))) [a2,x.1,a2,c.1],.sl z6.2 3 (.int .i64) (List.set r5.2.2 (Int.toNat s) (kl 9 D)),.obj b7 27 (.agg (.pair (I r5.1) (.pair (.eq j) (.eq z6.2)))),.obj b4 27 (.rep ao r3.1),.obj e 66 (.agg (.pair (Ri c.2.1) (.pair (I c.2.2.1) (.eq (.int .u64 c.2.2.2))))),.sl j 35 aH (r5.2.1++[(a1.1,r8)]),.obj b2 35 (.rep aH a1),.obj b1 27 (.rep ao a0)]) (fun _ _ _=>aA rfl _) rfl rfl (ap [.tmp 60] rfl rfl QZ rfl (si k Vf E U8)) ⟨rfl,trivial⟩ fun n=>?_;refine ct (fD List.perm_append_comm) ?_;obtain⟨VC,M,h⟩:=aa h;refine kb (aV (t:=(.slice (.slice (.int .i64)))) rfl OO rI M) ?_;refine Jw (pre:=[.sl y 28 (.slice (.slice (.int .i64))) [a2,x.1,a2,c.1],.sl z6.2 3 (.int .i64) (List.set r5.2.2 (Int.toNat s) (kl 9 D)),.obj b7 27 (.agg (.pair (I r5.1) (.pair (.eq j) (.eq z6.2)))),.obj b4 27 (.rep ao r3.1),.obj e 66 (.agg (.pair (Ri c.2.1) (.pair (I c.2.2.1) (.eq (.int .u64 c.2.2.2))))),.sl j 35 aH (r5.2.1++[(a1.1,r8)]),.obj b2 35 (.rep aH a1),.obj b1 27 (.rep ao a0)]) fun oz25=>?_;refine ct F5 ?_;refine bf rfl rfl (cP (i:=Int.toNat 3) rfl rI rfl (by rw [List.length_map];exact ig M) rfl (.altR oz25) oz25) ⟨rfl,rfl,trivial⟩ ?_;refine nt ?_;obtain⟨Q,J,h⟩:=aa h;refine dA (t4 (pre:=[.sl y 28 (.alt (.slice (.slice (.int .i64)))) (List.set (List.map Sum.inl [a2,x.1,a2,c.1]) (Int.toNat 3) (.inr n.1)),.sl z6.2 3 (.int .i64) (List.set r5.2.2 (Int.toNat s) (kl 9 D)),.obj b7 27 (.agg (.pair (I r5.1) (.pair (.eq j) (.eq z6.2)))),.obj b4 27 (.rep ao r3.1),.obj e 66 (.agg (.pair (Ri c.2.1) (.pair (I c.2.2.1) (.eq (.int .u64 c.2.2.2))))),.sl j 35 aH (r5.2.1++[(a1.1,r8)]),.obj b2 35 (.rep aH a1),.obj b1 27 (.rep ao a0)]) (qe J).2) ?_;obtain⟨VM,U7,h⟩:=aa h;refine sO (Δ:=[.sl (n.2 (Int.toNat s)) 3 (.int .i64) Q,.sl n.1 22 .val (ek n.2 0 E),.sl y 28 (.alt (.slice (.slice (.int .i64)))) (List.set (List.map Sum.inl [a2,x.1,a2,c.1]) (Int.toNat 3) (.inr n.1)),.sl z6.2 3 (.int .i64) (List.set r5.2.2 (Int.toNat s) (kl 9 D)),.obj b7 27 (.agg (.pair (I r5.1) (.pair (.eq j) (.eq z6.2)))),.obj b4 27 (.rep ao r3.1),.obj e 66 (.agg (.pair (Ri c.2.1) (.pair (I c.2.2.1) (.eq (.int .u64 c.2.2.2))))),.sl j 35 aH (r5.2.1++[(a1.1,r8)]),.obj b2 35 (.rep aH a1),.obj b1 27 (.rep ao a0)]) (F:=(kV n.2 0 E).eraseIdx (Int.toNat s)) (Z:=Value) (fun i=>[(4,Pt b1),(10,Pt b4),(11,Pt b7),(12,.eq y)]) (fun i=>[.sl n.1 22 .val (List.set (ek n.2 0 E) (Int.toNat s) i),.sl i 3 (.int .i64) (Q++[(r3.1.2.1.length:Int)]),.sl y 28 (.alt (.slice (.slice (.int .i64)))) (List.set (List.map Sum.inl [a2,x.1,a2,c.1]) (Int.toNat 3) (.inr n.1)),.sl z6.2 3 (.int .i64) (List.set r5.2.2 (Int.toNat s) (kl 9 D)),.obj b7 27 (.agg (.pair (I r5.1) (.pair (.eq j) (.eq z6.2)))),.obj b4 27 (.rep ao r3.1),.obj e 66 (.agg (.pair (Ri c.2.1) (.pair (I c.2.2.1) (.eq (.int .u64 c.2.2.2))))),.sl j 35 aH (r5.2.1++[(a1.1,r8)]),.obj b2 35 (.rep aH a1),.obj b1 27 (.rep ao a0)]) (fun S w=>?_) (fun O=>?_)
   ·refine jy ?_;refine aI rfl rfl rfl (aL rfl) ⟨rfl,trivial⟩ ?_;refine di 2 rfl rfl rfl rfl (aV (t:=.alt (.slice (.slice (.int .i64)))) rfl OO rI (sq M _)) ⟨rfl,rfl,trivial⟩ ?_;refine di 2 rfl rfl rfl rfl (vB (i:=Int.toNat 3) rfl rI rfl (co (sq M _)).2.2) ⟨rfl,trivial⟩ ?_;refine aI rfl rfl rfl (aL rfl) ⟨rfl,trivial⟩ ?_;refine aI rfl rfl rfl (aL rfl) ⟨rfl,trivial⟩ ?_;refine di 2 rfl rfl rfl rfl (aV (t:=.alt (.slice (.slice (.int .i64)))) rfl OO rI (sq M _)) ⟨rfl,rfl,trivial⟩ ?_;refine di 2 rfl rfl rfl rfl (vB (i:=Int.toNat 3) rfl rI rfl (co (sq M _)).2.2) ⟨rfl,trivial⟩ ?_;refine aI rfl rfl rfl (aL rfl) ⟨rfl,trivial⟩ ?_;refine di 1 rfl rfl rfl rfl (aV (t:=.val) rfl lJ bC (kS J)) ⟨rfl,rfl,trivial⟩ ?_;refine di 1 rfl rfl rfl rfl (dM (i:=Int.toNat s) (off:=0) rfl bC (fun _=>rfl) rfl (co (kS J)).2.2 rfl) ⟨rfl,trivial⟩ ?_;refine aI rfl rfl rfl (av rfl bN) ⟨rfl,trivial⟩ ?_;refine di 5 rfl rfl rfl rfl (aj rfl eI jF rfl) ⟨rfl,trivial⟩ ?_;refine aI rfl rfl rfl (jQ rfl rfl mC) ⟨rfl,trivial⟩ ?_;refine aI rfl rfl rfl (be (t:=(.int .i64)) [(.tmp 75,_)] [(r3.1.2.1.length:Int)] rfl rfl dp (.cons rfl .int .nil) rfl rfl) ⟨rfl,trivial⟩ ?_;refine sP 0 rfl (fun v=>[.sl v 3 (.int .i64) (Q++[(r3.1.2.1.length:Int)])]) (fun _=>rfl) rfl rfl rfl (bp rfl rfl dp (aB U7)) ⟨rfl,rfl,trivial⟩ ?_;refine mA 15 [true,true,true,true,true,true,true,true,true,true,true,true,true,true,true] [78] [] [] rfl (by kernel_rfl) (by kernel_rfl) (by kernel_rfl) cE (fun vs hv hB=>?_);obtain⟨w0,Vl,rfl,UV⟩:=an hv;obtain⟨w1,Vk,rfl,UU⟩:=an UV;obtain⟨w2,Vj,rfl,se⟩:=an UU;obtain⟨w3,Vi,rfl,qt⟩:=an se;obtain⟨w4,Vh,rfl,pp⟩:=an qt;obtain⟨w5,Vg,rfl,mc⟩:=an pp;obtain⟨w6,VL,rfl,Vo⟩:=an mc;obtain⟨w7,VK,rfl,Vn⟩:=an Vo;obtain⟨w8,VJ,rfl,Vm⟩:=an Vn;obtain⟨w9,VB,rfl,U2⟩:=an Vm;obtain⟨VI,VA,rfl,U1⟩:=an U2;obtain⟨VH,Vz,rfl,U0⟩:=an U1;obtain⟨VG,Vy,rfl,UZ⟩:=an U0;obtain⟨VF,Vx,rfl,UY⟩:=an UZ;obtain⟨O,Vw,rfl,UX⟩:=an UY;obtain rfl:=kg UX;refine⟨[0,1,2,3,4,5,6,7,8,9],[.sl n.1 22 .val (ek n.2 0 E),.sl y 28 (.alt (.slice (.slice (.int .i64)))) (List.set (List.map Sum.inl [a2,x.1,a2,c.1]) (Int.toNat 3) (.inr n.1)),.sl z6.2 3 (.int .i64) (List.set r5.2.2 (Int.toNat s) (kl 9 D)),.obj b7 27 (.agg (.pair (I r5.1) (.pair (.eq j) (.eq z6.2)))),.obj b4 27 (.rep ao r3.1),.obj e 66 (.agg (.pair (Ri c.2.1) (.pair (I c.2.2.1) (.eq (.int .u64 c.2.2.2))))),.sl j 35 aH (r5.2.1++[(a1.1,r8)]),.obj b2 35 (.rep aH a1),.obj b1 27 (.rep ao a0),.sl O 3 (.int .i64) (Q++[(r3.1.2.1.length:Int)])],by kernel_rfl,by decide,?_⟩;refine wo rfl rfl rfl rfl (aV (t:=.val) rfl lJ bC (kS J)) ⟨rfl,rfl,trivial⟩ (by kernel_rfl) ?_;refine i7 9 rfl ?_;refine Do fun o29=>?_;refine i7 1 rfl ?_;refine ou rfl rfl (cP (i:=Int.toNat s) rfl bC rfl (ig (kS J)) rfl (.val o29) o29) ⟨rfl,rfl,trivial⟩ (by kernel_rfl) ?_;refine pL ?_;refine bz (SE.fin (Γ':=[(4,Pt b1),(10,Pt b4),(11,Pt b7),(12,.eq y)]) (Δ':=[.sl n.1 22 .val (List.set (ek n.2 0 E) (Int.toNat s) O),.sl O 3 (.int .i64) (Q++[(r3.1.2.1.length:Int)]),.sl y 28 (.alt (.slice (.slice (.int .i64)))) (List.set (List.map Sum.inl [a2,x.1,a2,c.1]) (Int.toNat 3) (.inr n.1)),.sl z6.2 3 (.int .i64) (List.set r5.2.2 (Int.toNat s) (kl 9 D)),.obj b7 27 (.agg (.pair (I r5.1) (.pair (.eq j) (.eq z6.2)))),.obj b4 27 (.rep ao r3.1),.obj e 66 (.agg (.pair (Ri c.2.1) (.pair (I c.2.2.1) (.eq (.int .u64 c.2.2.2))))),.sl j 35 aH (r5.2.1++[(a1.1,r8)]),.obj b2 35 (.rep aH a1),.obj b1 27 (.rep ao a0)]) [0,1,2,3,4,5,6,7,8,9] ⟨rfl,rfl,rfl,rfl,trivial⟩ rfl) ?_
    exact fun a w st=>⟨rfl,(O),(SE.fin (Γ':=[(4,Pt b1),(10,Pt b4),(11,Pt b7),(12,.eq y)]) (Δ':=[.sl n.1 22 .val (List.set (ek n.2 0 E) (Int.toNat s) O),.sl O 3 (.int .i64) (Q++[(r3.1.2.1.length:Int)]),.sl y 28 (.alt (.slice (.slice (.int .i64)))) (List.set (List.map Sum.inl [a2,x.1,a2,c.1]) (Int.toNat 3) (.inr n.1)),.sl z6.2 3 (.int .i64) (List.set r5.2.2 (Int.toNat s) (kl 9 D)),.obj b7 27 (.agg (.pair (I r5.1) (.pair (.eq j) (.eq z6.2)))),.obj b4 27 (.rep ao r3.1),.obj e 66 (.agg (.pair (Ri c.2.1) (.pair (I c.2.2.1) (.eq (.int .u64 c.2.2.2))))),.sl j 35 aH (r5.2.1++[(a1.1,r8)]),.obj b2 35 (.rep aH a1),.obj b1 27 (.rep ao a0)]) [0,1,2,3,4,5,6,7,8,9] ⟨rfl,rfl,rfl,rfl,trivial⟩ rfl) a w st⟩
   ·show JN _ _ [(4,Pt b1),(10,Pt b4),(11,Pt b7),(12,.eq y)] ([.sl n.1 22 .val (List.set (ek n.2 0 E) (Int.toNat s) O),.sl O 3 (.int .i64) (Q++[(r3.1.2.1.length:Int)]),.sl y 28 (.alt (.slice (.slice (.int .i64)))) (List.set (List.map Sum.inl [a2,x.1,a2,c.1]) (Int.toNat 3) (.inr n.1)),.sl z6.2 3 (.int .i64) (List.set r5.2.2 (Int.toNat s) (kl 9 D)),.obj b7 27 (.agg (.pair (I r5.1) (.pair (.eq j) (.eq z6.2)))),.obj b4 27 (.rep ao r3.1),.obj e 66 (.agg (.pair (Ri c.2.1) (.pair (I c.2.2.1) (.eq (.int .u64 c.2.2.2))))),.sl j 35 aH (r5.2.1++[(a1.1,r8)]),.obj b2 35 (.rep aH a1),.obj b1 27 (.rep ao a0)]++(kV n.2 0 E).eraseIdx (Int.toNat s));refine dh 1 rfl ?_;refine bz (wj (pre:=[.sl y 28 (.alt (.slice (.slice (.int .i64)))) (List.set (List.map Sum.inl [a2,x.1,a2,c.1]) (Int.toNat 3) (.inr n.1)),.sl z6.2 3 (.int .i64) (List.set r5.2.2 (Int.toNat s) (kl 9 D)),.obj b7 27 (.agg (.pair (I r5.1) (.pair (.eq j) (.eq z6.2)))),.obj b4 27 (.rep ao r3.1),.obj e 66 (.agg (.pair (Ri c.2.1) (.pair (I c.2.2.1) (.eq (.int .u64 c.2.2.2))))),.sl j 35 aH (r5.2.1++[(a1.1,r8)]),.obj b2 35 (.rep aH a1),.obj b1 27 (.rep ao a0)]) (z:=n) (i:=Int.toNat s) (qe J).2) ?_;refine ag (bz (Be (pre:=[.sl y 28 (.alt (.slice (.slice (.int .i64)))) (List.set (List.map Sum.inl [a2,x.1,a2,c.1]) (Int.toNat 3) (.inr n.1)),.sl z6.2 3 (.int .i64) (List.set r5.2.2 (Int.toNat s) (kl 9 D)),.obj b7 27 (.agg (.pair (I r5.1) (.pair (.eq j) (.eq z6.2)))),.obj b4 27 (.rep ao r3.1),.obj e 66 (.agg (.pair (Ri c.2.1) (.pair (I c.2.2.1) (.eq (.int .u64 c.2.2.2))))),.sl j 35 aH (r5.2.1++[(a1.1,r8)]),.obj b2 35 (.rep aH a1),.obj b1 27 (.rep ao a0)])) ?_);refine bz (F6 (u:=.slice (.int .i64)) (l:=[a2,x.1,a2,c.1]) (i:=Int.toNat 3)) ?_;exact jz ((),(List.set r5.2.2 (Int.toNat s) (kl 9 D),List.set [a2,x.1,a2,c.1] (Int.toNat 3) (List.set E (Int.toNat s) (Q++[(r3.1.2.1.length:Int)])))) h [7,3,2,5,1,0,4]
  ·refine au ?_;exact jz ((),(r5.2.2,[a2,x.1,a2,c.1])) h [7,2,1,5,0,3,4]
 ·
  refine sr (lo cU ?_);refine fr 1 ?_;refine lo cU ?_;refine lo cU ?_;refine fr 2 ?_;refine fr 3 ?_;refine ct (kQ (off:=1) [] trivial rfl rfl) ?_;refine fr 3 ?_;refine ct (kQ (off:=2) [] trivial rfl rfl) ?_;refine lo cU ?_;refine aG rfl (be (t:=ao) [(.tmp 79,_),(.tmp 80,_),(.tmp 81,_),(.tmp 82,_)] [a0,r3.1,r3.1,(r5.1,r5.2.1++[(a1.1,r8)],U.1)] rfl rfl SG (.cons rfl .rep (.cons rfl .rep (.cons rfl .rep (.cons trivial (.agg (.pair .int (.pair .rep .rep))) .nil)))) rfl rfl) ⟨rfl,rfl,rfl,rfl,trivial⟩ ?_;refine mq ?_;refine aq ?_;refine aq (nt (bH ?_));refine dh 3 rfl ?_;refine bz (d5 [9,12,84] ⟨rfl,rfl,rfl,trivial⟩) ?_;refine bz (SE.fin (Γ':=[(8,_),(9,_)]) [3,0,1,2] ⟨rfl,rfl,trivial⟩ rfl) ?_;cases h;exact aO () [_,_] 1 ⟨rfl,rfl,trivial⟩ rfl
def dC(k:Nat)(e:(List aQ)×(List (List (List Int)))×bT):Nat→Int→Option (Except Bool Unit)
 |0,_=>none
 |n+1,c=>
  if c < (e.1.length:Int) then((aR e.1 c).bind fun I=>
  (ju k I).bind fun r=>
  (aR e.2.1 c).bind fun F=>
  (fe k F).bind fun l=>
  (kY k r l).bind fun j=>
  (aR e.1 c).bind fun E=>
  (aR e.2.1 c).bind fun D=>
  (nn k E D).bind fun h=>
  ((if¬(j.1=h.1) then(some true) else(if¬(j.2.1=h.2.1) then(some true) else(if¬(j.2.2.1=h.2.2.1) then(some true) else(if¬(j.2.2.2=h.2.2.2) then(some true) else((aR e.1 c).bind fun x=>
  (jr k r x).bind fun M=>
  if¬(M=true) then(some true) else((aR e.2.1 c).bind fun u=>
  (f7 k l u).bind fun J=>
  some (!J))))))):Option (Bool)).bind fun y=>
  if y=true then(some (.error false)) else((ck (c+1)).bind fun s=>
  dC k e n s)) else(some (.ok ()))
def kh(k:Nat)(a0:aQ)(a1:eC)(a2:(List (List Int)))(a3:(List Int)):Option Bool:=
 (((ny k a0).bind fun r5=>
 if r5=true then(some true) else((nw k a2).bind fun r6=>
 if r6=true then(some true) else(some (decide (20 < (a1.2.length:Int)))))):Option (Bool)).bind fun x3=>
 if x3=true then((kH k).bind fun r7=>
 some r7) else((mS k a3).bind fun r8=>
 (lh k a0 a1 a2 (r8.1,r8.2.1,r8.2.2)).bind fun e=>
 bE (α:=Unit) (dC k e k 0) (some) fun _=>
 (kH k).bind fun c=>
 some c)
theorem sd(k:Nat)(a0:aQ)(a1:eC)(a2:(List (List Int)))(a3:(List Int))(r:Bool)(h:kh k a0 a1 a2 a3=some r):
 dG (jv Tryz.prog) 6 [.rep ao a0,.rep aH a1,.rep (.slice (.slice (.int .i64))) a2,Ri a3] [.inv 0 (eM)] (fun _:Unit=>(bm [.eq (.bool r)],[.inv 0 (eM)])):=by
 unfold kh at h
 replace h:=aZ h
 refine dG.of 119 Tryz.func6 rfl Tryz.ntmps6 rfl fun S w0=>?_
 refine sr ?_
 refine bx fun b1=>?_
 refine bx fun b2=>?_
 refine cq ?_
 refine nt ?_
 refine ar ?_
 refine aM (Z:=Unit) (α:=Bool) (fun z4 x3=>[(2,.rep (.slice (.slice (.int .i64))) a2),(3,Ri a3),(4,Pt b1),(5,Pt b2),(33,.eq (.bool x3))]) (fun z4 x3=>[.obj b1 27 (.rep ao a0),.obj b2 35 (.rep aH a1),.inv 0 (eM)]) h (fun K h=>?_) (fun z4 x3 h=>?_)
 ·
  refine ab (fr 1 ?_);refine lo cU ?_;obtain⟨r5,Vt,h⟩:=aa h;refine ja (ap [.tmp 22] rfl rfl Uj rfl (AG k a0 r5 Vt)) ?_;refine mq ?_;refine cd (s:=24) rfl (fun hb=>?_) (fun hb=>?_)
  ·replace h:=cG (EH hb) h;refine au ?_;exact jz ((),true) h [0,1,2]
  ·replace h:=bO (EI hb) h;refine gm ?_;obtain⟨r6,Vs,h⟩:=aa h;refine ga (ap [.tmp 25] rfl rfl Ui rfl (AD k a2 r6 Vs)) ?_;refine pf ?_;refine mq ?_;refine cd (s:=28) rfl (fun hb=>?_) (fun hb=>?_)
   ·replace h:=cG (EH hb) h;refine au ?_;exact jz ((),true) h [0,1,2]
   ·replace h:=bO (EI hb) h;refine ga (av rfl km) ?_;refine fr 1 ?_;refine jN rfl rfl rfl rfl rfl rfl (aj rfl bC jF rfl) ⟨rfl,trivial⟩ ?_;refine ga (jQ rfl rfl dB) ?_;refine gb (iD rfl) ?_;refine au ?_;exact jz ((),decide (20 < (a1.2.length:Int))) h [1,0,2]
 ·
  refine cv h (fun h=>?_) (fun h=>?_)
  ·refine sr ?_;obtain⟨r7,Vr,h⟩:=aa h;refine fr 2 ?_;refine bU rfl rfl rfl (gi [] rfl rfl UC rfl (qE k r7 Vr)) trivial ?_;refine au ?_;cases h;exact aO () [_] 1 ⟨rfl,trivial⟩ rfl
  ·refine sk (ar ?_);obtain⟨r8,j,h⟩:=aa h;obtain⟨c,U2,h⟩:=aa h;refine dA (SE.fin (Γ':=[(2,.rep (.slice (.slice (.int .i64))) a2),(3,Ri a3),(4,Pt b1),(5,Pt b2)]) (Δ':=[.obj b1 27 (.rep ao a0),.obj b2 35 (.rep aH a1),.inv 0 (eM)]) [0,1,2] ⟨rfl,rfl,rfl,rfl,trivial⟩ rfl) ?_;refine wv (I:=Nat) (Ge:=fun i=>[(9,Rs ao c.1),(10,.rep (.slice (.slice (.slice (.int .i64)))) c.2.1)]) (De:=fun i=>[.inv 0 (eM),.obj b1 27 (.rep ao a0),.obj b2 35 (.rep aH a1),.obj i 66 (.agg (.pair (Ri c.2.2.1) (.pair (I c.2.2.2.1) (.eq (.int .u64 c.2.2.2.2)))))]) (L:=[true,true,true,true,true,true,true,true,true,true,true]) cE rfl (fun J hJ hE=>?_) (by kernel_rfl) ?_
   ·have s1023:∀(b9:Nat),J 1 [true,true,true,true,true,true,true,true,true,true,false] [(9,Rs ao c.1),(43,.rep (.slice (.slice (.slice (.int .i64)))) c.2.1)] [.inv 0 (eM),.obj b1 27 (.rep ao a0),.obj b2 35 (.rep aH a1),.obj b9 66 (.agg (.pair (Ri c.2.2.1) (.pair (I c.2.2.2.1) (.eq (.int .u64 c.2.2.2.2)))))]:=fun b9=>by
     subst hJ;refine JD.step [10] (by kernel_rfl) rfl ?_;refine bK.cons rfl ?_ ?_
     ·refine aq ?_;exact aw (hE b9) [0,1,2,3] ⟨rfl,rfl,trivial⟩
     exact trivial
    have s511:∀(b9:Nat),J 2 [true,true,true,true,true,true,true,true,true,false,false] [(42,Rs ao c.1),(43,.rep (.slice (.slice (.slice (.int .i64)))) c.2.1)] [.inv 0 (eM),.obj b1 27 (.rep ao a0),.obj b2 35 (.rep aH a1),.obj b9 66 (.agg (.pair (Ri c.2.2.1) (.pair (I c.2.2.2.1) (.eq (.int .u64 c.2.2.2.2)))))]:=fun b9=>by
     subst hJ;refine JD.step [9] (by kernel_rfl) rfl ?_;refine bK.cons rfl ?_ ?_
     ·refine aq ?_;exact aw (s1023 b9) [0,1,2,3] ⟨rfl,rfl,trivial⟩
     exact trivial
    have s767:∀(b9:Nat),J 2 [true,true,true,true,true,true,true,true,false,true,false] [(9,Rs ao c.1),(35,.tup (.pair (Rs ao c.1) (.pair (.rep (.slice (.slice (.slice (.int .i64)))) c.2.1) (.any))))] [.inv 0 (eM),.obj b1 27 (.rep ao a0),.obj b2 35 (.rep aH a1),.obj b9 66 (.agg (.pair (Ri c.2.2.1) (.pair (I c.2.2.2.1) (.eq (.int .u64 c.2.2.2.2)))))]:=fun b9=>by
     subst hJ;refine JD.step [8] (by kernel_rfl) rfl ?_;refine bK.cons rfl ?_ ?_
     ·refine xr ?_;exact aw (s1023 b9) [0,1,2,3] ⟨rfl,rfl,trivial⟩
     exact trivial
    have s255:∀(b9:Nat),J 3 [true,true,true,true,true,true,true,true,false,false,false] [(35,.tup (.pair (Rs ao c.1) (.pair (.rep (.slice (.slice (.slice (.int .i64)))) c.2.1) (.any)))),(42,Rs ao c.1)] [.inv 0 (eM),.obj b1 27 (.rep ao a0),.obj b2 35 (.rep aH a1),.obj b9 66 (.agg (.pair (Ri c.2.2.1) (.pair (I c.2.2.2.1) (.eq (.int .u64 c.2.2.2.2)))))]:=fun b9=>by
     subst hJ;refine JD.step [8,9] (by kernel_rfl) rfl ?_;refine bK.cons rfl ?_ ?_
     ·refine xr ?_;exact aw (s511 b9) [0,1,2,3] ⟨rfl,rfl,trivial⟩
     refine bK.cons rfl ?_ ?_
     ·refine aq ?_;exact aw (s767 b9) [0,1,2,3] ⟨rfl,rfl,trivial⟩
     exact trivial
    have s383:∀(b9:Nat),J 3 [true,true,true,true,true,true,true,false,true,false,false] [(35,.tup (.pair (Rs ao c.1) (.pair (.rep (.slice (.slice (.slice (.int .i64)))) c.2.1) (.any)))),(43,.rep (.slice (.slice (.slice (.int .i64)))) c.2.1)] [.inv 0 (eM),.obj b1 27 (.rep ao a0),.obj b2 35 (.rep aH a1),.obj b9 66 (.agg (.pair (Ri c.2.2.1) (.pair (I c.2.2.2.1) (.eq (.int .u64 c.2.2.2.2)))))]:=fun b9=>by
     subst hJ;refine JD.step [7] (by kernel_rfl) rfl ?_;refine bK.cons rfl ?_ ?_
     ·refine xr ?_;exact aw (s511 b9) [0,1,2,3] ⟨rfl,rfl,trivial⟩
     exact trivial
    have s127:∀(b9:Nat),J 4 [true,true,true,true,true,true,true,false,false,false,false] [(35,.tup (.pair (Rs ao c.1) (.pair (.rep (.slice (.slice (.slice (.int .i64)))) c.2.1) (.any))))] [.inv 0 (eM),.obj b1 27 (.rep ao a0),.obj b2 35 (.rep aH a1),.obj b9 66 (.agg (.pair (Ri c.2.2.1) (.pair (I c.2.2.2.1) (.eq (.int .u64 c.2.2.2.2)))))]:=fun b9=>by
     subst hJ;refine JD.step [7,8] (by kernel_rfl) rfl ?_;refine bK.cons rfl ?_ ?_
     ·refine xr ?_;exact aw (s255 b9) [0,1,2,3] ⟨rfl,rfl,trivial⟩
     refine bK.cons rfl ?_ ?_
     ·refine xr ?_;exact aw (s383 b9) [0,1,2,3] ⟨rfl,rfl,trivial⟩
     exact trivial
    have s63:∀(b9:Nat),J 5 [true,true,true,true,true,true,false,false,false,false,false] [(41,.tup (.pair (Rs ao c.1) (.pair (.rep (.slice (.slice (.slice (.int .i64)))) c.2.1) (.any))))] [.inv 0 (eM),.obj b1 27 (.rep ao a0),.obj b2 35 (.rep aH a1),.obj b9 66 (.agg (.pair (Ri c.2.2.1) (.pair (I c.2.2.2.1) (.eq (.int .u64 c.2.2.2.2)))))]:=fun b9=>by
     subst hJ;refine JD.step [6] (by kernel_rfl) rfl ?_;refine bK.cons rfl ?_ ?_
     ·refine mq ?_;exact aw (s127 b9) [0,1,2,3] ⟨rfl,trivial⟩
     exact trivial
    have s31:∀(b9:Nat),J 6 [true,true,true,true,true,false,false,false,false,false,false] [(36,.rep ao a0),(37,.rep aH a1),(38,.rep (.slice (.slice (.int .i64))) a2),(40,Pt b9)] [.inv 0 (eM),.obj b1 27 (.rep ao a0),.obj b2 35 (.rep aH a1),.obj b9 66 (.agg (.pair (Ri r8.1) (.pair (I r8.2.1) (.eq (.int .u64 r8.2.2)))))]:=fun b9=>by
     subst hJ;refine JD.step [5] (by kernel_rfl) rfl ?_;refine bK.cons rfl ?_ ?_
     ·refine fr 3 ?_;refine bU rfl rfl rfl (ap [.tmp 36,.tmp 37,.tmp 38,.tmp 40] rfl rfl Uh rfl (vK k a0 a1 a2 (r8.1,r8.2.1,r8.2.2) b9 c U2)) ⟨rfl,rfl,rfl,rfl,trivial⟩ ?_;exact aw (s63 b9) [1,2,3,0] ⟨rfl,trivial⟩
     exact trivial
    have s15:J 7 [true,true,true,true,false,false,false,false,false,false,false] [(36,.rep ao a0),(37,.rep aH a1),(38,.rep (.slice (.slice (.int .i64))) a2),(39,Ri a3)] [.inv 0 (eM),.obj b1 27 (.rep ao a0),.obj b2 35 (.rep aH a1)]:=by
     subst hJ;refine JD.step [4] (by kernel_rfl) rfl ?_;refine bK.cons rfl ?_ ?_
     ·refine aE rfl rfl rfl (ap [.tmp 39] rfl rfl M6 rfl (dZ k a3 r8 j)) ⟨rfl,trivial⟩ fun b9=>?_;exact aw (s31 b9) [1,2,3,0] ⟨rfl,rfl,rfl,rfl,trivial⟩
     exact trivial
    have s27:∀(b9:Nat),J 7 [true,true,false,true,true,false,false,false,false,false,false] [(2,.rep (.slice (.slice (.int .i64))) a2),(36,.rep ao a0),(37,.rep aH a1),(40,Pt b9)] [.inv 0 (eM),.obj b1 27 (.rep ao a0),.obj b2 35 (.rep aH a1),.obj b9 66 (.agg (.pair (Ri r8.1) (.pair (I r8.2.1) (.eq (.int .u64 r8.2.2)))))]:=fun b9=>by
     subst hJ;refine JD.step [2] (by kernel_rfl) rfl ?_;refine bK.cons rfl ?_ ?_
     ·refine mq ?_;exact aw (s31 b9) [0,1,2,3] ⟨rfl,rfl,rfl,rfl,trivial⟩
     exact trivial
    have s29:∀(b9:Nat),J 7 [true,false,true,true,true,false,false,false,false,false,false] [(5,Pt b2),(36,.rep ao a0),(38,.rep (.slice (.slice (.int .i64))) a2),(40,Pt b9)] [.inv 0 (eM),.obj b1 27 (.rep ao a0),.obj b2 35 (.rep aH a1),.obj b9 66 (.agg (.pair (Ri r8.1) (.pair (I r8.2.1) (.eq (.int .u64 r8.2.2)))))]:=fun b9=>by
     subst hJ;refine JD.step [1] (by kernel_rfl) rfl ?_;refine bK.cons rfl ?_ ?_
     ·refine fr 2 ?_;refine lo gJ ?_;exact aw (s31 b9) [1,2,0,3] ⟨rfl,rfl,rfl,rfl,trivial⟩
     exact trivial
    have s30:∀(b9:Nat),J 7 [false,true,true,true,true,false,false,false,false,false,false] [(4,Pt b1),(37,.rep aH a1),(38,.rep (.slice (.slice (.int .i64))) a2),(40,Pt b9)] [.inv 0 (eM),.obj b1 27 (.rep ao a0),.obj b2 35 (.rep aH a1),.obj b9 66 (.agg (.pair (Ri r8.1) (.pair (I r8.2.1) (.eq (.int .u64 r8.2.2)))))]:=fun b9=>by
     subst hJ;refine JD.step [0] (by kernel_rfl) rfl ?_;refine bK.cons rfl ?_ ?_
     ·refine fr 1 ?_;refine lo cU ?_;exact aw (s31 b9) [1,0,2,3] ⟨rfl,rfl,rfl,rfl,trivial⟩
     exact trivial
    have s7:J 8 [true,true,true,false,false,false,false,false,false,false,false] [(3,Ri a3),(36,.rep ao a0),(37,.rep aH a1),(38,.rep (.slice (.slice (.int .i64))) a2)] [.inv 0 (eM),.obj b1 27 (.rep ao a0),.obj b2 35 (.rep aH a1)]:=by
     subst hJ;refine JD.step [3] (by kernel_rfl) rfl ?_;refine bK.cons rfl ?_ ?_
     ·refine mq ?_;exact aw s15 [0,1,2] ⟨rfl,rfl,rfl,rfl,trivial⟩
     exact trivial
    have s11:J 8 [true,true,false,true,false,false,false,false,false,false,false] [(2,.rep (.slice (.slice (.int .i64))) a2),(36,.rep ao a0),(37,.rep aH a1),(39,Ri a3)] [.inv 0 (eM),.obj b1 27 (.rep ao a0),.obj b2 35 (.rep aH a1)]:=by
     subst hJ;refine JD.step [2,4] (by kernel_rfl) rfl ?_;refine bK.cons rfl ?_ ?_
     ·refine mq ?_;exact aw s15 [0,1,2] ⟨rfl,rfl,rfl,rfl,trivial⟩
     refine bK.cons rfl ?_ ?_
     ·refine aE rfl rfl rfl (ap [.tmp 39] rfl rfl M6 rfl (dZ k a3 r8 j)) ⟨rfl,trivial⟩ fun b9=>?_;exact aw (s27 b9) [1,2,3,0] ⟨rfl,rfl,rfl,rfl,trivial⟩
     exact trivial
    have s13:J 8 [true,false,true,true,false,false,false,false,false,false,false] [(5,Pt b2),(36,.rep ao a0),(38,.rep (.slice (.slice (.int .i64))) a2),(39,Ri a3)] [.inv 0 (eM),.obj b1 27 (.rep ao a0),.obj b2 35 (.rep aH a1)]:=by
     subst hJ;refine JD.step [1,4] (by kernel_rfl) rfl ?_;refine bK.cons rfl ?_ ?_
     ·refine fr 2 ?_;refine lo gJ ?_;exact aw s15 [1,2,0] ⟨rfl,rfl,rfl,rfl,trivial⟩
     refine bK.cons rfl ?_ ?_
     ·refine aE rfl rfl rfl (ap [.tmp 39] rfl rfl M6 rfl (dZ k a3 r8 j)) ⟨rfl,trivial⟩ fun b9=>?_;exact aw (s29 b9) [1,2,3,0] ⟨rfl,rfl,rfl,rfl,trivial⟩
     exact trivial
    have s25:∀(b9:Nat),J 8 [true,false,false,true,true,false,false,false,false,false,false] [(2,.rep (.slice (.slice (.int .i64))) a2),(5,Pt b2),(36,.rep ao a0),(40,Pt b9)] [.inv 0 (eM),.obj b1 27 (.rep ao a0),.obj b2 35 (.rep aH a1),.obj b9 66 (.agg (.pair (Ri r8.1) (.pair (I r8.2.1) (.eq (.int .u64 r8.2.2)))))]:=fun b9=>by
     subst hJ;refine JD.step [1,2] (by kernel_rfl) rfl ?_;refine bK.cons rfl ?_ ?_
     ·refine fr 2 ?_;refine lo gJ ?_;exact aw (s27 b9) [1,2,0,3] ⟨rfl,rfl,rfl,rfl,trivial⟩
     refine bK.cons rfl ?_ ?_
     ·refine mq ?_;exact aw (s29 b9) [0,1,2,3] ⟨rfl,rfl,rfl,rfl,trivial⟩
     exact trivial
    have s14:J 8 [false,true,true,true,false,false,false,false,false,false,false] [(4,Pt b1),(37,.rep aH a1),(38,.rep (.slice (.slice (.int .i64))) a2),(39,Ri a3)] [.inv 0 (eM),.obj b1 27 (.rep ao a0),.obj b2 35 (.rep aH a1)]:=by
     subst hJ;refine JD.step [0,4] (by kernel_rfl) rfl ?_;refine bK.cons rfl ?_ ?_
     ·refine fr 1 ?_;refine lo cU ?_;exact aw s15 [1,0,2] ⟨rfl,rfl,rfl,rfl,trivial⟩
     refine bK.cons rfl ?_ ?_
     ·refine aE rfl rfl rfl (ap [.tmp 39] rfl rfl M6 rfl (dZ k a3 r8 j)) ⟨rfl,trivial⟩ fun b9=>?_;exact aw (s30 b9) [1,2,3,0] ⟨rfl,rfl,rfl,rfl,trivial⟩
     exact trivial
    have s26:∀(b9:Nat),J 8 [false,true,false,true,true,false,false,false,false,false,false] [(2,.rep (.slice (.slice (.int .i64))) a2),(4,Pt b1),(37,.rep aH a1),(40,Pt b9)] [.inv 0 (eM),.obj b1 27 (.rep ao a0),.obj b2 35 (.rep aH a1),.obj b9 66 (.agg (.pair (Ri r8.1) (.pair (I r8.2.1) (.eq (.int .u64 r8.2.2)))))]:=fun b9=>by
     subst hJ;refine JD.step [0,2] (by kernel_rfl) rfl ?_;refine bK.cons rfl ?_ ?_
     ·refine fr 1 ?_;refine lo cU ?_;exact aw (s27 b9) [1,0,2,3] ⟨rfl,rfl,rfl,rfl,trivial⟩
     refine bK.cons rfl ?_ ?_
     ·refine mq ?_;exact aw (s30 b9) [0,1,2,3] ⟨rfl,rfl,rfl,rfl,trivial⟩
     exact trivial
    have s28:∀(b9:Nat),J 8 [false,false,true,true,true,false,false,false,false,false,false] [(4,Pt b1),(5,Pt b2),(38,.rep (.slice (.slice (.int .i64))) a2),(40,Pt b9)] [.inv 0 (eM),.obj b1 27 (.rep ao a0),.obj b2 35 (.rep aH a1),.obj b9 66 (.agg (.pair (Ri r8.1) (.pair (I r8.2.1) (.eq (.int .u64 r8.2.2)))))]:=fun b9=>by
     subst hJ;refine JD.step [0,1] (by kernel_rfl) rfl ?_;refine bK.cons rfl ?_ ?_
     ·refine fr 1 ?_;refine lo cU ?_;exact aw (s29 b9) [1,0,2,3] ⟨rfl,rfl,rfl,rfl,trivial⟩
     refine bK.cons rfl ?_ ?_
     ·refine fr 2 ?_;refine lo gJ ?_;exact aw (s30 b9) [1,2,0,3] ⟨rfl,rfl,rfl,rfl,trivial⟩
     exact trivial
    have s3:J 9 [true,true,false,false,false,false,false,false,false,false,false] [(2,.rep (.slice (.slice (.int .i64))) a2),(3,Ri a3),(36,.rep ao a0),(37,.rep aH a1)] [.inv 0 (eM),.obj b1 27 (.rep ao a0),.obj b2 35 (.rep aH a1)]:=by
     subst hJ;refine JD.step [2,3] (by kernel_rfl) rfl ?_;refine bK.cons rfl ?_ ?_
     ·refine mq ?_;exact aw s7 [0,1,2] ⟨rfl,rfl,rfl,rfl,trivial⟩
     refine bK.cons rfl ?_ ?_
     ·refine mq ?_;exact aw s11 [0,1,2] ⟨rfl,rfl,rfl,rfl,trivial⟩
     exact trivial
    have s5:J 9 [true,false,true,false,false,false,false,false,false,false,false] [(3,Ri a3),(5,Pt b2),(36,.rep ao a0),(38,.rep (.slice (.slice (.int .i64))) a2)] [.inv 0 (eM),.obj b1 27 (.rep ao a0),.obj b2 35 (.rep aH a1)]:=by
     subst hJ;refine JD.step [1,3] (by kernel_rfl) rfl ?_;refine bK.cons rfl ?_ ?_
     ·refine fr 2 ?_;refine lo gJ ?_;exact aw s7 [1,2,0] ⟨rfl,rfl,rfl,rfl,trivial⟩
     refine bK.cons rfl ?_ ?_
     ·refine mq ?_;exact aw s13 [0,1,2] ⟨rfl,rfl,rfl,rfl,trivial⟩
     exact trivial
    have s9:J 9 [true,false,false,true,false,false,false,false,false,false,false] [(2,.rep (.slice (.slice (.int .i64))) a2),(5,Pt b2),(36,.rep ao a0),(39,Ri a3)] [.inv 0 (eM),.obj b1 27 (.rep ao a0),.obj b2 35 (.rep aH a1)]:=by
     subst hJ;refine JD.step [1,2,4] (by kernel_rfl) rfl ?_;refine bK.cons rfl ?_ ?_
     ·refine fr 2 ?_;refine lo gJ ?_;exact aw s11 [1,2,0] ⟨rfl,rfl,rfl,rfl,trivial⟩
     refine bK.cons rfl ?_ ?_
     ·refine mq ?_;exact aw s13 [0,1,2] ⟨rfl,rfl,rfl,rfl,trivial⟩
     refine bK.cons rfl ?_ ?_
     ·refine aE rfl rfl rfl (ap [.tmp 39] rfl rfl M6 rfl (dZ k a3 r8 j)) ⟨rfl,trivial⟩ fun b9=>?_;exact aw (s25 b9) [1,2,3,0] ⟨rfl,rfl,rfl,rfl,trivial⟩
     exact trivial
    have s6:J 9 [false,true,true,false,false,false,false,false,false,false,false] [(3,Ri a3),(4,Pt b1),(37,.rep aH a1),(38,.rep (.slice (.slice (.int .i64))) a2)] [.inv 0 (eM),.obj b1 27 (.rep ao a0),.obj b2 35 (.rep aH a1)]:=by
     subst hJ;refine JD.step [0,3] (by kernel_rfl) rfl ?_;refine bK.cons rfl ?_ ?_
     ·refine fr 1 ?_;refine lo cU ?_;exact aw s7 [1,0,2] ⟨rfl,rfl,rfl,rfl,trivial⟩
     refine bK.cons rfl ?_ ?_
     ·refine mq ?_;exact aw s14 [0,1,2] ⟨rfl,rfl,rfl,rfl,trivial⟩
     exact trivial
    have s10:J 9 [false,true,false,true,false,false,false,false,false,false,false] [(2,.rep (.slice (.slice (.int .i64))) a2),(4,Pt b1),(37,.rep aH a1),(39,Ri a3)] [.inv 0 (eM),.obj b1 27 (.rep ao a0),.obj b2 35 (.rep aH a1)]:=by
     subst hJ;refine JD.step [0,2,4] (by kernel_rfl) rfl ?_;refine bK.cons rfl ?_ ?_
     ·refine fr 1 ?_;refine lo cU ?_;exact aw s11 [1,0,2] ⟨rfl,rfl,rfl,rfl,trivial⟩
     refine bK.cons rfl ?_ ?_
     ·refine mq ?_;exact aw s14 [0,1,2] ⟨rfl,rfl,rfl,rfl,trivial⟩
     refine bK.cons rfl ?_ ?_
     ·refine aE rfl rfl rfl (ap [.tmp 39] rfl rfl M6 rfl (dZ k a3 r8 j)) ⟨rfl,trivial⟩ fun b9=>?_;exact aw (s26 b9) [1,2,3,0] ⟨rfl,rfl,rfl,rfl,trivial⟩
     exact trivial
    have s12:J 9 [false,false,true,true,false,false,false,false,false,false,false] [(4,Pt b1),(5,Pt b2),(38,.rep (.slice (.slice (.int .i64))) a2),(39,Ri a3)] [.inv 0 (eM),.obj b1 27 (.rep ao a0),.obj b2 35 (.rep aH a1)]:=by
     subst hJ;refine JD.step [0,1,4] (by kernel_rfl) rfl ?_;refine bK.cons rfl ?_ ?_
     ·refine fr 1 ?_;refine lo cU ?_;exact aw s13 [1,0,2] ⟨rfl,rfl,rfl,rfl,trivial⟩
     refine bK.cons rfl ?_ ?_
     ·refine fr 2 ?_;refine lo gJ ?_;exact aw s14 [1,2,0] ⟨rfl,rfl,rfl,rfl,trivial⟩
     refine bK.cons rfl ?_ ?_
     ·refine aE rfl rfl rfl (ap [.tmp 39] rfl rfl M6 rfl (dZ k a3 r8 j)) ⟨rfl,trivial⟩ fun b9=>?_;exact aw (s28 b9) [1,2,3,0] ⟨rfl,rfl,rfl,rfl,trivial⟩
     exact trivial
    have s24:∀(b9:Nat),J 9 [false,false,false,true,true,false,false,false,false,false,false] [(2,.rep (.slice (.slice (.int .i64))) a2),(4,Pt b1),(5,Pt b2),(40,Pt b9)] [.inv 0 (eM),.obj b1 27 (.rep ao a0),.obj b2 35 (.rep aH a1),.obj b9 66 (.agg (.pair (Ri r8.1) (.pair (I r8.2.1) (.eq (.int .u64 r8.2.2)))))]:=fun b9=>by
     subst hJ;refine JD.step [0,1,2] (by kernel_rfl) rfl ?_;refine bK.cons rfl ?_ ?_
     ·refine fr 1 ?_;refine lo cU ?_;exact aw (s25 b9) [1,0,2,3] ⟨rfl,rfl,rfl,rfl,trivial⟩
     refine bK.cons rfl ?_ ?_
     ·refine fr 2 ?_;refine lo gJ ?_;exact aw (s26 b9) [1,2,0,3] ⟨rfl,rfl,rfl,rfl,trivial⟩
     refine bK.cons rfl ?_ ?_
     ·refine mq ?_;exact aw (s28 b9) [0,1,2,3] ⟨rfl,rfl,rfl,rfl,trivial⟩
     exact trivial
    have s1:J 10 [true,false,false,false,false,false,false,false,false,false,false] [(2,.rep (.slice (.slice (.int .i64))) a2),(3,Ri a3),(5,Pt b2),(36,.rep ao a0)] [.inv 0 (eM),.obj b1 27 (.rep ao a0),.obj b2 35 (.rep aH a1)]:=by
     subst hJ;refine JD.step [1,2,3] (by kernel_rfl) rfl ?_;refine bK.cons rfl ?_ ?_
     ·refine fr 2 ?_;refine lo gJ ?_;exact aw s3 [1,2,0] ⟨rfl,rfl,rfl,rfl,trivial⟩
     refine bK.cons rfl ?_ ?_
     ·refine mq ?_;exact aw s5 [0,1,2] ⟨rfl,rfl,rfl,rfl,trivial⟩
     refine bK.cons rfl ?_ ?_
     ·refine mq ?_;exact aw s9 [0,1,2] ⟨rfl,rfl,rfl,rfl,trivial⟩
     exact trivial
    have s2:J 10 [false,true,false,false,false,false,false,false,false,false,false] [(2,.rep (.slice (.slice (.int .i64))) a2),(3,Ri a3),(4,Pt b1),(37,.rep aH a1)] [.inv 0 (eM),.obj b1 27 (.rep ao a0),.obj b2 35 (.rep aH a1)]:=by
     subst hJ;refine JD.step [0,2,3] (by kernel_rfl) rfl ?_;refine bK.cons rfl ?_ ?_
     ·refine fr 1 ?_;refine lo cU ?_;exact aw s3 [1,0,2] ⟨rfl,rfl,rfl,rfl,trivial⟩
     refine bK.cons rfl ?_ ?_
     ·refine mq ?_;exact aw s6 [0,1,2] ⟨rfl,rfl,rfl,rfl,trivial⟩
     refine bK.cons rfl ?_ ?_
     ·refine mq ?_;exact aw s10 [0,1,2] ⟨rfl,rfl,rfl,rfl,trivial⟩
     exact trivial
    have s4:J 10 [false,false,true,false,false,false,false,false,false,false,false] [(3,Ri a3),(4,Pt b1),(5,Pt b2),(38,.rep (.slice (.slice (.int .i64))) a2)] [.inv 0 (eM),.obj b1 27 (.rep ao a0),.obj b2 35 (.rep aH a1)]:=by
     subst hJ;refine JD.step [0,1,3] (by kernel_rfl) rfl ?_;refine bK.cons rfl ?_ ?_
     ·refine fr 1 ?_;refine lo cU ?_;exact aw s5 [1,0,2] ⟨rfl,rfl,rfl,rfl,trivial⟩
     refine bK.cons rfl ?_ ?_
     ·refine fr 2 ?_;refine lo gJ ?_;exact aw s6 [1,2,0] ⟨rfl,rfl,rfl,rfl,trivial⟩
     refine bK.cons rfl ?_ ?_
     ·refine mq ?_;exact aw s12 [0,1,2] ⟨rfl,rfl,rfl,rfl,trivial⟩
     exact trivial
    have s8:J 10 [false,false,false,true,false,false,false,false,false,false,false] [(2,.rep (.slice (.slice (.int .i64))) a2),(4,Pt b1),(5,Pt b2),(39,Ri a3)] [.inv 0 (eM),.obj b1 27 (.rep ao a0),.obj b2 35 (.rep aH a1)]:=by
     subst hJ;refine JD.step [0,1,2,4] (by kernel_rfl) rfl ?_;refine bK.cons rfl ?_ ?_
     ·refine fr 1 ?_;refine lo cU ?_;exact aw s9 [1,0,2] ⟨rfl,rfl,rfl,rfl,trivial⟩
     refine bK.cons rfl ?_ ?_
     ·refine fr 2 ?_;refine lo gJ ?_;exact aw s10 [1,2,0] ⟨rfl,rfl,rfl,rfl,trivial⟩
     refine bK.cons rfl ?_ ?_
     ·refine mq ?_;exact aw s12 [0,1,2] ⟨rfl,rfl,rfl,rfl,trivial⟩
     refine bK.cons rfl ?_ ?_
     ·refine aE rfl rfl rfl (ap [.tmp 39] rfl rfl M6 rfl (dZ k a3 r8 j)) ⟨rfl,trivial⟩ fun b9=>?_;exact aw (s24 b9) [1,2,3,0] ⟨rfl,rfl,rfl,rfl,trivial⟩
     exact trivial
    have s0:J 11 [false,false,false,false,false,false,false,false,false,false,false] [(2,.rep (.slice (.slice (.int .i64))) a2),(3,Ri a3),(4,Pt b1),(5,Pt b2)] [.obj b1 27 (.rep ao a0),.obj b2 35 (.rep aH a1),.inv 0 (eM)]:=by
     subst hJ;refine JD.step [0,1,2,3] (by kernel_rfl) rfl ?_;refine bK.cons rfl ?_ ?_
     ·refine lo cU ?_;exact aw s1 [2,0,1] ⟨rfl,rfl,rfl,rfl,trivial⟩
     refine bK.cons rfl ?_ ?_
     ·refine fr 1 ?_;refine lo gJ ?_;exact aw s2 [2,1,0] ⟨rfl,rfl,rfl,rfl,trivial⟩
     refine bK.cons rfl ?_ ?_
     ·refine mq ?_;exact aw s4 [2,0,1] ⟨rfl,rfl,rfl,rfl,trivial⟩
     refine bK.cons rfl ?_ ?_
     ·refine mq ?_;exact aw s8 [2,0,1] ⟨rfl,rfl,rfl,rfl,trivial⟩
     exact trivial
    exact s0
   intro b9;show JN _ _ [(9,Rs ao c.1),(10,.rep (.slice (.slice (.slice (.int .i64)))) c.2.1)] [.inv 0 (eM),.obj b1 27 (.rep ao a0),.obj b2 35 (.rep aH a1),.obj b9 66 (.agg (.pair (Ri c.2.2.1) (.pair (I c.2.2.2.1) (.eq (.int .u64 c.2.2.2.2)))))];refine tn (dK (Z:=Unit) (α:=Unit) (fun M O=>[]) (fun M O=>[.inv 0 (eM)]) (fun e=>e=r) h (fun e h=>Option.some.inj h) (fun K hR h=>?_) (fun M O h=>?_))
   ·refine au ?_;refine ai (aK (fun F l=>[(9,Rs ao c.1),(10,.rep (.slice (.slice (.slice (.int .i64)))) c.2.1),(11,I l)]) (fun F l=>[.inv 0 (eM)]) (dC k c) k () 0 (fun _=>rfl) h (SE.fin [0] ⟨rfl,rfl,rfl,trivial⟩ rfl) (fun n F l h=>?_));unfold dC at h;refine au ?_;refine ol R9 ?_;refine jb (bg rfl) ?_;refine nt (ci h (fun h=>?_) (fun h=>?_))
    ·refine au ?_;refine ai (ar (jy ?_));refine aI rfl rfl rfl (aL rfl) ⟨rfl,trivial⟩ ?_;refine aI rfl rfl rfl (aL rfl) ⟨rfl,trivial⟩ ?_;obtain⟨Vd,UU,h⟩:=aa h;refine aI rfl rfl rfl (aD (t:=ao) rfl R9 cU UU) ⟨rfl,rfl,trivial⟩ ?_;refine aI rfl rfl rfl (ak (t:=ao) rfl cU rfl) ⟨rfl,trivial⟩ ?_;obtain⟨x,U1,h⟩:=aa h;refine aI rfl rfl rfl (ap [.tmp 53] rfl rfl Rj rfl (tL k Vd x U1)) ⟨rfl,trivial⟩ ?_;refine aI rfl rfl rfl (aL rfl) ⟨rfl,trivial⟩ ?_;refine aI rfl rfl rfl (aL rfl) ⟨rfl,trivial⟩ ?_;obtain⟨Vb,se,h⟩:=aa h;refine aI rfl rfl rfl (aD (t:=(.slice (.slice (.int .i64)))) rfl OO rI se) ⟨rfl,rfl,trivial⟩ ?_;refine aI rfl rfl rfl (ak (t:=(.slice (.slice (.int .i64)))) rfl rI rfl) ⟨rfl,trivial⟩ ?_;obtain⟨u,U0,h⟩:=aa h;refine aI rfl rfl rfl (sM (ap [.tmp 58] rfl rfl QZ rfl (tM k Vb u U0))) ⟨rfl,trivial⟩ ?_;refine uM (Hf 27 (.agg (.pair (I 0) (.pair (.eq (.slice none 0 0)) (.eq (.slice none 0 0)))))) (fun _=>rfl) rfl rfl rfl (a9 rfl kC mG) trivial ?_;refine mA 11 [true,true,true,true,true,true,true,true,true,true,true] [13] [] [] rfl (by kernel_rfl) (by kernel_rfl) (by kernel_rfl) cE (fun vs hv hB=>?_);obtain⟨w0,VF,rfl,Vq⟩:=an hv;obtain⟨w1,VE,rfl,Vp⟩:=an Vq;obtain⟨w2,VD,rfl,Vo⟩:=an Vp;obtain⟨w3,VC,rfl,Vn⟩:=an Vo;obtain⟨w4,VB,rfl,Vm⟩:=an Vn;obtain⟨w5,VA,rfl,Vl⟩:=an Vm;obtain⟨w6,Vz,rfl,Vk⟩:=an Vl;obtain⟨w7,Vy,rfl,Vj⟩:=an Vk;obtain⟨w8,Vx,rfl,Vi⟩:=an Vj;obtain⟨w9,Vv,rfl,X⟩:=an Vi;obtain⟨Vw,Vu,rfl,U⟩:=an X;obtain rfl:=kg U;obtain⟨D,rfl⟩:=Cd hB.2.2.2.2.2.2.2.2.2.2.1;refine⟨[0,1],[.inv 0 (eM),.obj D 27 (.agg (.pair (I 0) (.pair (.eq (.slice none 0 0)) (.eq (.slice none 0 0)))))],by kernel_rfl,by decide,?_⟩;refine i7 1 rfl ?_;refine ou rfl rfl (a8 rfl cU rfl rfl rfl) ⟨rfl,rfl,trivial⟩ (by kernel_rfl) ?_;refine pK rfl rfl rfl rfl (fU rfl) ⟨rfl,trivial⟩ (by kernel_rfl) ?_;refine pL ?_;refine bz (SE.fin (Γ':=[(9,Rs ao c.1),(10,.rep (.slice (.slice (.slice (.int .i64)))) c.2.1),(11,I l),(12,Pt D),(13,.rep (.slice (.slice (.int .i64))) u)]) (Δ':=[.obj D 27 (.rep ao x),.inv 0 (eM)]) [0,1] ⟨rfl,rfl,rfl,rfl,rfl,trivial⟩ rfl) ?_;refine au ?_;refine lo cU ?_;refine mq ?_;obtain⟨Vh,UZ,h⟩:=aa h;refine fr 1 ?_;refine kb (gi [.tmp 61,.tmp 62] rfl rfl QY rfl (ua k x u Vh UZ)) ?_;refine au ?_;refine bR ?_;refine dm ?_;refine dm ?_;obtain⟨Va,qt,h⟩:=aa h;refine db (aD (t:=ao) rfl R9 cU qt) ?_;refine da (ak (t:=ao) rfl cU rfl) ?_;refine dm ?_;refine dm ?_;obtain⟨U8,pp,h⟩:=aa h;refine db (aD (t:=(.slice (.slice (.int .i64)))) rfl OO rI pp) ?_;refine da (ak (t:=(.slice (.slice (.int .i64)))) rfl rI rfl) ?_;obtain⟨Vg,UY,h⟩:=aa h;refine db (ap [.tmp 72,.tmp 76] rfl rfl Ud rfl (zM k Va U8 Vg UY)) ?_;refine dm ?_;refine da (dF rfl rfl) ?_;refine da (dF rfl rfl) ?_;refine da (dF rfl rfl) ?_;refine da (dF rfl rfl) ?_;refine da (fU rfl) ?_;refine da (fU rfl) ?_;refine da (fU rfl) ?_;refine df cE ?_;refine aq (nt ?_);refine aM (Z:=Unit) (α:=Bool) (fun E y=>[(9,Rs ao c.1),(10,.rep (.slice (.slice (.slice (.int .i64)))) c.2.1),(11,I l),(117,.eq (.bool y))]) (fun E y=>[.inv 0 (eM)]) h (fun K h=>?_) (fun E y h=>?_)
     ·refine bR ?_;refine dm ?_;refine dm ?_;refine db (g7 rfl) ?_;refine kW rfl rfl rfl (aL rfl) ⟨rfl,trivial⟩ (fun hb=>?_) (fun hb=>?_)
      ·replace h:=cG (H5 hb) h;iterate 3 refine dg ?_
       refine db (gx rfl) ?_;refine dm ?_;iterate 3 refine dg ?_
       refine db (gx rfl) ?_;refine dm ?_;iterate 3 refine dg ?_
       refine db (gx rfl) ?_;refine dm ?_;iterate 7 refine dg ?_
       refine db (gx rfl) ?_;refine dm ?_;iterate 5 refine dg ?_
       refine df cE ?_;refine au ?_;exact jz ((),true) h [0]
      ·replace h:=bO (vH hb) h;refine aU rfl rfl rfl rfl rfl (aL rfl) ⟨rfl,rfl,trivial⟩ ?_;refine aU rfl rfl rfl rfl rfl (aL rfl) ⟨rfl,rfl,trivial⟩ ?_;refine aU rfl rfl rfl rfl rfl (g7 rfl) ⟨rfl,rfl,rfl,trivial⟩ ?_;refine db (mg rfl) ?_;refine kW rfl rfl rfl (aL rfl) ⟨rfl,trivial⟩ (fun hb=>?_) (fun hb=>?_)
       ·replace h:=cG (H5 hb) h;iterate 3 refine dg ?_
        refine db (gx rfl) ?_;refine dm ?_;iterate 3 refine dg ?_
        refine db (gx rfl) ?_;refine dm ?_;iterate 7 refine dg ?_
        refine db (gx rfl) ?_;refine dm ?_;iterate 5 refine dg ?_
        refine df cE ?_;refine au ?_;exact jz ((),true) h [0]
       ·replace h:=bO (vH hb) h;refine aU rfl rfl rfl rfl rfl (aL rfl) ⟨rfl,rfl,trivial⟩ ?_;refine aU rfl rfl rfl rfl rfl (aL rfl) ⟨rfl,rfl,trivial⟩ ?_;refine aU rfl rfl rfl rfl rfl (g7 rfl) ⟨rfl,rfl,rfl,trivial⟩ ?_;refine db (mg rfl) ?_;refine kW rfl rfl rfl (aL rfl) ⟨rfl,trivial⟩ (fun hb=>?_) (fun hb=>?_)
        ·replace h:=cG (H5 hb) h;iterate 3 refine dg ?_
         refine db (gx rfl) ?_;refine dm ?_;iterate 7 refine dg ?_
         refine db (gx rfl) ?_;refine dm ?_;iterate 5 refine dg ?_
         refine df cE ?_;refine au ?_;exact jz ((),true) h [0]
        ·replace h:=bO (vH hb) h;refine aU rfl rfl rfl rfl rfl (aL rfl) ⟨rfl,rfl,trivial⟩ ?_;refine aU rfl rfl rfl rfl rfl (aL rfl) ⟨rfl,rfl,trivial⟩ ?_;refine aU rfl rfl rfl rfl rfl (g7 rfl) ⟨rfl,rfl,rfl,trivial⟩ ?_;refine db (mg rfl) ?_;refine kW rfl rfl rfl (aL rfl) ⟨rfl,trivial⟩ (fun hb=>?_) (fun hb=>?_)
         ·replace h:=cG (H5 hb) h;iterate 7 refine dg ?_
          refine db (gx rfl) ?_;refine dm ?_;iterate 5 refine dg ?_
          refine df cE ?_;refine au ?_;exact jz ((),true) h [0]
         ·replace h:=bO (vH hb) h;refine ky 1 rfl rfl rfl rfl rfl rfl (aj rfl cU (wy) rfl) ⟨rfl,rfl,trivial⟩ ?_;refine aU rfl rfl rfl rfl rfl (aL rfl) ⟨rfl,rfl,trivial⟩ ?_;refine aU rfl rfl rfl rfl rfl (aL rfl) ⟨rfl,rfl,trivial⟩ ?_;obtain⟨U7,mc,h⟩:=aa h;refine aU rfl rfl rfl rfl rfl (aD (t:=ao) rfl R9 cU mc) ⟨rfl,rfl,rfl,trivial⟩ ?_;refine aU rfl rfl rfl rfl rfl (ak (t:=ao) rfl cU rfl) ⟨rfl,rfl,trivial⟩ ?_;obtain⟨Vf,UX,h⟩:=aa h;refine aU rfl rfl rfl rfl rfl (ap [.tmp 101,.tmp 105] rfl rfl Ue rfl (tJ k x U7 Vf UX)) ⟨rfl,rfl,rfl,trivial⟩ ?_;refine aU rfl rfl rfl rfl rfl (eJ rfl) ⟨rfl,rfl,trivial⟩ ?_;refine db (mg rfl) ?_;refine kW rfl rfl rfl (aL rfl) ⟨rfl,trivial⟩ (fun hb=>?_) (fun hb=>?_)
          ·replace h:=cG (Fa hb) h;iterate 5 refine dg ?_
           refine df cE ?_;refine au ?_;exact jz ((),true) h [0]
          ·replace h:=bO (xh hb) h;refine aU rfl rfl rfl rfl rfl (aL rfl) ⟨rfl,rfl,trivial⟩ ?_;refine aU rfl rfl rfl rfl rfl (aL rfl) ⟨rfl,rfl,trivial⟩ ?_;refine aU rfl rfl rfl rfl rfl (aL rfl) ⟨rfl,rfl,trivial⟩ ?_;obtain⟨U6,ac,h⟩:=aa h;refine aU rfl rfl rfl rfl rfl (aD (t:=(.slice (.slice (.int .i64)))) rfl OO rI ac) ⟨rfl,rfl,rfl,trivial⟩ ?_;refine aU rfl rfl rfl rfl rfl (ak (t:=(.slice (.slice (.int .i64)))) rfl rI rfl) ⟨rfl,rfl,trivial⟩ ?_;refine df cE ?_;obtain⟨Q,UW,h⟩:=aa h;refine gb (ap [.tmp 110,.tmp 114] rfl rfl Ov rfl (kK k u U6 Q UW)) ?_;refine ga (eJ rfl) ?_;refine au ?_;exact jz ((), !Q) h [0]
     ·refine cv h (fun h=>?_) (fun h=>?_)
      ·refine au ?_;obtain rfl:=hR _ h;exact aO () [_] 1 ⟨rfl,trivial⟩ rfl
      ·refine au ?_;refine ab (mq ?_);obtain⟨U4,Y,h⟩:=aa h;refine jb (aW rfl Y) ?_;refine au ?_;exact jz ((),U4) h [0]
    ·refine au ?_;exact jz ((),()) h [0]
   ·refine sr ?_;obtain⟨Ve,UV,h⟩:=aa h;refine bU rfl rfl rfl (gi [] rfl rfl UC rfl (qE k Ve UV)) trivial ?_;refine au ?_;cases h;exact aO () [_] 1 ⟨rfl,trivial⟩ rfl
end Go.Proofs.YtmeojbemjkmebaaGreatDoor
