import Derived.Test.YtmeojbemjkmebaaGreatDoorChecked
import Derived.Test.YtmeojbemjkmebaaGreatDoorRFB8
import Derived.Test.YtmeojbemjkmebaaGreatDoorRFF1
import Derived.Test.YtmeojbemjkmebaaGreatDoorRFB5
set_option linter.unusedSimpArgs false
set_option linter.unusedVariables false
set_option maxRecDepth 20000
set_option maxHeartbeats 4000000
namespace Go.Proofs.YtmeojbemjkmebaaGreatDoor
open K Go Go.Proofs Go.Conc Go.Conc.Lib
abbrev LL:Go.Conc.Lib.WgLink:={ add:=99,done:=101,wait:=103,relMerge:=120,disable:=121,enable:=122,inBubble:=123,associate:=124,fatal:=125,uOr:=126,uAdd:=127,raceRead:=128,uLoad:=129,uStore:=130,disassociate:=131,semrelease:=132,acquire:=134,isAssociated:=135,uCas:=136,raceWrite:=137,semacquire:=138,orU64:=150,addU64:=151,loadU64:=152,storeU64:=153,casU64:=154,tWgP:=200,tUP:=180,tAssoc:=202,tWg:=174,tAU:=171,tU64:=64,tUint:=179,tU32:=172,tPU32:=206,tPAU:=240,tPU64:=242,tNoCopy:=169,tANoCopy:=165,tAlign64:=166 }
theorem yV:Go.Conc.Lib.WgLib Tryz.prog LL:=
 ⟨Tryz.func99,Tryz.func101,Tryz.func103,Tryz.func120,Tryz.func121,Tryz.func122,Tryz.func123,Tryz.func124,Tryz.func125,Tryz.func126,Tryz.func127,Tryz.func128,Tryz.func129,Tryz.func130,Tryz.func131,Tryz.func132,Tryz.func134,Tryz.func135,Tryz.func136,Tryz.func137,Tryz.func138,Tryz.func150,Tryz.func151,Tryz.func152,Tryz.func153,Tryz.func154,Tryz.underlying200,Tryz.runUnderlying200,Tryz.sizeOf200,Tryz.isAgg200,Tryz.zeroValue200,Tryz.underlying180,Tryz.runUnderlying180,Tryz.sizeOf180,Tryz.isAgg180,Tryz.zeroValue180,Tryz.underlying202,Tryz.runUnderlying202,Tryz.sizeOf202,Tryz.isAgg202,Tryz.zeroValue202,Tryz.underlying174,Tryz.runUnderlying174,Tryz.sizeOf174,Tryz.isAgg174,Tryz.zeroValue174,Tryz.underlying171,Tryz.runUnderlying171,Tryz.sizeOf171,Tryz.isAgg171,Tryz.zeroValue171,Tryz.underlying64,Tryz.runUnderlying64,Tryz.sizeOf64,Tryz.isAgg64,Tryz.zeroValue64,Tryz.underlying179,Tryz.runUnderlying179,Tryz.sizeOf179,Tryz.isAgg179,Tryz.zeroValue179,Tryz.underlying172,Tryz.runUnderlying172,Tryz.sizeOf172,Tryz.isAgg172,Tryz.zeroValue172,Tryz.underlying206,Tryz.runUnderlying206,Tryz.sizeOf206,Tryz.isAgg206,Tryz.zeroValue206,Tryz.underlying240,Tryz.runUnderlying240,Tryz.sizeOf240,Tryz.isAgg240,Tryz.zeroValue240,Tryz.underlying242,Tryz.runUnderlying242,Tryz.sizeOf242,Tryz.isAgg242,Tryz.zeroValue242,Tryz.underlying0,Tryz.runUnderlying0,Tryz.sizeOf0,Tryz.isAgg0,Tryz.zeroValue0,Tryz.underlying3,Tryz.runUnderlying3,Tryz.sizeOf3,Tryz.isAgg3,Tryz.zeroValue3,Tryz.underlying4,Tryz.runUnderlying4,Tryz.sizeOf4,Tryz.isAgg4,Tryz.zeroValue4,Tryz.underlying9,Tryz.runUnderlying9,Tryz.sizeOf9,Tryz.isAgg9,Tryz.zeroValue9,Tryz.underlying20,Tryz.runUnderlying20,Tryz.sizeOf20,Tryz.isAgg20,Tryz.zeroValue20,Tryz.underlying21,Tryz.runUnderlying21,Tryz.sizeOf21,Tryz.isAgg21,Tryz.zeroValue21,(by kernel_rfl),(by kernel_rfl)⟩
section
variable {p:Gp}{tot:Nat}{c:Frame}{cs:List Frame}{v0 v:VW}
theorem KP(hne:p.bw≠p.bs){m:Nat}(hm:m < tot)(hk:∀v' u,WV v0 Tryz.prog p tot (.work (m+1)) v' (c.finish u) cs):
 Qt (WV v0 Tryz.prog p tot (.work m)) v (base 102) (c::cs) 10 [] [.code (Tryz.f102.body.getD .skip)] (ent 0 [.pointer (some p.xA),.int .i64 1]):=by
 have hT:Mv Tryz.prog p.Live false (WV v0 Tryz.prog p tot (.work m)):=Ir (by simp)
 refine qb ?_
 refine Qt.op hT rfl (dZ (k:=0) rfl (du (n:=0) Tryz.underlying168 rfl Tryz.sizeOf2) rfl) ?_
 refine qb ?_
 refine QA (d:=9) (s:=.work m) (u:=fun q=>.int .i64 ((q.x+1:Nat):Int)) (W:=fun w q=>w.setCell p.xA (.int .i64 ((q.x+1:Nat):Int))) (by simp) (fun e=>by cases e) (fun a ha w q hat hp=>?_) (fun w q hat _=>?_) fun v' q hp=>?_
 ·
  have hx:q.x+1 < 9223372036854775808:=hp hm
  have hw:IntKind.i64.wrap ((q.x:Int)+1)=((q.x+1:Nat):Int):=by
   rw [IntKind.wrap_i64];omega
  refine(stepG_add_atomic rfl (ay rfl _) (by exact fun h=>nomatch h) rfl Tryz.func133 (by kernel_rfl) (by kernel_rfl) (by kernel_rfl) .i64 (by kernel_rfl) (ad:=p.xA) (ha.ev rfl) (ha.ev rfl) hat.cx hat.fx).trans ?_;rw [hw];simp only [Ph.evs,if_pos hm];rfl
 ·
  simp only [Ph.eff,if_pos hm];exact Gp.Eff.x hne hat
 simp only [Ph.nx,if_pos hm]
 replace hT:Mv Tryz.prog p.Live false (WV v0 Tryz.prog p tot (.work (m+1))):=Ir (by simp)
 refine qb ?_
 exact Qt.ret hT (gy hT rfl Tryz.func102 rfl rfl (hk _ _))
end
section
variable {p:Gp}{tot:Nat→Nat}{n:Nat}{Gd:Machine→Trace→Prop}{c:Frame}{cs:List Frame}{v0 v:VW}
theorem NG{sg:Nat→Ph}(h:t9 n sg):am n tot sg=aU tot n:=by
 unfold am;exact kz fun i hi=>by rw [h i hi];rfl
theorem Hr(hnx:Nx Tryz.prog Gd)(hk:∀v',TV v0 Tryz.prog p tot n 0 false 0 true (t9 n) Gd v' (c.finish (.int .i64 ((aU tot n:Nat):Int))) cs):
 Qt (TV v0 Tryz.prog p tot n 0 false 0 true (t9 n) Gd) v (base 104) (c::cs) 7 [] [.code (Tryz.f104.body.getD .skip)] (ent 0 [.pointer (some p.xA)]):=by
 have hT:=fR (v0:=v0) (p:=p) (md:=0) (rg:=false) (pd:=0) (jn:=true) hnx (Ag (tot:=tot) (n:=n))
 refine qb ?_
 refine Qt.op hT rfl (dZ (k:=0) rfl (du (n:=0) Tryz.underlying168 rfl Tryz.sizeOf2) rfl) ?_
 refine AK (d:=6) hnx Ag (es:=fun _=> #[ul p.xA]) (u:=fun q=>.int .i64 ((aU tot n:Nat):Int)) (W:=fun w q=>w) (e:=fun q=>q) (rg':=fun _=>false) (pd':=fun _=>0) (Iv':=fun q=>t9 n)
  (fun q=>ut (.inr rfl)) (fun a ha w q hat hb=>?_) (fun w q hat=>Gp.Eff.refl hat) (fun q sg hb hi=>⟨hb,hi⟩) fun v' q hb=>?_
 ·
  obtain⟨sg,hb,hi⟩:=hb;have hc0:=hat.cx;rw [hb.x,NG hi] at hc0;exact(stepG_load_atomic rfl (ay rfl _) (by exact fun h=>nomatch h) rfl Tryz.func139 (by kernel_rfl) (by kernel_rfl) (by kernel_rfl) .i64 (by kernel_rfl) (ad:=p.xA) (ha.ev rfl) hc0).trans rfl
 refine qb ?_
 exact Qt.ret hT (gy hT rfl Tryz.func104 rfl rfl (hk _))
end
end Go.Proofs.YtmeojbemjkmebaaGreatDoor
set_option linter.unusedVariables false
set_option maxRecDepth 4000
set_option maxHeartbeats 1000000
namespace Go.Proofs.YtmeojbemjkmebaaGreatDoor
open K Go Go.Proofs Go.Conc
def Ap(s i:Int):Bool:=decide (wy .u8 (ik .u8 s i) 1=1)
def uj(s:Int):Nat→Nat→Nat
 |0,_=>0
 |n+1,i=>(cond (Ap s i) 1 0)+uj s n (i+1)
def RP(k:Nat)(x:dp):Nat→Int→List Int→Option Nat
 |0,_,_=>some 0
 |n+1,d,l=>(kD k x d).bind fun w=>(rE k l w).bind fun r=>(RP k x n (d+1) r.2).bind fun c=>some (uj r.1 x.1.2.1.length 0+c)
def su(k:Nat)(x:dp)(ld:List (List Int))(t f:Int):Option Nat:=
 if x.1.1≤1000000∧x.1.2.1.length≤1000000∧0≤f then(fV k ld t).bind fun l=>RP k x (x.1.1 - f).toNat f l else none
theorem PG:ah Tryz.prog 100:=ah.of Tryz.func100 (by kernel_rfl) (by kernel_rfl)
theorem J0:ah Tryz.prog 71:=ah.of Tryz.func71 (by kernel_rfl) (by kernel_rfl)
theorem HQ:ah Tryz.prog 78:=ah.of Tryz.func78 (by kernel_rfl) (by kernel_rfl)
theorem HO:ah Tryz.prog 97:=ah.of Tryz.func97 (by kernel_rfl) (by kernel_rfl)
theorem HN:ah Tryz.prog 98:=ah.of Tryz.func98 (by kernel_rfl) (by kernel_rfl)
theorem pq:dG Tryz.prog 80 1 false:=⟨fun w=>by kernel_rfl,fun w=>by kernel_rfl⟩
theorem sM{c:Cx}{C:Code}{Q:Exit→Act→VW→Prop}{Γ:Ga}{Δ:List D}{a:Act}{v:VW}{T:Tq}{b:Frame}{k:List Item}{cs:List Frame}(hT:c.M.ok T)(hb:b.roundOf=c.rd)(st:St c Γ Δ a v)(h:JC c C Q Γ Δ)(hc:∀e a' v',Q e a' v'→mN T b k cs e a' v'):
 T v (b.atR a (.code C::k)) cs:=h a v st T hT b k cs hb hc
@[reducible] noncomputable def TO (c:Cx) (Γ:Ga):Exit→Act→VW→Prop:=cr (fun a w=>St c Γ [] a w) (fun _ _ _=>False)
theorem fj{c:Cx}{C:Code}{Γ Γ':Ga}{a:Act}{v:VW}{T:Tq}{b:Frame}{k:List Item}{cs:List Frame}(hT:c.M.ok T)(hb:b.roundOf=c.rd)(st:St c Γ [] a v)(h:JC c C (TO c Γ') Γ [])(hc:∀a' v',St c Γ' [] a' v'→T v' (b.atR a' k) cs):
 T v (b.atR a (.code C::k)) cs:=sM hT hb st h fun e a' v' q=>by
 cases e with
 |normal=>exact hc a' v' q
 |_=>exact q.elim
theorem jm{c:Cx}{Γ:Ga}{Δ:List D}{a:Act}{v:VW}{s:Nat}{x:Value}(st:St c Γ Δ a v)(h:lk Γ s=some (.eq x)):a.eval (.tmp s)=x:=by
 obtain⟨_,_,S,_,_,_,h6⟩:=st;exact h6 s _ h
noncomputable def BZ:Code:=match Tryz.f100.body with
 |some (.seq _ (.seq _ (.seq _ (.block _ (.loop b)))))=>b
 |_=>.skip
noncomputable def Dm:Code:=match BZ with
 | .seq _ (.seq (.block _ (.seq _ (.seq (.seq _ (.block _ (.loop b))) _))) _)=>b
 |_=>.skip
section
variable {p:Gp}{tot:Nat}{k:Nat}{x:dp}{Sh:FS}{v0:VW}{kk:List Item}{cs:List Frame}
@[reducible] noncomputable def yl (p:Gp) (Sh:FS) (v0:VW):Cx:=⟨Tryz.prog,47,Sh,v0,aE [],none,[dcall 101 #[.pointer (some p.stA)]],Md.plain Tryz.prog⟩
@[reducible] noncomputable def vF (p:Gp) (x:dp) (d:Int) (l:List Int) (s:Int) (i:Nat):Ga:=[(4,.at (.ptr bJ) x),(5,.eq (.pointer (some p.xA))),(7,.eq (.int .i64 d)),(8,.eq (.int .u8 s)),(9,.rep (.slice (.int .i64)) l),(37,.eq (.int .i64 (x.1.2.1.length:Int))),(38,.eq (.int .i64 (i:Int)))]
abbrev MR:Frame:={ (default:Frame) with fn:=100,kind:=.deferred }
theorem K.St.sh{c:Cx}{Γ:Ga}{Δ:List D}{a:Act}{v:VW}(st:St c Γ Δ a v){b:Nat}(h:c.w0.A b):v.A b:=by
 obtain⟨_,_,S,h3,_⟩:=st;exact h3.subA b h
theorem K.St.pop{c:Cx}{Γ:Ga}{Δ:List D}{a:Act}{v:VW}{d:Nat}{r0:A}(st:St c ((d,r0)::Γ) Δ a v)(hd:lk Γ d=none:=by exact rfl):St c Γ Δ a v:=by
 obtain⟨h1,h2,S,h3,h4,h5,h6⟩:=st;refine⟨h1,h2,S,h3,h4,h5,fun s r hl=>h6 s r ?_⟩;simp only [lk];rw [if_neg (fun e=>by subst e;rw [hd] at hl;cases hl)];exact hl
theorem HD{k:Nat}{s:Int}{i:Nat}:eM k s (i:Int)=some (Ap s i):=by
 simp [eM,cp,Ap]
theorem HM(hne:p.bw≠p.bs)(hsh:∀b,p.sh b→v0.A b)(hlen:x.1.2.1.length≤1000000){d:Int}{l:List Int}{s:Int}:∀(n i m:Nat) (a:Act) (v:VW),x.1.2.1.length=i+n→St (yl p Sh v0) (vF p x d l s i) [] a v→m+uj s n i≤tot→
 (∀a' v',St (yl p Sh v0) (vF p x d l s (i+n)) [] a' v'→Ww Tryz.prog p tot (.work (m+uj s n i)) v' (MR.atR a' kk) cs)→
 Ww Tryz.prog p tot (.work m) v (MR.atR a (.code Dm:: .inLoop Dm:: .inBlock 2::kk)) cs:=fun n=>by
 induction n with
 |zero=>
  intro i m a v hi st hm next
  have bc:BC Tryz.prog (Ww Tryz.prog p tot (.work m)):=Ww.bc
  refine bc.move (fun _ _=>ep) ?_
  refine fj (c:=yl p Sh v0) (Γ':=(39,.eq (.bool false))::vF p x d l s i) bc rfl st ?_ fun a1 v1 st1=>?_
  ·
   refine ab ?_
   refine aF rfl (bv rfl) ⟨rfl,rfl,trivial⟩ ?_
   refine au (ag ?_)
   rw [decide_eq_false (by omega)]
   exact fun _ _ h=>h
  refine bc.move (fun _ _=>ep) ?_
  refine bc.move (fun _ _=>od (t:=false) (jm st1 (s:=39) rfl)) ?_
  rw [if_neg (by decide)]
  refine bc.move (fun _ _=>yj rfl) ?_
  exact next a1 v1 st1.pop
 |succ n ih=>
  intro i m a v hi st hm next
  have bc:BC Tryz.prog (Ww Tryz.prog p tot (.work m)):=Ww.bc
  refine bc.move (fun _ _=>ep) ?_
  refine fj (c:=yl p Sh v0) (Γ':=(39,.eq (.bool true))::vF p x d l s i) bc rfl st ?_ fun a1 v1 st1=>?_
  ·
   refine ab ?_
   refine aF rfl (bv rfl) ⟨rfl,rfl,trivial⟩ ?_
   refine au (ag ?_)
   rw [decide_eq_true (by omega)]
   exact fun _ _ h=>h
  refine bc.move (fun _ _=>ep) ?_
  refine bc.move (fun _ _=>od (t:=true) (jm st1 (s:=39) rfl)) ?_
  rw [if_pos rfl]
  refine bc.move (fun _ _=>vE) ?_
  refine bc.move (fun _ _=>ep) ?_
  refine bc.move (fun _ _=>oe) ?_
  refine bc.move (fun _ _=>ep) ?_
  refine fj (c:=yl p Sh v0) (Γ':=(10,.eq (.int .i64 (i:Int)))::vF p x d l s i) bc rfl st1.pop ?_ fun a2 v2 st2=>?_
  ·
   refine ab ?_
   refine aC rfl rfl ?_
   refine c9 rfl rfl ?_
   refine au (ag ?_)
   exact kf (junk:=[]) (by repeat (first |exact trivial |refine⟨rfl,?_⟩)) lX
  refine bc.move (fun _ _=>ep) ?_
  refine fj (c:=yl p Sh v0) (Γ':=(43,.eq (.bool (Ap s i)))::vF p x d l s i) bc rfl st2 ?_ fun a3 v3 st3=>?_
  ·
   refine ab ?_
   refine aC rfl rfl ?_
   refine aC rfl rfl ?_
   refine aF rfl (ar [.tmp 41,.tmp 42] rfl rfl J0 rfl (io 0 s i _ HD)) ⟨rfl,rfl,trivial⟩ ?_
   refine au (ag ?_)
   exact kf (junk:=[]) (by repeat (first |exact trivial |refine⟨rfl,?_⟩)) lX
  have hb:=jm st3 (s:=43) rfl
  cases hh:Ap s i with
  |true=>
   rw [hh] at hb
   have e1:m+1+uj s n (i+1)=m+uj s (n+1) i:=by simp [uj,hh];omega
   refine bc.move (fun _ _=>od (t:=true) hb) ?_
   rw [if_pos rfl]
   refine bc.move (fun _ _=>kT) ?_
   have st4:=st3.pop
   have h5:a3.tmps.getD 5 undef= .pointer (some p.xA):=jm st4 (s:=5) rfl
   refine(Qt.call (dR:=[.pointer (some p.xA),.int .i64 1]) (T:=WV v3 Tryz.prog p tot (.work m)) (Ir (by simp)) rfl rfl Tryz.func102 (by kernel_rfl) rfl rfl (fun c hk=>?_):Qt (WV v3 Tryz.prog p tot (.work m)) v3 MR cs 47 [dcall 101 #[.pointer (some p.stA)]] _ ((5,.pointer (some p.xA))::dR (vF p x d l s i) a3)) a3 (st4.toQ.know h5) ⟨bY.refl _,fun b hb=>st4.sh (hsh b hb)⟩
   refine KP hne (by omega) fun v5 u=>?_
   refine hk _ _ _ fun a5 q5 hv5=>?_
   have st5:St (yl p Sh v0) (vF p x d l s i) [] a5 v5:=(st4.rely hv5.1).ofQ ((AV.base.know h5).new) q5
   have bc':BC Tryz.prog (Ww Tryz.prog p tot (.work (m+1))):=Ww.bc
   refine bc'.move (fun _ _=>gW) ?_
   refine bc'.move (fun _ _=>nC) ?_
   refine fj (c:=yl p Sh v0) (Γ':=vF p x d l s (i+1)) bc' rfl st5 ?_ fun a6 v6 st6=>?_
   ·
    refine ab ?_
    refine aF rfl (bf rfl (q:=((i+1:Nat):Int)) (by unfold ck;rw [if_pos (by omega)];congr 1)) ⟨rfl,rfl,trivial⟩ ?_
    refine aC rfl rfl ?_
    refine au (ag ?_)
    exact kf (junk:=[]) (by repeat (first |exact trivial |refine⟨rfl,?_⟩)) lX
   refine bc'.move (fun _ _=>pn) ?_
   refine ih (i+1) (m+1) a6 v6 (by omega) st6 (by omega) fun a7 v7 st7=>?_
   rw [e1]
   exact next a7 v7 (by rw [show i+(n+1)=i+1+n by omega];exact st7)
  |false=>
   rw [hh] at hb
   have e1:m+uj s n (i+1)=m+uj s (n+1) i:=by simp [uj,hh]
   refine bc.move (fun _ _=>od (t:=false) hb) ?_
   rw [if_neg (by decide)]
   refine bc.move (fun _ _=>vE) ?_
   refine bc.move (fun _ _=>nC) ?_
   refine fj (c:=yl p Sh v0) (Γ':=vF p x d l s (i+1)) bc rfl st3.pop ?_ fun a6 v6 st6=>?_
   ·
    refine ab ?_
    refine aF rfl (bf rfl (q:=((i+1:Nat):Int)) (by unfold ck;rw [if_pos (by omega)];congr 1)) ⟨rfl,rfl,trivial⟩ ?_
    refine aC rfl rfl ?_
    refine au (ag ?_)
    exact kf (junk:=[]) (by repeat (first |exact trivial |refine⟨rfl,?_⟩)) lX
   refine bc.move (fun _ _=>pn) ?_
   refine ih (i+1) m a6 v6 (by omega) st6 (by omega) fun a7 v7 st7=>?_
   rw [e1]
   exact next a7 v7 (by rw [show i+(n+1)=i+1+n by omega];exact st7)
@[reducible] noncomputable def BY (p:Gp) (x:dp) (d:Int) (l:List Int):Ga:=[(4,.at (.ptr bJ) x),(5,.eq (.pointer (some p.xA))),(6,.rep (.slice (.int .i64)) l),(7,.eq (.int .i64 d))]
@[reducible] noncomputable def RN (p:Gp) (x:dp) (d:Int) (l:List Int) (s:Int):Ga:=[(4,.at (.ptr bJ) x),(5,.eq (.pointer (some p.xA))),(7,.eq (.int .i64 d)),(8,.eq (.int .u8 s)),(9,.rep (.slice (.int .i64)) l)]
theorem HL(hne:p.bw≠p.bs)(hsh:∀b,p.sh b→v0.A b)(hlen:x.1.2.1.length≤1000000)(hdays:x.1.1≤1000000){dd:Deferred}:∀(n m c:Nat) (d:Int) (l:List Int) (a:Act) (v:VW),n=(x.1.1 - d).toNat→0≤d→RP k x n d l=some c→m+c=tot→St (yl p Sh v0) (BY p x d l) [] a v→
 Ww Tryz.prog p tot (.work m) v (MR.atR a [.code BZ,.inLoop BZ,.inBlock 0]) [{ fQ Tryz.prog dd with defers:=[] }]:=fun n=>by
 induction n with
 |zero=>
  intro m c d l a v hn hd hc hm st
  have bc:BC Tryz.prog (Ww Tryz.prog p tot (.work m)):=Ww.bc
  cases hc
  refine bc.move (fun _ _=>ep) ?_
  refine bc.move (fun _ _=>ep) ?_
  refine fj (c:=yl p Sh v0) (Γ':=(21,.eq (.bool false))::BY p x d l) bc rfl st ?_ fun a1 v1 st1=>?_
  ·
   refine ab ?_
   refine aC rfl rfl ?_
   refine aF rfl (ao (t:=.ptr bJ) rfl pq rfl) ⟨rfl,trivial⟩ ?_
   refine aF rfl (dK rfl) ⟨rfl,trivial⟩ ?_
   refine aF rfl (aM 3 true rfl jY rfl) ⟨rfl,trivial⟩ ?_
   refine aF rfl (aM 1 false rfl iH rfl) ⟨rfl,trivial⟩ ?_
   refine aF rfl (ao (t:=.int .i64) rfl cH rfl) ⟨rfl,trivial⟩ ?_
   refine aF rfl (bv rfl) ⟨rfl,rfl,trivial⟩ ?_
   refine au (ag ?_)
   rw [decide_eq_false (by omega)]
   exact kf (junk:=[]) (by repeat (first |exact trivial |refine⟨rfl,?_⟩)) lX
  refine bc.move (fun _ _=>od (t:=false) (jm st1 (s:=21) rfl)) ?_
  rw [if_neg (by decide)]
  refine bc.move (fun _ _=>yj rfl) ?_
  exact(Qt.fin (sF (by simp)) (Av yV hne (by omega) fun v'=>Iz rfl Tryz.func100 rfl):Qt (Ww Tryz.prog p tot (.work m)) v1 MR [{ fQ Tryz.prog dd with defers:=[] }] 47 [dcall 101 #[.pointer (some p.stA)]] [] (dR (BY p x d l) a1)) a1 st1.pop.toQ
 |succ n ih=>
  intro m c d l a v hn hd hc hm st
  have bc:BC Tryz.prog (Ww Tryz.prog p tot (.work m)):=Ww.bc
  obtain⟨w,hw,hc⟩:=Option.bind_eq_some_iff.1 hc
  obtain⟨r,hr,hc⟩:=Option.bind_eq_some_iff.1 hc
  obtain⟨c',hc',hc⟩:=Option.bind_eq_some_iff.1 hc
  have hcc:uj r.1 x.1.2.1.length 0+c'=c:=Option.some.inj hc
  refine bc.move (fun _ _=>ep) ?_
  refine bc.move (fun _ _=>ep) ?_
  refine fj (c:=yl p Sh v0) (Γ':=(21,.eq (.bool true))::BY p x d l) bc rfl st ?_ fun a1 v1 st1=>?_
  ·
   refine ab ?_
   refine aC rfl rfl ?_
   refine aF rfl (ao (t:=.ptr bJ) rfl pq rfl) ⟨rfl,trivial⟩ ?_
   refine aF rfl (dK rfl) ⟨rfl,trivial⟩ ?_
   refine aF rfl (aM 3 true rfl jY rfl) ⟨rfl,trivial⟩ ?_
   refine aF rfl (aM 1 false rfl iH rfl) ⟨rfl,trivial⟩ ?_
   refine aF rfl (ao (t:=.int .i64) rfl cH rfl) ⟨rfl,trivial⟩ ?_
   refine aF rfl (bv rfl) ⟨rfl,rfl,trivial⟩ ?_
   refine au (ag ?_)
   rw [decide_eq_true (by omega)]
   exact kf (junk:=[]) (by repeat (first |exact trivial |refine⟨rfl,?_⟩)) lX
  refine bc.move (fun _ _=>od (t:=true) (jm st1 (s:=21) rfl)) ?_
  rw [if_pos rfl]
  refine bc.move (fun _ _=>vE) ?_
  refine bc.move (fun _ _=>ep) ?_
  refine bc.move (fun _ _=>oe) ?_
  refine bc.move (fun _ _=>ep) ?_
  refine fj (c:=yl p Sh v0) (Γ':=RN p x d r.2 r.1) bc rfl st1.pop ?_ fun a2 v2 st2=>?_
  ·
   refine ab ?_
   refine aC rfl rfl ?_
   refine aF rfl (ao (t:=.ptr bJ) rfl pq rfl) ⟨rfl,trivial⟩ ?_
   refine aC rfl rfl ?_
   refine aF rfl (ar [.tmp 26,.tmp 27] rfl rfl HN rfl (nb k x d _ hw)) ⟨rfl,rfl,trivial⟩ ?_
   refine aF rfl (ar [.tmp 25,.tmp 28] rfl rfl HO rfl (tY k l w _ hr)) ⟨rfl,rfl,trivial⟩ ?_
   refine aC rfl rfl ?_
   refine aF rfl (c6 rfl rfl) ⟨rfl,trivial⟩ ?_
   refine aF rfl (c6 rfl rfl) ⟨rfl,trivial⟩ ?_
   refine c9 rfl rfl ?_
   refine c9 rfl rfl ?_
   refine au (ag ?_)
   exact kf (junk:=[]) (by repeat (first |exact trivial |refine⟨rfl,?_⟩)) lX
  refine bc.move (fun _ _=>ep) ?_
  refine bc.move (fun _ _=>ep) ?_
  refine fj (c:=yl p Sh v0) (Γ':=vF p x d r.2 r.1 0) bc rfl st2 ?_ fun a3 v3 st3=>?_
  ·
   refine ab ?_
   refine aF rfl (ao (t:=.ptr bJ) rfl pq rfl) ⟨rfl,trivial⟩ ?_
   refine aF rfl (dK rfl) ⟨rfl,trivial⟩ ?_
   refine aF rfl (aM 3 true rfl jY rfl) ⟨rfl,trivial⟩ ?_
   refine aF rfl (aM 1 false rfl cQ rfl) ⟨rfl,trivial⟩ ?_
   refine aF rfl (ao (t:=.slice aG) rfl iN rfl) ⟨rfl,trivial⟩ ?_
   refine aF rfl (kd rfl rfl Tryz.underlying25) ⟨rfl,trivial⟩ ?_
   refine eU rfl ?_
   refine au (ag ?_)
   exact kf (junk:=[]) (by repeat (first |exact trivial |refine⟨rfl,?_⟩)) lX
  refine bc.move (fun _ _=>oe) ?_
  refine bc.move (fun _ _=>yi) ?_
  refine HM hne hsh hlen x.1.2.1.length 0 m a3 v3 (by omega) st3 (by omega) fun a4 v4 st4=>?_
  have bc':BC Tryz.prog (Ww Tryz.prog p tot (.work (m+uj r.1 x.1.2.1.length 0))):=Ww.bc
  refine fj (c:=yl p Sh v0) (Γ':=BY p x d r.2) bc' rfl st4 ?_ fun a5 v5 st5=>?_
  ·
   refine ab ?_
   refine aC rfl rfl ?_
   refine c9 rfl rfl ?_
   refine au (ag ?_)
   exact kf (junk:=[]) (by repeat (first |exact trivial |refine⟨rfl,?_⟩)) lX
  refine bc'.move (fun _ _=>nC) ?_
  refine fj (c:=yl p Sh v0) (Γ':=BY p x (d+1) r.2) bc' rfl st5 ?_ fun a6 v6 st6=>?_
  ·
   refine ab ?_
   refine aC rfl rfl ?_
   refine aF rfl (bf rfl (q:=d+1) (by unfold ck;rw [if_pos (by omega)])) ⟨rfl,rfl,trivial⟩ ?_
   refine c9 rfl rfl ?_
   refine au (ag ?_)
   exact kf (junk:=[]) (by repeat (first |exact trivial |refine⟨rfl,?_⟩)) lX
  refine bc'.move (fun _ _=>pn) ?_
  exact ih _ c' (d+1) r.2 a6 v6 (by omega) (by omega) hc' (by omega) st6
@[reducible] noncomputable def PI (p:Gp) (x:dp) (ld:List (List Int)) (t f:Int):List A:=[.eq (.pointer (some p.stA)),.at (.arr 3 (.arr 5 (.int .i64))) ld,.at (.int .i64) t,.at (.int .i64) f,.at (.ptr bJ) x,.eq (.pointer (some p.xA))]
theorem EU(hne:p.bw≠p.bs){ld:List (List Int)}{t f:Int}(hw:su k x ld t f=some tot){p0 p1 p2 p3 p4 p5:Value}{v:VW}(hd:∀b,Sh b→b < v.heap.size)(hO:bb [] Sh v)(hsh:∀b,p.sh b→v.A b)(hall:fU Sh v (PI p x ld t f) [p0,p1,p2,p3,p4,p5]):
 Ww Tryz.prog p tot (.work 0) v (fQ Tryz.prog { target:=.fn (.func 100) #[p0,p1,p2,p3,p4,p5],args:= #[] }) []:=by
 have bc:BC Tryz.prog (Ww Tryz.prog p tot (.work 0)):=Ww.bc
 unfold su at hw
 split at hw
 ·
  rename_i hc;obtain⟨h1,h2,h3⟩:=hc;obtain⟨l,hl,hw⟩:=Option.bind_eq_some_iff.1 hw;refine bc.move (fun m w=>yk PG) ?_;rw [enter_at Tryz.func100 rfl];have st0:St ⟨Tryz.prog,47,Sh,v,aE [],none,[],Md.plain Tryz.prog⟩ (entry 0 (PI p x ld t f)) [] { tmps:= #[p0,p1,p2,p3,p4,p5]++Array.replicate (47 - 6) undef,defers:=[] } v:=St.entry (vs:=[p0,p1,p2,p3,p4,p5]) rfl hd hall hO
  have key:∀a0,St ⟨Tryz.prog,47,Sh,v,aE [],none,[],Md.plain Tryz.prog⟩ (entry 0 (PI p x ld t f)) [] a0 v→Ww Tryz.prog p tot (.work 0) v (MR.atR a0 [.code (Tryz.f100.body.getD .skip)]) [{ fQ Tryz.prog { target:=.fn (.func 100) #[p0,p1,p2,p3,p4,p5],args:= #[] } with defers:=[] }]:=by
   intro a0 st0;have e0:a0.tmps.getD 0 undef= .pointer (some p.stA):=jm st0 (s:=0) rfl;refine bc.move (fun _ _=>ep) ?_;refine bc.move (fun _ _=>kT) ?_;refine(Qt.defer (dR:=[.pointer (some p.stA)]) (T:=Ww Tryz.prog p tot (.work 0)) (sF (by simp)) rfl rfl rfl (fun a1 q1=>?_):Qt (Ww Tryz.prog p tot (.work 0)) v MR _ 47 [] _ ((0,.pointer (some p.stA))::dR (entry 0 (PI p x ld t f)) a0)) a0 (st0.toQ.know e0);have st1:St (yl p Sh v) (entry 0 (PI p x ld t f)) [] a1 v:=st0.ofQ (AV.base.know e0) q1;refine bc.move (fun _ _=>gW) ?_;refine bc.move (fun _ _=>ep) ?_;refine fj (c:=yl p Sh v) (Γ':=(3,.at (.int .i64) f)::(6,.rep (.slice (.int .i64)) l)::[(4,.at (.ptr bJ) x),(5,.eq (.pointer (some p.xA)))]) bc rfl st1 ?_ fun a2 v2 st2=>?_
   ·refine ab ?_;refine aF rfl (ao (t:=.arr 3 (.arr 5 (.int .i64))) rfl f6 rfl) ⟨rfl,trivial⟩ ?_;refine aF rfl (ao (t:=.int .i64) rfl cH rfl) ⟨rfl,trivial⟩ ?_;refine aF rfl (ar [.tmp 11,.tmp 12] rfl rfl HQ rfl (gf k ld t _ hl)) ⟨rfl,rfl,trivial⟩ ?_;refine c9 rfl rfl ?_;refine au (ag ?_);exact kf (junk:=[]) (by repeat (first |exact trivial |refine⟨rfl,?_⟩)) lX
   refine bc.move (fun _ _=>ep) ?_;refine fj (c:=yl p Sh v) (Γ':=BY p x f l) bc rfl st2 ?_ fun a3 v3 st3=>?_
   ·refine ab ?_;refine aF rfl (ao (t:=.int .i64) rfl cH rfl) ⟨rfl,trivial⟩ ?_;refine c9 rfl rfl ?_;refine au (ag ?_);exact kf (junk:=[]) (by repeat (first |exact trivial |refine⟨rfl,?_⟩)) lX
   refine bc.move (fun _ _=>oe) ?_;refine bc.move (fun _ _=>yi) ?_;exact HL hne hsh h2 h1 _ 0 tot f l a3 v3 rfl h3 hw (by omega) st3
  exact key _ st0
 ·
  cases hw
end
end Go.Proofs.YtmeojbemjkmebaaGreatDoor
set_option linter.unusedVariables false
set_option maxRecDepth 4000
set_option maxHeartbeats 1000000
namespace Go.Proofs.YtmeojbemjkmebaaGreatDoor
open K Go Go.Proofs Go.Conc
theorem ID{P:Program}{Wl:World→Prop}{Γ:Gv}{o:Oper}{f:FuncId}{cs:Array Operand}{us:List Value}(ho:o.op= .makeFunc (.func f) #[] cs)(h:cs.toList.map (ev Γ)=us.map some):OV P Wl o Γ (.func (.func f) #[] us.toArray):=fun N df a ha w hl=>by
 have hm:=yA ha h
 simp [execOp,ho,Instr.makeFunc,hm]
noncomputable def ym:Code:=match Tryz.f73.body with
 |some (.seq _ (.seq _ (.seq _ (.seq (.seq _ (.block _ (.loop b))) _))))=>b
 |_=>.skip
section
variable {p:Gp}{tot:Nat→Nat}{k n j:Nat}{x:dp}{ld:List (List Int)}{d:Int}{N:Nat}{Gd:Machine→Trace→Prop}{kk:List Item}{cs:List Frame}{b:Frame}
@[reducible] noncomputable def FC (S:FS) (v:VW):Cx:=⟨Tryz.prog,24,S,v,aE [],none,[],Md.plain Tryz.prog⟩
@[reducible] noncomputable def tD (p:Gp) (x:dp) (ld:List (List Int)) (d:Int) (N i:Nat):Ga:=[(3,.at (.ptr bJ) x),(4,.at (.arr 3 (.arr 5 (.int .i64))) ld),(5,.at (.int .i64) d),(7,.eq (.pointer (some p.xA))),(8,.eq (.pointer (some p.stA))),(15,.eq (.int .i64 (N:Int))),(16,.eq (.int .i64 (i:Int)))]
theorem MO:∀w,(zeroValue 3).run Tryz.prog w= .ok (.int .i64 0) w:=fun w=>by kernel_rfl
theorem MQ:∀S w,(A.cells S w (.eq (.int .i64 (0:Int))) (Value.cells (.int .i64 (0:Int))).toList):=fun _ _=>⟨rfl,rfl⟩
@[reducible] def K.ez(v:VW):VW:=⟨v.toWorld,v.A,fun _=>False⟩
theorem K.bT.ez{X:Nat→Prop}{S S':FS}{v v':VW}(h:bT X S v S' v'):bT X S (K.ez v) S' (K.ez v'):=⟨h.sub,h.new,h.dom,h.size,h.keep,h.os,h.tape,h.output,h.subA,h.oldA,rfl⟩
def NI(v0:VW)(S0:FS)(Γ:Ga)(a:Act)(v:VW):Prop:=∃S,a.defers=[]∧a.tmps.size=24∧bT (aE []) S0 (ez v0) S (ez v)∧bb [] S v∧∀s r,lk Γ s=some r→r.holds S v (a.tmps.getD s undef)
theorem py{b:Frame}{a:Act}{k:List Item}(hb:b.roundOf=none):b.atR a k=b.at a k:=by
 cases b;simp only [Frame.atR,Frame.at] at *;subst hb;rfl
theorem EW(hnx:Nx Tryz.prog Gd)(hne:p.bw≠p.bs){i:Nat}(hi:i < N)(hN:N≤1000)(hj:j < 1000)(hw:su k x ld i d=some (tot n))(hn:0 < n)(htb:aU tot (n+1) < 9223372036854775808){S0:FS}{v0:VW}{a:Act}{v:VW}(hb:b.roundOf=none)(hbk:b.kind≠.early)
 (hsh:∀y,p.sh y→v.A y) (hI:NI v0 S0 (tD p x ld d N i) a v)
 (next:∀a' v',(∀y,p.sh y→v'.A y)→NI v0 S0 (tD p x ld d N (i+1)) a' v'→TW Tryz.prog p tot (n+1) 0 false 0 false (qu (n+1) (j+1)) Gd v' (b.atR a' kk) cs):
 TW Tryz.prog p tot n 0 false 0 false (qu n j) Gd v (b.atR a (.code ym::kk)) cs:=by
 have bc:BC Tryz.prog (TW Tryz.prog p tot n 0 false 0 false (qu n j) Gd):=TW.bc hnx qs
 have bc1:BC Tryz.prog (TW Tryz.prog p tot n 0 false 1 false (qu n j) Gd):=TW.bc hnx qs
 obtain⟨S,i1,i2,i3,i4,i5⟩:=hI
 have st:St (FC S v) (tD p x ld d N i) [] a v:=⟨i1,i2,S,bT.refl i3.dom,fun b hb=>.inl hb,i4,i5⟩
 refine bc.move (fun _ _=>ep) ?_
 refine fj (c:=FC S v) (Γ':=(17,.eq (.bool true))::tD p x ld d N i) bc hb st ?_ fun a1 v1 st1=>?_
 ·
  refine ab ?_;refine aF rfl (bv rfl) ⟨rfl,rfl,trivial⟩ ?_;refine au (ag ?_);rw [decide_eq_true (by omega)];exact fun _ _ h=>h
 refine bc.move (fun _ _=>ep) ?_
 refine bc.move (fun _ _=>od (t:=true) (jm st1 (s:=17) rfl)) ?_
 rw [if_pos rfl]
 refine bc.move (fun _ _=>vE) ?_
 refine bc.move (fun _ _=>ep) ?_
 refine bc.move (fun _ _=>oe) ?_
 refine bc.move (fun _ _=>ep) ?_
 refine fj (c:=FC S v) (Γ':=(9,.at (.int .i64) (i:Int))::tD p x ld d N i) bc hb st1.pop ?_ fun a2 v2 st2=>?_
 ·
  refine ab ?_;refine aC rfl rfl ?_;refine aD rfl rfl rfl (bg rfl MO MQ) trivial fun b9=>?_;refine bj rfl rfl (bm rfl cH rfl rfl rfl) ⟨rfl,rfl,trivial⟩ ?_;refine bZ (lH (t:=.int .i64) (x:=(i:Int)) [9] .int ⟨rfl,trivial⟩) ?_;refine au (ag ?_);exact kf (junk:=[]) (by repeat (first |exact trivial |refine⟨rfl,?_⟩)) lX
 refine bc.move (fun _ _=>ep) ?_
 refine bc.move (fun _ _=>kT) ?_
 have h8:a2.tmps.getD 8 undef= .pointer (some p.stA):=jm st2 (s:=8) rfl
 rw [py hb]
 refine(Qt.call (dR:=[.pointer (some p.stA),.int .i64 1]) (T:=TV v2 Tryz.prog p tot n 0 false 0 false (qu n j) Gd) (fR hnx qs) rfl rfl yV.f_add (by kernel_rfl) rfl rfl (fun c hk=>?_) (hk:=hbk):Qt (TV v2 Tryz.prog p tot n 0 false 0 false (qu n j) Gd) v2 b cs 24 [] _ ((8,.pointer (some p.stA))::dR ((9,.at (.int .i64) (i:Int))::tD p x ld d N i) a2)) a2 (st2.toQ.know h8) ⟨bY.refl _,fun y hy=>st2.sh (hsh y hy)⟩
 refine KQ hnx yV hne hj fun v3=>?_
 refine hk _ _ _ fun a3 q3 hv3=>?_
 have st3:St (FC S v) ((9,.at (.int .i64) (i:Int))::tD p x ld d N i) [] a3 v3:=(st2.rely hv3.1).ofQ ((AV.base.know h8).new) q3
 rw [←py hb]
 refine bc1.move (fun _ _=>gW) ?_
 refine bc1.move (fun _ _=>kT) ?_
 rw [py hb]
 refine(Qt.op (T:=TV v3 Tryz.prog p tot n 0 false 1 false (qu n j) Gd) (fR hnx qs) rfl (ID (us:=[a3.tmps.getD 8 undef,a3.tmps.getD 4 undef,a3.tmps.getD 9 undef,a3.tmps.getD 5 undef,a3.tmps.getD 3 undef,a3.tmps.getD 7 undef]) rfl rfl) (fun a4 q4 hv4=>?_) (hk:=hbk):Qt (TV v3 Tryz.prog p tot n 0 false 1 false (qu n j) Gd) v3 b cs 24 [] _ (dR ((9,.at (.int .i64) (i:Int))::tD p x ld d N i) a3)) a3 st3.toQ ⟨bY.refl _,fun y hy=>st3.sh (hsh y hy)⟩
 have st4:St (FC S v) ((9,.at (.int .i64) (i:Int))::tD p x ld d N i) [] a4 v3:=st3.ofQ (AV.base.new) q4
 have hx:=q4.val 20 _ rfl
 obtain⟨g1,g2,S2,g3,g4,g5,g6⟩:=st4
 have h63:∀s r,lk ((9,.at (.int .i64) (i:Int))::tD p x ld d N i) s=some r→r.holds S2 v3 (a3.tmps.getD s undef):=fun s r hl=>by
  have e:=q4.val s _ ((AV.base.new (d:=20) (u:=.func (.func 100) #[] [a3.tmps.getD 8 undef,a3.tmps.getD 4 undef,a3.tmps.getD 9 undef,a3.tmps.getD 5 undef,a3.tmps.getD 3 undef,a3.tmps.getD 7 undef].toArray)) s r hl);rw [←e];exact g6 s r hl
 have hshA:∀y,p.sh y→v3.A y:=fun y hy=>g3.subA y (hsh y hy)
 rw [←py hb]
 refine TW.spawn hnx qs (Sh:=S2) (Iv':=qu (n+1) (j+1)) (fc:=fQ Tryz.prog { target:=.fn (.func 100) #[a3.tmps.getD 8 undef,a3.tmps.getD 4 undef,a3.tmps.getD 9 undef,a3.tmps.getD 5 undef,a3.tmps.getD 3 undef,a3.tmps.getD 7 undef],args:= #[] }) hn (fun w0=>RL (i:=1) (rest:=[]) rfl (ay rfl _) rfl rfl hx) (fun y hy=>⟨g3.dom y hy,g5.sees y hy⟩) htb (fun sg hsg=>?_) (fun v4 hr4=>?_) ?_
 ·
  have hsg:al n sg Ph.act≤j:=hsg;show al (n+1) (upd sg n (.work 0)) Ph.act≤j+1;unfold al at hsg⊢;simp only [aU];rw [dJ,kz fun j hj=>by rw [dx (by omega)]];show _+1≤_;omega
 ·
  have hd4:∀y,S2 y→y < v4.heap.size:=fun y hy=>Nat.lt_of_lt_of_le (g3.dom y hy) hr4.size;have h64:∀s r,lk ((9,.at (.int .i64) (i:Int))::tD p x ld d N i) s=some r→r.holds S2 v4 (a3.tmps.getD s undef):=fun s r hl=>A.mono (fun _ h=>h) (ky g3.dom g5.sees hr4) r (h63 s r hl)
  exact EU hne hw (v:=⟨v4.toWorld,fun b=>b < v4.heap.size∧¬S2 b,S2⟩) hd4 ⟨fun _ h=>by simp at h,fun _ hb=>(fe hb).elim,List.Pairwise.nil,fun _ hb=>(fe hb).elim,fun y hy h=>h.2 hy,fun _ h=>h.1,hd4⟩ (fun y hy=>⟨Nat.lt_of_lt_of_le (g5.domA y (hshA y hy)) hr4.size,fun hS=>g5.sees y hS (hshA y hy)⟩)
   ⟨_,_,rfl,h64 8 _ rfl,_,_,rfl,h64 4 _ rfl,_,_,rfl,h64 9 _ rfl,_,_,rfl,h64 5 _ rfl,_,_,rfl,h64 3 _ rfl,_,_,rfl,h64 7 _ rfl,rfl⟩
 ·
  have bc':BC Tryz.prog (TW Tryz.prog p tot (n+1) 0 false 0 false (qu (n+1) (j+1)) Gd):=TW.bc hnx qs;refine bc'.move (fun _ _=>gW) ?_;refine bc'.move (fun _ _=>nC) ?_;have hO4:bb [] S2 ⟨v3.toWorld,v3.A,fun b=>v3.Z b∨S2 b⟩:=⟨fun _ h=>by simp at h,fun _ hb=>(fe hb).elim,List.Pairwise.nil,fun _ hb=>(fe hb).elim,g5.sees,g5.domA,fun y hy=>hy.elim (g5.domZ y) (g3.dom y)⟩;have hE:bT (aE []) S0 (ez v0) S2 (ez ⟨v3.toWorld,v3.A,fun b=>v3.Z b∨S2 b⟩):=i3.trans g3.ez fun b hb=>.inl hb
  have st5:St (FC S2 ⟨v3.toWorld,v3.A,fun b=>v3.Z b∨S2 b⟩) (tD p x ld d N i) [] (a4.put none undef) ⟨v3.toWorld,v3.A,fun b=>v3.Z b∨S2 b⟩:=
   ⟨g1,g2,S2,bT.refl g3.dom,fun b hb=>.inl hb,hO4,fun s r hl=>g6 s r (by
    have hs:s≠9:=fun e=>by subst e;simp [lk] at hl
    simp only [lk] at hl⊢;rw [if_neg (fun e=>hs e.symm)];exact hl)⟩
  refine fj (c:=FC S2 ⟨v3.toWorld,v3.A,fun b=>v3.Z b∨S2 b⟩) (Γ':=tD p x ld d N (i+1)) bc' hb st5 ?_ fun a6 v6 st6=>?_
  ·refine ab ?_;refine aF rfl (bf rfl (q:=((i+1:Nat):Int)) (by unfold ck;rw [if_pos (by omega)];congr 1)) ⟨rfl,rfl,trivial⟩ ?_;refine aC rfl rfl ?_;refine au (ag ?_);exact kf (junk:=[]) (by repeat (first |exact trivial |refine⟨rfl,?_⟩)) lX
  obtain⟨k1,k2,S6,k3,k4,k5,k6⟩:=st6;exact next a6 v6 (fun y hy=>k3.subA y (hshA y hy)) ⟨S6,k1,k2,hE.trans k3.ez fun b hb=>.inl hb,k5,k6⟩
theorem EV{n0:Nat}(hnx:Nx Tryz.prog Gd)(hne:p.bw≠p.bs)(hN:N≤1000)(hws:∀i:Nat,i < N→su k x ld i d=some (tot (n0+i)))(hn:0 < n0)(htb:∀m,m≤n0+N→aU tot m < 9223372036854775808){S0:FS}{v0:VW}(hb:b.roundOf=none)(hbk:b.kind≠.early)
 (next:∀a' v',(∀y,p.sh y→v'.A y)→NI v0 S0 (tD p x ld d N N) a' v'→TW Tryz.prog p tot (n0+N) 0 false 0 false (qu (n0+N) N) Gd v' (b.atR a' kk) cs):∀(r i:Nat),i+r=N→∀(a:Act) (v:VW),(∀y,p.sh y→v.A y)→NI v0 S0 (tD p x ld d N i) a v→
 TW Tryz.prog p tot (n0+i) 0 false 0 false (qu (n0+i) i) Gd v (b.atR a (.code ym:: .inLoop ym:: .inBlock 0::kk)) cs:=fun r=>by
 induction r with
 |zero=>
  intro i hi a v hsh hI
  obtain rfl:i=N:=by omega
  have bc:BC Tryz.prog (TW Tryz.prog p tot (n0+i) 0 false 0 false (qu (n0+i) i) Gd):=TW.bc hnx qs
  obtain⟨S,i1,i2,i3,i4,i5⟩:=hI
  have st:St (FC S v) (tD p x ld d i i) [] a v:=⟨i1,i2,S,bT.refl i3.dom,fun b hb=>.inl hb,i4,i5⟩
  refine bc.move (fun _ _=>ep) ?_
  refine fj (c:=FC S v) (Γ':=(17,.eq (.bool false))::tD p x ld d i i) bc hb st ?_ fun a1 v1 st1=>?_
  ·
   refine ab ?_
   refine aF rfl (bv rfl) ⟨rfl,rfl,trivial⟩ ?_
   refine au (ag ?_)
   rw [decide_eq_false (by omega)]
   exact fun _ _ h=>h
  refine bc.move (fun _ _=>ep) ?_
  refine bc.move (fun _ _=>od (t:=false) (jm st1 (s:=17) rfl)) ?_
  rw [if_neg (by decide)]
  refine bc.move (fun _ _=>yj rfl) ?_
  obtain⟨k1,k2,S6,k3,k4,k5,k6⟩:=st1.pop
  exact next a1 v1 (fun y hy=>k3.subA y (hsh y hy)) ⟨S6,k1,k2,i3.trans k3.ez fun b hb=>.inl hb,k5,k6⟩
 |succ r ih=>
  intro i hi a v hsh hI
  refine EW hnx hne (by omega) hN (by omega) (hws i (by omega)) (by omega) (htb _ (by omega)) hb hbk hsh hI fun a' v' hsh' hI'=>?_
  have bc:BC Tryz.prog (TW Tryz.prog p tot (n0+i+1) 0 false 0 false (qu (n0+i+1) (i+1)) Gd):=TW.bc hnx qs
  refine bc.move (fun _ _=>pn) ?_
  exact ih (i+1) (by omega) a' v' hsh' hI'
noncomputable def Lu:Code:=match Tryz.f73.body with
 |some (.seq _ (.seq _ (.seq _ (.seq _ c))))=>c
 |_=>.skip
theorem HS(hnx:Nx Tryz.prog Gd)(hne:p.bw≠p.bs){S0:FS}{v0:VW}{a:Act}{v:VW}(hb:b.roundOf=none)(hbk:b.kind≠.early)(hsh:∀y,p.sh y→v.A y)(hI:NI v0 S0 (tD p x ld d N N) a v)
 (next:∀a' v',(∀y,p.sh y→v'.A y)→NI v0 S0 [(6,.eq (.int .i64 ((aU tot n:Nat):Int)))] a' v'→TW Tryz.prog p tot n 0 false 0 true (t9 n) Gd v' (b.atR a' (.code .ret::kk)) cs):
 TW Tryz.prog p tot n 0 false 0 false (qu n j) Gd v (b.atR a (.code Lu::kk)) cs:=by
 have bc:BC Tryz.prog (TW Tryz.prog p tot n 0 false 0 false (qu n j) Gd):=TW.bc hnx qs
 have bc1:BC Tryz.prog (TW Tryz.prog p tot n 0 false 0 true (t9 n) Gd):=TW.bc hnx Ag
 obtain⟨S,i1,i2,i3,i4,i5⟩:=hI
 have st:St (FC S v) (tD p x ld d N N) [] a v:=⟨i1,i2,S,bT.refl i3.dom,fun b hb=>.inl hb,i4,i5⟩
 have h8:a.tmps.getD 8 undef= .pointer (some p.stA):=jm st (s:=8) rfl
 refine bc.move (fun _ _=>ep) ?_
 refine bc.move (fun _ _=>kT) ?_
 rw [py hb]
 refine(Qt.call (dR:=[.pointer (some p.stA)]) (T:=TV v Tryz.prog p tot n 0 false 0 false (qu n j) Gd) (fR hnx qs) rfl rfl yV.f_wait (by kernel_rfl) rfl rfl (fun c hk=>?_) (hk:=hbk):Qt (TV v Tryz.prog p tot n 0 false 0 false (qu n j) Gd) v b cs 24 [] _ ((8,.pointer (some p.stA))::dR (tD p x ld d N N) a)) a (st.toQ.know h8) ⟨bY.refl _,hsh⟩
 refine FP hnx yV hne fun v1=>?_
 refine hk _ _ _ fun a1 q1 hv1=>?_
 have st1:St (FC S v) (tD p x ld d N N) [] a1 v1:=(st.rely hv1.1).ofQ ((AV.base.know h8).new) q1
 have h7:a1.tmps.getD 7 undef= .pointer (some p.xA):=jm st1 (s:=7) rfl
 rw [←py hb]
 refine bc1.move (fun _ _=>gW) ?_
 refine bc1.move (fun _ _=>ep) ?_
 refine bc1.move (fun _ _=>kT) ?_
 rw [py hb]
 refine(Qt.call (dR:=[.pointer (some p.xA)]) (T:=TV v1 Tryz.prog p tot n 0 false 0 true (t9 n) Gd) (fR hnx Ag) rfl rfl Tryz.func104 (by kernel_rfl) rfl rfl (fun c hk=>?_) (hk:=hbk):Qt (TV v1 Tryz.prog p tot n 0 false 0 true (t9 n) Gd) v1 b cs 24 [] _ ((7,.pointer (some p.xA))::dR (tD p x ld d N N) a1)) a1 (st1.toQ.know h7) ⟨bY.refl _,fun y hy=>st1.sh (hsh y hy)⟩
 refine Hr hnx fun v2=>?_
 refine hk _ _ _ ?_
 refine Qt.op (fR hnx Ag) rfl (uI rfl rfl) ?_ (hk:=hbk)
 intro a2 q2 hv2
 have st2:St (FC S v) (tD p x ld d N N) [] a2 v2:=(st1.rely hv2.1).ofQ (((AV.base.know h7).new).new) q2
 rw [←py hb]
 refine bc1.move (fun _ _=>gW) ?_
 obtain⟨k1,k2,S6,k3,k4,k5,k6⟩:=st2
 refine next a2 v2 (fun y hy=>k3.subA y (hsh y hy)) ⟨S6,k1,k2,i3.trans k3.ez fun b hb=>.inl hb,k5,fun s r hl=>?_⟩
 simp only [lk] at hl
 split at hl
 ·
  rename_i e;subst e;cases hl;exact q2.val 6 _ rfl
 ·
  cases hl
end
end Go.Proofs.YtmeojbemjkmebaaGreatDoor
set_option linter.unusedVariables false
set_option maxRecDepth 4000
set_option maxHeartbeats 1000000
namespace Go.Proofs.YtmeojbemjkmebaaGreatDoor
open K Go Go.Proofs Go.Conc
theorem K.cS.ofT{P:Program}{M:Md P}{f:Nat}{fn:Func}{C:Code}{az:List A}{Δ:List D}{X:Type}{R:X→A×List D}(N:Nat)(hf:P.funcs[f]? =some fn)(hb:fn.body=some C)(hN:fn.ntmps=N)(hn:Nat.ble az.length N=true)
 (h:∀kind,kind≠.early→∀S w0 a,St ⟨P,N,S,w0,aE Δ,none,[],M⟩ (entry 0 az) Δ a w0→∀T,M.ok T→∀cs,(∀e a' v',cN P fn (dN S w0 Δ R) e a' v'→mN T { (default:Frame) with fn:=f,kind:=kind } [] cs e a' v')→
  T w0 (Frame.atR { (default:Frame) with fn:=f,kind:=kind } a [.code C]) cs):cS M f az Δ R:=by
 subst hN
 intro kind hkind S w vs hd hall hO T hT cs hc
 have hst:St ⟨P,fn.ntmps,S,w,aE Δ,none,[],M⟩ (entry 0 az) Δ { tmps:=vs.toArray++Array.replicate (fn.ntmps - vs.toArray.size) undef,defers:=[] } w:=St.entry hn hd hall hO
 have he:Frame.enter P f vs.toArray kind=Frame.atR { (default:Frame) with fn:=f,kind:=kind } { tmps:=vs.toArray++Array.replicate (fn.ntmps - vs.toArray.size) undef,defers:=[] } [.code C]:=enter_at hf hb
 rw [he]
 refine h kind hkind S w _ hst T hT cs fun e a' v' q=>?_
 have fin:∀todo,(a'.defers=[]∧∃x,(∀v1,bY v' v1→(results fn a'.tmps).run P v1= .ok x v1∧il v1 v1 ((results fn a'.tmps).events P v1 #[]))∧dN S w Δ R (.returned x) v')→
  T v' { Frame.atR { (default:Frame) with fn:=f,kind:=kind } a' todo with mode:=.returning } cs:=fun todo ⟨q1,x,q2,q3⟩=>hc _ _ _ q3 rfl rfl ⟨rfl,q1,fn,hf,q2⟩
 cases e with
 |normal=>exact(M.bc T hT).move (fun _ _=>Ao rfl) (fin _ q)
 |ret=>exact⟨fun _ todo=>fin todo q,fun h=>by cases h⟩
 |panic chain=>exact fun todo=>hc _ _ _ q.2 rfl rfl ⟨rfl,q.1,fn,hf⟩
 |exit id=>exact q.elim
 |goto l=>exact q.elim
 |outgrown=>exact q.elim
def Dl(k:Nat)(x:dp)(ld:List (List Int))(d:Int):Nat→Option Nat
 |0=>some 0
 |n+1=>(Dl k x ld d n).bind fun s=>(su k x ld n d).bind fun c=>some (s+c)
def i7(k:Nat)(x:dp)(ld:List (List Int))(d:Int):Option Int:=
 if x.1.2.2.length≤1000 then(Dl k x ld d x.1.2.2.length).bind fun s=>if s < 9223372036854775808 then some (s:Int) else none else none
theorem EX{k:Nat}{x:dp}{ld:List (List Int)}{d:Int}{n0:Nat}:∀{n s:Nat},Dl k x ld d n=some s→(∀i,i < n→∃c,su k x ld i d=some c)∧aU (fun i=>if i < n0 then 0 else(su k x ld (i - n0:Nat) d).getD 0) (n0+n)=s:=by
 intro n
 induction n with
 |zero=>
  intro s h;cases h;refine⟨fun i hi=>absurd hi (Nat.not_lt_zero i),nD fun i hi=>?_⟩;rw [if_pos (by omega)]
 |succ n ih=>
  intro s h;obtain⟨s',h1,h⟩:=Option.bind_eq_some_iff.1 h;obtain⟨c,h2,h⟩:=Option.bind_eq_some_iff.1 h;cases h;obtain⟨g1,g2⟩:=ih h1;refine⟨fun i hi=>?_,?_⟩
  ·by_cases e:i=n
   ·subst e;exact⟨c,h2⟩
   ·exact g1 i (by omega)
  ·rw [show n0+(n+1)=n0+n+1 by omega];simp only [aU];rw [g2,if_neg (by omega),show n0+n - n0=n by omega,h2];rfl
theorem J2{c:Cx}{Γ':Ga}{Δ rest:List D}{S S':FS}{v v1 v':VW}{a':Act}{cf cb:Nat}(hX:∀b,¬c.X b)(h3:bT c.X c.S0 c.w0 S v)(h4:∀b,aE Δ b→c.X b∨c.w0.heap.size≤b)(hO:bb Δ S v)(hr:bY v v1)
 (hsub:∀b,aE rest b∨b=cf∨b=cb→aE Δ b) (i1:a'.defers=c.dfs) (i2:a'.tmps.size=c.N) (hE:bT (aE rest) S (ez ⟨v1.toWorld,fun b=>v1.A b∨b=cf∨b=cb,v1.Z⟩) S' (ez v')) (hO':bb rest S' v')
 (hs:∀s r,lk Γ' s=some r→r.holds S' v' (a'.tmps.getD s undef)):St c Γ' rest a' ⟨v'.toWorld,v'.A,c.w0.Z⟩:=by
 have hge:∀b,aE Δ b→c.w0.heap.size≤b:=fun b hb=>(h4 b hb).resolve_left (hX b)
 have hsz:c.w0.heap.size≤v'.heap.size:=Nat.le_trans h3.size (Nat.le_trans hr.size hE.size)
 have hZ:v.Z=c.w0.Z:=h3.Z
 have holdA1:∀b,v1.A b→c.w0.A b∨c.w0.heap.size≤b:=fun b hb=>by
  rcases hr.old b hb with h |h
  ·exact h3.oldA b h
  ·exact .inr (Nat.le_trans h3.size h)
 have holdA:∀b,v'.A b→c.w0.A b∨c.w0.heap.size≤b:=fun b hb=>by
  rcases hE.oldA b hb with(h |h) |h
  ·exact holdA1 b h
  ·exact .inr (hge b (hsub b (.inr h)))
  ·exact .inr (Nat.le_trans (Nat.le_trans h3.size hr.size) h)
 refine⟨i1,i2,S',⟨fun b hb=>hE.sub b (h3.sub b hb),fun b hb=>?_,hE.dom,hsz,fun b hb hA hx=>?_,hE.os.trans (hr.os.trans h3.os),hE.tape.trans (hr.tape.trans h3.tape),hE.output.trans (hr.output.trans h3.output),fun b hb=>hE.subA b (.inl (hr.sub b (h3.subA b hb))),holdA,rfl⟩,fun b hb=>h4 b (hsub b (.inl hb)),⟨hO'.holds,hO'.own,hO'.apart,fun b hb=>⟨(hO'.far b hb).1,fun hz=>?_⟩,hO'.sees,hO'.domA,fun b hb=>?_⟩,hs⟩
 ·
  rcases hE.new b hb with h |h |h
  ·exact h3.new b h
  ·exact .inr (.inl (Nat.le_trans (Nat.le_trans h3.size hr.size) h))
  ·exact .inr (.inl (hge b (hsub b (.inl h))))
 ·
  have k1:v.heap[b]? =c.w0.heap[b]? :=h3.keep b hb hA hx;have nA:¬v.A b:=fun h=>(h3.oldA b h).elim hA fun h=>by omega
  have nA1:¬v1.A b:=fun h=>(holdA1 b h).elim hA fun h=>by omega
  have nf:¬(aE rest b∨b=cf∨b=cb):=fun h=>by have:=hge b (hsub b h);omega
  have k2:v1.heap[b]? =v.heap[b]? :=hr.keep b (by have:=h3.size;omega) nA;have k3:v'.heap[b]? =v1.heap[b]? :=hE.keep b (by have:=h3.size;have:=hr.size;show b < v1.heap.size;omega) (fun h=>h.elim nA1 fun h=>nf (.inr h)) (fun h=>nf (.inl h));exact k3.trans (k2.trans k1)
 ·
  exact(hO.far b (hsub b (.inl hb))).2 (hZ▸hz)
 ·
  have:=hO.domZ b (hZ▸hb);exact Nat.lt_of_lt_of_le this (Nat.le_trans hr.size hE.size)
theorem K.JC.runD{c:Cx}{C:Code}{Γ Γ':Ga}{Δ Δ':List D}{a:Act}{v:VW}{T:Tq}{b:Frame}{k:List Item}{cs:List Frame}(hT:c.M.ok T)(hb:b.roundOf=c.rd)(st:St c Γ Δ a v)(h:JC c C (cr (fun a w=>St c Γ' Δ' a w) (fun _ _ _=>False)) Γ Δ)(hc:∀a' v',St c Γ' Δ' a' v'→T v' (b.atR a' k) cs):
 T v (b.atR a (.code C::k)) cs:=sM hT hb st h fun e a' v' q=>by
 cases e with
 |normal=>exact hc a' v' q
 |_=>exact q.elim
theorem Ol:∀w,(zeroValue 168).run Tryz.prog w= .ok (.agg #[.int .i64 0]) w:=fun w=>by kernel_rfl
theorem Qv:∀S w,(A.cells S w (.agg (.eq (.int .i64 (0:Int)))) (Value.cells (.agg #[.int .i64 0])).toList):=fun _ _=>⟨rfl,rfl⟩
theorem Oj:∀w,(zeroValue 174).run Tryz.prog w= .ok (.agg #[.int .u64 0,.int .u32 0]) w:=fun w=>by kernel_rfl
theorem Qu:∀S w,(A.cells S w (.agg (.pair (.eq (.int .u64 (0:Int))) (.eq (.int .u32 (0:Int))))) (Value.cells (.agg #[.int .u64 0,.int .u32 0])).toList):=fun _ _=>⟨[_],_,rfl,⟨rfl,rfl⟩,rfl,rfl⟩
noncomputable def QP (i:Nat):Code:=match i,Tryz.f73.body with
 |0,some (.seq r _)=>r
 |1,some (.seq _ (.seq r _))=>r
 |2,some (.seq _ (.seq _ (.seq r _)))=>r
 |3,some (.seq _ (.seq _ (.seq _ (.seq (.seq r _) _))))=>r
 |_,_=>.skip
section
variable {x:dp}{ld:List (List Int)}{d:Int}
@[reducible] noncomputable def AX (S:FS) (v:VW):Cx:=⟨Tryz.prog,24,S,v,aE [],none,[],jf Tryz.prog⟩
@[reducible] noncomputable def Tt (x:dp) (ld:List (List Int)) (d:Int):List A:=[.at bJ x,.rep (.arr 3 (.arr 5 (.int .i64))) ld,.eq (.int .i64 d)]
theorem PE{S:FS}{w0:VW}{T:Tq}(hT:(jf Tryz.prog).ok T){b:Frame}(hb:b.roundOf=none){kk:List Item}{cs:List Frame}{a:Act}{v:VW}(st:St (AX S w0) (entry 0 (Tt x ld d)) [] a v)
 (next:∀a' v',St (AX S w0) [(3,.at (.ptr bJ) x),(4,.at (.arr 3 (.arr 5 (.int .i64))) ld),(5,.at (.int .i64) d)] [] a' v'→T v' (b.atR a' kk) cs):T v (b.atR a (.code (QP 0)::kk)) cs:=by
 refine JC.runD (c:=AX S w0) hT hb st ?_ next
 show JC _ (.region _ _ false) _ _ _
 refine ab ?_
 refine aD rfl rfl rfl (oC rfl trivial) ⟨rfl,trivial⟩ fun b3=>?_
 refine aD rfl rfl rfl (oC rfl rfl) ⟨rfl,trivial⟩ fun b4=>?_
 refine aD rfl rfl rfl (oC rfl rfl) ⟨rfl,trivial⟩ fun b5=>?_
 refine dD rfl ?_
 refine bZ (lH (t:=.int .i64) (x:=d) [5] .int ⟨rfl,trivial⟩) ?_
 refine bZ (lH (t:=.arr 3 (.arr 5 (.int .i64))) (x:=ld) [4] .rep ⟨rfl,trivial⟩) ?_
 refine bZ (lH (t:=.ptr bJ) (x:=x) [3] .ptr ⟨rfl,trivial⟩) ?_
 refine au (ag ?_)
 exact kf (junk:=[]) (by repeat (first |exact trivial |refine⟨rfl,?_⟩)) lX
theorem MP{C:Code}{S:FS}{w0:VW}{T:Tq}(hT:(jf Tryz.prog).ok T){b:Frame}(hb:b.roundOf=none){kk:List Item}{cs:List Frame}{a:Act}{v:VW}(st:St (AX S w0) [(3,.at (.ptr bJ) x),(4,.at (.arr 3 (.arr 5 (.int .i64))) ld),(5,.at (.int .i64) d)] [] a v)
 (next:∀a' v' b7 b8,St (AX S w0) [(3,.at (.ptr bJ) x),(4,.at (.arr 3 (.arr 5 (.int .i64))) ld),(5,.at (.int .i64) d),(7,.eq (.pointer (some ⟨b7,0,none⟩))),(8,.eq (.pointer (some ⟨b8,0,none⟩)))] [.obj b8 174 (.agg (.pair (.eq (.int .u64 (0:Int))) (.eq (.int .u32 (0:Int))))),.obj b7 168 (.agg (.eq (.int .i64 (0:Int))))] a' v'→T v' (b.atR a' (.code C::kk)) cs):T v (b.atR a (.code (QP 1):: .code (.seq (QP 2) C)::kk)) cs:=by
 refine sM (c:=AX S w0) (Q:=cr (fun a w=>∃b7,St (AX S w0) [(3,.at (.ptr bJ) x),(4,.at (.arr 3 (.arr 5 (.int .i64))) ld),(5,.at (.int .i64) d),(7,.eq (.pointer (some ⟨b7,0,none⟩)))] [.obj b7 168 (.agg (.eq (.int .i64 (0:Int))))] a w) (fun _ _ _=>False)) hT hb st ?_ fun e a1 v1 q1=>?_
 ·
  show JC _ (.region _ _ false) _ _ _;refine ab ?_;refine aD rfl rfl rfl (bg rfl Ol Qv) trivial fun b7=>?_;refine au (ag ?_);exact fun a w st=>⟨b7,(kf (junk:=[]) (by repeat (first |exact trivial |refine⟨rfl,?_⟩)) (by simp)) a w st⟩
 cases e with
 |normal=>
  obtain⟨b7,st1⟩:=q1;refine hT.1.move (fun _ _=>ep) ?_;refine sM (c:=AX S w0) (Q:=cr (fun a w=>∃b8,St (AX S w0) [(3,.at (.ptr bJ) x),(4,.at (.arr 3 (.arr 5 (.int .i64))) ld),(5,.at (.int .i64) d),(7,.eq (.pointer (some ⟨b7,0,none⟩))),(8,.eq (.pointer (some ⟨b8,0,none⟩)))] [.obj b8 174 (.agg (.pair (.eq (.int .u64 (0:Int))) (.eq (.int .u32 (0:Int))))),.obj b7 168 (.agg (.eq (.int .i64 (0:Int))))] a w) (fun _ _ _=>False)) hT hb st1 ?_ fun e a2 v2 q2=>?_
  ·show JC _ (.region _ _ false) _ _ _;refine ab ?_;refine aD rfl rfl rfl (bg rfl Oj Qu) trivial fun b8=>?_;refine au (ag ?_);exact fun a w st=>⟨b8,(kf (junk:=[]) (by repeat (first |exact trivial |refine⟨rfl,?_⟩)) (by simp)) a w st⟩
  cases e with
  |normal=>obtain⟨b8,st2⟩:=q2;exact next a2 v2 b7 b8 st2
  |_=>exact q2.elim
 |_=>exact q1.elim
theorem PD{S:FS}{w0:VW}{T:Tq}(hT:(jf Tryz.prog).ok T){b:Frame}(hb:b.roundOf=none){kk:List Item}{cs:List Frame}{a:Act}{v:VW}{b7 b8:Nat}{Δ:List D}{p:Gp}(e7:p.xA=⟨b7,0,none⟩)(e8:p.stA=⟨b8,0,none⟩)(st:St (AX S w0) [(3,.at (.ptr bJ) x),(4,.at (.arr 3 (.arr 5 (.int .i64))) ld),(5,.at (.int .i64) d),(7,.eq (.pointer (some ⟨b7,0,none⟩))),(8,.eq (.pointer (some ⟨b8,0,none⟩)))] Δ a v)
 (next:∀a' v',St (AX S w0) (tD p x ld d x.1.2.2.length 0) Δ a' v'→T v' (b.atR a' kk) cs):T v (b.atR a (.code (QP 3)::kk)) cs:=by
 refine JC.runD (c:=AX S w0) hT hb st ?_ next
 rw [show tD p x ld d x.1.2.2.length 0=[(3,.at (.ptr bJ) x),(4,.at (.arr 3 (.arr 5 (.int .i64))) ld),(5,.at (.int .i64) d),(7,.eq (.pointer (some ⟨b7,0,none⟩))),(8,.eq (.pointer (some ⟨b8,0,none⟩))),(15,.eq (.int .i64 (x.1.2.2.length:Int))),(16,.eq (.int .i64 ((0:Nat):Int)))] by rw [←e7,←e8]]
 show JC _ (.region _ _ false) _ _ _
 refine ab ?_
 refine aF rfl (ao (t:=.ptr bJ) rfl pq rfl) ⟨rfl,trivial⟩ ?_
 refine aF rfl (dK rfl) ⟨rfl,trivial⟩ ?_
 refine aF rfl (aM 3 true rfl jY rfl) ⟨rfl,trivial⟩ ?_
 refine aF rfl (aM 1 false rfl cV rfl) ⟨rfl,trivial⟩ ?_
 refine aF rfl (ao (t:=.slice (.int .i64)) rfl bI rfl) ⟨rfl,trivial⟩ ?_
 refine aF rfl (kd rfl rfl Tryz.underlying22) ⟨rfl,trivial⟩ ?_
 refine eU rfl ?_
 refine au (ag ?_)
 exact kf (junk:=[]) (by repeat (first |exact trivial |refine⟨rfl,?_⟩)) (by simp)
@[reducible] def J3(b8 b7:Nat):Gp:=⟨b8,b7,174,168⟩
@[reducible] noncomputable def RO (b8 b7:Nat):List D:=[.obj b8 174 (.agg (.pair (.eq (.int .u64 (0:Int))) (.eq (.int .u32 (0:Int))))),.obj b7 168 (.agg (.eq (.int .i64 (0:Int))))]
theorem PH{S:FS}{v:VW}{b8 b7:Nat}(h:bb (RO b8 b7) S v):(J3 b8 b7).At v ⟨0,0,0,0⟩∧b8≠b7∧(∀y,(J3 b8 b7).sh y↔aE (RO b8 b7) y):=by
 obtain⟨c8,h1,h2⟩:=h.holds _ (List.mem_cons_self ..);obtain⟨c7,h3,h4⟩:=h.holds _ (List.mem_cons_of_mem _ (List.mem_cons_self ..));obtain⟨q1,q2,rfl,⟨rfl,_⟩,rfl,_⟩:=h2;obtain⟨rfl,_⟩:=h4;refine⟨⟨h1,h3⟩,fun e=>?_,fun y=>?_⟩
 ·exact(List.pairwise_cons.1 h.apart).1 _ (List.mem_cons_self ..) b8 rfl (by rw [e];rfl)
 ·constructor
  ·rintro(rfl |rfl)
   ·exact⟨_,List.mem_cons_self ..,rfl⟩
   ·exact⟨_,List.mem_cons_of_mem _ (List.mem_cons_self ..),rfl⟩
  ·rintro⟨D,hD,hy⟩;simp only [List.mem_cons,List.not_mem_nil,or_false] at hD;rcases hD with rfl |rfl
   ·simp only [D.foot,Option.some.injEq] at hy;exact .inl hy.symm
   ·simp only [D.foot,Option.some.injEq] at hy;exact .inr hy.symm
theorem xg{f:Nat→Nat}:∀r m,aU f m≤aU f (m+r)
 |0,_=>Nat.le_refl _
 |r+1,m=>Nat.le_trans (xg r m) (by rw [←Nat.add_assoc];simp only [aU];omega)
theorem J1{k s N:Nat}(hs:Dl k x ld d N=some s)(hN1:N≤1000)(hs2:s < 9223372036854775808){S:FS}{w0:VW}{T:Tq}(hT:(jf Tryz.prog).ok T){b:Frame}(hb:b.roundOf=none)(hbk:b.kind≠.early){kk:List Item}{cs:List Frame}{a:Act}{v:VW}{b7 b8:Nat}
 (st:St (AX S w0) (tD (J3 b8 b7) x ld d N 0) (RO b8 b7) a v) (next:∀a' v',St (AX S w0) [(6,.eq (.int .i64 (s:Int)))] [] a' v'→T v' (b.atR a' (.code .ret::kk)) cs):
 T v (b.atR a (.code (.block 0 (.loop ym)):: .code Lu::kk)) cs:=by
 obtain⟨i1,i2,S1,i3,i4,i5,i6⟩:=st
 refine hT.2 _ _ _ fun Gd hG v1 hr gs sl tt kq hL=>?_
 have hnx:Nx Tryz.prog Gd:=hG.next
 have hO1:=i5.rely i3.dom hr
 obtain⟨hat,hne,hsh⟩:=PH hO1
 have hn0:0 < gs.size:=(Array.getElem?_eq_some_iff.1 hL.head).1
 obtain⟨hone,hfu⟩:=EX (n0:=gs.size) hs
 refine Is (P:=Tryz.prog) (p:=J3 b8 b7) (tot:=fun i=>if i < gs.size then 0 else(su k x ld (i - gs.size:Nat) d).getD 0) hO1.domA hO1.domZ hat hne (fun y hy=>(hO1.far y ((hsh y).1 hy)).1) (fun i hi=>if_pos hi) hL ?_
 have bc:BC Tryz.prog (TW Tryz.prog (J3 b8 b7) (fun i=>if i < gs.size then 0 else(su k x ld (i - gs.size:Nat) d).getD 0) gs.size 0 false 0 false (qu gs.size 0) Gd):=TW.bc hnx qs
 refine bc.move (fun _ _=>oe) ?_
 refine bc.move (fun _ _=>yi) ?_
 have hI0:NI ⟨v1.toWorld,fun y=>v1.A y∨(J3 b8 b7).sh y,v1.Z⟩ S1 (tD (J3 b8 b7) x ld d N 0) a ⟨v1.toWorld,fun y=>v1.A y∨(J3 b8 b7).sh y,v1.Z⟩:=by
  refine⟨S1,i1,i2,bT.refl fun y hy=>Nat.lt_of_lt_of_le (i3.dom y hy) hr.size,⟨fun _ h=>by simp at h,fun _ h=>(fe h).elim,List.Pairwise.nil,fun _ h=>(fe h).elim,fun y hy h=>?_,fun y h=>?_,hO1.domZ⟩,fun s r hl=>A.mono (fun _ h=>h) (ky i3.dom i5.sees hr) r (i6 s r hl)⟩
  ·rcases h with h |h
   ·exact hO1.sees y hy h
   ·exact(hO1.own y ((hsh y).1 h)).1 hy
  ·rcases h with h |h
   ·exact hO1.domA y h
   ·exact(hO1.own y ((hsh y).1 h)).2
 refine EV (k:=k) (n0:=gs.size) hnx hne hN1 (fun i hi=>?_) hn0 (fun m hm=>?_) hb hbk (fun a1 v2 h1 hI1=>?_) N 0 (Nat.zero_add N) a _ (fun y hy=>.inr hy) hI0
 ·
  obtain⟨c,hc⟩:=hone i hi;show _=some (if gs.size+i < gs.size then 0 else _);rw [if_neg (by omega),show gs.size+i - gs.size=i by omega,hc];rfl
 ·
  refine Nat.lt_of_le_of_lt (xg (gs.size+N - m) m) ?_;rw [show m+(gs.size+N - m)=gs.size+N by omega,hfu];exact hs2
 ·
  refine HS hnx hne hb hbk h1 hI1 fun a3 v3 h3 hI3=>?_;refine TW.fin (Z0:=w0.Z) hT.1 hG ?_;obtain⟨S4,j1,j2,j3,j4,j5⟩:=hI3;rw [hfu] at j5;exact next a3 _ (J2 (c:=AX S w0) (cf:=b8) (cb:=b7) (fun y ⟨d,hd,_⟩=>by simp at hd) i3 i4 i5 hr (fun y hy=>hy.elim (fun h=>(fe h).elim) (hsh y).1) j1 j2 j3 j4 j5)
theorem sW(k:Nat)(r:Int)(h:i7 k x ld d=some r):cS (jf Tryz.prog) 73 (Tt x ld d) [] (fun _:Unit=>(bz [.eq (.int .i64 r)],[])):=by
 unfold i7 at h;split at h
 ·rename_i hlen;obtain⟨s,hs,h⟩:=Option.bind_eq_some_iff.1 h;split at h
  ·rename_i hs2;cases h;refine K.cS.ofT 24 Tryz.func73 rfl rfl rfl fun kind hk S w0 a st T hT cs hc=>?_;refine hT.1.move (fun _ _=>ep) ?_;refine PE hT rfl st fun a1 v1 st1=>?_;refine hT.1.move (fun _ _=>ep) ?_;refine MP hT rfl st1 fun a2 v2 b7 b8 st2=>?_;refine hT.1.move (fun _ _=>ep) ?_;refine hT.1.move (fun _ _=>ep) ?_;refine PD (p:=J3 b8 b7) hT rfl rfl rfl st2 fun a3 v3 st3=>?_;refine J1 hs hlen hs2 hT rfl hk st3 fun a4 v4 st4=>?_;refine sM (c:=AX S w0) hT rfl st4 ?_ hc;refine aB ?_;exact iU () [_] ⟨rfl,trivial⟩ rfl
  ·cases h
 ·cases h
end
end Go.Proofs.YtmeojbemjkmebaaGreatDoor
set_option linter.unusedVariables false
set_option maxRecDepth 4000
set_option maxHeartbeats 1000000
namespace Go.Proofs.YtmeojbemjkmebaaGreatDoor
open K Go Go.Proofs
@[reducible] def ax:Ty:=.agg (.pair aj .val)
theorem tN{S:FS}{w:World}{t:a8}{m:Value}{v:Value}(h:(A.at ax (t,m)).holds S w v):(A.at bJ (t,())).holds S w v:=by
 obtain⟨b,off,c,T,fz,e,hb,hc,c1,c2,e2,h1,h2,h3⟩:=h;exact⟨b,off,c,T,fz,e,hb,hc,c1,c2,e2,h1,m,h2,h3⟩
theorem NN{t:a8}{m:Value}:AE (.at ax (t,m)) (.at bJ (t,())):=fun S w cs h=>by
 obtain⟨b,off,c,T,fz,e,hb,hc,c1,c2,e2,h1,h2,h3⟩:=h
 exact⟨b,off,c,T,fz,e,hb,hc,c1,c2,e2,h1,m,h2,h3⟩
theorem On:∀w,(zeroValue 146).run Tryz.prog w= .ok (.agg #[(.int .i64 (0)),(.slice none 0 0),(.slice none 0 0),(.map none)]) w:=fun w=>by kernel_rfl
theorem OK:yK Tryz.prog 146 #[(0,3),(3,1)]:=⟨_,Tryz.underlying146,fun _=>by kernel_rfl⟩
theorem NK:∀S w,(A.cells S w (.pair (.agg (.pair (.eq (.int .i64 (0:Int))) (.pair (.eq (.slice none 0 0)) (.eq (.slice none 0 0))))) (.eq (.map none))) (Value.cells (.agg #[(.int .i64 (0)),(.slice none 0 0),(.slice none 0 0),(.map none)])).toList):=fun _ _=>⟨[_,_,_],_,rfl,⟨[_],_,rfl,⟨rfl,rfl⟩,⟨[_],_,rfl,⟨rfl,rfl⟩,⟨rfl,rfl⟩⟩⟩,⟨rfl,rfl⟩⟩
theorem ip(a0:a8):cm Tryz.prog 44 [.rep aj a0] [] (fun z:Nat=>(bz [.at ax (a0,.map (some z))],[.raw z (.map #[] 0)])):=by
 refine cm.of 7 Tryz.func44 rfl Tryz.ntmps44 rfl fun S w0=>?_;refine ae ?_;refine ab ?_;refine aD rfl rfl rfl (oC rfl rfl) ⟨rfl,trivial⟩ fun b1=>?_;refine dD rfl ?_;refine au ?_;refine ag ?_;show JC _ _ _ _ _;refine ae ?_;refine ab ?_;refine bV rfl rfl rfl (ap rfl dy (yM) rfl) ⟨rfl,trivial⟩ ?_;refine aD rfl rfl rfl (EB rfl) trivial fun z=>?_;refine aF rfl (cR [(0,.tmp 3,_),(1,.tmp 4,_)] rfl OK On NK (iw ⟨rfl,rfl,trivial⟩) rfl) ⟨rfl,rfl,trivial⟩ ?_;refine aD rfl rfl rfl (oC rfl trivial) ⟨rfl,trivial⟩ fun b2=>?_;refine c9 rfl rfl ?_;refine au ?_;refine ag ?_;show JC _ _ _ _ _;refine eA (lH (t:=ax) (x:=(a0,.map (some z))) [2] (.agg (.pair .rep (.val rfl))) ⟨rfl,trivial⟩) ?_;refine aB ?_;exact aN z [_] 1 ⟨rfl,trivial⟩ rfl
theorem mz(k:Nat)(a0:dp)(a1:List (List Int))(a2:Int)(r:Int)(h:i7 k a0 a1 a2=some r):cS (jf Tryz.prog) 73 [.at bJ a0,.rep (.arr 3 (.arr 5 (.int .i64))) a1,.eq (.int .i64 a2)] [] (fun _:Unit=>(bz [.eq (.int .i64 r)],[])):=sW k r h
def gZ(l:List Int):List Value:=l.map fun n=>.int .i64 n
def lp(l:List (List Int)):Value:=.agg (l.flatMap gZ).toArray
def JF(l:List (List Int)):Prop:=l.length=3∧∀r∈l,r.length=5∧∀n∈r, -1≤n∧n < 8
instance (l:List (List Int)):Decidable (JF l):=by unfold JF;infer_instance
theorem zm:∀{l l':List Int},gZ l=gZ l'→l=l'
 |[],[],_=>rfl
 |[],_::_,h=>by cases h
 |_::_,[],h=>by cases h
 |a::l,b::l',h=>by
  have h:Value.int .i64 a::gZ l=Value.int .i64 b::gZ l':=h
  simp only [List.cons.injEq,Value.int.injEq,true_and] at h
  rw [h.1,zm h.2]
theorem lV(l:List Int):(gZ l).length=l.length:=by simp [gZ]
theorem wU{l l':List (List Int)}(h1:JF l)(h2:JF l')(h:lp l=lp l'):l=l':=by
 have key:∀{l l':List (List Int)},(∀r∈l,r.length=5)→(∀r∈l',r.length=5)→l.flatMap gZ=l'.flatMap gZ→l=l':=by
  intro l
  induction l with
  |nil=>intro l' _ g h;cases l' with
   |nil=>rfl
   |cons r l'=>exfalso;have e:=congrArg List.length h;have:=g r (by simp);simp [List.flatMap_cons,lV,this] at e;omega
  |cons r l ih=>intro l' g0 g h;cases l' with
   |nil=>exfalso;have e:=congrArg List.length h;have:=g0 r (by simp);simp [List.flatMap_cons,lV,this] at e
   |cons r' l'=>
    simp only [List.flatMap_cons] at h;obtain⟨e1,e2⟩:=List.append_inj h (by rw [lV,lV,g0 r (by simp),g r' (by simp)]);rw [zm e1,ih (fun x hx=>g0 x (by simp [hx])) (fun x hx=>g x (by simp [hx])) e2]
 simp only [lp,Value.agg.injEq] at h;exact key (fun r hr=>(h1.2 r hr).1) (fun r hr=>(h2.2 r hr).1) (by simpa using congrArg Array.toList h)
theorem vy{S:FS}{w:World}{u:Value}{l:List (List Int)}(h:(A.rep (.arr 3 (.arr 5 (.int .i64))) l).holds S w u):u=lp l:=by
 obtain⟨cs,⟨_,h1⟩,h2⟩:=h
 have row:∀{r:List Int} {cs:List Value},cG (rd S w (.int .i64)) r cs→cs=gZ r:=by
  intro r
  induction r with
  |nil=>intro cs h;exact h
  |cons n r ih=>rintro cs ⟨c1,c2,rfl,h1,h2⟩;have h1:c1=[.int .i64 n]:=h1;rw [h1,ih h2];rfl
 have key:∀{l:List (List Int)} {cs:List Value},cG (rd S w (.arr 5 (.int .i64))) l cs→cs=l.flatMap gZ:=by
  intro l
  induction l with
  |nil=>intro cs h;exact h
  |cons r l ih=>rintro cs ⟨c1,c2,rfl,h1,h2⟩;rw [row h1.2,ih h2];rfl
 rw [h2,key h1];rfl
theorem wT(l:List (List Int)):nI (lp l)=true:=by
 have row:∀r:List Int,(gZ r).all wi=true:=fun r=>by
  induction r with
  |nil=>rfl
  |cons n r ih=>exact ih
 show((l.flatMap gZ).toArray.toList.all wi)=true
 induction l with
 |nil=>rfl
 |cons r l ih=>simp only [List.flatMap_cons,List.all_append,row,Bool.true_and];exact ih
theorem LN:Tryz.prog.types.size+2≤10000:=Nat.le_of_ble_eq_true (by kernel_rfl)
theorem D9:85 < Tryz.prog.types.size:=Nat.lt_of_lt_of_le (Nat.lt_succ_self 85) (Nat.le_of_ble_eq_true (by kernel_rfl))
theorem Ah:WideMaps.KeyLaw Tryz.prog 85:=deep_law_gate (by kernel_rfl) LN (Nat.lt_of_lt_of_le (Nat.lt_succ_self 85) (Nat.le_of_ble_eq_true (by kernel_rfl))) (by kernel_rfl) (by kernel_rfl)
theorem FO{n:Int}(h1: -1≤n)(h2:n < 8):(Lit.int .i64 n).wf=true:=by
 simp only [Lit.wf,Bool.and_eq_true,decide_eq_true_eq];exact⟨Int.le_trans (by decide) h1,Int.le_trans (Int.le_of_lt h2) (by decide)⟩
theorem yg(d:Nat){l:List Int}(h5:l.length=5)(hw:∀n∈l, -1≤n∧n < 8):Tryz.prog.keyLits (d+2) 83 (gZ l)=some (l.map fun n=>.int .i64 n):=by
 match l,h5,hw with
 |[a,b,c,e,f],_,hw=>
  have hint:∀(n:Int),n∈[a,b,c,e,f]→Tryz.prog.keyLits (d+1) 3 [.int .i64 n]=some [.int .i64 n]:=fun n h=>by
   have:=hw n h;simp only [Program.keyLits,Tryz.underlying3,FO this.1 this.2,and_self,if_true]
  have hc:Tryz.prog.cellsOf 83=5:=by kernel_rfl
  have hc3:Tryz.prog.cellsOf 3=1:=by kernel_rfl
  have hr:List.range 5=[0,1,2,3,4]:=by decide
  unfold Program.keyLits;simp [gZ,Tryz.underlying83,hc,hc3,hr,hint a (by simp),hint b (by simp),hint c (by simp),hint e (by simp),hint f (by simp)]
theorem Hy{l:List (List Int)}(h:JF l):∃lt,keyOf Tryz.prog 85 (lp l)=some lt:=by
 obtain⟨h3,hr⟩:=h;match l,h3,hr with
 |[r1,r2,r3],_,hr=>
  obtain⟨d,hd⟩:∃d,Tryz.prog.types.size+1=d+3:=⟨Tryz.prog.types.size - 2,by have:=D9;omega⟩;obtain⟨l1,g1⟩:=hr r1 (by simp);obtain⟨l2,g2⟩:=hr r2 (by simp);obtain⟨l3,g3⟩:=hr r3 (by simp);have k1:=yg d l1 g1;have k2:=yg d l2 g2;have k3:=yg d l3 g3;have n1:=lV r1;have n2:=lV r2;have n3:=lV r3;rw [l1] at n1;rw [l2] at n2;rw [l3] at n3;have hc:Tryz.prog.cellsOf 85=15:=by kernel_rfl
  have hc5:Tryz.prog.cellsOf 83=5:=by kernel_rfl
  have hk:Tryz.prog.keyType 85=true:=by kernel_rfl
  have hr3:List.range 3=[0,1,2]:=by decide
  have e0':(gZ r1++(gZ r2++gZ r3)).take 5=gZ r1:=by rw [←n1,List.take_left]
  have e1:((gZ r1++(gZ r2++gZ r3)).drop 5).take 5=gZ r2:=by rw [←n1,List.drop_left,n1,←n2,List.take_left]
  have e2:((gZ r1++(gZ r2++gZ r3)).drop 10).take 5=gZ r3:=by
   rw [show 10=(gZ r1++gZ r2).length by simp [n1,n2],←List.append_assoc,List.drop_left,←n3,List.take_length]
  have hL:Tryz.prog.keyLits (Tryz.prog.types.size+1) 85 (lp [r1,r2,r3]).cells.toList=some (r1.map (fun n=>.int .i64 n)++(r2.map (fun n=>.int .i64 n)++r3.map (fun n=>.int .i64 n))):=by
   rw [hd];have hcs:(lp [r1,r2,r3]).cells.toList=gZ r1++(gZ r2++gZ r3):=by simp [lp,Value.cells]
   have hlen:(gZ r1++(gZ r2++gZ r3)).length=15:=by simp [n1,n2,n3]
   rw [hcs];generalize gZ r1++(gZ r2++gZ r3)=cs at *;unfold Program.keyLits;simp [Tryz.underlying85,hc,hlen,hc5,hr3,e0',e1,e2,k1,k2,k3]
  refine⟨.string (keyBytes (r1.map (fun n=>.int .i64 n)++(r2.map (fun n=>.int .i64 n)++r3.map (fun n=>.int .i64 n)))),?_⟩;unfold keyOf;rw [Tryz.underlying85];have hf:(lp [r1,r2,r3]).formed Tryz.prog 85=true:=by simp [lp,Value.formed,Tryz.underlying85,hc,n1,n2,n3]
  simp only [hk,hf,Bool.and_self,if_true,hL,Option.map_some]
def dC(k:Nat)(a0:a8)(a1:List (List Int)):Option Int:=
 (cp (JF a1)).bind fun _=>(i7 k (a0,()) a1 0).bind fun n=>some n
def bN(k:Nat)(a0:a8):Obj→Prop:=mh Tryz.prog 85 fun kv n=>∃l,JF l∧kv=lp l∧dC k a0 l=some n
theorem nu{k:Nat}{a0:a8}:bN k a0 (.map #[] 0):=mh.nil
theorem EN{k:Nat}{a0:a8}{kv:Value}:∀n n':Int,(∃l,JF l∧kv=lp l∧dC k a0 l=some n)→(∃l,JF l∧kv=lp l∧dC k a0 l=some n')→n=n':=by
 rintro n n' ⟨p,h1,h2,h3⟩ ⟨q,h4,h5,h6⟩;obtain rfl:=wU h1 h4 (h2.symm.trans h5);exact Option.some.inj (h3.symm.trans h6)
theorem LI:∀w,(zeroValue 3).run Tryz.prog w= .ok (.int .i64 0) w:=fun w=>by kernel_rfl
def OH(l:List Int):Prop:=l.length=5∧∀n∈l, -1≤n∧n < 8
instance (l:List Int):Decidable (OH l):=by unfold OH;infer_instance
end Go.Proofs.YtmeojbemjkmebaaGreatDoor
set_option linter.unusedVariables false
set_option maxRecDepth 4000
namespace Go.Proofs.YtmeojbemjkmebaaGreatDoor
open K Go Go.Proofs
theorem K.SE.finE{c:Cx}{Γ Γ':Ga}(E:List D)(hs:IR Γ' Γ):SE c Γ E Γ' E:=aV [] E [] hs rfl
theorem uH{vs:Nat→Value}:∀{l:List (List Int)} {j:Nat},(dH vs j l).length=l.length
 |[],_=>rfl
 |_::l,j=>by simp only [dH,List.length_cons,uH (l:=l)]
theorem vz{vs:Nat→Value}{l:List (List Int)}{x:List Int}{v:Value}(h:bO (List.length l+List.length [x])):bO (List.length (dH vs 0 l)+List.length [v]):=by
 rw [uH];exact h
section
variable {P:Program}
theorem K.JO.lenLL{c:Cx}{ops:Array Oper}{o:Oper}{l:List Oper}{Q:Exit→Act→VW→Prop}{Γ:Ga}{pre:List D}{T:TypeId}{z:Value×(Nat→Value)}{ls:List (List Int)}{x:Operand}{d:Nat}{Tx e:TypeId}{cl:Call}(hg:o.guard=none)(hd:o.dst=some d)(hdN:Nat.blt d c.N=true)
 (ho:o.op= .call cl) (hc:cl={ callee:=.builtin .len,args:= #[x],argTypes:= #[Tx] }) (hT:c.P.underlying Tx=some (.slice e)) (hh:f7 Γ [(x,.eq z.1)])
 (h:JO c ops l Q ((d,.eq (.int .i64 (ls.length:Int)))::Γ) (pre++dB T z ls)):JO c ops (o::l) Q Γ (pre++dB T z ls):=by
 refine bZ (eu (Δ':=[.sl z.1 T .val (dH z.2 0 ls)]++(pre++jS z.2 0 ls)) List.perm_middle) ?_
 refine bG (F:=pre++jS z.2 0 ls) (fun _ _ _=>ay hg _) hd hdN (cO (M:=c.M) (t:=.val) (l:=dH z.2 0 ls) (TE:=T) ho hc hT) hh fun _=>?_
 have hp:(D.sl z.1 T .val (dH z.2 0 ls)::(pre++jS z.2 0 ls)).Perm (pre++dB T z ls):=List.perm_middle.symm
 rw [uH]
 exact bZ (eu hp) h
end
theorem si(k:Nat)(a0:(List (List Int)))(r:(List (List Int)))(h:je k a0=some r):
 cm Tryz.prog 28 [.rep (.slice (.slice (.int .i64))) a0] [] (fun z:Value×(Nat→Value)=>(bz [.eq z.1],dB 22 z r)):=by
 unfold je at h
 replace h:=be h
 refine cm.of 20 Tryz.func28 rfl Tryz.ntmps28 rfl fun S w0=>?_
 refine ae ?_
 refine ab ?_
 refine dD rfl ?_
 refine au ?_
 refine ag ?_
 show JC _ _ _ _ _
 refine ae ?_
 refine ab ?_
 refine dD rfl ?_
 refine au ?_
 refine ag ?_
 show JC _ _ _ _ _
 refine aS (Z:=Value×(Nat→Value)) (α:=(List (List Int))) (fun z2 x1=>[(3,.eq z2.1)]) (fun z2 x1=>dB 22 z2 x1) h (fun K h=>?_) (fun z2 x1 h=>?_)
 ·
  refine ae ?_;refine ab ?_;refine dD rfl ?_;refine au ?_;refine ag ?_;show JC _ _ _ _ _;refine an ?_;refine eA (SE.nil 22 .val) ?_;refine eA (sJ (n:=0) (F:=[])) ?_;refine aJ (Z:=Value×(Nat→Value)) (α:=(List (List Int))×Int) (fun z4 y3=>[(0,.rep (.slice (.slice (.int .i64))) a0),(3,.eq z4.1),(4,.eq (.int .i64 y3.2))]) (fun z4 y3=>dB 22 z4 y3.1) (eX k a0) k (.slice none 0 0,fun _=>.slice none 0 0) (([]:(List (List Int))),(0:Int)) (fun _=>rfl) h (SE.finE (dB 22 (.slice none 0 0,fun _=>.slice none 0 0) []) ⟨rfl,rfl,rfl,trivial⟩) (fun n z4 y3 h=>?_);unfold eX at h;refine ae ?_;refine ae ?_;refine ab ?_;refine aC rfl rfl ?_;refine aC rfl rfl ?_;refine aF rfl (kd rfl rfl Tryz.underlying28) ⟨rfl,trivial⟩ ?_;refine aF rfl (bv rfl) ⟨rfl,rfl,trivial⟩ ?_;refine au ?_;refine ag ?_;show JC _ _ _ _ _;refine bC rfl (fun hb=>?_) (fun hb=>?_)
  ·replace h:=cI (nG hb) h;refine aY ?_;refine ag ?_;show JC _ _ _ _ _;refine ae ?_;refine an ?_;refine ab ?_;refine aC rfl rfl ?_;refine aC rfl rfl ?_;refine aC rfl rfl ?_;obtain⟨x5,ex5,h⟩:=aa h;refine aF rfl (aI (t:=(.slice (.int .i64))) rfl Tryz.underlying28 bI ex5) ⟨rfl,rfl,trivial⟩ ?_;refine aF rfl (ao (t:=(.slice (.int .i64))) rfl bI rfl) ⟨rfl,trivial⟩ ?_;obtain⟨r6,er6,h⟩:=aa h;have cr6:=dj k x5 r6 er6;refine aD rfl rfl rfl (ar [.tmp 15] rfl rfl yq rfl cr6) ⟨rfl,trivial⟩ fun v7=>?_;refine fg fun hv=>?_;refine aF rfl (bi (t:=.val) [(.tmp 16,_)] [v7] rfl rfl nR (.cons hv (.val hv) .nil) rfl rfl) ⟨rfl,trivial⟩ ?_;obtain⟨u8,eu8,h⟩:=aa h;refine bZ (eu (Δ':=.sl z4.1 22 .val (dH z4.2 0 y3.1):: .sl v7 3 (.int .i64) r6::jS z4.2 0 y3.1) (List.Perm.swap _ _ _)) ?_;refine dz rfl rfl rfl (bQ rfl rfl nR (vz (av eu8))) ⟨rfl,rfl,trivial⟩ fun v9=>?_;refine c9 rfl rfl ?_;refine au ?_;refine aK ?_;refine ag ?_;refine bh (eu (Δ':=.sl v7 3 (.int .i64) r6:: .sl v9 22 .val (dH z4.2 0 y3.1++[v7])::([]++jS z4.2 0 y3.1)) (List.Perm.swap _ _ _)) ?_;refine bh (qg (pre:=[])) ?_;show JC _ _ _ _ _;refine ab ?_;refine aC rfl rfl ?_;obtain⟨x10,ex10,h⟩:=aa h;refine aF rfl (bf rfl ex10) ⟨rfl,rfl,trivial⟩ ?_;refine c9 rfl rfl ?_;refine au ?_;refine ag ?_;exact fq ((v9,j8 z4.2 y3.1.length v7),(y3.1++[r6],x10)) h (SE.finE (dB 22 (v9,j8 z4.2 y3.1.length v7) (y3.1++[r6])) ⟨rfl,rfl,rfl,trivial⟩)
  ·replace h:=bS (mW hb) h;refine dk ?_;refine aP ?_;refine aP ?_;refine bL ?_;refine ag ?_;exact fq (z4,y3.1) h (SE.finE (dB 22 z4 y3.1) ⟨rfl,trivial⟩)
 ·
  refine ae ?_;refine ab ?_;refine aC rfl rfl ?_;refine c9 rfl rfl ?_;refine au ?_;refine ag ?_;show JC _ _ _ _ _;refine aB ?_;obtain rfl:=Option.some.inj h;exact aN z2 [.eq z2.1] (dB 22 z2 x1).length ⟨rfl,trivial⟩ (by rw [List.take_length])
end Go.Proofs.YtmeojbemjkmebaaGreatDoor
