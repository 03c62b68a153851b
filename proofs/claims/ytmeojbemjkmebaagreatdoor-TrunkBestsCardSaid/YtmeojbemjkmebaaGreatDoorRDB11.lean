import Derived.Test.YtmeojbemjkmebaaGreatDoorChecked
import Derived.Test.YtmeojbemjkmebaaGreatDoorRDB8
import Derived.Test.YtmeojbemjkmebaaGreatDoorRDF1
import Derived.Test.YtmeojbemjkmebaaGreatDoorRDB5
set_option linter.unusedSimpArgs false
set_option linter.unusedVariables false
set_option maxRecDepth 20000
set_option maxHeartbeats 4000000
namespace Go.Proofs.YtmeojbemjkmebaaGreatDoor
open K Go Go.Proofs Go.Conc Go.Conc.Lib
abbrev Ny:Go.Conc.Lib.WgLink:={ add:=99,done:=101,wait:=103,relMerge:=120,disable:=121,enable:=122,inBubble:=123,associate:=124,fatal:=125,uOr:=126,uAdd:=127,raceRead:=128,uLoad:=129,uStore:=130,disassociate:=131,semrelease:=132,acquire:=134,isAssociated:=135,uCas:=136,raceWrite:=137,semacquire:=138,orU64:=150,addU64:=151,loadU64:=152,storeU64:=153,casU64:=154,tWgP:=200,tUP:=180,tAssoc:=202,tWg:=174,tAU:=171,tU64:=64,tUint:=179,tU32:=172,tPU32:=206,tPAU:=240,tPU64:=242,tNoCopy:=169,tANoCopy:=165,tAlign64:=166 }
theorem zB:Go.Conc.Lib.WgLib Tryz.prog Ny:=
 ⟨Tryz.func99,Tryz.func101,Tryz.func103,Tryz.func120,Tryz.func121,Tryz.func122,Tryz.func123,Tryz.func124,Tryz.func125,Tryz.func126,Tryz.func127,Tryz.func128,Tryz.func129,Tryz.func130,Tryz.func131,Tryz.func132,Tryz.func134,Tryz.func135,Tryz.func136,Tryz.func137,Tryz.func138,Tryz.func150,Tryz.func151,Tryz.func152,Tryz.func153,Tryz.func154,Tryz.underlying200,Tryz.runUnderlying200,Tryz.sizeOf200,Tryz.isAgg200,Tryz.zeroValue200,Tryz.underlying180,Tryz.runUnderlying180,Tryz.sizeOf180,Tryz.isAgg180,Tryz.zeroValue180,Tryz.underlying202,Tryz.runUnderlying202,Tryz.sizeOf202,Tryz.isAgg202,Tryz.zeroValue202,Tryz.underlying174,Tryz.runUnderlying174,Tryz.sizeOf174,Tryz.isAgg174,Tryz.zeroValue174,Tryz.underlying171,Tryz.runUnderlying171,Tryz.sizeOf171,Tryz.isAgg171,Tryz.zeroValue171,Tryz.underlying64,Tryz.runUnderlying64,Tryz.sizeOf64,Tryz.isAgg64,Tryz.zeroValue64,Tryz.underlying179,Tryz.runUnderlying179,Tryz.sizeOf179,Tryz.isAgg179,Tryz.zeroValue179,Tryz.underlying172,Tryz.runUnderlying172,Tryz.sizeOf172,Tryz.isAgg172,Tryz.zeroValue172,Tryz.underlying206,Tryz.runUnderlying206,Tryz.sizeOf206,Tryz.isAgg206,Tryz.zeroValue206,Tryz.underlying240,Tryz.runUnderlying240,Tryz.sizeOf240,Tryz.isAgg240,Tryz.zeroValue240,Tryz.underlying242,Tryz.runUnderlying242,Tryz.sizeOf242,Tryz.isAgg242,Tryz.zeroValue242,Tryz.underlying0,Tryz.runUnderlying0,Tryz.sizeOf0,Tryz.isAgg0,Tryz.zeroValue0,Tryz.underlying3,Tryz.runUnderlying3,Tryz.sizeOf3,Tryz.isAgg3,Tryz.zeroValue3,Tryz.underlying4,Tryz.runUnderlying4,Tryz.sizeOf4,Tryz.isAgg4,Tryz.zeroValue4,Tryz.underlying9,Tryz.runUnderlying9,Tryz.sizeOf9,Tryz.isAgg9,Tryz.zeroValue9,Tryz.underlying20,Tryz.runUnderlying20,Tryz.sizeOf20,Tryz.isAgg20,Tryz.zeroValue20,Tryz.underlying21,Tryz.runUnderlying21,Tryz.sizeOf21,Tryz.isAgg21,Tryz.zeroValue21,(by kernel_rfl),(by kernel_rfl)⟩
section
variable {p:Gp}{tot:Nat}{c:Frame}{cs:List Frame}{v0 v:VW}
theorem L8(hne:p.bw≠p.bs){m:Nat}(hm:m < tot)(hk:∀v' u,WV v0 Tryz.prog p tot (.work (m+1)) v' (c.finish u) cs):
 Qt (WV v0 Tryz.prog p tot (.work m)) v (base 102) (c::cs) 10 [] [.code (Tryz.f102.body.getD .skip)] (ent 0 [.pointer (some p.xA),.int .i64 1]):=by
 have hT:Mv Tryz.prog p.Live false (WV v0 Tryz.prog p tot (.work m)):=Ju (by simp)
 refine qb ?_
 refine Qt.op hT rfl (eh (k:=0) rfl (dA (n:=0) Tryz.underlying168 rfl Tryz.sizeOf2) rfl) ?_
 refine qb ?_
 refine RY (d:=9) (s:=.work m) (u:=fun q=>.int .i64 ((q.x+1:Nat):Int)) (W:=fun w q=>w.setCell p.xA (.int .i64 ((q.x+1:Nat):Int))) (by simp) (fun e=>by cases e) (fun a ha w q hat hp=>?_) (fun w q hat _=>?_) fun v' q hp=>?_
 ·
  have hx:q.x+1 < 9223372036854775808:=hp hm
  have hw:IntKind.i64.wrap ((q.x:Int)+1)=((q.x+1:Nat):Int):=by
   rw [IntKind.wrap_i64];omega
  refine(stepG_add_atomic rfl (ay rfl _) (by exact fun h=>nomatch h) rfl Tryz.func133 (by kernel_rfl) (by kernel_rfl) (by kernel_rfl) .i64 (by kernel_rfl) (ad:=p.xA) (ha.ev rfl) (ha.ev rfl) hat.cx hat.fx).trans ?_;rw [hw];simp only [Ph.evs,if_pos hm];rfl
 ·
  simp only [Ph.eff,if_pos hm];exact Gp.Eff.x hne hat
 simp only [Ph.nx,if_pos hm]
 replace hT:Mv Tryz.prog p.Live false (WV v0 Tryz.prog p tot (.work (m+1))):=Ju (by simp)
 refine qb ?_
 exact Qt.ret hT (gK hT rfl Tryz.func102 rfl rfl (hk _ _))
end
section
variable {p:Gp}{tot:Nat→Nat}{n:Nat}{Gd:Machine→Trace→Prop}{c:Frame}{cs:List Frame}{v0 v:VW}
theorem OX{sg:Nat→Ph}(h:uD n sg):am n tot sg=aS tot n:=by
 unfold am;exact kG fun i hi=>by rw [h i hi];rfl
theorem Is(hnx:Nx Tryz.prog Gd)(hk:∀v',TV v0 Tryz.prog p tot n 0 false 0 true (uD n) Gd v' (c.finish (.int .i64 ((aS tot n:Nat):Int))) cs):
 Qt (TV v0 Tryz.prog p tot n 0 false 0 true (uD n) Gd) v (base 104) (c::cs) 7 [] [.code (Tryz.f104.body.getD .skip)] (ent 0 [.pointer (some p.xA)]):=by
 have hT:=fY (v0:=v0) (p:=p) (md:=0) (rg:=false) (pd:=0) (jn:=true) hnx (AM (tot:=tot) (n:=n))
 refine qb ?_
 refine Qt.op hT rfl (eh (k:=0) rfl (dA (n:=0) Tryz.underlying168 rfl Tryz.sizeOf2) rfl) ?_
 refine Bl (d:=6) hnx AM (es:=fun _=> #[uR p.xA]) (u:=fun q=>.int .i64 ((aS tot n:Nat):Int)) (W:=fun w q=>w) (e:=fun q=>q) (rg':=fun _=>false) (pd':=fun _=>0) (Iv':=fun q=>uD n)
  (fun q=>uV (.inr rfl)) (fun a ha w q hat hb=>?_) (fun w q hat=>Gp.Eff.refl hat) (fun q sg hb hi=>⟨hb,hi⟩) fun v' q hb=>?_
 ·
  obtain⟨sg,hb,hi⟩:=hb;have hc0:=hat.cx;rw [hb.x,OX hi] at hc0;exact(stepG_load_atomic rfl (ay rfl _) (by exact fun h=>nomatch h) rfl Tryz.func139 (by kernel_rfl) (by kernel_rfl) (by kernel_rfl) .i64 (by kernel_rfl) (ad:=p.xA) (ha.ev rfl) hc0).trans rfl
 refine qb ?_
 exact Qt.ret hT (gK hT rfl Tryz.func104 rfl rfl (hk _))
end
end Go.Proofs.YtmeojbemjkmebaaGreatDoor
set_option linter.unusedVariables false
set_option maxRecDepth 4000
set_option maxHeartbeats 1000000
namespace Go.Proofs.YtmeojbemjkmebaaGreatDoor
open K Go Go.Proofs Go.Conc
def xO(s i:Int):Bool:=decide (wZ .u8 (iE .u8 s i) 1=1)
def rL(s:Int):Nat→Nat→Nat
 |0,_=>0
 |n+1,i=>(cond (xO s i) 1 0)+rL s n (i+1)
def QO(k:Nat)(x:dr):Nat→Int→List Int→Option Nat
 |0,_,_=>some 0
 |n+1,d,l=>(ip k x d).bind fun w=>(ny k l w).bind fun r=>(QO k x n (d+1) r.2).bind fun c=>some (rL r.1 x.1.2.1.length 0+c)
def pQ(k:Nat)(x:dr)(ld:List (List Int))(t f:Int):Option Nat:=
 if x.1.1≤1000000∧x.1.2.1.length≤1000000∧0≤f then(dU k ld t).bind fun l=>QO k x (x.1.1 - f).toNat f l else none
theorem QM:ae Tryz.prog 100:=ae.of Tryz.func100 (by kernel_rfl) (by kernel_rfl)
theorem Lt:ae Tryz.prog 71:=ae.of Tryz.func71 (by kernel_rfl) (by kernel_rfl)
theorem IU:ae Tryz.prog 78:=ae.of Tryz.func78 (by kernel_rfl) (by kernel_rfl)
theorem IT:ae Tryz.prog 97:=ae.of Tryz.func97 (by kernel_rfl) (by kernel_rfl)
theorem IS:ae Tryz.prog 98:=ae.of Tryz.func98 (by kernel_rfl) (by kernel_rfl)
theorem pP:dL Tryz.prog 80 1 false:=⟨fun w=>by kernel_rfl,fun w=>by kernel_rfl⟩
theorem tg{c:Cx}{C:Code}{Q:Exit→Act→VW→Prop}{Γ:Ga}{Δ:List D}{a:Act}{v:VW}{T:Tq}{b:Frame}{k:List Item}{cs:List Frame}(hT:c.M.ok T)(hb:b.roundOf=c.rd)(st:St c Γ Δ a v)(h:JC c C Q Γ Δ)(hc:∀e a' v',Q e a' v'→m4 T b k cs e a' v'):
 T v (b.atR a (.code C::k)) cs:=h a v st T hT b k cs hb hc
@[reducible] noncomputable def UW (c:Cx) (Γ:Ga):Exit→Act→VW→Prop:=cE (fun a w=>St c Γ [] a w) (fun _ _ _=>False)
theorem fB{c:Cx}{C:Code}{Γ Γ':Ga}{a:Act}{v:VW}{T:Tq}{b:Frame}{k:List Item}{cs:List Frame}(hT:c.M.ok T)(hb:b.roundOf=c.rd)(st:St c Γ [] a v)(h:JC c C (UW c Γ') Γ [])(hc:∀a' v',St c Γ' [] a' v'→T v' (b.atR a' k) cs):
 T v (b.atR a (.code C::k)) cs:=tg hT hb st h fun e a' v' q=>by
 cases e with
 |normal=>exact hc a' v' q
 |_=>exact q.elim
theorem jH{c:Cx}{Γ:Ga}{Δ:List D}{a:Act}{v:VW}{s:Nat}{x:Value}(st:St c Γ Δ a v)(h:lk Γ s=some (.eq x)):a.eval (.tmp s)=x:=by
 obtain⟨_,_,S,_,_,_,h6⟩:=st;exact h6 s _ h
noncomputable def Di:Code:=match Tryz.f100.body with
 |some (.seq _ (.seq _ (.seq _ (.block _ (.loop b)))))=>b
 |_=>.skip
noncomputable def En:Code:=match Di with
 | .seq _ (.seq (.block _ (.seq _ (.seq (.seq _ (.block _ (.loop b))) _))) _)=>b
 |_=>.skip
section
variable {p:Gp}{tot:Nat}{k:Nat}{x:dr}{Sh:FS}{v0:VW}{kk:List Item}{cs:List Frame}
@[reducible] noncomputable def yV (p:Gp) (Sh:FS) (v0:VW):Cx:=⟨Tryz.prog,47,Sh,v0,aE [],none,[dcall 101 #[.pointer (some p.stA)]],Md.plain Tryz.prog⟩
@[reducible] noncomputable def wc (p:Gp) (x:dr) (d:Int) (l:List Int) (s:Int) (i:Nat):Ga:=[(4,.at (.ptr bD) x),(5,.eq (.pointer (some p.xA))),(7,.eq (.int .i64 d)),(8,.eq (.int .u8 s)),(9,.rep (.slice (.int .i64)) l),(37,.eq (.int .i64 (x.1.2.1.length:Int))),(38,.eq (.int .i64 (i:Int)))]
abbrev Oh:Frame:={ (default:Frame) with fn:=100,kind:=.deferred }
theorem K.St.sh{c:Cx}{Γ:Ga}{Δ:List D}{a:Act}{v:VW}(st:St c Γ Δ a v){b:Nat}(h:c.w0.A b):v.A b:=by
 obtain⟨_,_,S,h3,_⟩:=st;exact h3.subA b h
theorem K.St.pop{c:Cx}{Γ:Ga}{Δ:List D}{a:Act}{v:VW}{d:Nat}{r0:A}(st:St c ((d,r0)::Γ) Δ a v)(hd:lk Γ d=none:=by exact rfl):St c Γ Δ a v:=by
 obtain⟨h1,h2,S,h3,h4,h5,h6⟩:=st;refine⟨h1,h2,S,h3,h4,h5,fun s r hl=>h6 s r ?_⟩;simp only [lk];rw [if_neg (fun e=>by subst e;rw [hd] at hl;cases hl)];exact hl
theorem IJ{k:Nat}{s:Int}{i:Nat}:dY k s (i:Int)=some (xO s i):=by
 simp [dY,cU,xO]
theorem IR(hne:p.bw≠p.bs)(hsh:∀b,p.sh b→v0.A b)(hlen:x.1.2.1.length≤1000000){d:Int}{l:List Int}{s:Int}:∀(n i m:Nat) (a:Act) (v:VW),x.1.2.1.length=i+n→St (yV p Sh v0) (wc p x d l s i) [] a v→m+rL s n i≤tot→
 (∀a' v',St (yV p Sh v0) (wc p x d l s (i+n)) [] a' v'→Ww Tryz.prog p tot (.work (m+rL s n i)) v' (Oh.atR a' kk) cs)→
 Ww Tryz.prog p tot (.work m) v (Oh.atR a (.code En:: .inLoop En:: .inBlock 2::kk)) cs:=fun n=>by
 induction n with
 |zero=>
  intro i m a v hi st hm next
  have bc:BC Tryz.prog (Ww Tryz.prog p tot (.work m)):=Ww.bc
  refine bc.move (fun _ _=>eB) ?_
  refine fB (c:=yV p Sh v0) (Γ':=(39,.eq (.bool false))::wc p x d l s i) bc rfl st ?_ fun a1 v1 st1=>?_
  ·
   refine ab ?_
   refine aF rfl (bq rfl) ⟨rfl,rfl,trivial⟩ ?_
   refine ax (ag ?_)
   rw [decide_eq_false (by omega)]
   exact fun _ _ h=>h
  refine bc.move (fun _ _=>eB) ?_
  refine bc.move (fun _ _=>oI (t:=false) (jH st1 (s:=39) rfl)) ?_
  rw [if_neg (by decide)]
  refine bc.move (fun _ _=>yT rfl) ?_
  exact next a1 v1 st1.pop
 |succ n ih=>
  intro i m a v hi st hm next
  have bc:BC Tryz.prog (Ww Tryz.prog p tot (.work m)):=Ww.bc
  refine bc.move (fun _ _=>eB) ?_
  refine fB (c:=yV p Sh v0) (Γ':=(39,.eq (.bool true))::wc p x d l s i) bc rfl st ?_ fun a1 v1 st1=>?_
  ·
   refine ab ?_
   refine aF rfl (bq rfl) ⟨rfl,rfl,trivial⟩ ?_
   refine ax (ag ?_)
   rw [decide_eq_true (by omega)]
   exact fun _ _ h=>h
  refine bc.move (fun _ _=>eB) ?_
  refine bc.move (fun _ _=>oI (t:=true) (jH st1 (s:=39) rfl)) ?_
  rw [if_pos rfl]
  refine bc.move (fun _ _=>wa) ?_
  refine bc.move (fun _ _=>eB) ?_
  refine bc.move (fun _ _=>oJ) ?_
  refine bc.move (fun _ _=>eB) ?_
  refine fB (c:=yV p Sh v0) (Γ':=(10,.eq (.int .i64 (i:Int)))::wc p x d l s i) bc rfl st1.pop ?_ fun a2 v2 st2=>?_
  ·
   refine ab ?_
   refine aC rfl rfl ?_
   refine dn rfl rfl ?_
   refine ax (ag ?_)
   exact kx (junk:=[]) (by repeat (first |exact trivial |refine⟨rfl,?_⟩)) mg
  refine bc.move (fun _ _=>eB) ?_
  refine fB (c:=yV p Sh v0) (Γ':=(43,.eq (.bool (xO s i)))::wc p x d l s i) bc rfl st2 ?_ fun a3 v3 st3=>?_
  ·
   refine ab ?_
   refine aC rfl rfl ?_
   refine aC rfl rfl ?_
   refine aF rfl (ao [.tmp 41,.tmp 42] rfl rfl Lt rfl (iI 0 s i _ IJ)) ⟨rfl,rfl,trivial⟩ ?_
   refine ax (ag ?_)
   exact kx (junk:=[]) (by repeat (first |exact trivial |refine⟨rfl,?_⟩)) mg
  have hb:=jH st3 (s:=43) rfl
  cases hh:xO s i with
  |true=>
   rw [hh] at hb
   have e1:m+1+rL s n (i+1)=m+rL s (n+1) i:=by simp [rL,hh];omega
   refine bc.move (fun _ _=>oI (t:=true) hb) ?_
   rw [if_pos rfl]
   refine bc.move (fun _ _=>k9) ?_
   have st4:=st3.pop
   have h5:a3.tmps.getD 5 undef= .pointer (some p.xA):=jH st4 (s:=5) rfl
   refine(Qt.call (dX:=[.pointer (some p.xA),.int .i64 1]) (T:=WV v3 Tryz.prog p tot (.work m)) (Ju (by simp)) rfl rfl Tryz.func102 (by kernel_rfl) rfl rfl (fun c hk=>?_):Qt (WV v3 Tryz.prog p tot (.work m)) v3 Oh cs 47 [dcall 101 #[.pointer (some p.stA)]] _ ((5,.pointer (some p.xA))::dX (wc p x d l s i) a3)) a3 (st4.toQ.know h5) ⟨bY.refl _,fun b hb=>st4.sh (hsh b hb)⟩
   refine L8 hne (by omega) fun v5 u=>?_
   refine hk _ _ _ fun a5 q5 hv5=>?_
   have st5:St (yV p Sh v0) (wc p x d l s i) [] a5 v5:=(st4.rely hv5.1).ofQ ((BD.base.know h5).new) q5
   have bc':BC Tryz.prog (Ww Tryz.prog p tot (.work (m+1))):=Ww.bc
   refine bc'.move (fun _ _=>ic) ?_
   refine bc'.move (fun _ _=>nP) ?_
   refine fB (c:=yV p Sh v0) (Γ':=wc p x d l s (i+1)) bc' rfl st5 ?_ fun a6 v6 st6=>?_
   ·
    refine ab ?_
    refine aF rfl (be rfl (q:=((i+1:Nat):Int)) (by unfold ck;rw [if_pos (by omega)];congr 1)) ⟨rfl,rfl,trivial⟩ ?_
    refine aC rfl rfl ?_
    refine ax (ag ?_)
    exact kx (junk:=[]) (by repeat (first |exact trivial |refine⟨rfl,?_⟩)) mg
   refine bc'.move (fun _ _=>pM) ?_
   refine ih (i+1) (m+1) a6 v6 (by omega) st6 (by omega) fun a7 v7 st7=>?_
   rw [e1]
   exact next a7 v7 (by rw [show i+(n+1)=i+1+n by omega];exact st7)
  |false=>
   rw [hh] at hb
   have e1:m+rL s n (i+1)=m+rL s (n+1) i:=by simp [rL,hh]
   refine bc.move (fun _ _=>oI (t:=false) hb) ?_
   rw [if_neg (by decide)]
   refine bc.move (fun _ _=>wa) ?_
   refine bc.move (fun _ _=>nP) ?_
   refine fB (c:=yV p Sh v0) (Γ':=wc p x d l s (i+1)) bc rfl st3.pop ?_ fun a6 v6 st6=>?_
   ·
    refine ab ?_
    refine aF rfl (be rfl (q:=((i+1:Nat):Int)) (by unfold ck;rw [if_pos (by omega)];congr 1)) ⟨rfl,rfl,trivial⟩ ?_
    refine aC rfl rfl ?_
    refine ax (ag ?_)
    exact kx (junk:=[]) (by repeat (first |exact trivial |refine⟨rfl,?_⟩)) mg
   refine bc.move (fun _ _=>pM) ?_
   refine ih (i+1) m a6 v6 (by omega) st6 (by omega) fun a7 v7 st7=>?_
   rw [e1]
   exact next a7 v7 (by rw [show i+(n+1)=i+1+n by omega];exact st7)
@[reducible] noncomputable def Dh (p:Gp) (x:dr) (d:Int) (l:List Int):Ga:=[(4,.at (.ptr bD) x),(5,.eq (.pointer (some p.xA))),(6,.rep (.slice (.int .i64)) l),(7,.eq (.int .i64 d))]
@[reducible] noncomputable def TG (p:Gp) (x:dr) (d:Int) (l:List Int) (s:Int):Ga:=[(4,.at (.ptr bD) x),(5,.eq (.pointer (some p.xA))),(7,.eq (.int .i64 d)),(8,.eq (.int .u8 s)),(9,.rep (.slice (.int .i64)) l)]
theorem IQ(hne:p.bw≠p.bs)(hsh:∀b,p.sh b→v0.A b)(hlen:x.1.2.1.length≤1000000)(hdays:x.1.1≤1000000){dd:Deferred}:∀(n m c:Nat) (d:Int) (l:List Int) (a:Act) (v:VW),n=(x.1.1 - d).toNat→0≤d→QO k x n d l=some c→m+c=tot→St (yV p Sh v0) (Dh p x d l) [] a v→
 Ww Tryz.prog p tot (.work m) v (Oh.atR a [.code Di,.inLoop Di,.inBlock 0]) [{ fX Tryz.prog dd with defers:=[] }]:=fun n=>by
 induction n with
 |zero=>
  intro m c d l a v hn hd hc hm st
  have bc:BC Tryz.prog (Ww Tryz.prog p tot (.work m)):=Ww.bc
  cases hc
  refine bc.move (fun _ _=>eB) ?_
  refine bc.move (fun _ _=>eB) ?_
  refine fB (c:=yV p Sh v0) (Γ':=(21,.eq (.bool false))::Dh p x d l) bc rfl st ?_ fun a1 v1 st1=>?_
  ·
   refine ab ?_
   refine aC rfl rfl ?_
   refine aF rfl (an (t:=.ptr bD) rfl pP rfl) ⟨rfl,trivial⟩ ?_
   refine aF rfl (dN rfl) ⟨rfl,trivial⟩ ?_
   refine aF rfl (aG 3 true rfl kl rfl) ⟨rfl,trivial⟩ ?_
   refine aF rfl (aG 1 false rfl gI rfl) ⟨rfl,trivial⟩ ?_
   refine aF rfl (an (t:=.int .i64) rfl ct rfl) ⟨rfl,trivial⟩ ?_
   refine aF rfl (bq rfl) ⟨rfl,rfl,trivial⟩ ?_
   refine ax (ag ?_)
   rw [decide_eq_false (by omega)]
   exact kx (junk:=[]) (by repeat (first |exact trivial |refine⟨rfl,?_⟩)) mg
  refine bc.move (fun _ _=>oI (t:=false) (jH st1 (s:=21) rfl)) ?_
  rw [if_neg (by decide)]
  refine bc.move (fun _ _=>yT rfl) ?_
  exact(Qt.fin (ta (by simp)) (A1 zB hne (by omega) fun v'=>JB rfl Tryz.func100 rfl):Qt (Ww Tryz.prog p tot (.work m)) v1 Oh [{ fX Tryz.prog dd with defers:=[] }] 47 [dcall 101 #[.pointer (some p.stA)]] [] (dX (Dh p x d l) a1)) a1 st1.pop.toQ
 |succ n ih=>
  intro m c d l a v hn hd hc hm st
  have bc:BC Tryz.prog (Ww Tryz.prog p tot (.work m)):=Ww.bc
  obtain⟨w,hw,hc⟩:=Option.bind_eq_some_iff.1 hc
  obtain⟨r,hr,hc⟩:=Option.bind_eq_some_iff.1 hc
  obtain⟨c',hc',hc⟩:=Option.bind_eq_some_iff.1 hc
  have hcc:rL r.1 x.1.2.1.length 0+c'=c:=Option.some.inj hc
  refine bc.move (fun _ _=>eB) ?_
  refine bc.move (fun _ _=>eB) ?_
  refine fB (c:=yV p Sh v0) (Γ':=(21,.eq (.bool true))::Dh p x d l) bc rfl st ?_ fun a1 v1 st1=>?_
  ·
   refine ab ?_
   refine aC rfl rfl ?_
   refine aF rfl (an (t:=.ptr bD) rfl pP rfl) ⟨rfl,trivial⟩ ?_
   refine aF rfl (dN rfl) ⟨rfl,trivial⟩ ?_
   refine aF rfl (aG 3 true rfl kl rfl) ⟨rfl,trivial⟩ ?_
   refine aF rfl (aG 1 false rfl gI rfl) ⟨rfl,trivial⟩ ?_
   refine aF rfl (an (t:=.int .i64) rfl ct rfl) ⟨rfl,trivial⟩ ?_
   refine aF rfl (bq rfl) ⟨rfl,rfl,trivial⟩ ?_
   refine ax (ag ?_)
   rw [decide_eq_true (by omega)]
   exact kx (junk:=[]) (by repeat (first |exact trivial |refine⟨rfl,?_⟩)) mg
  refine bc.move (fun _ _=>oI (t:=true) (jH st1 (s:=21) rfl)) ?_
  rw [if_pos rfl]
  refine bc.move (fun _ _=>wa) ?_
  refine bc.move (fun _ _=>eB) ?_
  refine bc.move (fun _ _=>oJ) ?_
  refine bc.move (fun _ _=>eB) ?_
  refine fB (c:=yV p Sh v0) (Γ':=TG p x d r.2 r.1) bc rfl st1.pop ?_ fun a2 v2 st2=>?_
  ·
   refine ab ?_
   refine aC rfl rfl ?_
   refine aF rfl (an (t:=.ptr bD) rfl pP rfl) ⟨rfl,trivial⟩ ?_
   refine aC rfl rfl ?_
   refine aF rfl (ao [.tmp 26,.tmp 27] rfl rfl IS rfl (nv k x d _ hw)) ⟨rfl,rfl,trivial⟩ ?_
   refine aF rfl (ao [.tmp 25,.tmp 28] rfl rfl IT rfl (uq k l w _ hr)) ⟨rfl,rfl,trivial⟩ ?_
   refine aC rfl rfl ?_
   refine aF rfl (fG rfl rfl) ⟨rfl,trivial⟩ ?_
   refine aF rfl (fG rfl rfl) ⟨rfl,trivial⟩ ?_
   refine dn rfl rfl ?_
   refine dn rfl rfl ?_
   refine ax (ag ?_)
   exact kx (junk:=[]) (by repeat (first |exact trivial |refine⟨rfl,?_⟩)) mg
  refine bc.move (fun _ _=>eB) ?_
  refine bc.move (fun _ _=>eB) ?_
  refine fB (c:=yV p Sh v0) (Γ':=wc p x d r.2 r.1 0) bc rfl st2 ?_ fun a3 v3 st3=>?_
  ·
   refine ab ?_
   refine aF rfl (an (t:=.ptr bD) rfl pP rfl) ⟨rfl,trivial⟩ ?_
   refine aF rfl (dN rfl) ⟨rfl,trivial⟩ ?_
   refine aF rfl (aG 3 true rfl kl rfl) ⟨rfl,trivial⟩ ?_
   refine aF rfl (aG 1 false rfl cd rfl) ⟨rfl,trivial⟩ ?_
   refine aF rfl (an (t:=.slice aJ) rfl fQ rfl) ⟨rfl,trivial⟩ ?_
   refine aF rfl (ju rfl rfl Tryz.underlying25) ⟨rfl,trivial⟩ ?_
   refine ff rfl ?_
   refine ax (ag ?_)
   exact kx (junk:=[]) (by repeat (first |exact trivial |refine⟨rfl,?_⟩)) mg
  refine bc.move (fun _ _=>oJ) ?_
  refine bc.move (fun _ _=>yS) ?_
  refine IR hne hsh hlen x.1.2.1.length 0 m a3 v3 (by omega) st3 (by omega) fun a4 v4 st4=>?_
  have bc':BC Tryz.prog (Ww Tryz.prog p tot (.work (m+rL r.1 x.1.2.1.length 0))):=Ww.bc
  refine fB (c:=yV p Sh v0) (Γ':=Dh p x d r.2) bc' rfl st4 ?_ fun a5 v5 st5=>?_
  ·
   refine ab ?_
   refine aC rfl rfl ?_
   refine dn rfl rfl ?_
   refine ax (ag ?_)
   exact kx (junk:=[]) (by repeat (first |exact trivial |refine⟨rfl,?_⟩)) mg
  refine bc'.move (fun _ _=>nP) ?_
  refine fB (c:=yV p Sh v0) (Γ':=Dh p x (d+1) r.2) bc' rfl st5 ?_ fun a6 v6 st6=>?_
  ·
   refine ab ?_
   refine aC rfl rfl ?_
   refine aF rfl (be rfl (q:=d+1) (by unfold ck;rw [if_pos (by omega)])) ⟨rfl,rfl,trivial⟩ ?_
   refine dn rfl rfl ?_
   refine ax (ag ?_)
   exact kx (junk:=[]) (by repeat (first |exact trivial |refine⟨rfl,?_⟩)) mg
  refine bc'.move (fun _ _=>pM) ?_
  exact ih _ c' (d+1) r.2 a6 v6 (by omega) (by omega) hc' (by omega) st6
@[reducible] noncomputable def QP (p:Gp) (x:dr) (ld:List (List Int)) (t f:Int):List A:=[.eq (.pointer (some p.stA)),.at (.arr 3 (.arr 5 (.int .i64))) ld,.at (.int .i64) t,.at (.int .i64) f,.at (.ptr bD) x,.eq (.pointer (some p.xA))]
theorem FY(hne:p.bw≠p.bs){ld:List (List Int)}{t f:Int}(hw:pQ k x ld t f=some tot){p0 p1 p2 p3 p4 p5:Value}{v:VW}(hd:∀b,Sh b→b < v.heap.size)(hO:bb [] Sh v)(hsh:∀b,p.sh b→v.A b)(hall:gg Sh v (QP p x ld t f) [p0,p1,p2,p3,p4,p5]):
 Ww Tryz.prog p tot (.work 0) v (fX Tryz.prog { target:=.fn (.func 100) #[p0,p1,p2,p3,p4,p5],args:= #[] }) []:=by
 have bc:BC Tryz.prog (Ww Tryz.prog p tot (.work 0)):=Ww.bc
 unfold pQ at hw
 split at hw
 ·
  rename_i hc;obtain⟨h1,h2,h3⟩:=hc;obtain⟨l,hl,hw⟩:=Option.bind_eq_some_iff.1 hw;refine bc.move (fun m w=>yU QM) ?_;rw [enter_at Tryz.func100 rfl];have st0:St ⟨Tryz.prog,47,Sh,v,aE [],none,[],Md.plain Tryz.prog⟩ (entry 0 (QP p x ld t f)) [] { tmps:= #[p0,p1,p2,p3,p4,p5]++Array.replicate (47 - 6) undef,defers:=[] } v:=St.entry (vs:=[p0,p1,p2,p3,p4,p5]) rfl hd hall hO
  have key:∀a0,St ⟨Tryz.prog,47,Sh,v,aE [],none,[],Md.plain Tryz.prog⟩ (entry 0 (QP p x ld t f)) [] a0 v→Ww Tryz.prog p tot (.work 0) v (Oh.atR a0 [.code (Tryz.f100.body.getD .skip)]) [{ fX Tryz.prog { target:=.fn (.func 100) #[p0,p1,p2,p3,p4,p5],args:= #[] } with defers:=[] }]:=by
   intro a0 st0;have e0:a0.tmps.getD 0 undef= .pointer (some p.stA):=jH st0 (s:=0) rfl;refine bc.move (fun _ _=>eB) ?_;refine bc.move (fun _ _=>k9) ?_;refine(Qt.defer (dX:=[.pointer (some p.stA)]) (T:=Ww Tryz.prog p tot (.work 0)) (ta (by simp)) rfl rfl rfl (fun a1 q1=>?_):Qt (Ww Tryz.prog p tot (.work 0)) v Oh _ 47 [] _ ((0,.pointer (some p.stA))::dX (entry 0 (QP p x ld t f)) a0)) a0 (st0.toQ.know e0);have st1:St (yV p Sh v) (entry 0 (QP p x ld t f)) [] a1 v:=st0.ofQ (BD.base.know e0) q1;refine bc.move (fun _ _=>ic) ?_;refine bc.move (fun _ _=>eB) ?_;refine fB (c:=yV p Sh v) (Γ':=(3,.at (.int .i64) f)::(6,.rep (.slice (.int .i64)) l)::[(4,.at (.ptr bD) x),(5,.eq (.pointer (some p.xA)))]) bc rfl st1 ?_ fun a2 v2 st2=>?_
   ·refine ab ?_;refine aF rfl (an (t:=.arr 3 (.arr 5 (.int .i64))) rfl fP rfl) ⟨rfl,trivial⟩ ?_;refine aF rfl (an (t:=.int .i64) rfl ct rfl) ⟨rfl,trivial⟩ ?_;refine aF rfl (ao [.tmp 11,.tmp 12] rfl rfl IU rfl (gr k ld t _ hl)) ⟨rfl,rfl,trivial⟩ ?_;refine dn rfl rfl ?_;refine ax (ag ?_);exact kx (junk:=[]) (by repeat (first |exact trivial |refine⟨rfl,?_⟩)) mg
   refine bc.move (fun _ _=>eB) ?_;refine fB (c:=yV p Sh v) (Γ':=Dh p x f l) bc rfl st2 ?_ fun a3 v3 st3=>?_
   ·refine ab ?_;refine aF rfl (an (t:=.int .i64) rfl ct rfl) ⟨rfl,trivial⟩ ?_;refine dn rfl rfl ?_;refine ax (ag ?_);exact kx (junk:=[]) (by repeat (first |exact trivial |refine⟨rfl,?_⟩)) mg
   refine bc.move (fun _ _=>oJ) ?_;refine bc.move (fun _ _=>yS) ?_;exact IQ hne hsh h2 h1 _ 0 tot f l a3 v3 rfl h3 hw (by omega) st3
  exact key _ st0
 ·
  cases hw
end
end Go.Proofs.YtmeojbemjkmebaaGreatDoor
set_option linter.unusedVariables false
set_option maxRecDepth 4000
set_option maxHeartbeats 1000000
namespace Go.Proofs.YtmeojbemjkmebaaGreatDoor
open K Go Go.Proofs Go.Conc
theorem JF{P:Program}{Wl:World→Prop}{Γ:Gv}{o:Oper}{f:FuncId}{cs:Array Operand}{us:List Value}(ho:o.op= .makeFunc (.func f) #[] cs)(h:cs.toList.map (ev Γ)=us.map some):OV P Wl o Γ (.func (.func f) #[] us.toArray):=fun N df a ha w hl=>by
 have hm:=zg ha h
 simp [execOp,ho,Instr.makeFunc,hm]
noncomputable def yW:Code:=match Tryz.f73.body with
 |some (.seq _ (.seq _ (.seq _ (.seq (.seq _ (.block _ (.loop b))) _))))=>b
 |_=>.skip
section
variable {p:Gp}{tot:Nat→Nat}{k n j:Nat}{x:dr}{ld:List (List Int)}{d:Int}{N:Nat}{Gd:Machine→Trace→Prop}{kk:List Item}{cs:List Frame}{b:Frame}
@[reducible] noncomputable def GP (S:FS) (v:VW):Cx:=⟨Tryz.prog,24,S,v,aE [],none,[],Md.plain Tryz.prog⟩
@[reducible] noncomputable def ua (p:Gp) (x:dr) (ld:List (List Int)) (d:Int) (N i:Nat):Ga:=[(3,.at (.ptr bD) x),(4,.at (.arr 3 (.arr 5 (.int .i64))) ld),(5,.at (.int .i64) d),(7,.eq (.pointer (some p.xA))),(8,.eq (.pointer (some p.stA))),(15,.eq (.int .i64 (N:Int))),(16,.eq (.int .i64 (i:Int)))]
theorem Oe:∀w,(zeroValue 3).run Tryz.prog w= .ok (.int .i64 0) w:=fun w=>by kernel_rfl
theorem Og:∀S w,(A.cells S w (.eq (.int .i64 (0:Int))) (Value.cells (.int .i64 (0:Int))).toList):=fun _ _=>⟨rfl,rfl⟩
@[reducible] def K.ez(v:VW):VW:=⟨v.toWorld,v.A,fun _=>False⟩
theorem K.bU.ez{X:Nat→Prop}{S S':FS}{v v':VW}(h:bU X S v S' v'):bU X S (K.ez v) S' (K.ez v'):=⟨h.sub,h.new,h.dom,h.size,h.keep,h.os,h.tape,h.output,h.subA,h.oldA,rfl⟩
def NI(v0:VW)(S0:FS)(Γ:Ga)(a:Act)(v:VW):Prop:=∃S,a.defers=[]∧a.tmps.size=24∧bU (aE []) S0 (ez v0) S (ez v)∧bb [] S v∧∀s r,lk Γ s=some r→r.holds S v (a.tmps.getD s undef)
theorem pX{b:Frame}{a:Act}{k:List Item}(hb:b.roundOf=none):b.atR a k=b.at a k:=by
 cases b;simp only [Frame.atR,Frame.at] at *;subst hb;rfl
theorem F3(hnx:Nx Tryz.prog Gd)(hne:p.bw≠p.bs){i:Nat}(hi:i < N)(hN:N≤1000)(hj:j < 1000)(hw:pQ k x ld i d=some (tot n))(hn:0 < n)(htb:aS tot (n+1) < 9223372036854775808){S0:FS}{v0:VW}{a:Act}{v:VW}(hb:b.roundOf=none)(hbk:b.kind≠.early)
 (hsh:∀y,p.sh y→v.A y) (hI:NI v0 S0 (ua p x ld d N i) a v)
 (next:∀a' v',(∀y,p.sh y→v'.A y)→NI v0 S0 (ua p x ld d N (i+1)) a' v'→TW Tryz.prog p tot (n+1) 0 false 0 false (qU (n+1) (j+1)) Gd v' (b.atR a' kk) cs):
 TW Tryz.prog p tot n 0 false 0 false (qU n j) Gd v (b.atR a (.code yW::kk)) cs:=by
 have bc:BC Tryz.prog (TW Tryz.prog p tot n 0 false 0 false (qU n j) Gd):=TW.bc hnx qT
 have bc1:BC Tryz.prog (TW Tryz.prog p tot n 0 false 1 false (qU n j) Gd):=TW.bc hnx qT
 obtain⟨S,i1,i2,i3,i4,i5⟩:=hI
 have st:St (GP S v) (ua p x ld d N i) [] a v:=⟨i1,i2,S,bU.refl i3.dom,fun b hb=>.inl hb,i4,i5⟩
 refine bc.move (fun _ _=>eB) ?_
 refine fB (c:=GP S v) (Γ':=(17,.eq (.bool true))::ua p x ld d N i) bc hb st ?_ fun a1 v1 st1=>?_
 ·
  refine ab ?_;refine aF rfl (bq rfl) ⟨rfl,rfl,trivial⟩ ?_;refine ax (ag ?_);rw [decide_eq_true (by omega)];exact fun _ _ h=>h
 refine bc.move (fun _ _=>eB) ?_
 refine bc.move (fun _ _=>oI (t:=true) (jH st1 (s:=17) rfl)) ?_
 rw [if_pos rfl]
 refine bc.move (fun _ _=>wa) ?_
 refine bc.move (fun _ _=>eB) ?_
 refine bc.move (fun _ _=>oJ) ?_
 refine bc.move (fun _ _=>eB) ?_
 refine fB (c:=GP S v) (Γ':=(9,.at (.int .i64) (i:Int))::ua p x ld d N i) bc hb st1.pop ?_ fun a2 v2 st2=>?_
 ·
  refine ab ?_;refine aC rfl rfl ?_;refine aD rfl rfl rfl (aY rfl Oe Og) trivial fun b9=>?_;refine a8 rfl rfl (aX rfl ct rfl rfl rfl) ⟨rfl,rfl,trivial⟩ ?_;refine cp (lT (t:=.int .i64) (x:=(i:Int)) [9] .int ⟨rfl,trivial⟩) ?_;refine ax (ag ?_);exact kx (junk:=[]) (by repeat (first |exact trivial |refine⟨rfl,?_⟩)) mg
 refine bc.move (fun _ _=>eB) ?_
 refine bc.move (fun _ _=>k9) ?_
 have h8:a2.tmps.getD 8 undef= .pointer (some p.stA):=jH st2 (s:=8) rfl
 rw [pX hb]
 refine(Qt.call (dX:=[.pointer (some p.stA),.int .i64 1]) (T:=TV v2 Tryz.prog p tot n 0 false 0 false (qU n j) Gd) (fY hnx qT) rfl rfl zB.f_add (by kernel_rfl) rfl rfl (fun c hk=>?_) (hk:=hbk):Qt (TV v2 Tryz.prog p tot n 0 false 0 false (qU n j) Gd) v2 b cs 24 [] _ ((8,.pointer (some p.stA))::dX ((9,.at (.int .i64) (i:Int))::ua p x ld d N i) a2)) a2 (st2.toQ.know h8) ⟨bY.refl _,fun y hy=>st2.sh (hsh y hy)⟩
 refine L9 hnx zB hne hj fun v3=>?_
 refine hk _ _ _ fun a3 q3 hv3=>?_
 have st3:St (GP S v) ((9,.at (.int .i64) (i:Int))::ua p x ld d N i) [] a3 v3:=(st2.rely hv3.1).ofQ ((BD.base.know h8).new) q3
 rw [←pX hb]
 refine bc1.move (fun _ _=>ic) ?_
 refine bc1.move (fun _ _=>k9) ?_
 rw [pX hb]
 refine(Qt.op (T:=TV v3 Tryz.prog p tot n 0 false 1 false (qU n j) Gd) (fY hnx qT) rfl (JF (us:=[a3.tmps.getD 8 undef,a3.tmps.getD 4 undef,a3.tmps.getD 9 undef,a3.tmps.getD 5 undef,a3.tmps.getD 3 undef,a3.tmps.getD 7 undef]) rfl rfl) (fun a4 q4 hv4=>?_) (hk:=hbk):Qt (TV v3 Tryz.prog p tot n 0 false 1 false (qU n j) Gd) v3 b cs 24 [] _ (dX ((9,.at (.int .i64) (i:Int))::ua p x ld d N i) a3)) a3 st3.toQ ⟨bY.refl _,fun y hy=>st3.sh (hsh y hy)⟩
 have st4:St (GP S v) ((9,.at (.int .i64) (i:Int))::ua p x ld d N i) [] a4 v3:=st3.ofQ (BD.base.new) q4
 have hx:=q4.val 20 _ rfl
 obtain⟨g1,g2,S2,g3,g4,g5,g6⟩:=st4
 have h63:∀s r,lk ((9,.at (.int .i64) (i:Int))::ua p x ld d N i) s=some r→r.holds S2 v3 (a3.tmps.getD s undef):=fun s r hl=>by
  have e:=q4.val s _ ((BD.base.new (d:=20) (u:=.func (.func 100) #[] [a3.tmps.getD 8 undef,a3.tmps.getD 4 undef,a3.tmps.getD 9 undef,a3.tmps.getD 5 undef,a3.tmps.getD 3 undef,a3.tmps.getD 7 undef].toArray)) s r hl);rw [←e];exact g6 s r hl
 have hshA:∀y,p.sh y→v3.A y:=fun y hy=>g3.subA y (hsh y hy)
 rw [←pX hb]
 refine TW.spawn hnx qT (Sh:=S2) (Iv':=qU (n+1) (j+1)) (fc:=fX Tryz.prog { target:=.fn (.func 100) #[a3.tmps.getD 8 undef,a3.tmps.getD 4 undef,a3.tmps.getD 9 undef,a3.tmps.getD 5 undef,a3.tmps.getD 3 undef,a3.tmps.getD 7 undef],args:= #[] }) hn (fun w0=>TF (i:=1) (rest:=[]) rfl (ay rfl _) rfl rfl hx) (fun y hy=>⟨g3.dom y hy,g5.sees y hy⟩) htb (fun sg hsg=>?_) (fun v4 hr4=>?_) ?_
 ·
  have hsg:al n sg Ph.act≤j:=hsg;show al (n+1) (upd sg n (.work 0)) Ph.act≤j+1;unfold al at hsg⊢;simp only [aS];rw [dK,kG fun j hj=>by rw [dB (by omega)]];show _+1≤_;omega
 ·
  have hd4:∀y,S2 y→y < v4.heap.size:=fun y hy=>Nat.lt_of_lt_of_le (g3.dom y hy) hr4.size;have h64:∀s r,lk ((9,.at (.int .i64) (i:Int))::ua p x ld d N i) s=some r→r.holds S2 v4 (a3.tmps.getD s undef):=fun s r hl=>A.mono (fun _ h=>h) (kF g3.dom g5.sees hr4) r (h63 s r hl)
  exact FY hne hw (v:=⟨v4.toWorld,fun b=>b < v4.heap.size∧¬S2 b,S2⟩) hd4 ⟨fun _ h=>by simp at h,fun _ hb=>(fw hb).elim,List.Pairwise.nil,fun _ hb=>(fw hb).elim,fun y hy h=>h.2 hy,fun _ h=>h.1,hd4⟩ (fun y hy=>⟨Nat.lt_of_lt_of_le (g5.domA y (hshA y hy)) hr4.size,fun hS=>g5.sees y hS (hshA y hy)⟩)
   ⟨_,_,rfl,h64 8 _ rfl,_,_,rfl,h64 4 _ rfl,_,_,rfl,h64 9 _ rfl,_,_,rfl,h64 5 _ rfl,_,_,rfl,h64 3 _ rfl,_,_,rfl,h64 7 _ rfl,rfl⟩
 ·
  have bc':BC Tryz.prog (TW Tryz.prog p tot (n+1) 0 false 0 false (qU (n+1) (j+1)) Gd):=TW.bc hnx qT;refine bc'.move (fun _ _=>ic) ?_;refine bc'.move (fun _ _=>nP) ?_;have hO4:bb [] S2 ⟨v3.toWorld,v3.A,fun b=>v3.Z b∨S2 b⟩:=⟨fun _ h=>by simp at h,fun _ hb=>(fw hb).elim,List.Pairwise.nil,fun _ hb=>(fw hb).elim,g5.sees,g5.domA,fun y hy=>hy.elim (g5.domZ y) (g3.dom y)⟩;have hE:bU (aE []) S0 (ez v0) S2 (ez ⟨v3.toWorld,v3.A,fun b=>v3.Z b∨S2 b⟩):=i3.trans g3.ez fun b hb=>.inl hb
  have st5:St (GP S2 ⟨v3.toWorld,v3.A,fun b=>v3.Z b∨S2 b⟩) (ua p x ld d N i) [] (a4.put none undef) ⟨v3.toWorld,v3.A,fun b=>v3.Z b∨S2 b⟩:=
   ⟨g1,g2,S2,bU.refl g3.dom,fun b hb=>.inl hb,hO4,fun s r hl=>g6 s r (by
    have hs:s≠9:=fun e=>by subst e;simp [lk] at hl
    simp only [lk] at hl⊢;rw [if_neg (fun e=>hs e.symm)];exact hl)⟩
  refine fB (c:=GP S2 ⟨v3.toWorld,v3.A,fun b=>v3.Z b∨S2 b⟩) (Γ':=ua p x ld d N (i+1)) bc' hb st5 ?_ fun a6 v6 st6=>?_
  ·refine ab ?_;refine aF rfl (be rfl (q:=((i+1:Nat):Int)) (by unfold ck;rw [if_pos (by omega)];congr 1)) ⟨rfl,rfl,trivial⟩ ?_;refine aC rfl rfl ?_;refine ax (ag ?_);exact kx (junk:=[]) (by repeat (first |exact trivial |refine⟨rfl,?_⟩)) mg
  obtain⟨k1,k2,S6,k3,k4,k5,k6⟩:=st6;exact next a6 v6 (fun y hy=>k3.subA y (hshA y hy)) ⟨S6,k1,k2,hE.trans k3.ez fun b hb=>.inl hb,k5,k6⟩
theorem FZ{n0:Nat}(hnx:Nx Tryz.prog Gd)(hne:p.bw≠p.bs)(hN:N≤1000)(hws:∀i:Nat,i < N→pQ k x ld i d=some (tot (n0+i)))(hn:0 < n0)(htb:∀m,m≤n0+N→aS tot m < 9223372036854775808){S0:FS}{v0:VW}(hb:b.roundOf=none)(hbk:b.kind≠.early)
 (next:∀a' v',(∀y,p.sh y→v'.A y)→NI v0 S0 (ua p x ld d N N) a' v'→TW Tryz.prog p tot (n0+N) 0 false 0 false (qU (n0+N) N) Gd v' (b.atR a' kk) cs):∀(r i:Nat),i+r=N→∀(a:Act) (v:VW),(∀y,p.sh y→v.A y)→NI v0 S0 (ua p x ld d N i) a v→
 TW Tryz.prog p tot (n0+i) 0 false 0 false (qU (n0+i) i) Gd v (b.atR a (.code yW:: .inLoop yW:: .inBlock 0::kk)) cs:=fun r=>by
 induction r with
 |zero=>
  intro i hi a v hsh hI
  obtain rfl:i=N:=by omega
  have bc:BC Tryz.prog (TW Tryz.prog p tot (n0+i) 0 false 0 false (qU (n0+i) i) Gd):=TW.bc hnx qT
  obtain⟨S,i1,i2,i3,i4,i5⟩:=hI
  have st:St (GP S v) (ua p x ld d i i) [] a v:=⟨i1,i2,S,bU.refl i3.dom,fun b hb=>.inl hb,i4,i5⟩
  refine bc.move (fun _ _=>eB) ?_
  refine fB (c:=GP S v) (Γ':=(17,.eq (.bool false))::ua p x ld d i i) bc hb st ?_ fun a1 v1 st1=>?_
  ·
   refine ab ?_
   refine aF rfl (bq rfl) ⟨rfl,rfl,trivial⟩ ?_
   refine ax (ag ?_)
   rw [decide_eq_false (by omega)]
   exact fun _ _ h=>h
  refine bc.move (fun _ _=>eB) ?_
  refine bc.move (fun _ _=>oI (t:=false) (jH st1 (s:=17) rfl)) ?_
  rw [if_neg (by decide)]
  refine bc.move (fun _ _=>yT rfl) ?_
  obtain⟨k1,k2,S6,k3,k4,k5,k6⟩:=st1.pop
  exact next a1 v1 (fun y hy=>k3.subA y (hsh y hy)) ⟨S6,k1,k2,i3.trans k3.ez fun b hb=>.inl hb,k5,k6⟩
 |succ r ih=>
  intro i hi a v hsh hI
  refine F3 hnx hne (by omega) hN (by omega) (hws i (by omega)) (by omega) (htb _ (by omega)) hb hbk hsh hI fun a' v' hsh' hI'=>?_
  have bc:BC Tryz.prog (TW Tryz.prog p tot (n0+i+1) 0 false 0 false (qU (n0+i+1) (i+1)) Gd):=TW.bc hnx qT
  refine bc.move (fun _ _=>pM) ?_
  exact ih (i+1) (by omega) a' v' hsh' hI'
noncomputable def Nh:Code:=match Tryz.f73.body with
 |some (.seq _ (.seq _ (.seq _ (.seq _ c))))=>c
 |_=>.skip
theorem IV(hnx:Nx Tryz.prog Gd)(hne:p.bw≠p.bs){S0:FS}{v0:VW}{a:Act}{v:VW}(hb:b.roundOf=none)(hbk:b.kind≠.early)(hsh:∀y,p.sh y→v.A y)(hI:NI v0 S0 (ua p x ld d N N) a v)
 (next:∀a' v',(∀y,p.sh y→v'.A y)→NI v0 S0 [(6,.eq (.int .i64 ((aS tot n:Nat):Int)))] a' v'→TW Tryz.prog p tot n 0 false 0 true (uD n) Gd v' (b.atR a' (.code .ret::kk)) cs):
 TW Tryz.prog p tot n 0 false 0 false (qU n j) Gd v (b.atR a (.code Nh::kk)) cs:=by
 have bc:BC Tryz.prog (TW Tryz.prog p tot n 0 false 0 false (qU n j) Gd):=TW.bc hnx qT
 have bc1:BC Tryz.prog (TW Tryz.prog p tot n 0 false 0 true (uD n) Gd):=TW.bc hnx AM
 obtain⟨S,i1,i2,i3,i4,i5⟩:=hI
 have st:St (GP S v) (ua p x ld d N N) [] a v:=⟨i1,i2,S,bU.refl i3.dom,fun b hb=>.inl hb,i4,i5⟩
 have h8:a.tmps.getD 8 undef= .pointer (some p.stA):=jH st (s:=8) rfl
 refine bc.move (fun _ _=>eB) ?_
 refine bc.move (fun _ _=>k9) ?_
 rw [pX hb]
 refine(Qt.call (dX:=[.pointer (some p.stA)]) (T:=TV v Tryz.prog p tot n 0 false 0 false (qU n j) Gd) (fY hnx qT) rfl rfl zB.f_wait (by kernel_rfl) rfl rfl (fun c hk=>?_) (hk:=hbk):Qt (TV v Tryz.prog p tot n 0 false 0 false (qU n j) Gd) v b cs 24 [] _ ((8,.pointer (some p.stA))::dX (ua p x ld d N N) a)) a (st.toQ.know h8) ⟨bY.refl _,hsh⟩
 refine GZ hnx zB hne fun v1=>?_
 refine hk _ _ _ fun a1 q1 hv1=>?_
 have st1:St (GP S v) (ua p x ld d N N) [] a1 v1:=(st.rely hv1.1).ofQ ((BD.base.know h8).new) q1
 have h7:a1.tmps.getD 7 undef= .pointer (some p.xA):=jH st1 (s:=7) rfl
 rw [←pX hb]
 refine bc1.move (fun _ _=>ic) ?_
 refine bc1.move (fun _ _=>eB) ?_
 refine bc1.move (fun _ _=>k9) ?_
 rw [pX hb]
 refine(Qt.call (dX:=[.pointer (some p.xA)]) (T:=TV v1 Tryz.prog p tot n 0 false 0 true (uD n) Gd) (fY hnx AM) rfl rfl Tryz.func104 (by kernel_rfl) rfl rfl (fun c hk=>?_) (hk:=hbk):Qt (TV v1 Tryz.prog p tot n 0 false 0 true (uD n) Gd) v1 b cs 24 [] _ ((7,.pointer (some p.xA))::dX (ua p x ld d N N) a1)) a1 (st1.toQ.know h7) ⟨bY.refl _,fun y hy=>st1.sh (hsh y hy)⟩
 refine Is hnx fun v2=>?_
 refine hk _ _ _ ?_
 refine Qt.op (fY hnx AM) rfl (vj rfl rfl) ?_ (hk:=hbk)
 intro a2 q2 hv2
 have st2:St (GP S v) (ua p x ld d N N) [] a2 v2:=(st1.rely hv2.1).ofQ (((BD.base.know h7).new).new) q2
 rw [←pX hb]
 refine bc1.move (fun _ _=>ic) ?_
 obtain⟨k1,k2,S6,k3,k4,k5,k6⟩:=st2
 refine next a2 v2 (fun y hy=>k3.subA y (hsh y hy)) ⟨S6,k1,k2,i3.trans k3.ez fun b hb=>.inl hb,k5,fun s r hl=>?_⟩
 simp only [lk] at hl
 split at hl
 ·
  rename_i e;subst e;cases hl;exact q2.val 6 _ rfl
 ·
  cases hl
end
end Go.Proofs.YtmeojbemjkmebaaGreatDoor
set_option linter.unusedVariables false
set_option maxRecDepth 4000
set_option maxHeartbeats 1000000
namespace Go.Proofs.YtmeojbemjkmebaaGreatDoor
open K Go Go.Proofs Go.Conc
theorem K.dC.ofT{P:Program}{M:Md P}{f:Nat}{fn:Func}{C:Code}{az:List A}{Δ:List D}{X:Type}{R:X→A×List D}(N:Nat)(hf:P.funcs[f]? =some fn)(hb:fn.body=some C)(hN:fn.ntmps=N)(hn:Nat.ble az.length N=true)
 (h:∀kind,kind≠.early→∀S w0 a,St ⟨P,N,S,w0,aE Δ,none,[],M⟩ (entry 0 az) Δ a w0→∀T,M.ok T→∀cs,(∀e a' v',cK P fn (dS S w0 Δ R) e a' v'→m4 T { (default:Frame) with fn:=f,kind:=kind } [] cs e a' v')→
  T w0 (Frame.atR { (default:Frame) with fn:=f,kind:=kind } a [.code C]) cs):dC M f az Δ R:=by
 subst hN
 intro kind hkind S w vs hd hall hO T hT cs hc
 have hst:St ⟨P,fn.ntmps,S,w,aE Δ,none,[],M⟩ (entry 0 az) Δ { tmps:=vs.toArray++Array.replicate (fn.ntmps - vs.toArray.size) undef,defers:=[] } w:=St.entry hn hd hall hO
 have he:Frame.enter P f vs.toArray kind=Frame.atR { (default:Frame) with fn:=f,kind:=kind } { tmps:=vs.toArray++Array.replicate (fn.ntmps - vs.toArray.size) undef,defers:=[] } [.code C]:=enter_at hf hb
 rw [he]
 refine h kind hkind S w _ hst T hT cs fun e a' v' q=>?_
 have fin:∀todo,(a'.defers=[]∧∃x,(∀v1,bY v' v1→(results fn a'.tmps).run P v1= .ok x v1∧iG v1 v1 ((results fn a'.tmps).events P v1 #[]))∧dS S w Δ R (.returned x) v')→
  T v' { Frame.atR { (default:Frame) with fn:=f,kind:=kind } a' todo with mode:=.returning } cs:=fun todo ⟨q1,x,q2,q3⟩=>hc _ _ _ q3 rfl rfl ⟨rfl,q1,fn,hf,q2⟩
 cases e with
 |normal=>exact(M.bc T hT).move (fun _ _=>AV rfl) (fin _ q)
 |ret=>exact⟨fun _ todo=>fin todo q,fun h=>by cases h⟩
 |panic chain=>exact fun todo=>hc _ _ _ q.2 rfl rfl ⟨rfl,q.1,fn,hf⟩
 |exit id=>exact q.elim
 |goto l=>exact q.elim
 |outgrown=>exact q.elim
def wb(k:Nat)(x:dr)(ld:List (List Int))(d:Int):Nat→Option Nat
 |0=>some 0
 |n+1=>(wb k x ld d n).bind fun s=>(pQ k x ld n d).bind fun c=>some (s+c)
def f6(k:Nat)(x:dr)(ld:List (List Int))(d:Int):Option Int:=
 if x.1.2.2.length≤1000 then(wb k x ld d x.1.2.2.length).bind fun s=>if s < 9223372036854775808 then some (s:Int) else none else none
theorem F4{k:Nat}{x:dr}{ld:List (List Int)}{d:Int}{n0:Nat}:∀{n s:Nat},wb k x ld d n=some s→(∀i,i < n→∃c,pQ k x ld i d=some c)∧aS (fun i=>if i < n0 then 0 else(pQ k x ld (i - n0:Nat) d).getD 0) (n0+n)=s:=by
 intro n
 induction n with
 |zero=>
  intro s h;cases h;refine⟨fun i hi=>absurd hi (Nat.not_lt_zero i),nQ fun i hi=>?_⟩;rw [if_pos (by omega)]
 |succ n ih=>
  intro s h;obtain⟨s',h1,h⟩:=Option.bind_eq_some_iff.1 h;obtain⟨c,h2,h⟩:=Option.bind_eq_some_iff.1 h;cases h;obtain⟨g1,g2⟩:=ih h1;refine⟨fun i hi=>?_,?_⟩
  ·by_cases e:i=n
   ·subst e;exact⟨c,h2⟩
   ·exact g1 i (by omega)
  ·rw [show n0+(n+1)=n0+n+1 by omega];simp only [aS];rw [g2,if_neg (by omega),show n0+n - n0=n by omega,h2];rfl
theorem Lx{c:Cx}{Γ':Ga}{Δ rest:List D}{S S':FS}{v v1 v':VW}{a':Act}{cf cb:Nat}(hX:∀b,¬c.X b)(h3:bU c.X c.S0 c.w0 S v)(h4:∀b,aE Δ b→c.X b∨c.w0.heap.size≤b)(hO:bb Δ S v)(hr:bY v v1)
 (hsub:∀b,aE rest b∨b=cf∨b=cb→aE Δ b) (i1:a'.defers=c.dfs) (i2:a'.tmps.size=c.N) (hE:bU (aE rest) S (ez ⟨v1.toWorld,fun b=>v1.A b∨b=cf∨b=cb,v1.Z⟩) S' (ez v')) (hO':bb rest S' v')
 (hs:∀s r,lk Γ' s=some r→r.holds S' v' (a'.tmps.getD s undef)):St c Γ' rest a' ⟨v'.toWorld,v'.A,c.w0.Z⟩:=by
 have hge:∀b,aE Δ b→c.w0.heap.size≤b:=fun b hb=>(h4 b hb).resolve_left (hX b)
 have hsz:c.w0.heap.size≤v'.heap.size:=Nat.le_trans h3.size (Nat.le_trans hr.size hE.size)
 have hZ:v.Z=c.w0.Z:=h3.Z
 have holdA1:∀b,v1.A b→c.w0.A b∨c.w0.heap.size≤b:=fun b hb=>by
  rcases hr.old b hb with h |h
  ·exact h3.oldA b h
  ·exact .inr (Nat.le_trans h3.size h)
 have holdA:∀b,v'.A b→c.w0.A b∨c.w0.heap.size≤b:=fun b hb=>by
  rcases hE.oldA b hb with(h |h) |h
  ·exact holdA1 b h
  ·exact .inr (hge b (hsub b (.inr h)))
  ·exact .inr (Nat.le_trans (Nat.le_trans h3.size hr.size) h)
 refine⟨i1,i2,S',⟨fun b hb=>hE.sub b (h3.sub b hb),fun b hb=>?_,hE.dom,hsz,fun b hb hA hx=>?_,hE.os.trans (hr.os.trans h3.os),hE.tape.trans (hr.tape.trans h3.tape),hE.output.trans (hr.output.trans h3.output),fun b hb=>hE.subA b (.inl (hr.sub b (h3.subA b hb))),holdA,rfl⟩,fun b hb=>h4 b (hsub b (.inl hb)),⟨hO'.holds,hO'.own,hO'.apart,fun b hb=>⟨(hO'.far b hb).1,fun hz=>?_⟩,hO'.sees,hO'.domA,fun b hb=>?_⟩,hs⟩
 ·
  rcases hE.new b hb with h |h |h
  ·exact h3.new b h
  ·exact .inr (.inl (Nat.le_trans (Nat.le_trans h3.size hr.size) h))
  ·exact .inr (.inl (hge b (hsub b (.inl h))))
 ·
  have k1:v.heap[b]? =c.w0.heap[b]? :=h3.keep b hb hA hx;have nA:¬v.A b:=fun h=>(h3.oldA b h).elim hA fun h=>by omega
  have nA1:¬v1.A b:=fun h=>(holdA1 b h).elim hA fun h=>by omega
  have nf:¬(aE rest b∨b=cf∨b=cb):=fun h=>by have:=hge b (hsub b h);omega
  have k2:v1.heap[b]? =v.heap[b]? :=hr.keep b (by have:=h3.size;omega) nA;have k3:v'.heap[b]? =v1.heap[b]? :=hE.keep b (by have:=h3.size;have:=hr.size;show b < v1.heap.size;omega) (fun h=>h.elim nA1 fun h=>nf (.inr h)) (fun h=>nf (.inl h));exact k3.trans (k2.trans k1)
 ·
  exact(hO.far b (hsub b (.inl hb))).2 (hZ▸hz)
 ·
  have:=hO.domZ b (hZ▸hb);exact Nat.lt_of_lt_of_le this (Nat.le_trans hr.size hE.size)
theorem K.JC.runD{c:Cx}{C:Code}{Γ Γ':Ga}{Δ Δ':List D}{a:Act}{v:VW}{T:Tq}{b:Frame}{k:List Item}{cs:List Frame}(hT:c.M.ok T)(hb:b.roundOf=c.rd)(st:St c Γ Δ a v)(h:JC c C (cE (fun a w=>St c Γ' Δ' a w) (fun _ _ _=>False)) Γ Δ)(hc:∀a' v',St c Γ' Δ' a' v'→T v' (b.atR a' k) cs):
 T v (b.atR a (.code C::k)) cs:=tg hT hb st h fun e a' v' q=>by
 cases e with
 |normal=>exact hc a' v' q
 |_=>exact q.elim
theorem PP:∀w,(zeroValue 168).run Tryz.prog w= .ok (.agg #[.int .i64 0]) w:=fun w=>by kernel_rfl
theorem RR:∀S w,(A.cells S w (.agg (.eq (.int .i64 (0:Int)))) (Value.cells (.agg #[.int .i64 0])).toList):=fun _ _=>⟨rfl,rfl⟩
theorem PO:∀w,(zeroValue 174).run Tryz.prog w= .ok (.agg #[.int .u64 0,.int .u32 0]) w:=fun w=>by kernel_rfl
theorem RQ:∀S w,(A.cells S w (.agg (.pair (.eq (.int .u64 (0:Int))) (.eq (.int .u32 (0:Int))))) (Value.cells (.agg #[.int .u64 0,.int .u32 0])).toList):=fun _ _=>⟨[_],_,rfl,⟨rfl,rfl⟩,rfl,rfl⟩
noncomputable def Sv (i:Nat):Code:=match i,Tryz.f73.body with
 |0,some (.seq r _)=>r
 |1,some (.seq _ (.seq r _))=>r
 |2,some (.seq _ (.seq _ (.seq r _)))=>r
 |3,some (.seq _ (.seq _ (.seq _ (.seq (.seq r _) _))))=>r
 |_,_=>.skip
section
variable {x:dr}{ld:List (List Int)}{d:Int}
@[reducible] noncomputable def BG (S:FS) (v:VW):Cx:=⟨Tryz.prog,24,S,v,aE [],none,[],i8 Tryz.prog⟩
@[reducible] noncomputable def UJ (x:dr) (ld:List (List Int)) (d:Int):List A:=[.at bD x,.rep (.arr 3 (.arr 5 (.int .i64))) ld,.eq (.int .i64 d)]
theorem QL{S:FS}{w0:VW}{T:Tq}(hT:(i8 Tryz.prog).ok T){b:Frame}(hb:b.roundOf=none){kk:List Item}{cs:List Frame}{a:Act}{v:VW}(st:St (BG S w0) (entry 0 (UJ x ld d)) [] a v)
 (next:∀a' v',St (BG S w0) [(3,.at (.ptr bD) x),(4,.at (.arr 3 (.arr 5 (.int .i64))) ld),(5,.at (.int .i64) d)] [] a' v'→T v' (b.atR a' kk) cs):T v (b.atR a (.code (Sv 0)::kk)) cs:=by
 refine JC.runD (c:=BG S w0) hT hb st ?_ next
 show JC _ (.region _ _ false) _ _ _
 refine ab ?_
 refine aD rfl rfl rfl (oV rfl trivial) ⟨rfl,trivial⟩ fun b3=>?_
 refine aD rfl rfl rfl (oV rfl rfl) ⟨rfl,trivial⟩ fun b4=>?_
 refine aD rfl rfl rfl (oV rfl rfl) ⟨rfl,trivial⟩ fun b5=>?_
 refine dF rfl ?_
 refine cp (lT (t:=.int .i64) (x:=d) [5] .int ⟨rfl,trivial⟩) ?_
 refine cp (lT (t:=.arr 3 (.arr 5 (.int .i64))) (x:=ld) [4] .rep ⟨rfl,trivial⟩) ?_
 refine cp (lT (t:=.ptr bD) (x:=x) [3] .ptr ⟨rfl,trivial⟩) ?_
 refine ax (ag ?_)
 exact kx (junk:=[]) (by repeat (first |exact trivial |refine⟨rfl,?_⟩)) mg
theorem Of{C:Code}{S:FS}{w0:VW}{T:Tq}(hT:(i8 Tryz.prog).ok T){b:Frame}(hb:b.roundOf=none){kk:List Item}{cs:List Frame}{a:Act}{v:VW}(st:St (BG S w0) [(3,.at (.ptr bD) x),(4,.at (.arr 3 (.arr 5 (.int .i64))) ld),(5,.at (.int .i64) d)] [] a v)
 (next:∀a' v' b7 b8,St (BG S w0) [(3,.at (.ptr bD) x),(4,.at (.arr 3 (.arr 5 (.int .i64))) ld),(5,.at (.int .i64) d),(7,.eq (.pointer (some ⟨b7,0,none⟩))),(8,.eq (.pointer (some ⟨b8,0,none⟩)))] [.obj b8 174 (.agg (.pair (.eq (.int .u64 (0:Int))) (.eq (.int .u32 (0:Int))))),.obj b7 168 (.agg (.eq (.int .i64 (0:Int))))] a' v'→T v' (b.atR a' (.code C::kk)) cs):T v (b.atR a (.code (Sv 1):: .code (.seq (Sv 2) C)::kk)) cs:=by
 refine tg (c:=BG S w0) (Q:=cE (fun a w=>∃b7,St (BG S w0) [(3,.at (.ptr bD) x),(4,.at (.arr 3 (.arr 5 (.int .i64))) ld),(5,.at (.int .i64) d),(7,.eq (.pointer (some ⟨b7,0,none⟩)))] [.obj b7 168 (.agg (.eq (.int .i64 (0:Int))))] a w) (fun _ _ _=>False)) hT hb st ?_ fun e a1 v1 q1=>?_
 ·
  show JC _ (.region _ _ false) _ _ _;refine ab ?_;refine aD rfl rfl rfl (aY rfl PP RR) trivial fun b7=>?_;refine ax (ag ?_);exact fun a w st=>⟨b7,(kx (junk:=[]) (by repeat (first |exact trivial |refine⟨rfl,?_⟩)) (by simp)) a w st⟩
 cases e with
 |normal=>
  obtain⟨b7,st1⟩:=q1;refine hT.1.move (fun _ _=>eB) ?_;refine tg (c:=BG S w0) (Q:=cE (fun a w=>∃b8,St (BG S w0) [(3,.at (.ptr bD) x),(4,.at (.arr 3 (.arr 5 (.int .i64))) ld),(5,.at (.int .i64) d),(7,.eq (.pointer (some ⟨b7,0,none⟩))),(8,.eq (.pointer (some ⟨b8,0,none⟩)))] [.obj b8 174 (.agg (.pair (.eq (.int .u64 (0:Int))) (.eq (.int .u32 (0:Int))))),.obj b7 168 (.agg (.eq (.int .i64 (0:Int))))] a w) (fun _ _ _=>False)) hT hb st1 ?_ fun e a2 v2 q2=>?_
  ·show JC _ (.region _ _ false) _ _ _;refine ab ?_;refine aD rfl rfl rfl (aY rfl PO RQ) trivial fun b8=>?_;refine ax (ag ?_);exact fun a w st=>⟨b8,(kx (junk:=[]) (by repeat (first |exact trivial |refine⟨rfl,?_⟩)) (by simp)) a w st⟩
  cases e with
  |normal=>obtain⟨b8,st2⟩:=q2;exact next a2 v2 b7 b8 st2
  |_=>exact q2.elim
 |_=>exact q1.elim
theorem QK{S:FS}{w0:VW}{T:Tq}(hT:(i8 Tryz.prog).ok T){b:Frame}(hb:b.roundOf=none){kk:List Item}{cs:List Frame}{a:Act}{v:VW}{b7 b8:Nat}{Δ:List D}{p:Gp}(e7:p.xA=⟨b7,0,none⟩)(e8:p.stA=⟨b8,0,none⟩)(st:St (BG S w0) [(3,.at (.ptr bD) x),(4,.at (.arr 3 (.arr 5 (.int .i64))) ld),(5,.at (.int .i64) d),(7,.eq (.pointer (some ⟨b7,0,none⟩))),(8,.eq (.pointer (some ⟨b8,0,none⟩)))] Δ a v)
 (next:∀a' v',St (BG S w0) (ua p x ld d x.1.2.2.length 0) Δ a' v'→T v' (b.atR a' kk) cs):T v (b.atR a (.code (Sv 3)::kk)) cs:=by
 refine JC.runD (c:=BG S w0) hT hb st ?_ next
 rw [show ua p x ld d x.1.2.2.length 0=[(3,.at (.ptr bD) x),(4,.at (.arr 3 (.arr 5 (.int .i64))) ld),(5,.at (.int .i64) d),(7,.eq (.pointer (some ⟨b7,0,none⟩))),(8,.eq (.pointer (some ⟨b8,0,none⟩))),(15,.eq (.int .i64 (x.1.2.2.length:Int))),(16,.eq (.int .i64 ((0:Nat):Int)))] by rw [←e7,←e8]]
 show JC _ (.region _ _ false) _ _ _
 refine ab ?_
 refine aF rfl (an (t:=.ptr bD) rfl pP rfl) ⟨rfl,trivial⟩ ?_
 refine aF rfl (dN rfl) ⟨rfl,trivial⟩ ?_
 refine aF rfl (aG 3 true rfl kl rfl) ⟨rfl,trivial⟩ ?_
 refine aF rfl (aG 1 false rfl cM rfl) ⟨rfl,trivial⟩ ?_
 refine aF rfl (an (t:=.slice (.int .i64)) rfl bZ rfl) ⟨rfl,trivial⟩ ?_
 refine aF rfl (ju rfl rfl Tryz.underlying22) ⟨rfl,trivial⟩ ?_
 refine ff rfl ?_
 refine ax (ag ?_)
 exact kx (junk:=[]) (by repeat (first |exact trivial |refine⟨rfl,?_⟩)) (by simp)
@[reducible] def Ly(b8 b7:Nat):Gp:=⟨b8,b7,174,168⟩
@[reducible] noncomputable def TJ (b8 b7:Nat):List D:=[.obj b8 174 (.agg (.pair (.eq (.int .u64 (0:Int))) (.eq (.int .u32 (0:Int))))),.obj b7 168 (.agg (.eq (.int .i64 (0:Int))))]
theorem QN{S:FS}{v:VW}{b8 b7:Nat}(h:bb (TJ b8 b7) S v):(Ly b8 b7).At v ⟨0,0,0,0⟩∧b8≠b7∧(∀y,(Ly b8 b7).sh y↔aE (TJ b8 b7) y):=by
 obtain⟨c8,h1,h2⟩:=h.holds _ (List.mem_cons_self ..);obtain⟨c7,h3,h4⟩:=h.holds _ (List.mem_cons_of_mem _ (List.mem_cons_self ..));obtain⟨q1,q2,rfl,⟨rfl,_⟩,rfl,_⟩:=h2;obtain⟨rfl,_⟩:=h4;refine⟨⟨h1,h3⟩,fun e=>?_,fun y=>?_⟩
 ·exact(List.pairwise_cons.1 h.apart).1 _ (List.mem_cons_self ..) b8 rfl (by rw [e];rfl)
 ·constructor
  ·rintro(rfl |rfl)
   ·exact⟨_,List.mem_cons_self ..,rfl⟩
   ·exact⟨_,List.mem_cons_of_mem _ (List.mem_cons_self ..),rfl⟩
  ·rintro⟨D,hD,hy⟩;simp only [List.mem_cons,List.not_mem_nil,or_false] at hD;rcases hD with rfl |rfl
   ·simp only [D.foot,Option.some.injEq] at hy;exact .inl hy.symm
   ·simp only [D.foot,Option.some.injEq] at hy;exact .inr hy.symm
theorem xM{f:Nat→Nat}:∀r m,aS f m≤aS f (m+r)
 |0,_=>Nat.le_refl _
 |r+1,m=>Nat.le_trans (xM r m) (by rw [←Nat.add_assoc];simp only [aS];omega)
theorem Lu{k s N:Nat}(hs:wb k x ld d N=some s)(hN1:N≤1000)(hs2:s < 9223372036854775808){S:FS}{w0:VW}{T:Tq}(hT:(i8 Tryz.prog).ok T){b:Frame}(hb:b.roundOf=none)(hbk:b.kind≠.early){kk:List Item}{cs:List Frame}{a:Act}{v:VW}{b7 b8:Nat}
 (st:St (BG S w0) (ua (Ly b8 b7) x ld d N 0) (TJ b8 b7) a v) (next:∀a' v',St (BG S w0) [(6,.eq (.int .i64 (s:Int)))] [] a' v'→T v' (b.atR a' (.code .ret::kk)) cs):
 T v (b.atR a (.code (.block 0 (.loop yW)):: .code Nh::kk)) cs:=by
 obtain⟨i1,i2,S1,i3,i4,i5,i6⟩:=st
 refine hT.2 _ _ _ fun Gd hG v1 hr gs sl tt kq hL=>?_
 have hnx:Nx Tryz.prog Gd:=hG.next
 have hO1:=i5.rely i3.dom hr
 obtain⟨hat,hne,hsh⟩:=QN hO1
 have hn0:0 < gs.size:=(Array.getElem?_eq_some_iff.1 hL.head).1
 obtain⟨hone,hfu⟩:=F4 (n0:=gs.size) hs
 refine Jv (P:=Tryz.prog) (p:=Ly b8 b7) (tot:=fun i=>if i < gs.size then 0 else(pQ k x ld (i - gs.size:Nat) d).getD 0) hO1.domA hO1.domZ hat hne (fun y hy=>(hO1.far y ((hsh y).1 hy)).1) (fun i hi=>if_pos hi) hL ?_
 have bc:BC Tryz.prog (TW Tryz.prog (Ly b8 b7) (fun i=>if i < gs.size then 0 else(pQ k x ld (i - gs.size:Nat) d).getD 0) gs.size 0 false 0 false (qU gs.size 0) Gd):=TW.bc hnx qT
 refine bc.move (fun _ _=>oJ) ?_
 refine bc.move (fun _ _=>yS) ?_
 have hI0:NI ⟨v1.toWorld,fun y=>v1.A y∨(Ly b8 b7).sh y,v1.Z⟩ S1 (ua (Ly b8 b7) x ld d N 0) a ⟨v1.toWorld,fun y=>v1.A y∨(Ly b8 b7).sh y,v1.Z⟩:=by
  refine⟨S1,i1,i2,bU.refl fun y hy=>Nat.lt_of_lt_of_le (i3.dom y hy) hr.size,⟨fun _ h=>by simp at h,fun _ h=>(fw h).elim,List.Pairwise.nil,fun _ h=>(fw h).elim,fun y hy h=>?_,fun y h=>?_,hO1.domZ⟩,fun s r hl=>A.mono (fun _ h=>h) (kF i3.dom i5.sees hr) r (i6 s r hl)⟩
  ·rcases h with h |h
   ·exact hO1.sees y hy h
   ·exact(hO1.own y ((hsh y).1 h)).1 hy
  ·rcases h with h |h
   ·exact hO1.domA y h
   ·exact(hO1.own y ((hsh y).1 h)).2
 refine FZ (k:=k) (n0:=gs.size) hnx hne hN1 (fun i hi=>?_) hn0 (fun m hm=>?_) hb hbk (fun a1 v2 h1 hI1=>?_) N 0 (Nat.zero_add N) a _ (fun y hy=>.inr hy) hI0
 ·
  obtain⟨c,hc⟩:=hone i hi;show _=some (if gs.size+i < gs.size then 0 else _);rw [if_neg (by omega),show gs.size+i - gs.size=i by omega,hc];rfl
 ·
  refine Nat.lt_of_le_of_lt (xM (gs.size+N - m) m) ?_;rw [show m+(gs.size+N - m)=gs.size+N by omega,hfu];exact hs2
 ·
  refine IV hnx hne hb hbk h1 hI1 fun a3 v3 h3 hI3=>?_;refine TW.fin (Z0:=w0.Z) hT.1 hG ?_;obtain⟨S4,j1,j2,j3,j4,j5⟩:=hI3;rw [hfu] at j5;exact next a3 _ (Lx (c:=BG S w0) (cf:=b8) (cb:=b7) (fun y ⟨d,hd,_⟩=>by simp at hd) i3 i4 i5 hr (fun y hy=>hy.elim (fun h=>(fw h).elim) (hsh y).1) j1 j2 j3 j4 j5)
theorem tC(k:Nat)(r:Int)(h:f6 k x ld d=some r):dC (i8 Tryz.prog) 73 (UJ x ld d) [] (fun _:Unit=>(bj [.eq (.int .i64 r)],[])):=by
 unfold f6 at h;split at h
 ·rename_i hlen;obtain⟨s,hs,h⟩:=Option.bind_eq_some_iff.1 h;split at h
  ·rename_i hs2;cases h;refine K.dC.ofT 24 Tryz.func73 rfl rfl rfl fun kind hk S w0 a st T hT cs hc=>?_;refine hT.1.move (fun _ _=>eB) ?_;refine QL hT rfl st fun a1 v1 st1=>?_;refine hT.1.move (fun _ _=>eB) ?_;refine Of hT rfl st1 fun a2 v2 b7 b8 st2=>?_;refine hT.1.move (fun _ _=>eB) ?_;refine hT.1.move (fun _ _=>eB) ?_;refine QK (p:=Ly b8 b7) hT rfl rfl rfl st2 fun a3 v3 st3=>?_;refine Lu hs hlen hs2 hT rfl hk st3 fun a4 v4 st4=>?_;refine tg (c:=BG S w0) hT rfl st4 ?_ hc;refine bI ?_;exact jh () [_] ⟨rfl,trivial⟩ rfl
  ·cases h
 ·cases h
end
end Go.Proofs.YtmeojbemjkmebaaGreatDoor
set_option linter.unusedVariables false
set_option maxRecDepth 4000
set_option maxHeartbeats 1000000
namespace Go.Proofs.YtmeojbemjkmebaaGreatDoor
open K Go Go.Proofs
@[reducible] def aw:Ty:=.agg (.pair ak .val)
theorem rP{S:FS}{w:World}{t:aP}{m:Value}{v:Value}(h:(A.at aw (t,m)).holds S w v):(A.at bD (t,())).holds S w v:=by
 obtain⟨b,off,c,T,fz,e,hb,hc,c1,c2,e2,h1,h2,h3⟩:=h;exact⟨b,off,c,T,fz,e,hb,hc,c1,c2,e2,h1,m,h2,h3⟩
theorem O3{t:aP}{m:Value}:AE (.at aw (t,m)) (.at bD (t,())):=fun S w cs h=>by
 obtain⟨b,off,c,T,fz,e,hb,hc,c1,c2,e2,h1,h2,h3⟩:=h
 exact⟨b,off,c,T,fz,e,hb,hc,c1,c2,e2,h1,m,h2,h3⟩
theorem PR:∀w,(zeroValue 146).run Tryz.prog w= .ok (.agg #[(.int .i64 (0)),(.slice none 0 0),(.slice none 0 0),(.map none)]) w:=fun w=>by kernel_rfl
theorem P9:zp Tryz.prog 146 #[(0,3),(3,1)]:=⟨_,Tryz.underlying146,fun _=>by kernel_rfl⟩
theorem O1:∀S w,(A.cells S w (.pair (.agg (.pair (.eq (.int .i64 (0:Int))) (.pair (.eq (.slice none 0 0)) (.eq (.slice none 0 0))))) (.eq (.map none))) (Value.cells (.agg #[(.int .i64 (0)),(.slice none 0 0),(.slice none 0 0),(.map none)])).toList):=fun _ _=>⟨[_,_,_],_,rfl,⟨[_],_,rfl,⟨rfl,rfl⟩,⟨[_],_,rfl,⟨rfl,rfl⟩,⟨rfl,rfl⟩⟩⟩,⟨rfl,rfl⟩⟩
theorem gq(a0:aP):bX Tryz.prog 44 [.rep ak a0] [] (fun z:Nat=>(bj [.at aw (a0,.map (some z))],[.raw z (.map #[] 0)])):=by
 refine bX.of 7 Tryz.func44 rfl Tryz.ntmps44 rfl fun S w0=>?_;refine ar ?_;refine ab ?_;refine aD rfl rfl rfl (oV rfl rfl) ⟨rfl,trivial⟩ fun b1=>?_;refine dF rfl ?_;refine ax ?_;refine ag ?_;show JC _ _ _ _ _;refine ar ?_;refine ab ?_;refine bW rfl rfl rfl (ai rfl c6 (uA) rfl) ⟨rfl,trivial⟩ ?_;refine aD rfl rfl rfl (FA rfl) trivial fun z=>?_;refine aF rfl (c9 [(0,.tmp 3,_),(1,.tmp 4,_)] rfl P9 PR O1 (iM ⟨rfl,rfl,trivial⟩) rfl) ⟨rfl,rfl,trivial⟩ ?_;refine aD rfl rfl rfl (oV rfl trivial) ⟨rfl,trivial⟩ fun b2=>?_;refine dn rfl rfl ?_;refine ax ?_;refine ag ?_;show JC _ _ _ _ _;refine dG (lT (t:=aw) (x:=(a0,.map (some z))) [2] (.agg (.pair .rep (.val rfl))) ⟨rfl,trivial⟩) ?_;refine bI ?_;exact aN z [_] 1 ⟨rfl,trivial⟩ rfl
theorem mP(k:Nat)(a0:dr)(a1:List (List Int))(a2:Int)(r:Int)(h:f6 k a0 a1 a2=some r):dC (i8 Tryz.prog) 73 [.at bD a0,.rep (.arr 3 (.arr 5 (.int .i64))) a1,.eq (.int .i64 a2)] [] (fun _:Unit=>(bj [.eq (.int .i64 r)],[])):=tC k r h
def ii(l:List Int):List Value:=l.map fun n=>.int .i64 n
def lw(l:List (List Int)):Value:=.agg (l.flatMap ii).toArray
def JZ(l:List (List Int)):Prop:=l.length=3∧∀r∈l,r.length=5∧∀n∈r, -1≤n∧n < 8
instance (l:List (List Int)):Decidable (JZ l):=by unfold JZ;infer_instance
theorem zT:∀{l l':List Int},ii l=ii l'→l=l'
 |[],[],_=>rfl
 |[],_::_,h=>by cases h
 |_::_,[],h=>by cases h
 |a::l,b::l',h=>by
  have h:Value.int .i64 a::ii l=Value.int .i64 b::ii l':=h
  simp only [List.cons.injEq,Value.int.injEq,true_and] at h
  rw [h.1,zT h.2]
theorem me(l:List Int):(ii l).length=l.length:=by simp [ii]
theorem xz{l l':List (List Int)}(h1:JZ l)(h2:JZ l')(h:lw l=lw l'):l=l':=by
 have key:∀{l l':List (List Int)},(∀r∈l,r.length=5)→(∀r∈l',r.length=5)→l.flatMap ii=l'.flatMap ii→l=l':=by
  intro l
  induction l with
  |nil=>intro l' _ g h;cases l' with
   |nil=>rfl
   |cons r l'=>exfalso;have e:=congrArg List.length h;have:=g r (by simp);simp [List.flatMap_cons,me,this] at e;omega
  |cons r l ih=>intro l' g0 g h;cases l' with
   |nil=>exfalso;have e:=congrArg List.length h;have:=g0 r (by simp);simp [List.flatMap_cons,me,this] at e
   |cons r' l'=>
    simp only [List.flatMap_cons] at h;obtain⟨e1,e2⟩:=List.append_inj h (by rw [me,me,g0 r (by simp),g r' (by simp)]);rw [zT e1,ih (fun x hx=>g0 x (by simp [hx])) (fun x hx=>g x (by simp [hx])) e2]
 simp only [lw,Value.agg.injEq] at h;exact key (fun r hr=>(h1.2 r hr).1) (fun r hr=>(h2.2 r hr).1) (by simpa using congrArg Array.toList h)
theorem vV{S:FS}{w:World}{u:Value}{l:List (List Int)}(h:(A.rep (.arr 3 (.arr 5 (.int .i64))) l).holds S w u):u=lw l:=by
 obtain⟨cs,⟨_,h1⟩,h2⟩:=h
 have row:∀{r:List Int} {cs:List Value},cN (rd S w (.int .i64)) r cs→cs=ii r:=by
  intro r
  induction r with
  |nil=>intro cs h;exact h
  |cons n r ih=>rintro cs ⟨c1,c2,rfl,h1,h2⟩;have h1:c1=[.int .i64 n]:=h1;rw [h1,ih h2];rfl
 have key:∀{l:List (List Int)} {cs:List Value},cN (rd S w (.arr 5 (.int .i64))) l cs→cs=l.flatMap ii:=by
  intro l
  induction l with
  |nil=>intro cs h;exact h
  |cons r l ih=>rintro cs ⟨c1,c2,rfl,h1,h2⟩;rw [row h1.2,ih h2];rfl
 rw [h2,key h1];rfl
theorem xy(l:List (List Int)):nW (lw l)=true:=by
 have row:∀r:List Int,(ii r).all wQ=true:=fun r=>by
  induction r with
  |nil=>rfl
  |cons n r ih=>exact ih
 show((l.flatMap ii).toArray.toList.all wQ)=true
 induction l with
 |nil=>rfl
 |cons r l ih=>simp only [List.flatMap_cons,List.all_append,row,Bool.true_and];exact ih
theorem NA:Tryz.prog.types.size+2≤10000:=Nat.le_of_ble_eq_true (by kernel_rfl)
theorem E3:85 < Tryz.prog.types.size:=Nat.lt_of_lt_of_le (Nat.lt_succ_self 85) (Nat.le_of_ble_eq_true (by kernel_rfl))
theorem AN:WideMaps.KeyLaw Tryz.prog 85:=deep_law_gate (by kernel_rfl) NA (Nat.lt_of_lt_of_le (Nat.lt_succ_self 85) (Nat.le_of_ble_eq_true (by kernel_rfl))) (by kernel_rfl) (by kernel_rfl)
theorem GY{n:Int}(h1: -1≤n)(h2:n < 8):(Lit.int .i64 n).wf=true:=by
 simp only [Lit.wf,Bool.and_eq_true,decide_eq_true_eq];exact⟨Int.le_trans (by decide) h1,Int.le_trans (Int.le_of_lt h2) (by decide)⟩
theorem yO(d:Nat){l:List Int}(h5:l.length=5)(hw:∀n∈l, -1≤n∧n < 8):Tryz.prog.keyLits (d+2) 83 (ii l)=some (l.map fun n=>.int .i64 n):=by
 match l,h5,hw with
 |[a,b,c,e,f],_,hw=>
  have hint:∀(n:Int),n∈[a,b,c,e,f]→Tryz.prog.keyLits (d+1) 3 [.int .i64 n]=some [.int .i64 n]:=fun n h=>by
   have:=hw n h;simp only [Program.keyLits,Tryz.underlying3,GY this.1 this.2,and_self,if_true]
  have hc:Tryz.prog.cellsOf 83=5:=by kernel_rfl
  have hc3:Tryz.prog.cellsOf 3=1:=by kernel_rfl
  have hr:List.range 5=[0,1,2,3,4]:=by decide
  unfold Program.keyLits;simp [ii,Tryz.underlying83,hc,hc3,hr,hint a (by simp),hint b (by simp),hint c (by simp),hint e (by simp),hint f (by simp)]
theorem ID{l:List (List Int)}(h:JZ l):∃lt,keyOf Tryz.prog 85 (lw l)=some lt:=by
 obtain⟨h3,hr⟩:=h;match l,h3,hr with
 |[r1,r2,r3],_,hr=>
  obtain⟨d,hd⟩:∃d,Tryz.prog.types.size+1=d+3:=⟨Tryz.prog.types.size - 2,by have:=E3;omega⟩;obtain⟨l1,g1⟩:=hr r1 (by simp);obtain⟨l2,g2⟩:=hr r2 (by simp);obtain⟨l3,g3⟩:=hr r3 (by simp);have k1:=yO d l1 g1;have k2:=yO d l2 g2;have k3:=yO d l3 g3;have n1:=me r1;have n2:=me r2;have n3:=me r3;rw [l1] at n1;rw [l2] at n2;rw [l3] at n3;have hc:Tryz.prog.cellsOf 85=15:=by kernel_rfl
  have hc5:Tryz.prog.cellsOf 83=5:=by kernel_rfl
  have hk:Tryz.prog.keyType 85=true:=by kernel_rfl
  have hr3:List.range 3=[0,1,2]:=by decide
  have e0':(ii r1++(ii r2++ii r3)).take 5=ii r1:=by rw [←n1,List.take_left]
  have e1:((ii r1++(ii r2++ii r3)).drop 5).take 5=ii r2:=by rw [←n1,List.drop_left,n1,←n2,List.take_left]
  have e2:((ii r1++(ii r2++ii r3)).drop 10).take 5=ii r3:=by
   rw [show 10=(ii r1++ii r2).length by simp [n1,n2],←List.append_assoc,List.drop_left,←n3,List.take_length]
  have hL:Tryz.prog.keyLits (Tryz.prog.types.size+1) 85 (lw [r1,r2,r3]).cells.toList=some (r1.map (fun n=>.int .i64 n)++(r2.map (fun n=>.int .i64 n)++r3.map (fun n=>.int .i64 n))):=by
   rw [hd];have hcs:(lw [r1,r2,r3]).cells.toList=ii r1++(ii r2++ii r3):=by simp [lw,Value.cells]
   have hlen:(ii r1++(ii r2++ii r3)).length=15:=by simp [n1,n2,n3]
   rw [hcs];generalize ii r1++(ii r2++ii r3)=cs at *;unfold Program.keyLits;simp [Tryz.underlying85,hc,hlen,hc5,hr3,e0',e1,e2,k1,k2,k3]
  refine⟨.string (keyBytes (r1.map (fun n=>.int .i64 n)++(r2.map (fun n=>.int .i64 n)++r3.map (fun n=>.int .i64 n)))),?_⟩;unfold keyOf;rw [Tryz.underlying85];have hf:(lw [r1,r2,r3]).formed Tryz.prog 85=true:=by simp [lw,Value.formed,Tryz.underlying85,hc,n1,n2,n3]
  simp only [hk,hf,Bool.and_self,if_true,hL,Option.map_some]
def bQ(k:Nat)(a0:aP)(a1:List (List Int)):Option Int:=
 (cU (JZ a1)).bind fun _=>(f6 k (a0,()) a1 0).bind fun n=>some n
def bC(k:Nat)(a0:aP):Obj→Prop:=mB Tryz.prog 85 fun kv n=>∃l,JZ l∧kv=lw l∧bQ k a0 l=some n
theorem lR{k:Nat}{a0:aP}:bC k a0 (.map #[] 0):=mB.nil
theorem FQ{k:Nat}{a0:aP}{kv:Value}:∀n n':Int,(∃l,JZ l∧kv=lw l∧bQ k a0 l=some n)→(∃l,JZ l∧kv=lw l∧bQ k a0 l=some n')→n=n':=by
 rintro n n' ⟨p,h1,h2,h3⟩ ⟨q,h4,h5,h6⟩;obtain rfl:=xz h1 h4 (h2.symm.trans h5);exact Option.some.inj (h3.symm.trans h6)
theorem Nu:∀w,(zeroValue 3).run Tryz.prog w= .ok (.int .i64 0) w:=fun w=>by kernel_rfl
def NJ(l:List Int):Prop:=l.length=5∧∀n∈l, -1≤n∧n < 8
instance (l:List Int):Decidable (NJ l):=by unfold NJ;infer_instance
end Go.Proofs.YtmeojbemjkmebaaGreatDoor
set_option linter.unusedVariables false
set_option maxRecDepth 4000
namespace Go.Proofs.YtmeojbemjkmebaaGreatDoor
open K Go Go.Proofs
theorem K.SE.finE{c:Cx}{Γ Γ':Ga}(E:List D)(hs:J1 Γ' Γ):SE c Γ E Γ' E:=bi [] E [] hs rfl
theorem zE{vs:Nat→Value}:∀{l:List (List Int)} {j:Nat},(d6 vs j l).length=l.length
 |[],_=>rfl
 |_::l,j=>by simp only [d6,List.length_cons,zE (l:=l)]
theorem Iw{vs:Nat→Value}{l:List (List Int)}{x:List Int}{v:Value}(h:bm (List.length l+List.length [x])):bm (List.length (d6 vs 0 l)+List.length [v]):=by
 rw [zE];exact h
section
variable {P:Program}
end
theorem sO(k:Nat)(a0:(List (List Int)))(r:(List (List Int)))(h:jy k a0=some r):
 bX Tryz.prog 28 [.rep (.slice (.slice (.int .i64))) a0] [] (fun z:Value×(Nat→Value)=>(bj [.eq z.1],fD 22 z r)):=by
 unfold jy at h
 replace h:=a9 h
 refine bX.of 20 Tryz.func28 rfl Tryz.ntmps28 rfl fun S w0=>?_
 refine ar ?_
 refine ab ?_
 refine dF rfl ?_
 refine ax ?_
 refine ag ?_
 show JC _ _ _ _ _
 refine ar ?_
 refine ab ?_
 refine dF rfl ?_
 refine ax ?_
 refine ag ?_
 show JC _ _ _ _ _
 refine aI (Z:=Value×(Nat→Value)) (α:=(List (List Int))) (fun z2 x1=>[(3,.eq z2.1)]) (fun z2 x1=>fD 22 z2 x1) h (fun K h=>?_) (fun z2 x1 h=>?_)
 ·
  refine ar ?_;refine ab ?_;refine dF rfl ?_;refine ax ?_;refine ag ?_;show JC _ _ _ _ _;refine aj ?_;refine dG (SE.nil 22 .val) ?_;refine dG (Bn (n:=0) (F:=[])) ?_;refine aK (Z:=Value×(Nat→Value)) (α:=(List (List Int))×Int) (fun z4 y3=>[(0,.rep (.slice (.slice (.int .i64))) a0),(3,.eq z4.1),(4,.eq (.int .i64 y3.2))]) (fun z4 y3=>fD 22 z4 y3.1) (fk k a0) k (.slice none 0 0,fun _=>.slice none 0 0) (([]:(List (List Int))),(0:Int)) (fun _=>rfl) h (SE.finE (fD 22 (.slice none 0 0,fun _=>.slice none 0 0) []) ⟨rfl,rfl,rfl,trivial⟩) (fun n z4 y3 h=>?_);unfold fk at h;refine ar ?_;refine ar ?_;refine ab ?_;refine aC rfl rfl ?_;refine aC rfl rfl ?_;refine aF rfl (ju rfl rfl Tryz.underlying28) ⟨rfl,trivial⟩ ?_;refine aF rfl (bq rfl) ⟨rfl,rfl,trivial⟩ ?_;refine ax ?_;refine ag ?_;show JC _ _ _ _ _;refine bK rfl (fun hb=>?_) (fun hb=>?_)
  ·replace h:=cF (nX hb) h;refine cR ?_;refine ag ?_;show JC _ _ _ _ _;refine ar ?_;refine aj ?_;refine ab ?_;refine aC rfl rfl ?_;refine aC rfl rfl ?_;refine aC rfl rfl ?_;obtain⟨x5,ex5,h⟩:=aa h;refine aF rfl (aH (t:=(.slice (.int .i64))) rfl Tryz.underlying28 bZ ex5) ⟨rfl,rfl,trivial⟩ ?_;refine aF rfl (an (t:=(.slice (.int .i64))) rfl bZ rfl) ⟨rfl,trivial⟩ ?_;obtain⟨r6,er6,h⟩:=aa h;have cr6:=dp k x5 r6 er6;refine aD rfl rfl rfl (ao [.tmp 15] rfl rfl za rfl cr6) ⟨rfl,trivial⟩ fun v7=>?_;refine fA fun hv=>?_;refine aF rfl (bg (t:=.val) [(.tmp 16,_)] [v7] rfl rfl mI (.cons hv (.val hv) .nil) rfl rfl) ⟨rfl,trivial⟩ ?_;obtain⟨u8,eu8,h⟩:=aa h;refine cp (fE (Δ':=.sl z4.1 22 .val (d6 z4.2 0 y3.1):: .sl v7 3 (.int .i64) r6::kS z4.2 0 y3.1) (List.Perm.swap _ _ _)) ?_;refine cz rfl rfl rfl (bf rfl rfl mI (Iw (aA eu8))) ⟨rfl,rfl,trivial⟩ fun v9=>?_;refine dn rfl rfl ?_;refine ax ?_;refine bS ?_;refine ag ?_;refine bu (fE (Δ':=.sl v7 3 (.int .i64) r6:: .sl v9 22 .val (d6 z4.2 0 y3.1++[v7])::([]++kS z4.2 0 y3.1)) (List.Perm.swap _ _ _)) ?_;refine bu (yb (pre:=[])) ?_;show JC _ _ _ _ _;refine ab ?_;refine aC rfl rfl ?_;obtain⟨x10,ex10,h⟩:=aa h;refine aF rfl (be rfl ex10) ⟨rfl,rfl,trivial⟩ ?_;refine dn rfl rfl ?_;refine ax ?_;refine ag ?_;exact jg ((v9,nD z4.2 y3.1.length v7),(y3.1++[r6],x10)) h (SE.finE (fD 22 (v9,nD z4.2 y3.1.length v7) (y3.1++[r6])) ⟨rfl,rfl,rfl,trivial⟩)
  ·replace h:=bM (nk hb) h;refine jI ?_;refine cC ?_;refine cC ?_;refine eH ?_;refine ag ?_;exact jg (z4,y3.1) h (SE.finE (fD 22 z4 y3.1) ⟨rfl,trivial⟩)
 ·
  refine ar ?_;refine ab ?_;refine aC rfl rfl ?_;refine dn rfl rfl ?_;refine ax ?_;refine ag ?_;show JC _ _ _ _ _;refine bI ?_;obtain rfl:=Option.some.inj h;exact aN z2 [.eq z2.1] (fD 22 z2 x1).length ⟨rfl,trivial⟩ (by rw [List.take_length])
end Go.Proofs.YtmeojbemjkmebaaGreatDoor
