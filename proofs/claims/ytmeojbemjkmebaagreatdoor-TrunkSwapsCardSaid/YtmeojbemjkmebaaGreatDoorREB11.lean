import Derived.Test.YtmeojbemjkmebaaGreatDoorChecked
import Derived.Test.YtmeojbemjkmebaaGreatDoorREB8
import Derived.Test.YtmeojbemjkmebaaGreatDoorREF1
import Derived.Test.YtmeojbemjkmebaaGreatDoorREB5
set_option linter.unusedSimpArgs false
set_option linter.unusedVariables false
set_option maxRecDepth 20000
set_option maxHeartbeats 4000000
namespace Go.Proofs.YtmeojbemjkmebaaGreatDoor
open K Go Go.Proofs Go.Conc Go.Conc.Lib
abbrev Nl:Go.Conc.Lib.WgLink:={ add:=99,done:=101,wait:=103,relMerge:=120,disable:=121,enable:=122,inBubble:=123,associate:=124,fatal:=125,uOr:=126,uAdd:=127,raceRead:=128,uLoad:=129,uStore:=130,disassociate:=131,semrelease:=132,acquire:=134,isAssociated:=135,uCas:=136,raceWrite:=137,semacquire:=138,orU64:=150,addU64:=151,loadU64:=152,storeU64:=153,casU64:=154,tWgP:=200,tUP:=180,tAssoc:=202,tWg:=174,tAU:=171,tU64:=64,tUint:=179,tU32:=172,tPU32:=206,tPAU:=240,tPU64:=242,tNoCopy:=169,tANoCopy:=165,tAlign64:=166 }
theorem zq:Go.Conc.Lib.WgLib Tryz.prog Nl:=
 ⟨Tryz.func99,Tryz.func101,Tryz.func103,Tryz.func120,Tryz.func121,Tryz.func122,Tryz.func123,Tryz.func124,Tryz.func125,Tryz.func126,Tryz.func127,Tryz.func128,Tryz.func129,Tryz.func130,Tryz.func131,Tryz.func132,Tryz.func134,Tryz.func135,Tryz.func136,Tryz.func137,Tryz.func138,Tryz.func150,Tryz.func151,Tryz.func152,Tryz.func153,Tryz.func154,Tryz.underlying200,Tryz.runUnderlying200,Tryz.sizeOf200,Tryz.isAgg200,Tryz.zeroValue200,Tryz.underlying180,Tryz.runUnderlying180,Tryz.sizeOf180,Tryz.isAgg180,Tryz.zeroValue180,Tryz.underlying202,Tryz.runUnderlying202,Tryz.sizeOf202,Tryz.isAgg202,Tryz.zeroValue202,Tryz.underlying174,Tryz.runUnderlying174,Tryz.sizeOf174,Tryz.isAgg174,Tryz.zeroValue174,Tryz.underlying171,Tryz.runUnderlying171,Tryz.sizeOf171,Tryz.isAgg171,Tryz.zeroValue171,Tryz.underlying64,Tryz.runUnderlying64,Tryz.sizeOf64,Tryz.isAgg64,Tryz.zeroValue64,Tryz.underlying179,Tryz.runUnderlying179,Tryz.sizeOf179,Tryz.isAgg179,Tryz.zeroValue179,Tryz.underlying172,Tryz.runUnderlying172,Tryz.sizeOf172,Tryz.isAgg172,Tryz.zeroValue172,Tryz.underlying206,Tryz.runUnderlying206,Tryz.sizeOf206,Tryz.isAgg206,Tryz.zeroValue206,Tryz.underlying240,Tryz.runUnderlying240,Tryz.sizeOf240,Tryz.isAgg240,Tryz.zeroValue240,Tryz.underlying242,Tryz.runUnderlying242,Tryz.sizeOf242,Tryz.isAgg242,Tryz.zeroValue242,Tryz.underlying0,Tryz.runUnderlying0,Tryz.sizeOf0,Tryz.isAgg0,Tryz.zeroValue0,Tryz.underlying3,Tryz.runUnderlying3,Tryz.sizeOf3,Tryz.isAgg3,Tryz.zeroValue3,Tryz.underlying4,Tryz.runUnderlying4,Tryz.sizeOf4,Tryz.isAgg4,Tryz.zeroValue4,Tryz.underlying9,Tryz.runUnderlying9,Tryz.sizeOf9,Tryz.isAgg9,Tryz.zeroValue9,Tryz.underlying20,Tryz.runUnderlying20,Tryz.sizeOf20,Tryz.isAgg20,Tryz.zeroValue20,Tryz.underlying21,Tryz.runUnderlying21,Tryz.sizeOf21,Tryz.isAgg21,Tryz.zeroValue21,(by kernel_rfl),(by kernel_rfl)⟩
section
variable {p:Gp}{tot:Nat}{c:Frame}{cs:List Frame}{v0 v:VW}
theorem LV(hne:p.bw≠p.bs){m:Nat}(hm:m < tot)(hk:∀v' u,WV v0 Tryz.prog p tot (.work (m+1)) v' (c.finish u) cs):
 Qt (WV v0 Tryz.prog p tot (.work m)) v (base 102) (c::cs) 10 [] [.code (Tryz.f102.body.getD .skip)] (ent 0 [.pointer (some p.xA),.int .i64 1]):=by
 have hT:Mv Tryz.prog p.Live false (WV v0 Tryz.prog p tot (.work m)):=Jk (by simp)
 refine qb ?_
 refine Qt.op hT rfl (eu (k:=0) rfl (dx (n:=0) Tryz.underlying168 rfl Tryz.sizeOf2) rfl) ?_
 refine qb ?_
 refine RE (d:=9) (s:=.work m) (u:=fun q=>.int .i64 ((q.x+1:Nat):Int)) (W:=fun w q=>w.setCell p.xA (.int .i64 ((q.x+1:Nat):Int))) (by simp) (fun e=>by cases e) (fun a ha w q hat hp=>?_) (fun w q hat _=>?_) fun v' q hp=>?_
 ·
  have hx:q.x+1 < 9223372036854775808:=hp hm
  have hw:IntKind.i64.wrap ((q.x:Int)+1)=((q.x+1:Nat):Int):=by
   rw [IntKind.wrap_i64];omega
  refine(stepG_add_atomic rfl (aA rfl _) (by exact fun h=>nomatch h) rfl Tryz.func133 (by kernel_rfl) (by kernel_rfl) (by kernel_rfl) .i64 (by kernel_rfl) (ad:=p.xA) (ha.ev rfl) (ha.ev rfl) hat.cx hat.fx).trans ?_;rw [hw];simp only [Ph.evs,if_pos hm];rfl
 ·
  simp only [Ph.eff,if_pos hm];exact Gp.Eff.x hne hat
 simp only [Ph.nx,if_pos hm]
 replace hT:Mv Tryz.prog p.Live false (WV v0 Tryz.prog p tot (.work (m+1))):=Jk (by simp)
 refine qb ?_
 exact Qt.ret hT (gI hT rfl Tryz.func102 rfl rfl (hk _ _))
end
section
variable {p:Gp}{tot:Nat→Nat}{n:Nat}{Gd:Machine→Trace→Prop}{c:Frame}{cs:List Frame}{v0 v:VW}
theorem OH{sg:Nat→Ph}(h:ug n sg):am n tot sg=aS tot n:=by
 unfold am;exact kM fun i hi=>by rw [h i hi];rfl
theorem Ie(hnx:Nx Tryz.prog Gd)(hk:∀v',TV v0 Tryz.prog p tot n 0 false 0 true (ug n) Gd v' (c.finish (.int .i64 ((aS tot n:Nat):Int))) cs):
 Qt (TV v0 Tryz.prog p tot n 0 false 0 true (ug n) Gd) v (base 104) (c::cs) 7 [] [.code (Tryz.f104.body.getD .skip)] (ent 0 [.pointer (some p.xA)]):=by
 have hT:=fW (v0:=v0) (p:=p) (md:=0) (rg:=false) (pd:=0) (jn:=true) hnx (AH (tot:=tot) (n:=n))
 refine qb ?_
 refine Qt.op hT rfl (eu (k:=0) rfl (dx (n:=0) Tryz.underlying168 rfl Tryz.sizeOf2) rfl) ?_
 refine Ba (d:=6) hnx AH (es:=fun _=> #[uy p.xA]) (u:=fun q=>.int .i64 ((aS tot n:Nat):Int)) (W:=fun w q=>w) (e:=fun q=>q) (rg':=fun _=>false) (pd':=fun _=>0) (Iv':=fun q=>ug n)
  (fun q=>uD (.inr rfl)) (fun a ha w q hat hb=>?_) (fun w q hat=>Gp.Eff.refl hat) (fun q sg hb hi=>⟨hb,hi⟩) fun v' q hb=>?_
 ·
  obtain⟨sg,hb,hi⟩:=hb;have hc0:=hat.cx;rw [hb.x,OH hi] at hc0;exact(stepG_load_atomic rfl (aA rfl _) (by exact fun h=>nomatch h) rfl Tryz.func139 (by kernel_rfl) (by kernel_rfl) (by kernel_rfl) .i64 (by kernel_rfl) (ad:=p.xA) (ha.ev rfl) hc0).trans rfl
 refine qb ?_
 exact Qt.ret hT (gI hT rfl Tryz.func104 rfl rfl (hk _))
end
end Go.Proofs.YtmeojbemjkmebaaGreatDoor
set_option linter.unusedVariables false
set_option maxRecDepth 4000
set_option maxHeartbeats 1000000
namespace Go.Proofs.YtmeojbemjkmebaaGreatDoor
open K Go Go.Proofs Go.Conc
def xH(s i:Int):Bool:=decide (wR .u8 (iH .u8 s i) 1=1)
def q9(s:Int):Nat→Nat→Nat
 |0,_=>0
 |n+1,i=>(cond (xH s i) 1 0)+q9 s n (i+1)
def Qy(k:Nat)(x:dn):Nat→Int→List Int→Option Nat
 |0,_,_=>some 0
 |n+1,d,l=>(ip k x d).bind fun w=>(ng k l w).bind fun r=>(Qy k x n (d+1) r.2).bind fun c=>some (q9 r.1 x.1.2.1.length 0+c)
def pA(k:Nat)(x:dn)(ld:List (List Int))(t f:Int):Option Nat:=
 if x.1.1≤1000000∧x.1.2.1.length≤1000000∧0≤f then(dP k ld t).bind fun l=>Qy k x (x.1.1 - f).toNat f l else none
theorem Qw:ae Tryz.prog 100:=ae.of Tryz.func100 (by kernel_rfl) (by kernel_rfl)
theorem Lh:ae Tryz.prog 71:=ae.of Tryz.func71 (by kernel_rfl) (by kernel_rfl)
theorem IJ:ae Tryz.prog 78:=ae.of Tryz.func78 (by kernel_rfl) (by kernel_rfl)
theorem II:ae Tryz.prog 97:=ae.of Tryz.func97 (by kernel_rfl) (by kernel_rfl)
theorem IH:ae Tryz.prog 98:=ae.of Tryz.func98 (by kernel_rfl) (by kernel_rfl)
theorem pz:dJ Tryz.prog 80 1 false:=⟨fun w=>by kernel_rfl,fun w=>by kernel_rfl⟩
theorem sN{c:Cx}{C:Code}{Q:Exit→Act→VW→Prop}{Γ:Ga}{Δ:List D}{a:Act}{v:VW}{T:Tq}{b:Frame}{k:List Item}{cs:List Frame}(hT:c.M.ok T)(hb:b.roundOf=c.rd)(st:St c Γ Δ a v)(h:JC c C Q Γ Δ)(hc:∀e a' v',Q e a' v'→mW T b k cs e a' v'):
 T v (b.atR a (.code C::k)) cs:=h a v st T hT b k cs hb hc
@[reducible] noncomputable def UN (c:Cx) (Γ:Ga):Exit→Act→VW→Prop:=cu (fun a w=>St c Γ [] a w) (fun _ _ _=>False)
theorem fA{c:Cx}{C:Code}{Γ Γ':Ga}{a:Act}{v:VW}{T:Tq}{b:Frame}{k:List Item}{cs:List Frame}(hT:c.M.ok T)(hb:b.roundOf=c.rd)(st:St c Γ [] a v)(h:JC c C (UN c Γ') Γ [])(hc:∀a' v',St c Γ' [] a' v'→T v' (b.atR a' k) cs):
 T v (b.atR a (.code C::k)) cs:=sN hT hb st h fun e a' v' q=>by
 cases e with
 |normal=>exact hc a' v' q
 |_=>exact q.elim
theorem jG{c:Cx}{Γ:Ga}{Δ:List D}{a:Act}{v:VW}{s:Nat}{x:Value}(st:St c Γ Δ a v)(h:lk Γ s=some (.eq x)):a.eval (.tmp s)=x:=by
 obtain⟨_,_,S,_,_,_,h6⟩:=st;exact h6 s _ h
noncomputable def C9:Code:=match Tryz.f100.body with
 |some (.seq _ (.seq _ (.seq _ (.block _ (.loop b)))))=>b
 |_=>.skip
noncomputable def D6:Code:=match C9 with
 | .seq _ (.seq (.block _ (.seq _ (.seq (.seq _ (.block _ (.loop b))) _))) _)=>b
 |_=>.skip
section
variable {p:Gp}{tot:Nat}{k:Nat}{x:dn}{Sh:FS}{v0:VW}{kk:List Item}{cs:List Frame}
@[reducible] noncomputable def yL (p:Gp) (Sh:FS) (v0:VW):Cx:=⟨Tryz.prog,47,Sh,v0,aF [],none,[dcall 101 #[.pointer (some p.stA)]],Md.plain Tryz.prog⟩
@[reducible] noncomputable def vR (p:Gp) (x:dn) (d:Int) (l:List Int) (s:Int) (i:Nat):Ga:=[(4,.at (.ptr bI) x),(5,.eq (.pointer (some p.xA))),(7,.eq (.int .i64 d)),(8,.eq (.int .u8 s)),(9,.rep (.slice (.int .i64)) l),(37,.eq (.int .i64 (x.1.2.1.length:Int))),(38,.eq (.int .i64 (i:Int)))]
abbrev N4:Frame:={ (default:Frame) with fn:=100,kind:=.deferred }
theorem K.St.sh{c:Cx}{Γ:Ga}{Δ:List D}{a:Act}{v:VW}(st:St c Γ Δ a v){b:Nat}(h:c.w0.A b):v.A b:=by
 obtain⟨_,_,S,h3,_⟩:=st;exact h3.subA b h
theorem K.St.pop{c:Cx}{Γ:Ga}{Δ:List D}{a:Act}{v:VW}{d:Nat}{r0:A}(st:St c ((d,r0)::Γ) Δ a v)(hd:lk Γ d=none:=by exact rfl):St c Γ Δ a v:=by
 obtain⟨h1,h2,S,h3,h4,h5,h6⟩:=st;refine⟨h1,h2,S,h3,h4,h5,fun s r hl=>h6 s r ?_⟩;simp only [lk];rw [if_neg (fun e=>by subst e;rw [hd] at hl;cases hl)];exact hl
theorem Iw{k:Nat}{s:Int}{i:Nat}:dU k s (i:Int)=some (xH s i):=by
 simp [dU,dj,xH]
theorem IG(hne:p.bw≠p.bs)(hsh:∀b,p.sh b→v0.A b)(hlen:x.1.2.1.length≤1000000){d:Int}{l:List Int}{s:Int}:∀(n i m:Nat) (a:Act) (v:VW),x.1.2.1.length=i+n→St (yL p Sh v0) (vR p x d l s i) [] a v→m+q9 s n i≤tot→
 (∀a' v',St (yL p Sh v0) (vR p x d l s (i+n)) [] a' v'→Ww Tryz.prog p tot (.work (m+q9 s n i)) v' (N4.atR a' kk) cs)→
 Ww Tryz.prog p tot (.work m) v (N4.atR a (.code D6:: .inLoop D6:: .inBlock 2::kk)) cs:=fun n=>by
 induction n with
 |zero=>
  intro i m a v hi st hm next
  have bc:BC Tryz.prog (Ww Tryz.prog p tot (.work m)):=Ww.bc
  refine bc.move (fun _ _=>eB) ?_
  refine fA (c:=yL p Sh v0) (Γ':=(39,.eq (.bool false))::vR p x d l s i) bc rfl st ?_ fun a1 v1 st1=>?_
  ·
   refine ab ?_
   refine aG rfl (bg rfl) ⟨rfl,rfl,trivial⟩ ?_
   refine ay (ag ?_)
   rw [decide_eq_false (by omega)]
   exact fun _ _ h=>h
  refine bc.move (fun _ _=>eB) ?_
  refine bc.move (fun _ _=>og (t:=false) (jG st1 (s:=39) rfl)) ?_
  rw [if_neg (by decide)]
  refine bc.move (fun _ _=>yJ rfl) ?_
  exact next a1 v1 st1.pop
 |succ n ih=>
  intro i m a v hi st hm next
  have bc:BC Tryz.prog (Ww Tryz.prog p tot (.work m)):=Ww.bc
  refine bc.move (fun _ _=>eB) ?_
  refine fA (c:=yL p Sh v0) (Γ':=(39,.eq (.bool true))::vR p x d l s i) bc rfl st ?_ fun a1 v1 st1=>?_
  ·
   refine ab ?_
   refine aG rfl (bg rfl) ⟨rfl,rfl,trivial⟩ ?_
   refine ay (ag ?_)
   rw [decide_eq_true (by omega)]
   exact fun _ _ h=>h
  refine bc.move (fun _ _=>eB) ?_
  refine bc.move (fun _ _=>og (t:=true) (jG st1 (s:=39) rfl)) ?_
  rw [if_pos rfl]
  refine bc.move (fun _ _=>vP) ?_
  refine bc.move (fun _ _=>eB) ?_
  refine bc.move (fun _ _=>oh) ?_
  refine bc.move (fun _ _=>eB) ?_
  refine fA (c:=yL p Sh v0) (Γ':=(10,.eq (.int .i64 (i:Int)))::vR p x d l s i) bc rfl st1.pop ?_ fun a2 v2 st2=>?_
  ·
   refine ab ?_
   refine aC rfl rfl ?_
   refine de rfl rfl ?_
   refine ay (ag ?_)
   exact kB (junk:=[]) (by repeat (first |exact trivial |refine⟨rfl,?_⟩)) me
  refine bc.move (fun _ _=>eB) ?_
  refine fA (c:=yL p Sh v0) (Γ':=(43,.eq (.bool (xH s i)))::vR p x d l s i) bc rfl st2 ?_ fun a3 v3 st3=>?_
  ·
   refine ab ?_
   refine aC rfl rfl ?_
   refine aC rfl rfl ?_
   refine aG rfl (ap [.tmp 41,.tmp 42] rfl rfl Lh rfl (iK 0 s i _ Iw)) ⟨rfl,rfl,trivial⟩ ?_
   refine ay (ag ?_)
   exact kB (junk:=[]) (by repeat (first |exact trivial |refine⟨rfl,?_⟩)) me
  have hb:=jG st3 (s:=43) rfl
  cases hh:xH s i with
  |true=>
   rw [hh] at hb
   have e1:m+1+q9 s n (i+1)=m+q9 s (n+1) i:=by simp [q9,hh];omega
   refine bc.move (fun _ _=>og (t:=true) hb) ?_
   rw [if_pos rfl]
   refine bc.move (fun _ _=>li) ?_
   have st4:=st3.pop
   have h5:a3.tmps.getD 5 undef= .pointer (some p.xA):=jG st4 (s:=5) rfl
   refine(Qt.call (dT:=[.pointer (some p.xA),.int .i64 1]) (T:=WV v3 Tryz.prog p tot (.work m)) (Jk (by simp)) rfl rfl Tryz.func102 (by kernel_rfl) rfl rfl (fun c hk=>?_):Qt (WV v3 Tryz.prog p tot (.work m)) v3 N4 cs 47 [dcall 101 #[.pointer (some p.stA)]] _ ((5,.pointer (some p.xA))::dT (vR p x d l s i) a3)) a3 (st4.toQ.know h5) ⟨bW.refl _,fun b hb=>st4.sh (hsh b hb)⟩
   refine LV hne (by omega) fun v5 u=>?_
   refine hk _ _ _ fun a5 q5 hv5=>?_
   have st5:St (yL p Sh v0) (vR p x d l s i) [] a5 v5:=(st4.rely hv5.1).ofQ ((Bo.base.know h5).new) q5
   have bc':BC Tryz.prog (Ww Tryz.prog p tot (.work (m+1))):=Ww.bc
   refine bc'.move (fun _ _=>ii) ?_
   refine bc'.move (fun _ _=>nG) ?_
   refine fA (c:=yL p Sh v0) (Γ':=vR p x d l s (i+1)) bc' rfl st5 ?_ fun a6 v6 st6=>?_
   ·
    refine ab ?_
    refine aG rfl (aW rfl (q:=((i+1:Nat):Int)) (by unfold ck;rw [if_pos (by omega)];congr 1)) ⟨rfl,rfl,trivial⟩ ?_
    refine aC rfl rfl ?_
    refine ay (ag ?_)
    exact kB (junk:=[]) (by repeat (first |exact trivial |refine⟨rfl,?_⟩)) me
   refine bc'.move (fun _ _=>px) ?_
   refine ih (i+1) (m+1) a6 v6 (by omega) st6 (by omega) fun a7 v7 st7=>?_
   rw [e1]
   exact next a7 v7 (by rw [show i+(n+1)=i+1+n by omega];exact st7)
  |false=>
   rw [hh] at hb
   have e1:m+q9 s n (i+1)=m+q9 s (n+1) i:=by simp [q9,hh]
   refine bc.move (fun _ _=>og (t:=false) hb) ?_
   rw [if_neg (by decide)]
   refine bc.move (fun _ _=>vP) ?_
   refine bc.move (fun _ _=>nG) ?_
   refine fA (c:=yL p Sh v0) (Γ':=vR p x d l s (i+1)) bc rfl st3.pop ?_ fun a6 v6 st6=>?_
   ·
    refine ab ?_
    refine aG rfl (aW rfl (q:=((i+1:Nat):Int)) (by unfold ck;rw [if_pos (by omega)];congr 1)) ⟨rfl,rfl,trivial⟩ ?_
    refine aC rfl rfl ?_
    refine ay (ag ?_)
    exact kB (junk:=[]) (by repeat (first |exact trivial |refine⟨rfl,?_⟩)) me
   refine bc.move (fun _ _=>px) ?_
   refine ih (i+1) m a6 v6 (by omega) st6 (by omega) fun a7 v7 st7=>?_
   rw [e1]
   exact next a7 v7 (by rw [show i+(n+1)=i+1+n by omega];exact st7)
@[reducible] noncomputable def C7 (p:Gp) (x:dn) (d:Int) (l:List Int):Ga:=[(4,.at (.ptr bI) x),(5,.eq (.pointer (some p.xA))),(6,.rep (.slice (.int .i64)) l),(7,.eq (.int .i64 d))]
@[reducible] noncomputable def To (p:Gp) (x:dn) (d:Int) (l:List Int) (s:Int):Ga:=[(4,.at (.ptr bI) x),(5,.eq (.pointer (some p.xA))),(7,.eq (.int .i64 d)),(8,.eq (.int .u8 s)),(9,.rep (.slice (.int .i64)) l)]
theorem IF(hne:p.bw≠p.bs)(hsh:∀b,p.sh b→v0.A b)(hlen:x.1.2.1.length≤1000000)(hdays:x.1.1≤1000000){dd:Deferred}:∀(n m c:Nat) (d:Int) (l:List Int) (a:Act) (v:VW),n=(x.1.1 - d).toNat→0≤d→Qy k x n d l=some c→m+c=tot→St (yL p Sh v0) (C7 p x d l) [] a v→
 Ww Tryz.prog p tot (.work m) v (N4.atR a [.code C9,.inLoop C9,.inBlock 0]) [{ fV Tryz.prog dd with defers:=[] }]:=fun n=>by
 induction n with
 |zero=>
  intro m c d l a v hn hd hc hm st
  have bc:BC Tryz.prog (Ww Tryz.prog p tot (.work m)):=Ww.bc
  cases hc
  refine bc.move (fun _ _=>eB) ?_
  refine bc.move (fun _ _=>eB) ?_
  refine fA (c:=yL p Sh v0) (Γ':=(21,.eq (.bool false))::C7 p x d l) bc rfl st ?_ fun a1 v1 st1=>?_
  ·
   refine ab ?_
   refine aC rfl rfl ?_
   refine aG rfl (ak (t:=.ptr bI) rfl pz rfl) ⟨rfl,trivial⟩ ?_
   refine aG rfl (dL rfl) ⟨rfl,trivial⟩ ?_
   refine aG rfl (aJ 3 true rfl ko rfl) ⟨rfl,trivial⟩ ?_
   refine aG rfl (aJ 1 false rfl f9 rfl) ⟨rfl,trivial⟩ ?_
   refine aG rfl (ak (t:=.int .i64) rfl bY rfl) ⟨rfl,trivial⟩ ?_
   refine aG rfl (bg rfl) ⟨rfl,rfl,trivial⟩ ?_
   refine ay (ag ?_)
   rw [decide_eq_false (by omega)]
   exact kB (junk:=[]) (by repeat (first |exact trivial |refine⟨rfl,?_⟩)) me
  refine bc.move (fun _ _=>og (t:=false) (jG st1 (s:=21) rfl)) ?_
  rw [if_neg (by decide)]
  refine bc.move (fun _ _=>yJ rfl) ?_
  exact(Qt.fin (sH (by simp)) (AW zq hne (by omega) fun v'=>Js rfl Tryz.func100 rfl):Qt (Ww Tryz.prog p tot (.work m)) v1 N4 [{ fV Tryz.prog dd with defers:=[] }] 47 [dcall 101 #[.pointer (some p.stA)]] [] (dT (C7 p x d l) a1)) a1 st1.pop.toQ
 |succ n ih=>
  intro m c d l a v hn hd hc hm st
  have bc:BC Tryz.prog (Ww Tryz.prog p tot (.work m)):=Ww.bc
  obtain⟨w,hw,hc⟩:=Option.bind_eq_some_iff.1 hc
  obtain⟨r,hr,hc⟩:=Option.bind_eq_some_iff.1 hc
  obtain⟨c',hc',hc⟩:=Option.bind_eq_some_iff.1 hc
  have hcc:q9 r.1 x.1.2.1.length 0+c'=c:=Option.some.inj hc
  refine bc.move (fun _ _=>eB) ?_
  refine bc.move (fun _ _=>eB) ?_
  refine fA (c:=yL p Sh v0) (Γ':=(21,.eq (.bool true))::C7 p x d l) bc rfl st ?_ fun a1 v1 st1=>?_
  ·
   refine ab ?_
   refine aC rfl rfl ?_
   refine aG rfl (ak (t:=.ptr bI) rfl pz rfl) ⟨rfl,trivial⟩ ?_
   refine aG rfl (dL rfl) ⟨rfl,trivial⟩ ?_
   refine aG rfl (aJ 3 true rfl ko rfl) ⟨rfl,trivial⟩ ?_
   refine aG rfl (aJ 1 false rfl f9 rfl) ⟨rfl,trivial⟩ ?_
   refine aG rfl (ak (t:=.int .i64) rfl bY rfl) ⟨rfl,trivial⟩ ?_
   refine aG rfl (bg rfl) ⟨rfl,rfl,trivial⟩ ?_
   refine ay (ag ?_)
   rw [decide_eq_true (by omega)]
   exact kB (junk:=[]) (by repeat (first |exact trivial |refine⟨rfl,?_⟩)) me
  refine bc.move (fun _ _=>og (t:=true) (jG st1 (s:=21) rfl)) ?_
  rw [if_pos rfl]
  refine bc.move (fun _ _=>vP) ?_
  refine bc.move (fun _ _=>eB) ?_
  refine bc.move (fun _ _=>oh) ?_
  refine bc.move (fun _ _=>eB) ?_
  refine fA (c:=yL p Sh v0) (Γ':=To p x d r.2 r.1) bc rfl st1.pop ?_ fun a2 v2 st2=>?_
  ·
   refine ab ?_
   refine aC rfl rfl ?_
   refine aG rfl (ak (t:=.ptr bI) rfl pz rfl) ⟨rfl,trivial⟩ ?_
   refine aC rfl rfl ?_
   refine aG rfl (ap [.tmp 26,.tmp 27] rfl rfl IH rfl (nb k x d _ hw)) ⟨rfl,rfl,trivial⟩ ?_
   refine aG rfl (ap [.tmp 25,.tmp 28] rfl rfl II rfl (t9 k l w _ hr)) ⟨rfl,rfl,trivial⟩ ?_
   refine aC rfl rfl ?_
   refine aG rfl (dF rfl rfl) ⟨rfl,trivial⟩ ?_
   refine aG rfl (dF rfl rfl) ⟨rfl,trivial⟩ ?_
   refine de rfl rfl ?_
   refine de rfl rfl ?_
   refine ay (ag ?_)
   exact kB (junk:=[]) (by repeat (first |exact trivial |refine⟨rfl,?_⟩)) me
  refine bc.move (fun _ _=>eB) ?_
  refine bc.move (fun _ _=>eB) ?_
  refine fA (c:=yL p Sh v0) (Γ':=vR p x d r.2 r.1 0) bc rfl st2 ?_ fun a3 v3 st3=>?_
  ·
   refine ab ?_
   refine aG rfl (ak (t:=.ptr bI) rfl pz rfl) ⟨rfl,trivial⟩ ?_
   refine aG rfl (dL rfl) ⟨rfl,trivial⟩ ?_
   refine aG rfl (aJ 3 true rfl ko rfl) ⟨rfl,trivial⟩ ?_
   refine aG rfl (aJ 1 false rfl bN rfl) ⟨rfl,trivial⟩ ?_
   refine aG rfl (ak (t:=.slice aH) rfl eI rfl) ⟨rfl,trivial⟩ ?_
   refine aG rfl (jQ rfl rfl Tryz.underlying25) ⟨rfl,trivial⟩ ?_
   refine ff rfl ?_
   refine ay (ag ?_)
   exact kB (junk:=[]) (by repeat (first |exact trivial |refine⟨rfl,?_⟩)) me
  refine bc.move (fun _ _=>oh) ?_
  refine bc.move (fun _ _=>yI) ?_
  refine IG hne hsh hlen x.1.2.1.length 0 m a3 v3 (by omega) st3 (by omega) fun a4 v4 st4=>?_
  have bc':BC Tryz.prog (Ww Tryz.prog p tot (.work (m+q9 r.1 x.1.2.1.length 0))):=Ww.bc
  refine fA (c:=yL p Sh v0) (Γ':=C7 p x d r.2) bc' rfl st4 ?_ fun a5 v5 st5=>?_
  ·
   refine ab ?_
   refine aC rfl rfl ?_
   refine de rfl rfl ?_
   refine ay (ag ?_)
   exact kB (junk:=[]) (by repeat (first |exact trivial |refine⟨rfl,?_⟩)) me
  refine bc'.move (fun _ _=>nG) ?_
  refine fA (c:=yL p Sh v0) (Γ':=C7 p x (d+1) r.2) bc' rfl st5 ?_ fun a6 v6 st6=>?_
  ·
   refine ab ?_
   refine aC rfl rfl ?_
   refine aG rfl (aW rfl (q:=d+1) (by unfold ck;rw [if_pos (by omega)])) ⟨rfl,rfl,trivial⟩ ?_
   refine de rfl rfl ?_
   refine ay (ag ?_)
   exact kB (junk:=[]) (by repeat (first |exact trivial |refine⟨rfl,?_⟩)) me
  refine bc'.move (fun _ _=>px) ?_
  exact ih _ c' (d+1) r.2 a6 v6 (by omega) (by omega) hc' (by omega) st6
@[reducible] noncomputable def Qz (p:Gp) (x:dn) (ld:List (List Int)) (t f:Int):List A:=[.eq (.pointer (some p.stA)),.at (.arr 3 (.arr 5 (.int .i64))) ld,.at (.int .i64) t,.at (.int .i64) f,.at (.ptr bI) x,.eq (.pointer (some p.xA))]
theorem FD(hne:p.bw≠p.bs){ld:List (List Int)}{t f:Int}(hw:pA k x ld t f=some tot){p0 p1 p2 p3 p4 p5:Value}{v:VW}(hd:∀b,Sh b→b < v.heap.size)(hO:bb [] Sh v)(hsh:∀b,p.sh b→v.A b)(hall:gf Sh v (Qz p x ld t f) [p0,p1,p2,p3,p4,p5]):
 Ww Tryz.prog p tot (.work 0) v (fV Tryz.prog { target:=.fn (.func 100) #[p0,p1,p2,p3,p4,p5],args:= #[] }) []:=by
 have bc:BC Tryz.prog (Ww Tryz.prog p tot (.work 0)):=Ww.bc
 unfold pA at hw
 split at hw
 ·
  rename_i hc;obtain⟨h1,h2,h3⟩:=hc;obtain⟨l,hl,hw⟩:=Option.bind_eq_some_iff.1 hw;refine bc.move (fun m w=>yK Qw) ?_;rw [enter_at Tryz.func100 rfl];have st0:St ⟨Tryz.prog,47,Sh,v,aF [],none,[],Md.plain Tryz.prog⟩ (entry 0 (Qz p x ld t f)) [] { tmps:= #[p0,p1,p2,p3,p4,p5]++Array.replicate (47 - 6) undef,defers:=[] } v:=St.entry (vs:=[p0,p1,p2,p3,p4,p5]) rfl hd hall hO
  have key:∀a0,St ⟨Tryz.prog,47,Sh,v,aF [],none,[],Md.plain Tryz.prog⟩ (entry 0 (Qz p x ld t f)) [] a0 v→Ww Tryz.prog p tot (.work 0) v (N4.atR a0 [.code (Tryz.f100.body.getD .skip)]) [{ fV Tryz.prog { target:=.fn (.func 100) #[p0,p1,p2,p3,p4,p5],args:= #[] } with defers:=[] }]:=by
   intro a0 st0;have e0:a0.tmps.getD 0 undef= .pointer (some p.stA):=jG st0 (s:=0) rfl;refine bc.move (fun _ _=>eB) ?_;refine bc.move (fun _ _=>li) ?_;refine(Qt.defer (dT:=[.pointer (some p.stA)]) (T:=Ww Tryz.prog p tot (.work 0)) (sH (by simp)) rfl rfl rfl (fun a1 q1=>?_):Qt (Ww Tryz.prog p tot (.work 0)) v N4 _ 47 [] _ ((0,.pointer (some p.stA))::dT (entry 0 (Qz p x ld t f)) a0)) a0 (st0.toQ.know e0);have st1:St (yL p Sh v) (entry 0 (Qz p x ld t f)) [] a1 v:=st0.ofQ (Bo.base.know e0) q1;refine bc.move (fun _ _=>ii) ?_;refine bc.move (fun _ _=>eB) ?_;refine fA (c:=yL p Sh v) (Γ':=(3,.at (.int .i64) f)::(6,.rep (.slice (.int .i64)) l)::[(4,.at (.ptr bI) x),(5,.eq (.pointer (some p.xA)))]) bc rfl st1 ?_ fun a2 v2 st2=>?_
   ·refine ab ?_;refine aG rfl (ak (t:=.arr 3 (.arr 5 (.int .i64))) rfl ge rfl) ⟨rfl,trivial⟩ ?_;refine aG rfl (ak (t:=.int .i64) rfl bY rfl) ⟨rfl,trivial⟩ ?_;refine aG rfl (ap [.tmp 11,.tmp 12] rfl rfl IJ rfl (gl k ld t _ hl)) ⟨rfl,rfl,trivial⟩ ?_;refine de rfl rfl ?_;refine ay (ag ?_);exact kB (junk:=[]) (by repeat (first |exact trivial |refine⟨rfl,?_⟩)) me
   refine bc.move (fun _ _=>eB) ?_;refine fA (c:=yL p Sh v) (Γ':=C7 p x f l) bc rfl st2 ?_ fun a3 v3 st3=>?_
   ·refine ab ?_;refine aG rfl (ak (t:=.int .i64) rfl bY rfl) ⟨rfl,trivial⟩ ?_;refine de rfl rfl ?_;refine ay (ag ?_);exact kB (junk:=[]) (by repeat (first |exact trivial |refine⟨rfl,?_⟩)) me
   refine bc.move (fun _ _=>oh) ?_;refine bc.move (fun _ _=>yI) ?_;exact IF hne hsh h2 h1 _ 0 tot f l a3 v3 rfl h3 hw (by omega) st3
  exact key _ st0
 ·
  cases hw
end
end Go.Proofs.YtmeojbemjkmebaaGreatDoor
set_option linter.unusedVariables false
set_option maxRecDepth 4000
set_option maxHeartbeats 1000000
namespace Go.Proofs.YtmeojbemjkmebaaGreatDoor
open K Go Go.Proofs Go.Conc
theorem Jv{P:Program}{Wl:World→Prop}{Γ:Gv}{o:Oper}{f:FuncId}{cs:Array Operand}{us:List Value}(ho:o.op= .makeFunc (.func f) #[] cs)(h:cs.toList.map (ev Γ)=us.map some):OV P Wl o Γ (.func (.func f) #[] us.toArray):=fun N df a ha w hl=>by
 have hm:=yW ha h
 simp [execOp,ho,Instr.makeFunc,hm]
noncomputable def yM:Code:=match Tryz.f73.body with
 |some (.seq _ (.seq _ (.seq _ (.seq (.seq _ (.block _ (.loop b))) _))))=>b
 |_=>.skip
section
variable {p:Gp}{tot:Nat→Nat}{k n j:Nat}{x:dn}{ld:List (List Int)}{d:Int}{N:Nat}{Gd:Machine→Trace→Prop}{kk:List Item}{cs:List Frame}{b:Frame}
@[reducible] noncomputable def Gw (S:FS) (v:VW):Cx:=⟨Tryz.prog,24,S,v,aF [],none,[],Md.plain Tryz.prog⟩
@[reducible] noncomputable def tP (p:Gp) (x:dn) (ld:List (List Int)) (d:Int) (N i:Nat):Ga:=[(3,.at (.ptr bI) x),(4,.at (.arr 3 (.arr 5 (.int .i64))) ld),(5,.at (.int .i64) d),(7,.eq (.pointer (some p.xA))),(8,.eq (.pointer (some p.stA))),(15,.eq (.int .i64 (N:Int))),(16,.eq (.int .i64 (i:Int)))]
theorem NY:∀w,(zeroValue 3).run Tryz.prog w= .ok (.int .i64 0) w:=fun w=>by kernel_rfl
theorem N3:∀S w,(A.cells S w (.eq (.int .i64 (0:Int))) (Value.cells (.int .i64 (0:Int))).toList):=fun _ _=>⟨rfl,rfl⟩
@[reducible] def K.ez(v:VW):VW:=⟨v.toWorld,v.A,fun _=>False⟩
theorem K.bS.ez{X:Nat→Prop}{S S':FS}{v v':VW}(h:bS X S v S' v'):bS X S (K.ez v) S' (K.ez v'):=⟨h.sub,h.new,h.dom,h.size,h.keep,h.os,h.tape,h.output,h.subA,h.oldA,rfl⟩
def NI(v0:VW)(S0:FS)(Γ:Ga)(a:Act)(v:VW):Prop:=∃S,a.defers=[]∧a.tmps.size=24∧bS (aF []) S0 (ez v0) S (ez v)∧bb [] S v∧∀s r,lk Γ s=some r→r.holds S v (a.tmps.getD s undef)
theorem pG{b:Frame}{a:Act}{k:List Item}(hb:b.roundOf=none):b.atR a k=b.at a k:=by
 cases b;simp only [Frame.atR,Frame.at] at *;subst hb;rfl
theorem FH(hnx:Nx Tryz.prog Gd)(hne:p.bw≠p.bs){i:Nat}(hi:i < N)(hN:N≤1000)(hj:j < 1000)(hw:pA k x ld i d=some (tot n))(hn:0 < n)(htb:aS tot (n+1) < 9223372036854775808){S0:FS}{v0:VW}{a:Act}{v:VW}(hb:b.roundOf=none)(hbk:b.kind≠.early)
 (hsh:∀y,p.sh y→v.A y) (hI:NI v0 S0 (tP p x ld d N i) a v)
 (next:∀a' v',(∀y,p.sh y→v'.A y)→NI v0 S0 (tP p x ld d N (i+1)) a' v'→TW Tryz.prog p tot (n+1) 0 false 0 false (qy (n+1) (j+1)) Gd v' (b.atR a' kk) cs):
 TW Tryz.prog p tot n 0 false 0 false (qy n j) Gd v (b.atR a (.code yM::kk)) cs:=by
 have bc:BC Tryz.prog (TW Tryz.prog p tot n 0 false 0 false (qy n j) Gd):=TW.bc hnx qx
 have bc1:BC Tryz.prog (TW Tryz.prog p tot n 0 false 1 false (qy n j) Gd):=TW.bc hnx qx
 obtain⟨S,i1,i2,i3,i4,i5⟩:=hI
 have st:St (Gw S v) (tP p x ld d N i) [] a v:=⟨i1,i2,S,bS.refl i3.dom,fun b hb=>.inl hb,i4,i5⟩
 refine bc.move (fun _ _=>eB) ?_
 refine fA (c:=Gw S v) (Γ':=(17,.eq (.bool true))::tP p x ld d N i) bc hb st ?_ fun a1 v1 st1=>?_
 ·
  refine ab ?_;refine aG rfl (bg rfl) ⟨rfl,rfl,trivial⟩ ?_;refine ay (ag ?_);rw [decide_eq_true (by omega)];exact fun _ _ h=>h
 refine bc.move (fun _ _=>eB) ?_
 refine bc.move (fun _ _=>og (t:=true) (jG st1 (s:=17) rfl)) ?_
 rw [if_pos rfl]
 refine bc.move (fun _ _=>vP) ?_
 refine bc.move (fun _ _=>eB) ?_
 refine bc.move (fun _ _=>oh) ?_
 refine bc.move (fun _ _=>eB) ?_
 refine fA (c:=Gw S v) (Γ':=(9,.at (.int .i64) (i:Int))::tP p x ld d N i) bc hb st1.pop ?_ fun a2 v2 st2=>?_
 ·
  refine ab ?_;refine aC rfl rfl ?_;refine aE rfl rfl rfl (a9 rfl NY N3) trivial fun b9=>?_;refine bf rfl rfl (a8 rfl bY rfl rfl rfl) ⟨rfl,rfl,trivial⟩ ?_;refine ct (lS (t:=.int .i64) (x:=(i:Int)) [9] .int ⟨rfl,trivial⟩) ?_;refine ay (ag ?_);exact kB (junk:=[]) (by repeat (first |exact trivial |refine⟨rfl,?_⟩)) me
 refine bc.move (fun _ _=>eB) ?_
 refine bc.move (fun _ _=>li) ?_
 have h8:a2.tmps.getD 8 undef= .pointer (some p.stA):=jG st2 (s:=8) rfl
 rw [pG hb]
 refine(Qt.call (dT:=[.pointer (some p.stA),.int .i64 1]) (T:=TV v2 Tryz.prog p tot n 0 false 0 false (qy n j) Gd) (fW hnx qx) rfl rfl zq.f_add (by kernel_rfl) rfl rfl (fun c hk=>?_) (hk:=hbk):Qt (TV v2 Tryz.prog p tot n 0 false 0 false (qy n j) Gd) v2 b cs 24 [] _ ((8,.pointer (some p.stA))::dT ((9,.at (.int .i64) (i:Int))::tP p x ld d N i) a2)) a2 (st2.toQ.know h8) ⟨bW.refl _,fun y hy=>st2.sh (hsh y hy)⟩
 refine LW hnx zq hne hj fun v3=>?_
 refine hk _ _ _ fun a3 q3 hv3=>?_
 have st3:St (Gw S v) ((9,.at (.int .i64) (i:Int))::tP p x ld d N i) [] a3 v3:=(st2.rely hv3.1).ofQ ((Bo.base.know h8).new) q3
 rw [←pG hb]
 refine bc1.move (fun _ _=>ii) ?_
 refine bc1.move (fun _ _=>li) ?_
 rw [pG hb]
 refine(Qt.op (T:=TV v3 Tryz.prog p tot n 0 false 1 false (qy n j) Gd) (fW hnx qx) rfl (Jv (us:=[a3.tmps.getD 8 undef,a3.tmps.getD 4 undef,a3.tmps.getD 9 undef,a3.tmps.getD 5 undef,a3.tmps.getD 3 undef,a3.tmps.getD 7 undef]) rfl rfl) (fun a4 q4 hv4=>?_) (hk:=hbk):Qt (TV v3 Tryz.prog p tot n 0 false 1 false (qy n j) Gd) v3 b cs 24 [] _ (dT ((9,.at (.int .i64) (i:Int))::tP p x ld d N i) a3)) a3 st3.toQ ⟨bW.refl _,fun y hy=>st3.sh (hsh y hy)⟩
 have st4:St (Gw S v) ((9,.at (.int .i64) (i:Int))::tP p x ld d N i) [] a4 v3:=st3.ofQ (Bo.base.new) q4
 have hx:=q4.val 20 _ rfl
 obtain⟨g1,g2,S2,g3,g4,g5,g6⟩:=st4
 have h63:∀s r,lk ((9,.at (.int .i64) (i:Int))::tP p x ld d N i) s=some r→r.holds S2 v3 (a3.tmps.getD s undef):=fun s r hl=>by
  have e:=q4.val s _ ((Bo.base.new (d:=20) (u:=.func (.func 100) #[] [a3.tmps.getD 8 undef,a3.tmps.getD 4 undef,a3.tmps.getD 9 undef,a3.tmps.getD 5 undef,a3.tmps.getD 3 undef,a3.tmps.getD 7 undef].toArray)) s r hl);rw [←e];exact g6 s r hl
 have hshA:∀y,p.sh y→v3.A y:=fun y hy=>g3.subA y (hsh y hy)
 rw [←pG hb]
 refine TW.spawn hnx qx (Sh:=S2) (Iv':=qy (n+1) (j+1)) (fc:=fV Tryz.prog { target:=.fn (.func 100) #[a3.tmps.getD 8 undef,a3.tmps.getD 4 undef,a3.tmps.getD 9 undef,a3.tmps.getD 5 undef,a3.tmps.getD 3 undef,a3.tmps.getD 7 undef],args:= #[] }) hn (fun w0=>Tn (i:=1) (rest:=[]) rfl (aA rfl _) rfl rfl hx) (fun y hy=>⟨g3.dom y hy,g5.sees y hy⟩) htb (fun sg hsg=>?_) (fun v4 hr4=>?_) ?_
 ·
  have hsg:al n sg Ph.act≤j:=hsg;show al (n+1) (upd sg n (.work 0)) Ph.act≤j+1;unfold al at hsg⊢;simp only [aS];rw [dI,kM fun j hj=>by rw [dy (by omega)]];show _+1≤_;omega
 ·
  have hd4:∀y,S2 y→y < v4.heap.size:=fun y hy=>Nat.lt_of_lt_of_le (g3.dom y hy) hr4.size;have h64:∀s r,lk ((9,.at (.int .i64) (i:Int))::tP p x ld d N i) s=some r→r.holds S2 v4 (a3.tmps.getD s undef):=fun s r hl=>A.mono (fun _ h=>h) (kL g3.dom g5.sees hr4) r (h63 s r hl)
  exact FD hne hw (v:=⟨v4.toWorld,fun b=>b < v4.heap.size∧¬S2 b,S2⟩) hd4 ⟨fun _ h=>by simp at h,fun _ hb=>(ft hb).elim,List.Pairwise.nil,fun _ hb=>(ft hb).elim,fun y hy h=>h.2 hy,fun _ h=>h.1,hd4⟩ (fun y hy=>⟨Nat.lt_of_lt_of_le (g5.domA y (hshA y hy)) hr4.size,fun hS=>g5.sees y hS (hshA y hy)⟩)
   ⟨_,_,rfl,h64 8 _ rfl,_,_,rfl,h64 4 _ rfl,_,_,rfl,h64 9 _ rfl,_,_,rfl,h64 5 _ rfl,_,_,rfl,h64 3 _ rfl,_,_,rfl,h64 7 _ rfl,rfl⟩
 ·
  have bc':BC Tryz.prog (TW Tryz.prog p tot (n+1) 0 false 0 false (qy (n+1) (j+1)) Gd):=TW.bc hnx qx;refine bc'.move (fun _ _=>ii) ?_;refine bc'.move (fun _ _=>nG) ?_;have hO4:bb [] S2 ⟨v3.toWorld,v3.A,fun b=>v3.Z b∨S2 b⟩:=⟨fun _ h=>by simp at h,fun _ hb=>(ft hb).elim,List.Pairwise.nil,fun _ hb=>(ft hb).elim,g5.sees,g5.domA,fun y hy=>hy.elim (g5.domZ y) (g3.dom y)⟩;have hE:bS (aF []) S0 (ez v0) S2 (ez ⟨v3.toWorld,v3.A,fun b=>v3.Z b∨S2 b⟩):=i3.trans g3.ez fun b hb=>.inl hb
  have st5:St (Gw S2 ⟨v3.toWorld,v3.A,fun b=>v3.Z b∨S2 b⟩) (tP p x ld d N i) [] (a4.put none undef) ⟨v3.toWorld,v3.A,fun b=>v3.Z b∨S2 b⟩:=
   ⟨g1,g2,S2,bS.refl g3.dom,fun b hb=>.inl hb,hO4,fun s r hl=>g6 s r (by
    have hs:s≠9:=fun e=>by subst e;simp [lk] at hl
    simp only [lk] at hl⊢;rw [if_neg (fun e=>hs e.symm)];exact hl)⟩
  refine fA (c:=Gw S2 ⟨v3.toWorld,v3.A,fun b=>v3.Z b∨S2 b⟩) (Γ':=tP p x ld d N (i+1)) bc' hb st5 ?_ fun a6 v6 st6=>?_
  ·refine ab ?_;refine aG rfl (aW rfl (q:=((i+1:Nat):Int)) (by unfold ck;rw [if_pos (by omega)];congr 1)) ⟨rfl,rfl,trivial⟩ ?_;refine aC rfl rfl ?_;refine ay (ag ?_);exact kB (junk:=[]) (by repeat (first |exact trivial |refine⟨rfl,?_⟩)) me
  obtain⟨k1,k2,S6,k3,k4,k5,k6⟩:=st6;exact next a6 v6 (fun y hy=>k3.subA y (hshA y hy)) ⟨S6,k1,k2,hE.trans k3.ez fun b hb=>.inl hb,k5,k6⟩
theorem FG{n0:Nat}(hnx:Nx Tryz.prog Gd)(hne:p.bw≠p.bs)(hN:N≤1000)(hws:∀i:Nat,i < N→pA k x ld i d=some (tot (n0+i)))(hn:0 < n0)(htb:∀m,m≤n0+N→aS tot m < 9223372036854775808){S0:FS}{v0:VW}(hb:b.roundOf=none)(hbk:b.kind≠.early)
 (next:∀a' v',(∀y,p.sh y→v'.A y)→NI v0 S0 (tP p x ld d N N) a' v'→TW Tryz.prog p tot (n0+N) 0 false 0 false (qy (n0+N) N) Gd v' (b.atR a' kk) cs):∀(r i:Nat),i+r=N→∀(a:Act) (v:VW),(∀y,p.sh y→v.A y)→NI v0 S0 (tP p x ld d N i) a v→
 TW Tryz.prog p tot (n0+i) 0 false 0 false (qy (n0+i) i) Gd v (b.atR a (.code yM:: .inLoop yM:: .inBlock 0::kk)) cs:=fun r=>by
 induction r with
 |zero=>
  intro i hi a v hsh hI
  obtain rfl:i=N:=by omega
  have bc:BC Tryz.prog (TW Tryz.prog p tot (n0+i) 0 false 0 false (qy (n0+i) i) Gd):=TW.bc hnx qx
  obtain⟨S,i1,i2,i3,i4,i5⟩:=hI
  have st:St (Gw S v) (tP p x ld d i i) [] a v:=⟨i1,i2,S,bS.refl i3.dom,fun b hb=>.inl hb,i4,i5⟩
  refine bc.move (fun _ _=>eB) ?_
  refine fA (c:=Gw S v) (Γ':=(17,.eq (.bool false))::tP p x ld d i i) bc hb st ?_ fun a1 v1 st1=>?_
  ·
   refine ab ?_
   refine aG rfl (bg rfl) ⟨rfl,rfl,trivial⟩ ?_
   refine ay (ag ?_)
   rw [decide_eq_false (by omega)]
   exact fun _ _ h=>h
  refine bc.move (fun _ _=>eB) ?_
  refine bc.move (fun _ _=>og (t:=false) (jG st1 (s:=17) rfl)) ?_
  rw [if_neg (by decide)]
  refine bc.move (fun _ _=>yJ rfl) ?_
  obtain⟨k1,k2,S6,k3,k4,k5,k6⟩:=st1.pop
  exact next a1 v1 (fun y hy=>k3.subA y (hsh y hy)) ⟨S6,k1,k2,i3.trans k3.ez fun b hb=>.inl hb,k5,k6⟩
 |succ r ih=>
  intro i hi a v hsh hI
  refine FH hnx hne (by omega) hN (by omega) (hws i (by omega)) (by omega) (htb _ (by omega)) hb hbk hsh hI fun a' v' hsh' hI'=>?_
  have bc:BC Tryz.prog (TW Tryz.prog p tot (n0+i+1) 0 false 0 false (qy (n0+i+1) (i+1)) Gd):=TW.bc hnx qx
  refine bc.move (fun _ _=>px) ?_
  exact ih (i+1) (by omega) a' v' hsh' hI'
noncomputable def MZ:Code:=match Tryz.f73.body with
 |some (.seq _ (.seq _ (.seq _ (.seq _ c))))=>c
 |_=>.skip
theorem IK(hnx:Nx Tryz.prog Gd)(hne:p.bw≠p.bs){S0:FS}{v0:VW}{a:Act}{v:VW}(hb:b.roundOf=none)(hbk:b.kind≠.early)(hsh:∀y,p.sh y→v.A y)(hI:NI v0 S0 (tP p x ld d N N) a v)
 (next:∀a' v',(∀y,p.sh y→v'.A y)→NI v0 S0 [(6,.eq (.int .i64 ((aS tot n:Nat):Int)))] a' v'→TW Tryz.prog p tot n 0 false 0 true (ug n) Gd v' (b.atR a' (.code .ret::kk)) cs):
 TW Tryz.prog p tot n 0 false 0 false (qy n j) Gd v (b.atR a (.code MZ::kk)) cs:=by
 have bc:BC Tryz.prog (TW Tryz.prog p tot n 0 false 0 false (qy n j) Gd):=TW.bc hnx qx
 have bc1:BC Tryz.prog (TW Tryz.prog p tot n 0 false 0 true (ug n) Gd):=TW.bc hnx AH
 obtain⟨S,i1,i2,i3,i4,i5⟩:=hI
 have st:St (Gw S v) (tP p x ld d N N) [] a v:=⟨i1,i2,S,bS.refl i3.dom,fun b hb=>.inl hb,i4,i5⟩
 have h8:a.tmps.getD 8 undef= .pointer (some p.stA):=jG st (s:=8) rfl
 refine bc.move (fun _ _=>eB) ?_
 refine bc.move (fun _ _=>li) ?_
 rw [pG hb]
 refine(Qt.call (dT:=[.pointer (some p.stA)]) (T:=TV v Tryz.prog p tot n 0 false 0 false (qy n j) Gd) (fW hnx qx) rfl rfl zq.f_wait (by kernel_rfl) rfl rfl (fun c hk=>?_) (hk:=hbk):Qt (TV v Tryz.prog p tot n 0 false 0 false (qy n j) Gd) v b cs 24 [] _ ((8,.pointer (some p.stA))::dT (tP p x ld d N N) a)) a (st.toQ.know h8) ⟨bW.refl _,hsh⟩
 refine GI hnx zq hne fun v1=>?_
 refine hk _ _ _ fun a1 q1 hv1=>?_
 have st1:St (Gw S v) (tP p x ld d N N) [] a1 v1:=(st.rely hv1.1).ofQ ((Bo.base.know h8).new) q1
 have h7:a1.tmps.getD 7 undef= .pointer (some p.xA):=jG st1 (s:=7) rfl
 rw [←pG hb]
 refine bc1.move (fun _ _=>ii) ?_
 refine bc1.move (fun _ _=>eB) ?_
 refine bc1.move (fun _ _=>li) ?_
 rw [pG hb]
 refine(Qt.call (dT:=[.pointer (some p.xA)]) (T:=TV v1 Tryz.prog p tot n 0 false 0 true (ug n) Gd) (fW hnx AH) rfl rfl Tryz.func104 (by kernel_rfl) rfl rfl (fun c hk=>?_) (hk:=hbk):Qt (TV v1 Tryz.prog p tot n 0 false 0 true (ug n) Gd) v1 b cs 24 [] _ ((7,.pointer (some p.xA))::dT (tP p x ld d N N) a1)) a1 (st1.toQ.know h7) ⟨bW.refl _,fun y hy=>st1.sh (hsh y hy)⟩
 refine Ie hnx fun v2=>?_
 refine hk _ _ _ ?_
 refine Qt.op (fW hnx AH) rfl (uP rfl rfl) ?_ (hk:=hbk)
 intro a2 q2 hv2
 have st2:St (Gw S v) (tP p x ld d N N) [] a2 v2:=(st1.rely hv2.1).ofQ (((Bo.base.know h7).new).new) q2
 rw [←pG hb]
 refine bc1.move (fun _ _=>ii) ?_
 obtain⟨k1,k2,S6,k3,k4,k5,k6⟩:=st2
 refine next a2 v2 (fun y hy=>k3.subA y (hsh y hy)) ⟨S6,k1,k2,i3.trans k3.ez fun b hb=>.inl hb,k5,fun s r hl=>?_⟩
 simp only [lk] at hl
 split at hl
 ·
  rename_i e;subst e;cases hl;exact q2.val 6 _ rfl
 ·
  cases hl
end
end Go.Proofs.YtmeojbemjkmebaaGreatDoor
set_option linter.unusedVariables false
set_option maxRecDepth 4000
set_option maxHeartbeats 1000000
namespace Go.Proofs.YtmeojbemjkmebaaGreatDoor
open K Go Go.Proofs Go.Conc
theorem K.dG.ofT{P:Program}{M:Md P}{f:Nat}{fn:Func}{C:Code}{az:List A}{Δ:List D}{X:Type}{R:X→A×List D}(N:Nat)(hf:P.funcs[f]? =some fn)(hb:fn.body=some C)(hN:fn.ntmps=N)(hn:Nat.ble az.length N=true)
 (h:∀kind,kind≠.early→∀S w0 a,St ⟨P,N,S,w0,aF Δ,none,[],M⟩ (entry 0 az) Δ a w0→∀T,M.ok T→∀cs,(∀e a' v',cR P fn (dN S w0 Δ R) e a' v'→mW T { (default:Frame) with fn:=f,kind:=kind } [] cs e a' v')→
  T w0 (Frame.atR { (default:Frame) with fn:=f,kind:=kind } a [.code C]) cs):dG M f az Δ R:=by
 subst hN
 intro kind hkind S w vs hd hall hO T hT cs hc
 have hst:St ⟨P,fn.ntmps,S,w,aF Δ,none,[],M⟩ (entry 0 az) Δ { tmps:=vs.toArray++Array.replicate (fn.ntmps - vs.toArray.size) undef,defers:=[] } w:=St.entry hn hd hall hO
 have he:Frame.enter P f vs.toArray kind=Frame.atR { (default:Frame) with fn:=f,kind:=kind } { tmps:=vs.toArray++Array.replicate (fn.ntmps - vs.toArray.size) undef,defers:=[] } [.code C]:=enter_at hf hb
 rw [he]
 refine h kind hkind S w _ hst T hT cs fun e a' v' q=>?_
 have fin:∀todo,(a'.defers=[]∧∃x,(∀v1,bW v' v1→(results fn a'.tmps).run P v1= .ok x v1∧iI v1 v1 ((results fn a'.tmps).events P v1 #[]))∧dN S w Δ R (.returned x) v')→
  T v' { Frame.atR { (default:Frame) with fn:=f,kind:=kind } a' todo with mode:=.returning } cs:=fun todo ⟨q1,x,q2,q3⟩=>hc _ _ _ q3 rfl rfl ⟨rfl,q1,fn,hf,q2⟩
 cases e with
 |normal=>exact(M.bc T hT).move (fun _ _=>AP rfl) (fin _ q)
 |ret=>exact⟨fun _ todo=>fin todo q,fun h=>by cases h⟩
 |panic chain=>exact fun todo=>hc _ _ _ q.2 rfl rfl ⟨rfl,q.1,fn,hf⟩
 |exit id=>exact q.elim
 |goto l=>exact q.elim
 |outgrown=>exact q.elim
def vQ(k:Nat)(x:dn)(ld:List (List Int))(d:Int):Nat→Option Nat
 |0=>some 0
 |n+1=>(vQ k x ld d n).bind fun s=>(pA k x ld n d).bind fun c=>some (s+c)
def fZ(k:Nat)(x:dn)(ld:List (List Int))(d:Int):Option Int:=
 if x.1.2.2.length≤1000 then(vQ k x ld d x.1.2.2.length).bind fun s=>if s < 9223372036854775808 then some (s:Int) else none else none
theorem FI{k:Nat}{x:dn}{ld:List (List Int)}{d:Int}{n0:Nat}:∀{n s:Nat},vQ k x ld d n=some s→(∀i,i < n→∃c,pA k x ld i d=some c)∧aS (fun i=>if i < n0 then 0 else(pA k x ld (i - n0:Nat) d).getD 0) (n0+n)=s:=by
 intro n
 induction n with
 |zero=>
  intro s h;cases h;refine⟨fun i hi=>absurd hi (Nat.not_lt_zero i),nH fun i hi=>?_⟩;rw [if_pos (by omega)]
 |succ n ih=>
  intro s h;obtain⟨s',h1,h⟩:=Option.bind_eq_some_iff.1 h;obtain⟨c,h2,h⟩:=Option.bind_eq_some_iff.1 h;cases h;obtain⟨g1,g2⟩:=ih h1;refine⟨fun i hi=>?_,?_⟩
  ·by_cases e:i=n
   ·subst e;exact⟨c,h2⟩
   ·exact g1 i (by omega)
  ·rw [show n0+(n+1)=n0+n+1 by omega];simp only [aS];rw [g2,if_neg (by omega),show n0+n - n0=n by omega,h2];rfl
theorem Ll{c:Cx}{Γ':Ga}{Δ rest:List D}{S S':FS}{v v1 v':VW}{a':Act}{cf cb:Nat}(hX:∀b,¬c.X b)(h3:bS c.X c.S0 c.w0 S v)(h4:∀b,aF Δ b→c.X b∨c.w0.heap.size≤b)(hO:bb Δ S v)(hr:bW v v1)
 (hsub:∀b,aF rest b∨b=cf∨b=cb→aF Δ b) (i1:a'.defers=c.dfs) (i2:a'.tmps.size=c.N) (hE:bS (aF rest) S (ez ⟨v1.toWorld,fun b=>v1.A b∨b=cf∨b=cb,v1.Z⟩) S' (ez v')) (hO':bb rest S' v')
 (hs:∀s r,lk Γ' s=some r→r.holds S' v' (a'.tmps.getD s undef)):St c Γ' rest a' ⟨v'.toWorld,v'.A,c.w0.Z⟩:=by
 have hge:∀b,aF Δ b→c.w0.heap.size≤b:=fun b hb=>(h4 b hb).resolve_left (hX b)
 have hsz:c.w0.heap.size≤v'.heap.size:=Nat.le_trans h3.size (Nat.le_trans hr.size hE.size)
 have hZ:v.Z=c.w0.Z:=h3.Z
 have holdA1:∀b,v1.A b→c.w0.A b∨c.w0.heap.size≤b:=fun b hb=>by
  rcases hr.old b hb with h |h
  ·exact h3.oldA b h
  ·exact .inr (Nat.le_trans h3.size h)
 have holdA:∀b,v'.A b→c.w0.A b∨c.w0.heap.size≤b:=fun b hb=>by
  rcases hE.oldA b hb with(h |h) |h
  ·exact holdA1 b h
  ·exact .inr (hge b (hsub b (.inr h)))
  ·exact .inr (Nat.le_trans (Nat.le_trans h3.size hr.size) h)
 refine⟨i1,i2,S',⟨fun b hb=>hE.sub b (h3.sub b hb),fun b hb=>?_,hE.dom,hsz,fun b hb hA hx=>?_,hE.os.trans (hr.os.trans h3.os),hE.tape.trans (hr.tape.trans h3.tape),hE.output.trans (hr.output.trans h3.output),fun b hb=>hE.subA b (.inl (hr.sub b (h3.subA b hb))),holdA,rfl⟩,fun b hb=>h4 b (hsub b (.inl hb)),⟨hO'.holds,hO'.own,hO'.apart,fun b hb=>⟨(hO'.far b hb).1,fun hz=>?_⟩,hO'.sees,hO'.domA,fun b hb=>?_⟩,hs⟩
 ·
  rcases hE.new b hb with h |h |h
  ·exact h3.new b h
  ·exact .inr (.inl (Nat.le_trans (Nat.le_trans h3.size hr.size) h))
  ·exact .inr (.inl (hge b (hsub b (.inl h))))
 ·
  have k1:v.heap[b]? =c.w0.heap[b]? :=h3.keep b hb hA hx;have nA:¬v.A b:=fun h=>(h3.oldA b h).elim hA fun h=>by omega
  have nA1:¬v1.A b:=fun h=>(holdA1 b h).elim hA fun h=>by omega
  have nf:¬(aF rest b∨b=cf∨b=cb):=fun h=>by have:=hge b (hsub b h);omega
  have k2:v1.heap[b]? =v.heap[b]? :=hr.keep b (by have:=h3.size;omega) nA;have k3:v'.heap[b]? =v1.heap[b]? :=hE.keep b (by have:=h3.size;have:=hr.size;show b < v1.heap.size;omega) (fun h=>h.elim nA1 fun h=>nf (.inr h)) (fun h=>nf (.inl h));exact k3.trans (k2.trans k1)
 ·
  exact(hO.far b (hsub b (.inl hb))).2 (hZ▸hz)
 ·
  have:=hO.domZ b (hZ▸hb);exact Nat.lt_of_lt_of_le this (Nat.le_trans hr.size hE.size)
theorem K.JC.runD{c:Cx}{C:Code}{Γ Γ':Ga}{Δ Δ':List D}{a:Act}{v:VW}{T:Tq}{b:Frame}{k:List Item}{cs:List Frame}(hT:c.M.ok T)(hb:b.roundOf=c.rd)(st:St c Γ Δ a v)(h:JC c C (cu (fun a w=>St c Γ' Δ' a w) (fun _ _ _=>False)) Γ Δ)(hc:∀a' v',St c Γ' Δ' a' v'→T v' (b.atR a' k) cs):
 T v (b.atR a (.code C::k)) cs:=sN hT hb st h fun e a' v' q=>by
 cases e with
 |normal=>exact hc a' v' q
 |_=>exact q.elim
theorem Pm:∀w,(zeroValue 168).run Tryz.prog w= .ok (.agg #[.int .i64 0]) w:=fun w=>by kernel_rfl
theorem Ry:∀S w,(A.cells S w (.agg (.eq (.int .i64 (0:Int)))) (Value.cells (.agg #[.int .i64 0])).toList):=fun _ _=>⟨rfl,rfl⟩
theorem Pl:∀w,(zeroValue 174).run Tryz.prog w= .ok (.agg #[.int .u64 0,.int .u32 0]) w:=fun w=>by kernel_rfl
theorem Rx:∀S w,(A.cells S w (.agg (.pair (.eq (.int .u64 (0:Int))) (.eq (.int .u32 (0:Int))))) (Value.cells (.agg #[.int .u64 0,.int .u32 0])).toList):=fun _ _=>⟨[_],_,rfl,⟨rfl,rfl⟩,rfl,rfl⟩
noncomputable def RU (i:Nat):Code:=match i,Tryz.f73.body with
 |0,some (.seq r _)=>r
 |1,some (.seq _ (.seq r _))=>r
 |2,some (.seq _ (.seq _ (.seq r _)))=>r
 |3,some (.seq _ (.seq _ (.seq _ (.seq (.seq r _) _))))=>r
 |_,_=>.skip
section
variable {x:dn}{ld:List (List Int)}{d:Int}
@[reducible] noncomputable def Br (S:FS) (v:VW):Cx:=⟨Tryz.prog,24,S,v,aF [],none,[],jv Tryz.prog⟩
@[reducible] noncomputable def UB (x:dn) (ld:List (List Int)) (d:Int):List A:=[.at bI x,.rep (.arr 3 (.arr 5 (.int .i64))) ld,.eq (.int .i64 d)]
theorem Qv{S:FS}{w0:VW}{T:Tq}(hT:(jv Tryz.prog).ok T){b:Frame}(hb:b.roundOf=none){kk:List Item}{cs:List Frame}{a:Act}{v:VW}(st:St (Br S w0) (entry 0 (UB x ld d)) [] a v)
 (next:∀a' v',St (Br S w0) [(3,.at (.ptr bI) x),(4,.at (.arr 3 (.arr 5 (.int .i64))) ld),(5,.at (.int .i64) d)] [] a' v'→T v' (b.atR a' kk) cs):T v (b.atR a (.code (RU 0)::kk)) cs:=by
 refine JC.runD (c:=Br S w0) hT hb st ?_ next
 show JC _ (.region _ _ false) _ _ _
 refine ab ?_
 refine aE rfl rfl rfl (oH rfl trivial) ⟨rfl,trivial⟩ fun b3=>?_
 refine aE rfl rfl rfl (oH rfl rfl) ⟨rfl,trivial⟩ fun b4=>?_
 refine aE rfl rfl rfl (oH rfl rfl) ⟨rfl,trivial⟩ fun b5=>?_
 refine dE rfl ?_
 refine ct (lS (t:=.int .i64) (x:=d) [5] .int ⟨rfl,trivial⟩) ?_
 refine ct (lS (t:=.arr 3 (.arr 5 (.int .i64))) (x:=ld) [4] .rep ⟨rfl,trivial⟩) ?_
 refine ct (lS (t:=.ptr bI) (x:=x) [3] .ptr ⟨rfl,trivial⟩) ?_
 refine ay (ag ?_)
 exact kB (junk:=[]) (by repeat (first |exact trivial |refine⟨rfl,?_⟩)) me
theorem NZ{C:Code}{S:FS}{w0:VW}{T:Tq}(hT:(jv Tryz.prog).ok T){b:Frame}(hb:b.roundOf=none){kk:List Item}{cs:List Frame}{a:Act}{v:VW}(st:St (Br S w0) [(3,.at (.ptr bI) x),(4,.at (.arr 3 (.arr 5 (.int .i64))) ld),(5,.at (.int .i64) d)] [] a v)
 (next:∀a' v' b7 b8,St (Br S w0) [(3,.at (.ptr bI) x),(4,.at (.arr 3 (.arr 5 (.int .i64))) ld),(5,.at (.int .i64) d),(7,.eq (.pointer (some ⟨b7,0,none⟩))),(8,.eq (.pointer (some ⟨b8,0,none⟩)))] [.obj b8 174 (.agg (.pair (.eq (.int .u64 (0:Int))) (.eq (.int .u32 (0:Int))))),.obj b7 168 (.agg (.eq (.int .i64 (0:Int))))] a' v'→T v' (b.atR a' (.code C::kk)) cs):T v (b.atR a (.code (RU 1):: .code (.seq (RU 2) C)::kk)) cs:=by
 refine sN (c:=Br S w0) (Q:=cu (fun a w=>∃b7,St (Br S w0) [(3,.at (.ptr bI) x),(4,.at (.arr 3 (.arr 5 (.int .i64))) ld),(5,.at (.int .i64) d),(7,.eq (.pointer (some ⟨b7,0,none⟩)))] [.obj b7 168 (.agg (.eq (.int .i64 (0:Int))))] a w) (fun _ _ _=>False)) hT hb st ?_ fun e a1 v1 q1=>?_
 ·
  show JC _ (.region _ _ false) _ _ _;refine ab ?_;refine aE rfl rfl rfl (a9 rfl Pm Ry) trivial fun b7=>?_;refine ay (ag ?_);exact fun a w st=>⟨b7,(kB (junk:=[]) (by repeat (first |exact trivial |refine⟨rfl,?_⟩)) (by simp)) a w st⟩
 cases e with
 |normal=>
  obtain⟨b7,st1⟩:=q1;refine hT.1.move (fun _ _=>eB) ?_;refine sN (c:=Br S w0) (Q:=cu (fun a w=>∃b8,St (Br S w0) [(3,.at (.ptr bI) x),(4,.at (.arr 3 (.arr 5 (.int .i64))) ld),(5,.at (.int .i64) d),(7,.eq (.pointer (some ⟨b7,0,none⟩))),(8,.eq (.pointer (some ⟨b8,0,none⟩)))] [.obj b8 174 (.agg (.pair (.eq (.int .u64 (0:Int))) (.eq (.int .u32 (0:Int))))),.obj b7 168 (.agg (.eq (.int .i64 (0:Int))))] a w) (fun _ _ _=>False)) hT hb st1 ?_ fun e a2 v2 q2=>?_
  ·show JC _ (.region _ _ false) _ _ _;refine ab ?_;refine aE rfl rfl rfl (a9 rfl Pl Rx) trivial fun b8=>?_;refine ay (ag ?_);exact fun a w st=>⟨b8,(kB (junk:=[]) (by repeat (first |exact trivial |refine⟨rfl,?_⟩)) (by simp)) a w st⟩
  cases e with
  |normal=>obtain⟨b8,st2⟩:=q2;exact next a2 v2 b7 b8 st2
  |_=>exact q2.elim
 |_=>exact q1.elim
theorem Qu{S:FS}{w0:VW}{T:Tq}(hT:(jv Tryz.prog).ok T){b:Frame}(hb:b.roundOf=none){kk:List Item}{cs:List Frame}{a:Act}{v:VW}{b7 b8:Nat}{Δ:List D}{p:Gp}(e7:p.xA=⟨b7,0,none⟩)(e8:p.stA=⟨b8,0,none⟩)(st:St (Br S w0) [(3,.at (.ptr bI) x),(4,.at (.arr 3 (.arr 5 (.int .i64))) ld),(5,.at (.int .i64) d),(7,.eq (.pointer (some ⟨b7,0,none⟩))),(8,.eq (.pointer (some ⟨b8,0,none⟩)))] Δ a v)
 (next:∀a' v',St (Br S w0) (tP p x ld d x.1.2.2.length 0) Δ a' v'→T v' (b.atR a' kk) cs):T v (b.atR a (.code (RU 3)::kk)) cs:=by
 refine JC.runD (c:=Br S w0) hT hb st ?_ next
 rw [show tP p x ld d x.1.2.2.length 0=[(3,.at (.ptr bI) x),(4,.at (.arr 3 (.arr 5 (.int .i64))) ld),(5,.at (.int .i64) d),(7,.eq (.pointer (some ⟨b7,0,none⟩))),(8,.eq (.pointer (some ⟨b8,0,none⟩))),(15,.eq (.int .i64 (x.1.2.2.length:Int))),(16,.eq (.int .i64 ((0:Nat):Int)))] by rw [←e7,←e8]]
 show JC _ (.region _ _ false) _ _ _
 refine ab ?_
 refine aG rfl (ak (t:=.ptr bI) rfl pz rfl) ⟨rfl,trivial⟩ ?_
 refine aG rfl (dL rfl) ⟨rfl,trivial⟩ ?_
 refine aG rfl (aJ 3 true rfl ko rfl) ⟨rfl,trivial⟩ ?_
 refine aG rfl (aJ 1 false rfl cI rfl) ⟨rfl,trivial⟩ ?_
 refine aG rfl (ak (t:=.slice (.int .i64)) rfl bC rfl) ⟨rfl,trivial⟩ ?_
 refine aG rfl (jQ rfl rfl Tryz.underlying22) ⟨rfl,trivial⟩ ?_
 refine ff rfl ?_
 refine ay (ag ?_)
 exact kB (junk:=[]) (by repeat (first |exact trivial |refine⟨rfl,?_⟩)) (by simp)
@[reducible] def Lm(b8 b7:Nat):Gp:=⟨b8,b7,174,168⟩
@[reducible] noncomputable def Tt (b8 b7:Nat):List D:=[.obj b8 174 (.agg (.pair (.eq (.int .u64 (0:Int))) (.eq (.int .u32 (0:Int))))),.obj b7 168 (.agg (.eq (.int .i64 (0:Int))))]
theorem Qx{S:FS}{v:VW}{b8 b7:Nat}(h:bb (Tt b8 b7) S v):(Lm b8 b7).At v ⟨0,0,0,0⟩∧b8≠b7∧(∀y,(Lm b8 b7).sh y↔aF (Tt b8 b7) y):=by
 obtain⟨c8,h1,h2⟩:=h.holds _ (List.mem_cons_self ..);obtain⟨c7,h3,h4⟩:=h.holds _ (List.mem_cons_of_mem _ (List.mem_cons_self ..));obtain⟨q1,q2,rfl,⟨rfl,_⟩,rfl,_⟩:=h2;obtain⟨rfl,_⟩:=h4;refine⟨⟨h1,h3⟩,fun e=>?_,fun y=>?_⟩
 ·exact(List.pairwise_cons.1 h.apart).1 _ (List.mem_cons_self ..) b8 rfl (by rw [e];rfl)
 ·constructor
  ·rintro(rfl |rfl)
   ·exact⟨_,List.mem_cons_self ..,rfl⟩
   ·exact⟨_,List.mem_cons_of_mem _ (List.mem_cons_self ..),rfl⟩
  ·rintro⟨D,hD,hy⟩;simp only [List.mem_cons,List.not_mem_nil,or_false] at hD;rcases hD with rfl |rfl
   ·simp only [D.foot,Option.some.injEq] at hy;exact .inl hy.symm
   ·simp only [D.foot,Option.some.injEq] at hy;exact .inr hy.symm
theorem xF{f:Nat→Nat}:∀r m,aS f m≤aS f (m+r)
 |0,_=>Nat.le_refl _
 |r+1,m=>Nat.le_trans (xF r m) (by rw [←Nat.add_assoc];simp only [aS];omega)
theorem Lj{k s N:Nat}(hs:vQ k x ld d N=some s)(hN1:N≤1000)(hs2:s < 9223372036854775808){S:FS}{w0:VW}{T:Tq}(hT:(jv Tryz.prog).ok T){b:Frame}(hb:b.roundOf=none)(hbk:b.kind≠.early){kk:List Item}{cs:List Frame}{a:Act}{v:VW}{b7 b8:Nat}
 (st:St (Br S w0) (tP (Lm b8 b7) x ld d N 0) (Tt b8 b7) a v) (next:∀a' v',St (Br S w0) [(6,.eq (.int .i64 (s:Int)))] [] a' v'→T v' (b.atR a' (.code .ret::kk)) cs):
 T v (b.atR a (.code (.block 0 (.loop yM)):: .code MZ::kk)) cs:=by
 obtain⟨i1,i2,S1,i3,i4,i5,i6⟩:=st
 refine hT.2 _ _ _ fun Gd hG v1 hr gs sl tt kq hL=>?_
 have hnx:Nx Tryz.prog Gd:=hG.next
 have hO1:=i5.rely i3.dom hr
 obtain⟨hat,hne,hsh⟩:=Qx hO1
 have hn0:0 < gs.size:=(Array.getElem?_eq_some_iff.1 hL.head).1
 obtain⟨hone,hfu⟩:=FI (n0:=gs.size) hs
 refine Jl (P:=Tryz.prog) (p:=Lm b8 b7) (tot:=fun i=>if i < gs.size then 0 else(pA k x ld (i - gs.size:Nat) d).getD 0) hO1.domA hO1.domZ hat hne (fun y hy=>(hO1.far y ((hsh y).1 hy)).1) (fun i hi=>if_pos hi) hL ?_
 have bc:BC Tryz.prog (TW Tryz.prog (Lm b8 b7) (fun i=>if i < gs.size then 0 else(pA k x ld (i - gs.size:Nat) d).getD 0) gs.size 0 false 0 false (qy gs.size 0) Gd):=TW.bc hnx qx
 refine bc.move (fun _ _=>oh) ?_
 refine bc.move (fun _ _=>yI) ?_
 have hI0:NI ⟨v1.toWorld,fun y=>v1.A y∨(Lm b8 b7).sh y,v1.Z⟩ S1 (tP (Lm b8 b7) x ld d N 0) a ⟨v1.toWorld,fun y=>v1.A y∨(Lm b8 b7).sh y,v1.Z⟩:=by
  refine⟨S1,i1,i2,bS.refl fun y hy=>Nat.lt_of_lt_of_le (i3.dom y hy) hr.size,⟨fun _ h=>by simp at h,fun _ h=>(ft h).elim,List.Pairwise.nil,fun _ h=>(ft h).elim,fun y hy h=>?_,fun y h=>?_,hO1.domZ⟩,fun s r hl=>A.mono (fun _ h=>h) (kL i3.dom i5.sees hr) r (i6 s r hl)⟩
  ·rcases h with h |h
   ·exact hO1.sees y hy h
   ·exact(hO1.own y ((hsh y).1 h)).1 hy
  ·rcases h with h |h
   ·exact hO1.domA y h
   ·exact(hO1.own y ((hsh y).1 h)).2
 refine FG (k:=k) (n0:=gs.size) hnx hne hN1 (fun i hi=>?_) hn0 (fun m hm=>?_) hb hbk (fun a1 v2 h1 hI1=>?_) N 0 (Nat.zero_add N) a _ (fun y hy=>.inr hy) hI0
 ·
  obtain⟨c,hc⟩:=hone i hi;show _=some (if gs.size+i < gs.size then 0 else _);rw [if_neg (by omega),show gs.size+i - gs.size=i by omega,hc];rfl
 ·
  refine Nat.lt_of_le_of_lt (xF (gs.size+N - m) m) ?_;rw [show m+(gs.size+N - m)=gs.size+N by omega,hfu];exact hs2
 ·
  refine IK hnx hne hb hbk h1 hI1 fun a3 v3 h3 hI3=>?_;refine TW.fin (Z0:=w0.Z) hT.1 hG ?_;obtain⟨S4,j1,j2,j3,j4,j5⟩:=hI3;rw [hfu] at j5;exact next a3 _ (Ll (c:=Br S w0) (cf:=b8) (cb:=b7) (fun y ⟨d,hd,_⟩=>by simp at hd) i3 i4 i5 hr (fun y hy=>hy.elim (fun h=>(ft h).elim) (hsh y).1) j1 j2 j3 j4 j5)
theorem sY(k:Nat)(r:Int)(h:fZ k x ld d=some r):dG (jv Tryz.prog) 73 (UB x ld d) [] (fun _:Unit=>(bm [.eq (.int .i64 r)],[])):=by
 unfold fZ at h;split at h
 ·rename_i hlen;obtain⟨s,hs,h⟩:=Option.bind_eq_some_iff.1 h;split at h
  ·rename_i hs2;cases h;refine K.dG.ofT 24 Tryz.func73 rfl rfl rfl fun kind hk S w0 a st T hT cs hc=>?_;refine hT.1.move (fun _ _=>eB) ?_;refine Qv hT rfl st fun a1 v1 st1=>?_;refine hT.1.move (fun _ _=>eB) ?_;refine NZ hT rfl st1 fun a2 v2 b7 b8 st2=>?_;refine hT.1.move (fun _ _=>eB) ?_;refine hT.1.move (fun _ _=>eB) ?_;refine Qu (p:=Lm b8 b7) hT rfl rfl rfl st2 fun a3 v3 st3=>?_;refine Lj hs hlen hs2 hT rfl hk st3 fun a4 v4 st4=>?_;refine sN (c:=Br S w0) hT rfl st4 ?_ hc;refine bH ?_;exact jg () [_] ⟨rfl,trivial⟩ rfl
  ·cases h
 ·cases h
end
end Go.Proofs.YtmeojbemjkmebaaGreatDoor
set_option linter.unusedVariables false
set_option maxRecDepth 4000
set_option maxHeartbeats 1000000
namespace Go.Proofs.YtmeojbemjkmebaaGreatDoor
open K Go Go.Proofs
@[reducible] def ax:Ty:=.agg (.pair ao .val)
theorem tY{S:FS}{w:World}{t:aQ}{m:Value}{v:Value}(h:(A.at ax (t,m)).holds S w v):(A.at bI (t,())).holds S w v:=by
 obtain⟨b,off,c,T,fz,e,hb,hc,c1,c2,e2,h1,h2,h3⟩:=h;exact⟨b,off,c,T,fz,e,hb,hc,c1,c2,e2,h1,m,h2,h3⟩
theorem OM{t:aQ}{m:Value}:AE (.at ax (t,m)) (.at bI (t,())):=fun S w cs h=>by
 obtain⟨b,off,c,T,fz,e,hb,hc,c1,c2,e2,h1,h2,h3⟩:=h
 exact⟨b,off,c,T,fz,e,hb,hc,c1,c2,e2,h1,m,h2,h3⟩
theorem Po:∀w,(zeroValue 146).run Tryz.prog w= .ok (.agg #[(.int .i64 (0)),(.slice none 0 0),(.slice none 0 0),(.map none)]) w:=fun w=>by kernel_rfl
theorem PT:zh Tryz.prog 146 #[(0,3),(3,1)]:=⟨_,Tryz.underlying146,fun _=>by kernel_rfl⟩
theorem OK:∀S w,(A.cells S w (.pair (.agg (.pair (.eq (.int .i64 (0:Int))) (.pair (.eq (.slice none 0 0)) (.eq (.slice none 0 0))))) (.eq (.map none))) (Value.cells (.agg #[(.int .i64 (0)),(.slice none 0 0),(.slice none 0 0),(.map none)])).toList):=fun _ _=>⟨[_,_,_],_,rfl,⟨[_],_,rfl,⟨rfl,rfl⟩,⟨[_],_,rfl,⟨rfl,rfl⟩,⟨rfl,rfl⟩⟩⟩,⟨rfl,rfl⟩⟩
theorem iL(a0:aQ):bV Tryz.prog 44 [.rep ao a0] [] (fun z:Nat=>(bm [.at ax (a0,.map (some z))],[.raw z (.map #[] 0)])):=by
 refine bV.of 7 Tryz.func44 rfl Tryz.ntmps44 rfl fun S w0=>?_;refine ar ?_;refine ab ?_;refine aE rfl rfl rfl (oH rfl rfl) ⟨rfl,trivial⟩ fun b1=>?_;refine dE rfl ?_;refine ay ?_;refine ag ?_;show JC _ _ _ _ _;refine ar ?_;refine ab ?_;refine bU rfl rfl rfl (aj rfl cU (wy) rfl) ⟨rfl,trivial⟩ ?_;refine aE rfl rfl rfl (E6 rfl) trivial fun z=>?_;refine aG rfl (cH [(0,.tmp 3,_),(1,.tmp 4,_)] rfl PT Po OK (il ⟨rfl,rfl,trivial⟩) rfl) ⟨rfl,rfl,trivial⟩ ?_;refine aE rfl rfl rfl (oH rfl trivial) ⟨rfl,trivial⟩ fun b2=>?_;refine de rfl rfl ?_;refine ay ?_;refine ag ?_;show JC _ _ _ _ _;refine dA (lS (t:=ax) (x:=(a0,.map (some z))) [2] (.agg (.pair .rep (.val rfl))) ⟨rfl,trivial⟩) ?_;refine bH ?_;exact aO z [_] 1 ⟨rfl,trivial⟩ rfl
theorem mM(k:Nat)(a0:dn)(a1:List (List Int))(a2:Int)(r:Int)(h:fZ k a0 a1 a2=some r):dG (jv Tryz.prog) 73 [.at bI a0,.rep (.arr 3 (.arr 5 (.int .i64))) a1,.eq (.int .i64 a2)] [] (fun _:Unit=>(bm [.eq (.int .i64 r)],[])):=sY k r h
def im(l:List Int):List Value:=l.map fun n=>.int .i64 n
def lB(l:List (List Int)):Value:=.agg (l.flatMap im).toArray
def JL(l:List (List Int)):Prop:=l.length=3∧∀r∈l,r.length=5∧∀n∈r, -1≤n∧n < 8
instance (l:List (List Int)):Decidable (JL l):=by unfold JL;infer_instance
theorem zK:∀{l l':List Int},im l=im l'→l=l'
 |[],[],_=>rfl
 |[],_::_,h=>by cases h
 |_::_,[],h=>by cases h
 |a::l,b::l',h=>by
  have h:Value.int .i64 a::im l=Value.int .i64 b::im l':=h
  simp only [List.cons.injEq,Value.int.injEq,true_and] at h
  rw [h.1,zK h.2]
theorem ma(l:List Int):(im l).length=l.length:=by simp [im]
theorem xp{l l':List (List Int)}(h1:JL l)(h2:JL l')(h:lB l=lB l'):l=l':=by
 have key:∀{l l':List (List Int)},(∀r∈l,r.length=5)→(∀r∈l',r.length=5)→l.flatMap im=l'.flatMap im→l=l':=by
  intro l
  induction l with
  |nil=>intro l' _ g h;cases l' with
   |nil=>rfl
   |cons r l'=>exfalso;have e:=congrArg List.length h;have:=g r (by simp);simp [List.flatMap_cons,ma,this] at e;omega
  |cons r l ih=>intro l' g0 g h;cases l' with
   |nil=>exfalso;have e:=congrArg List.length h;have:=g0 r (by simp);simp [List.flatMap_cons,ma,this] at e
   |cons r' l'=>
    simp only [List.flatMap_cons] at h;obtain⟨e1,e2⟩:=List.append_inj h (by rw [ma,ma,g0 r (by simp),g r' (by simp)]);rw [zK e1,ih (fun x hx=>g0 x (by simp [hx])) (fun x hx=>g x (by simp [hx])) e2]
 simp only [lB,Value.agg.injEq] at h;exact key (fun r hr=>(h1.2 r hr).1) (fun r hr=>(h2.2 r hr).1) (by simpa using congrArg Array.toList h)
theorem vJ{S:FS}{w:World}{u:Value}{l:List (List Int)}(h:(A.rep (.arr 3 (.arr 5 (.int .i64))) l).holds S w u):u=lB l:=by
 obtain⟨cs,⟨_,h1⟩,h2⟩:=h
 have row:∀{r:List Int} {cs:List Value},cJ (rd S w (.int .i64)) r cs→cs=im r:=by
  intro r
  induction r with
  |nil=>intro cs h;exact h
  |cons n r ih=>rintro cs ⟨c1,c2,rfl,h1,h2⟩;have h1:c1=[.int .i64 n]:=h1;rw [h1,ih h2];rfl
 have key:∀{l:List (List Int)} {cs:List Value},cJ (rd S w (.arr 5 (.int .i64))) l cs→cs=l.flatMap im:=by
  intro l
  induction l with
  |nil=>intro cs h;exact h
  |cons r l ih=>rintro cs ⟨c1,c2,rfl,h1,h2⟩;rw [row h1.2,ih h2];rfl
 rw [h2,key h1];rfl
theorem xo(l:List (List Int)):nK (lB l)=true:=by
 have row:∀r:List Int,(im r).all wI=true:=fun r=>by
  induction r with
  |nil=>rfl
  |cons n r ih=>exact ih
 show((l.flatMap im).toArray.toList.all wI)=true
 induction l with
 |nil=>rfl
 |cons r l ih=>simp only [List.flatMap_cons,List.all_append,row,Bool.true_and];exact ih
theorem Np:Tryz.prog.types.size+2≤10000:=Nat.le_of_ble_eq_true (by kernel_rfl)
theorem EJ:85 < Tryz.prog.types.size:=Nat.lt_of_lt_of_le (Nat.lt_succ_self 85) (Nat.le_of_ble_eq_true (by kernel_rfl))
theorem AI:WideMaps.KeyLaw Tryz.prog 85:=deep_law_gate (by kernel_rfl) Np (Nat.lt_of_lt_of_le (Nat.lt_succ_self 85) (Nat.le_of_ble_eq_true (by kernel_rfl))) (by kernel_rfl) (by kernel_rfl)
theorem GH{n:Int}(h1: -1≤n)(h2:n < 8):(Lit.int .i64 n).wf=true:=by
 simp only [Lit.wf,Bool.and_eq_true,decide_eq_true_eq];exact⟨Int.le_trans (by decide) h1,Int.le_trans (Int.le_of_lt h2) (by decide)⟩
theorem yG(d:Nat){l:List Int}(h5:l.length=5)(hw:∀n∈l, -1≤n∧n < 8):Tryz.prog.keyLits (d+2) 83 (im l)=some (l.map fun n=>.int .i64 n):=by
 match l,h5,hw with
 |[a,b,c,e,f],_,hw=>
  have hint:∀(n:Int),n∈[a,b,c,e,f]→Tryz.prog.keyLits (d+1) 3 [.int .i64 n]=some [.int .i64 n]:=fun n h=>by
   have:=hw n h;simp only [Program.keyLits,Tryz.underlying3,GH this.1 this.2,and_self,if_true]
  have hc:Tryz.prog.cellsOf 83=5:=by kernel_rfl
  have hc3:Tryz.prog.cellsOf 3=1:=by kernel_rfl
  have hr:List.range 5=[0,1,2,3,4]:=by decide
  unfold Program.keyLits;simp [im,Tryz.underlying83,hc,hc3,hr,hint a (by simp),hint b (by simp),hint c (by simp),hint e (by simp),hint f (by simp)]
theorem Ip{l:List (List Int)}(h:JL l):∃lt,keyOf Tryz.prog 85 (lB l)=some lt:=by
 obtain⟨h3,hr⟩:=h;match l,h3,hr with
 |[r1,r2,r3],_,hr=>
  obtain⟨d,hd⟩:∃d,Tryz.prog.types.size+1=d+3:=⟨Tryz.prog.types.size - 2,by have:=EJ;omega⟩;obtain⟨l1,g1⟩:=hr r1 (by simp);obtain⟨l2,g2⟩:=hr r2 (by simp);obtain⟨l3,g3⟩:=hr r3 (by simp);have k1:=yG d l1 g1;have k2:=yG d l2 g2;have k3:=yG d l3 g3;have n1:=ma r1;have n2:=ma r2;have n3:=ma r3;rw [l1] at n1;rw [l2] at n2;rw [l3] at n3;have hc:Tryz.prog.cellsOf 85=15:=by kernel_rfl
  have hc5:Tryz.prog.cellsOf 83=5:=by kernel_rfl
  have hk:Tryz.prog.keyType 85=true:=by kernel_rfl
  have hr3:List.range 3=[0,1,2]:=by decide
  have e0':(im r1++(im r2++im r3)).take 5=im r1:=by rw [←n1,List.take_left]
  have e1:((im r1++(im r2++im r3)).drop 5).take 5=im r2:=by rw [←n1,List.drop_left,n1,←n2,List.take_left]
  have e2:((im r1++(im r2++im r3)).drop 10).take 5=im r3:=by
   rw [show 10=(im r1++im r2).length by simp [n1,n2],←List.append_assoc,List.drop_left,←n3,List.take_length]
  have hL:Tryz.prog.keyLits (Tryz.prog.types.size+1) 85 (lB [r1,r2,r3]).cells.toList=some (r1.map (fun n=>.int .i64 n)++(r2.map (fun n=>.int .i64 n)++r3.map (fun n=>.int .i64 n))):=by
   rw [hd];have hcs:(lB [r1,r2,r3]).cells.toList=im r1++(im r2++im r3):=by simp [lB,Value.cells]
   have hlen:(im r1++(im r2++im r3)).length=15:=by simp [n1,n2,n3]
   rw [hcs];generalize im r1++(im r2++im r3)=cs at *;unfold Program.keyLits;simp [Tryz.underlying85,hc,hlen,hc5,hr3,e0',e1,e2,k1,k2,k3]
  refine⟨.string (keyBytes (r1.map (fun n=>.int .i64 n)++(r2.map (fun n=>.int .i64 n)++r3.map (fun n=>.int .i64 n)))),?_⟩;unfold keyOf;rw [Tryz.underlying85];have hf:(lB [r1,r2,r3]).formed Tryz.prog 85=true:=by simp [lB,Value.formed,Tryz.underlying85,hc,n1,n2,n3]
  simp only [hk,hf,Bool.and_self,if_true,hL,Option.map_some]
def cy(k:Nat)(a0:aQ)(a1:List (List Int)):Option Int:=
 (dj (JL a1)).bind fun _=>(fZ k (a0,()) a1 0).bind fun n=>some n
def bL(k:Nat)(a0:aQ):Obj→Prop:=my Tryz.prog 85 fun kv n=>∃l,JL l∧kv=lB l∧cy k a0 l=some n
theorem nz{k:Nat}{a0:aQ}:bL k a0 (.map #[] 0):=my.nil
theorem Fp{k:Nat}{a0:aQ}{kv:Value}:∀n n':Int,(∃l,JL l∧kv=lB l∧cy k a0 l=some n)→(∃l,JL l∧kv=lB l∧cy k a0 l=some n')→n=n':=by
 rintro n n' ⟨p,h1,h2,h3⟩ ⟨q,h4,h5,h6⟩;obtain rfl:=xp h1 h4 (h2.symm.trans h5);exact Option.some.inj (h3.symm.trans h6)
theorem Ni:∀w,(zeroValue 3).run Tryz.prog w= .ok (.int .i64 0) w:=fun w=>by kernel_rfl
def Nz(l:List Int):Prop:=l.length=5∧∀n∈l, -1≤n∧n < 8
instance (l:List Int):Decidable (Nz l):=by unfold Nz;infer_instance
end Go.Proofs.YtmeojbemjkmebaaGreatDoor
set_option linter.unusedVariables false
set_option maxRecDepth 4000
namespace Go.Proofs.YtmeojbemjkmebaaGreatDoor
open K Go Go.Proofs
theorem K.SE.finE{c:Cx}{Γ Γ':Ga}(E:List D)(hs:JP Γ' Γ):SE c Γ E Γ' E:=bi [] E [] hs rfl
theorem zu{vs:Nat→Value}:∀{l:List (List Int)} {j:Nat},(ek vs j l).length=l.length
 |[],_=>rfl
 |_::l,j=>by simp only [ek,List.length_cons,zu (l:=l)]
theorem Ig{vs:Nat→Value}{l:List (List Int)}{x:List Int}{v:Value}(h:bq (List.length l+List.length [x])):bq (List.length (ek vs 0 l)+List.length [v]):=by
 rw [zu];exact h
section
variable {P:Program}
end
theorem si(k:Nat)(a0:(List (List Int)))(r:(List (List Int)))(h:fe k a0=some r):
 bV Tryz.prog 28 [.rep (.slice (.slice (.int .i64))) a0] [] (fun z:Value×(Nat→Value)=>(bm [.eq z.1],fC 22 z r)):=by
 unfold fe at h
 replace h:=aZ h
 refine bV.of 20 Tryz.func28 rfl Tryz.ntmps28 rfl fun S w0=>?_
 refine ar ?_
 refine ab ?_
 refine dE rfl ?_
 refine ay ?_
 refine ag ?_
 show JC _ _ _ _ _
 refine ar ?_
 refine ab ?_
 refine dE rfl ?_
 refine ay ?_
 refine ag ?_
 show JC _ _ _ _ _
 refine aM (Z:=Value×(Nat→Value)) (α:=(List (List Int))) (fun z2 x1=>[(3,.eq z2.1)]) (fun z2 x1=>fC 22 z2 x1) h (fun K h=>?_) (fun z2 x1 h=>?_)
 ·
  refine ar ?_;refine ab ?_;refine dE rfl ?_;refine ay ?_;refine ag ?_;show JC _ _ _ _ _;refine ai ?_;refine dA (SE.nil 22 .val) ?_;refine dA (Bd (n:=0) (F:=[])) ?_;refine aK (Z:=Value×(Nat→Value)) (α:=(List (List Int))×Int) (fun z4 y3=>[(0,.rep (.slice (.slice (.int .i64))) a0),(3,.eq z4.1),(4,.eq (.int .i64 y3.2))]) (fun z4 y3=>fC 22 z4 y3.1) (dw k a0) k (.slice none 0 0,fun _=>.slice none 0 0) (([]:(List (List Int))),(0:Int)) (fun _=>rfl) h (SE.finE (fC 22 (.slice none 0 0,fun _=>.slice none 0 0) []) ⟨rfl,rfl,rfl,trivial⟩) (fun n z4 y3 h=>?_);unfold dw at h;refine ar ?_;refine ar ?_;refine ab ?_;refine aC rfl rfl ?_;refine aC rfl rfl ?_;refine aG rfl (jQ rfl rfl Tryz.underlying28) ⟨rfl,trivial⟩ ?_;refine aG rfl (bg rfl) ⟨rfl,rfl,trivial⟩ ?_;refine ay ?_;refine ag ?_;show JC _ _ _ _ _;refine bG rfl (fun hb=>?_) (fun hb=>?_)
  ·replace h:=cG (oK hb) h;refine cX ?_;refine ag ?_;show JC _ _ _ _ _;refine ar ?_;refine ai ?_;refine ab ?_;refine aC rfl rfl ?_;refine aC rfl rfl ?_;refine aC rfl rfl ?_;obtain⟨x5,ex5,h⟩:=aa h;refine aG rfl (aD (t:=(.slice (.int .i64))) rfl Tryz.underlying28 bC ex5) ⟨rfl,rfl,trivial⟩ ?_;refine aG rfl (ak (t:=(.slice (.int .i64))) rfl bC rfl) ⟨rfl,trivial⟩ ?_;obtain⟨r6,er6,h⟩:=aa h;have cr6:=cm k x5 r6 er6;refine aE rfl rfl rfl (ap [.tmp 15] rfl rfl uA rfl cr6) ⟨rfl,trivial⟩ fun v7=>?_;refine fy fun hv=>?_;refine aG rfl (be (t:=.val) [(.tmp 16,_)] [v7] rfl rfl nW (.cons hv (.val hv) .nil) rfl rfl) ⟨rfl,trivial⟩ ?_;obtain⟨u8,eu8,h⟩:=aa h;refine ct (fD (Δ':=.sl z4.1 22 .val (ek z4.2 0 y3.1):: .sl v7 3 (.int .i64) r6::kV z4.2 0 y3.1) (List.Perm.swap _ _ _)) ?_;refine cz rfl rfl rfl (bp rfl rfl nW (Ig (aB eu8))) ⟨rfl,rfl,trivial⟩ fun v9=>?_;refine de rfl rfl ?_;refine ay ?_;refine bX ?_;refine ag ?_;refine bz (fD (Δ':=.sl v7 3 (.int .i64) r6:: .sl v9 22 .val (ek z4.2 0 y3.1++[v7])::([]++kV z4.2 0 y3.1)) (List.Perm.swap _ _ _)) ?_;refine bz (xU (pre:=[])) ?_;show JC _ _ _ _ _;refine ab ?_;refine aC rfl rfl ?_;obtain⟨x10,ex10,h⟩:=aa h;refine aG rfl (aW rfl ex10) ⟨rfl,rfl,trivial⟩ ?_;refine de rfl rfl ?_;refine ay ?_;refine ag ?_;exact jf ((v9,nk z4.2 y3.1.length v7),(y3.1++[r6],x10)) h (SE.finE (fC 22 (v9,nk z4.2 y3.1.length v7) (y3.1++[r6])) ⟨rfl,rfl,rfl,trivial⟩)
  ·replace h:=bO (nL hb) h;refine jH ?_;refine cp ?_;refine cp ?_;refine eH ?_;refine ag ?_;exact jf (z4,y3.1) h (SE.finE (fC 22 z4 y3.1) ⟨rfl,trivial⟩)
 ·
  refine ar ?_;refine ab ?_;refine aC rfl rfl ?_;refine de rfl rfl ?_;refine ay ?_;refine ag ?_;show JC _ _ _ _ _;refine bH ?_;obtain rfl:=Option.some.inj h;exact aO z2 [.eq z2.1] (fC 22 z2 x1).length ⟨rfl,trivial⟩ (by rw [List.take_length])
end Go.Proofs.YtmeojbemjkmebaaGreatDoor
