import Derived.Test.YtddneonghpmidaaGreatDoorChecked
import Derived.Test.YtddneonghpmidaaGreatDoorSBB8
import Derived.Test.YtddneonghpmidaaGreatDoorSBF1
set_option linter.unusedSimpArgs false
set_option linter.unusedVariables false
set_option maxRecDepth 20000
set_option maxHeartbeats 4000000
namespace Go.Proofs.YtddneonghpmidaaGreatDoor
open K Go Go.Proofs Go.Conc Go.Conc.Lib
abbrev NY:Go.Conc.Lib.WgLink:={ add:=80,done:=82,wait:=84,relMerge:=104,disable:=105,enable:=106,inBubble:=107,associate:=108,fatal:=109,uOr:=110,uAdd:=111,raceRead:=112,uLoad:=113,uStore:=114,disassociate:=115,semrelease:=116,acquire:=118,isAssociated:=119,uCas:=120,raceWrite:=121,semacquire:=122,orU64:=136,addU64:=137,loadU64:=138,storeU64:=139,casU64:=140,tWgP:=186,tUP:=170,tAssoc:=188,tWg:=157,tAU:=154,tU64:=62,tUint:=192,tU32:=155,tPU32:=193,tPAU:=227,tPU64:=229,tNoCopy:=152,tANoCopy:=148,tAlign64:=149 }
theorem zX:Go.Conc.Lib.WgLib Tryz.prog NY:=
 ⟨Tryz.func80,Tryz.func82,Tryz.func84,Tryz.func104,Tryz.func105,Tryz.func106,Tryz.func107,Tryz.func108,Tryz.func109,Tryz.func110,Tryz.func111,Tryz.func112,Tryz.func113,Tryz.func114,Tryz.func115,Tryz.func116,Tryz.func118,Tryz.func119,Tryz.func120,Tryz.func121,Tryz.func122,Tryz.func136,Tryz.func137,Tryz.func138,Tryz.func139,Tryz.func140,Tryz.underlying186,Tryz.runUnderlying186,Tryz.sizeOf186,Tryz.isAgg186,Tryz.zeroValue186,Tryz.underlying170,Tryz.runUnderlying170,Tryz.sizeOf170,Tryz.isAgg170,Tryz.zeroValue170,Tryz.underlying188,Tryz.runUnderlying188,Tryz.sizeOf188,Tryz.isAgg188,Tryz.zeroValue188,Tryz.underlying157,Tryz.runUnderlying157,Tryz.sizeOf157,Tryz.isAgg157,Tryz.zeroValue157,Tryz.underlying154,Tryz.runUnderlying154,Tryz.sizeOf154,Tryz.isAgg154,Tryz.zeroValue154,Tryz.underlying62,Tryz.runUnderlying62,Tryz.sizeOf62,Tryz.isAgg62,Tryz.zeroValue62,Tryz.underlying192,Tryz.runUnderlying192,Tryz.sizeOf192,Tryz.isAgg192,Tryz.zeroValue192,Tryz.underlying155,Tryz.runUnderlying155,Tryz.sizeOf155,Tryz.isAgg155,Tryz.zeroValue155,Tryz.underlying193,Tryz.runUnderlying193,Tryz.sizeOf193,Tryz.isAgg193,Tryz.zeroValue193,Tryz.underlying227,Tryz.runUnderlying227,Tryz.sizeOf227,Tryz.isAgg227,Tryz.zeroValue227,Tryz.underlying229,Tryz.runUnderlying229,Tryz.sizeOf229,Tryz.isAgg229,Tryz.zeroValue229,Tryz.underlying0,Tryz.runUnderlying0,Tryz.sizeOf0,Tryz.isAgg0,Tryz.zeroValue0,Tryz.underlying3,Tryz.runUnderlying3,Tryz.sizeOf3,Tryz.isAgg3,Tryz.zeroValue3,Tryz.underlying4,Tryz.runUnderlying4,Tryz.sizeOf4,Tryz.isAgg4,Tryz.zeroValue4,Tryz.underlying9,Tryz.runUnderlying9,Tryz.sizeOf9,Tryz.isAgg9,Tryz.zeroValue9,Tryz.underlying20,Tryz.runUnderlying20,Tryz.sizeOf20,Tryz.isAgg20,Tryz.zeroValue20,Tryz.underlying21,Tryz.runUnderlying21,Tryz.sizeOf21,Tryz.isAgg21,Tryz.zeroValue21,(by kernel_rfl),(by kernel_rfl)⟩
section
variable {p:Gp}{tot:Nat}{c:Frame}{cs:List Frame}{v0 v:VW}
theorem MW(hne:p.bw≠p.bs){m:Nat}(hm:m < tot)(hk:∀v' u,WV v0 Tryz.prog p tot (.work (m+1)) v' (c.finish u) cs):
 Qt (WV v0 Tryz.prog p tot (.work m)) v (base 83) (c::cs) 10 [] [.code (Tryz.f83.body.getD .skip)] (ent 0 [.pointer (some p.xA),.int .i64 1]):=by
 have hT:Mv Tryz.prog p.Live false (WV v0 Tryz.prog p tot (.work m)):=JR (by simp)
 refine qb ?_
 refine Qt.op hT rfl (eC (k:=0) rfl (dA (n:=0) Tryz.underlying151 rfl Tryz.sizeOf2) rfl) ?_
 refine qb ?_
 refine SB (d:=9) (s:=.work m) (u:=fun q=>.int .i64 ((q.x+1:Nat):Int)) (W:=fun w q=>w.setCell p.xA (.int .i64 ((q.x+1:Nat):Int))) (by simp) (fun e=>by cases e) (fun a ha w q hat hp=>?_) (fun w q hat _=>?_) fun v' q hp=>?_
 ·
  have hx:q.x+1 < 9223372036854775808:=hp hm
  have hw:IntKind.i64.wrap ((q.x:Int)+1)=((q.x+1:Nat):Int):=by
   rw [IntKind.wrap_i64];omega
  refine(stepG_add_atomic rfl (aA rfl _) (by exact fun h=>nomatch h) rfl Tryz.func117 (by kernel_rfl) (by kernel_rfl) (by kernel_rfl) .i64 (by kernel_rfl) (ad:=p.xA) (ha.ev rfl) (ha.ev rfl) hat.cx hat.fx).trans ?_;rw [hw];simp only [Ph.evs,if_pos hm];rfl
 ·
  simp only [Ph.eff,if_pos hm];exact Gp.Eff.x hne hat
 simp only [Ph.nx,if_pos hm]
 replace hT:Mv Tryz.prog p.Live false (WV v0 Tryz.prog p tot (.work (m+1))):=JR (by simp)
 refine qb ?_
 exact Qt.ret hT (gV hT rfl Tryz.func83 rfl rfl (hk _ _))
end
section
variable {p:Gp}{tot:Nat→Nat}{n:Nat}{Gd:Machine→Trace→Prop}{c:Frame}{cs:List Frame}{v0 v:VW}
theorem Px{sg:Nat→Ph}(h:uO n sg):am n tot sg=aS tot n:=by
 unfold am;exact kM fun i hi=>by rw [h i hi];rfl
theorem II(hnx:Nx Tryz.prog Gd)(hk:∀v',TV v0 Tryz.prog p tot n 0 false 0 true (uO n) Gd v' (c.finish (.int .i64 ((aS tot n:Nat):Int))) cs):
 Qt (TV v0 Tryz.prog p tot n 0 false 0 true (uO n) Gd) v (base 85) (c::cs) 7 [] [.code (Tryz.f85.body.getD .skip)] (ent 0 [.pointer (some p.xA)]):=by
 have hT:=f6 (v0:=v0) (p:=p) (md:=0) (rg:=false) (pd:=0) (jn:=true) hnx (Ba (tot:=tot) (n:=n))
 refine qb ?_
 refine Qt.op hT rfl (eC (k:=0) rfl (dA (n:=0) Tryz.underlying151 rfl Tryz.sizeOf2) rfl) ?_
 refine BL (d:=6) hnx Ba (es:=fun _=> #[vc p.xA]) (u:=fun q=>.int .i64 ((aS tot n:Nat):Int)) (W:=fun w q=>w) (e:=fun q=>q) (rg':=fun _=>false) (pd':=fun _=>0) (Iv':=fun q=>uO n)
  (fun q=>vi (.inr rfl)) (fun a ha w q hat hb=>?_) (fun w q hat=>Gp.Eff.refl hat) (fun q sg hb hi=>⟨hb,hi⟩) fun v' q hb=>?_
 ·
  obtain⟨sg,hb,hi⟩:=hb;have hc0:=hat.cx;rw [hb.x,Px hi] at hc0;exact(stepG_load_atomic rfl (aA rfl _) (by exact fun h=>nomatch h) rfl Tryz.func123 (by kernel_rfl) (by kernel_rfl) (by kernel_rfl) .i64 (by kernel_rfl) (ad:=p.xA) (ha.ev rfl) hc0).trans rfl
 refine qb ?_
 exact Qt.ret hT (gV hT rfl Tryz.func85 rfl rfl (hk _))
end
end Go.Proofs.YtddneonghpmidaaGreatDoor
set_option linter.unusedVariables false
set_option maxRecDepth 4000
set_option maxHeartbeats 1000000
namespace Go.Proofs.YtddneonghpmidaaGreatDoor
open K Go Go.Proofs Go.Conc
def yh(s i:Int):Bool:=decide (xu .u8 (iI .u8 s i) 1=1)
def rZ(s:Int):Nat→Nat→Nat
 |0,_=>0
 |n+1,i=>(cond (yh s i) 1 0)+rZ s n (i+1)
def Rh(k:Nat)(x:dr):Nat→Int→List Int→Option Nat
 |0,_,_=>some 0
 |n+1,d,l=>(iq k x d).bind fun w=>(nL k l w).bind fun r=>(Rh k x n (d+1) r.2).bind fun c=>some (rZ r.1 x.1.2.1.length 0+c)
def pZ(k:Nat)(x:dr)(ld:List (List Int))(t f:Int):Option Nat:=
 if x.1.1≤1000000∧x.1.2.1.length≤1000000∧0≤f then(d3 k ld t).bind fun l=>Rh k x (x.1.1 - f).toNat f l else none
theorem Re:ae Tryz.prog 81:=ae.of Tryz.func81 (by kernel_rfl) (by kernel_rfl)
theorem LS:ae Tryz.prog 41:=ae.of Tryz.func41 (by kernel_rfl) (by kernel_rfl)
theorem Jb:ae Tryz.prog 55:=ae.of Tryz.func55 (by kernel_rfl) (by kernel_rfl)
theorem I9:ae Tryz.prog 76:=ae.of Tryz.func76 (by kernel_rfl) (by kernel_rfl)
theorem I8:ae Tryz.prog 77:=ae.of Tryz.func77 (by kernel_rfl) (by kernel_rfl)
theorem pY:dM Tryz.prog 66 1 false:=⟨fun w=>by kernel_rfl,fun w=>by kernel_rfl⟩
theorem tB{c:Cx}{C:Code}{Q:Exit→Act→VW→Prop}{Γ:Ga}{Δ:List D}{a:Act}{v:VW}{T:Tq}{b:Frame}{k:List Item}{cs:List Frame}(hT:c.M.ok T)(hb:b.roundOf=c.rd)(st:St c Γ Δ a v)(h:JC c C Q Γ Δ)(hc:∀e a' v',Q e a' v'→ng T b k cs e a' v'):
 T v (b.atR a (.code C::k)) cs:=h a v st T hT b k cs hb hc
@[reducible] noncomputable def Vs (c:Cx) (Γ:Ga):Exit→Act→VW→Prop:=cE (fun a w=>St c Γ [] a w) (fun _ _ _=>False)
theorem fB{c:Cx}{C:Code}{Γ Γ':Ga}{a:Act}{v:VW}{T:Tq}{b:Frame}{k:List Item}{cs:List Frame}(hT:c.M.ok T)(hb:b.roundOf=c.rd)(st:St c Γ [] a v)(h:JC c C (Vs c Γ') Γ [])(hc:∀a' v',St c Γ' [] a' v'→T v' (b.atR a' k) cs):
 T v (b.atR a (.code C::k)) cs:=tB hT hb st h fun e a' v' q=>by
 cases e with
 |normal=>exact hc a' v' q
 |_=>exact q.elim
theorem jK{c:Cx}{Γ:Ga}{Δ:List D}{a:Act}{v:VW}{s:Nat}{x:Value}(st:St c Γ Δ a v)(h:lk Γ s=some (.eq x)):a.eval (.tmp s)=x:=by
 obtain⟨_,_,S,_,_,_,h6⟩:=st;exact h6 s _ h
noncomputable def DO:Code:=match Tryz.f81.body with
 |some (.seq _ (.seq _ (.seq _ (.block _ (.loop b)))))=>b
 |_=>.skip
noncomputable def EN:Code:=match DO with
 | .seq _ (.seq (.block _ (.seq _ (.seq (.seq _ (.block _ (.loop b))) _))) _)=>b
 |_=>.skip
section
variable {p:Gp}{tot:Nat}{k:Nat}{x:dr}{Sh:FS}{v0:VW}{kk:List Item}{cs:List Frame}
@[reducible] noncomputable def zo (p:Gp) (Sh:FS) (v0:VW):Cx:=⟨Tryz.prog,47,Sh,v0,aE [],none,[dcall 82 #[.pointer (some p.stA)]],Md.plain Tryz.prog⟩
@[reducible] noncomputable def wE (p:Gp) (x:dr) (d:Int) (l:List Int) (s:Int) (i:Nat):Ga:=[(4,.at (.ptr bH) x),(5,.eq (.pointer (some p.xA))),(7,.eq (.int .i64 d)),(8,.eq (.int .u8 s)),(9,.rep (.slice (.int .i64)) l),(37,.eq (.int .i64 (x.1.2.1.length:Int))),(38,.eq (.int .i64 (i:Int)))]
abbrev OI:Frame:={ (default:Frame) with fn:=81,kind:=.deferred }
theorem K.St.sh{c:Cx}{Γ:Ga}{Δ:List D}{a:Act}{v:VW}(st:St c Γ Δ a v){b:Nat}(h:c.w0.A b):v.A b:=by
 obtain⟨_,_,S,h3,_⟩:=st;exact h3.subA b h
theorem K.St.pop{c:Cx}{Γ:Ga}{Δ:List D}{a:Act}{v:VW}{d:Nat}{r0:A}(st:St c ((d,r0)::Γ) Δ a v)(hd:lk Γ d=none:=by exact rfl):St c Γ Δ a v:=by
 obtain⟨h1,h2,S,h3,h4,h5,h6⟩:=st;refine⟨h1,h2,S,h3,h4,h5,fun s r hl=>h6 s r ?_⟩;simp only [lk];rw [if_neg (fun e=>by subst e;rw [hd] at hl;cases hl)];exact hl
theorem IZ{k:Nat}{s:Int}{i:Nat}:d6 k s (i:Int)=some (yh s i):=by
 simp [d6,cP,yh]
theorem I7(hne:p.bw≠p.bs)(hsh:∀b,p.sh b→v0.A b)(hlen:x.1.2.1.length≤1000000){d:Int}{l:List Int}{s:Int}:∀(n i m:Nat) (a:Act) (v:VW),x.1.2.1.length=i+n→St (zo p Sh v0) (wE p x d l s i) [] a v→m+rZ s n i≤tot→
 (∀a' v',St (zo p Sh v0) (wE p x d l s (i+n)) [] a' v'→Ww Tryz.prog p tot (.work (m+rZ s n i)) v' (OI.atR a' kk) cs)→
 Ww Tryz.prog p tot (.work m) v (OI.atR a (.code EN:: .inLoop EN:: .inBlock 2::kk)) cs:=fun n=>by
 induction n with
 |zero=>
  intro i m a v hi st hm next
  have bc:BC Tryz.prog (Ww Tryz.prog p tot (.work m)):=Ww.bc
  refine bc.move (fun _ _=>eH) ?_
  refine fB (c:=zo p Sh v0) (Γ':=(39,.eq (.bool false))::wE p x d l s i) bc rfl st ?_ fun a1 v1 st1=>?_
  ·
   refine ab ?_
   refine aF rfl (bj rfl) ⟨rfl,rfl,trivial⟩ ?_
   refine ax (ag ?_)
   rw [decide_eq_false (by omega)]
   exact fun _ _ h=>h
  refine bc.move (fun _ _=>eH) ?_
  refine bc.move (fun _ _=>oR (t:=false) (jK st1 (s:=39) rfl)) ?_
  rw [if_neg (by decide)]
  refine bc.move (fun _ _=>zm rfl) ?_
  exact next a1 v1 st1.pop
 |succ n ih=>
  intro i m a v hi st hm next
  have bc:BC Tryz.prog (Ww Tryz.prog p tot (.work m)):=Ww.bc
  refine bc.move (fun _ _=>eH) ?_
  refine fB (c:=zo p Sh v0) (Γ':=(39,.eq (.bool true))::wE p x d l s i) bc rfl st ?_ fun a1 v1 st1=>?_
  ·
   refine ab ?_
   refine aF rfl (bj rfl) ⟨rfl,rfl,trivial⟩ ?_
   refine ax (ag ?_)
   rw [decide_eq_true (by omega)]
   exact fun _ _ h=>h
  refine bc.move (fun _ _=>eH) ?_
  refine bc.move (fun _ _=>oR (t:=true) (jK st1 (s:=39) rfl)) ?_
  rw [if_pos rfl]
  refine bc.move (fun _ _=>wB) ?_
  refine bc.move (fun _ _=>eH) ?_
  refine bc.move (fun _ _=>oS) ?_
  refine bc.move (fun _ _=>eH) ?_
  refine fB (c:=zo p Sh v0) (Γ':=(10,.eq (.int .i64 (i:Int)))::wE p x d l s i) bc rfl st1.pop ?_ fun a2 v2 st2=>?_
  ·
   refine ab ?_
   refine aC rfl rfl ?_
   refine dk rfl rfl ?_
   refine ax (ag ?_)
   exact ky (junk:=[]) (by repeat (first |exact trivial |refine⟨rfl,?_⟩)) my
  refine bc.move (fun _ _=>eH) ?_
  refine fB (c:=zo p Sh v0) (Γ':=(43,.eq (.bool (yh s i)))::wE p x d l s i) bc rfl st2 ?_ fun a3 v3 st3=>?_
  ·
   refine ab ?_
   refine aC rfl rfl ?_
   refine aC rfl rfl ?_
   refine aF rfl (ao [.tmp 41,.tmp 42] rfl rfl LS rfl (iL 0 s i _ IZ)) ⟨rfl,rfl,trivial⟩ ?_
   refine ax (ag ?_)
   exact ky (junk:=[]) (by repeat (first |exact trivial |refine⟨rfl,?_⟩)) my
  have hb:=jK st3 (s:=43) rfl
  cases hh:yh s i with
  |true=>
   rw [hh] at hb
   have e1:m+1+rZ s n (i+1)=m+rZ s (n+1) i:=by simp [rZ,hh];omega
   refine bc.move (fun _ _=>oR (t:=true) hb) ?_
   rw [if_pos rfl]
   refine bc.move (fun _ _=>lq) ?_
   have st4:=st3.pop
   have h5:a3.tmps.getD 5 undef= .pointer (some p.xA):=jK st4 (s:=5) rfl
   refine(Qt.call (d5:=[.pointer (some p.xA),.int .i64 1]) (T:=WV v3 Tryz.prog p tot (.work m)) (JR (by simp)) rfl rfl Tryz.func83 (by kernel_rfl) rfl rfl (fun c hk=>?_):Qt (WV v3 Tryz.prog p tot (.work m)) v3 OI cs 47 [dcall 82 #[.pointer (some p.stA)]] _ ((5,.pointer (some p.xA))::d5 (wE p x d l s i) a3)) a3 (st4.toQ.know h5) ⟨cd.refl _,fun b hb=>st4.sh (hsh b hb)⟩
   refine MW hne (by omega) fun v5 u=>?_
   refine hk _ _ _ fun a5 q5 hv5=>?_
   have st5:St (zo p Sh v0) (wE p x d l s i) [] a5 v5:=(st4.rely hv5.1).ofQ ((Cc.base.know h5).new) q5
   have bc':BC Tryz.prog (Ww Tryz.prog p tot (.work (m+1))):=Ww.bc
   refine bc'.move (fun _ _=>ii) ?_
   refine bc'.move (fun _ _=>oa) ?_
   refine fB (c:=zo p Sh v0) (Γ':=wE p x d l s (i+1)) bc' rfl st5 ?_ fun a6 v6 st6=>?_
   ·
    refine ab ?_
    refine aF rfl (a9 rfl (q:=((i+1:Nat):Int)) (by unfold ck;rw [if_pos (by omega)];congr 1)) ⟨rfl,rfl,trivial⟩ ?_
    refine aC rfl rfl ?_
    refine ax (ag ?_)
    exact ky (junk:=[]) (by repeat (first |exact trivial |refine⟨rfl,?_⟩)) my
   refine bc'.move (fun _ _=>pW) ?_
   refine ih (i+1) (m+1) a6 v6 (by omega) st6 (by omega) fun a7 v7 st7=>?_
   rw [e1]
   exact next a7 v7 (by rw [show i+(n+1)=i+1+n by omega];exact st7)
  |false=>
   rw [hh] at hb
   have e1:m+rZ s n (i+1)=m+rZ s (n+1) i:=by simp [rZ,hh]
   refine bc.move (fun _ _=>oR (t:=false) hb) ?_
   rw [if_neg (by decide)]
   refine bc.move (fun _ _=>wB) ?_
   refine bc.move (fun _ _=>oa) ?_
   refine fB (c:=zo p Sh v0) (Γ':=wE p x d l s (i+1)) bc rfl st3.pop ?_ fun a6 v6 st6=>?_
   ·
    refine ab ?_
    refine aF rfl (a9 rfl (q:=((i+1:Nat):Int)) (by unfold ck;rw [if_pos (by omega)];congr 1)) ⟨rfl,rfl,trivial⟩ ?_
    refine aC rfl rfl ?_
    refine ax (ag ?_)
    exact ky (junk:=[]) (by repeat (first |exact trivial |refine⟨rfl,?_⟩)) my
   refine bc.move (fun _ _=>pW) ?_
   refine ih (i+1) m a6 v6 (by omega) st6 (by omega) fun a7 v7 st7=>?_
   rw [e1]
   exact next a7 v7 (by rw [show i+(n+1)=i+1+n by omega];exact st7)
@[reducible] noncomputable def DL (p:Gp) (x:dr) (d:Int) (l:List Int):Ga:=[(4,.at (.ptr bH) x),(5,.eq (.pointer (some p.xA))),(6,.rep (.slice (.int .i64)) l),(7,.eq (.int .i64 d))]
@[reducible] noncomputable def Ub (p:Gp) (x:dr) (d:Int) (l:List Int) (s:Int):Ga:=[(4,.at (.ptr bH) x),(5,.eq (.pointer (some p.xA))),(7,.eq (.int .i64 d)),(8,.eq (.int .u8 s)),(9,.rep (.slice (.int .i64)) l)]
theorem I6(hne:p.bw≠p.bs)(hsh:∀b,p.sh b→v0.A b)(hlen:x.1.2.1.length≤1000000)(hdays:x.1.1≤1000000){dd:Deferred}:∀(n m c:Nat) (d:Int) (l:List Int) (a:Act) (v:VW),n=(x.1.1 - d).toNat→0≤d→Rh k x n d l=some c→m+c=tot→St (zo p Sh v0) (DL p x d l) [] a v→
 Ww Tryz.prog p tot (.work m) v (OI.atR a [.code DO,.inLoop DO,.inBlock 0]) [{ fZ Tryz.prog dd with defers:=[] }]:=fun n=>by
 induction n with
 |zero=>
  intro m c d l a v hn hd hc hm st
  have bc:BC Tryz.prog (Ww Tryz.prog p tot (.work m)):=Ww.bc
  cases hc
  refine bc.move (fun _ _=>eH) ?_
  refine bc.move (fun _ _=>eH) ?_
  refine fB (c:=zo p Sh v0) (Γ':=(21,.eq (.bool false))::DL p x d l) bc rfl st ?_ fun a1 v1 st1=>?_
  ·
   refine ab ?_
   refine aC rfl rfl ?_
   refine aF rfl (ak (t:=.ptr bH) rfl pY rfl) ⟨rfl,trivial⟩ ?_
   refine aF rfl (dR rfl) ⟨rfl,trivial⟩ ?_
   refine aF rfl (aI 3 true rfl km rfl) ⟨rfl,trivial⟩ ?_
   refine aF rfl (aI 1 false rfl gR rfl) ⟨rfl,trivial⟩ ?_
   refine aF rfl (ak (t:=.int .i64) rfl cC rfl) ⟨rfl,trivial⟩ ?_
   refine aF rfl (bj rfl) ⟨rfl,rfl,trivial⟩ ?_
   refine ax (ag ?_)
   rw [decide_eq_false (by omega)]
   exact ky (junk:=[]) (by repeat (first |exact trivial |refine⟨rfl,?_⟩)) my
  refine bc.move (fun _ _=>oR (t:=false) (jK st1 (s:=21) rfl)) ?_
  rw [if_neg (by decide)]
  refine bc.move (fun _ _=>zm rfl) ?_
  exact(Qt.fin (tj (by simp)) (Bt zX hne (by omega) fun v'=>JZ rfl Tryz.func81 rfl):Qt (Ww Tryz.prog p tot (.work m)) v1 OI [{ fZ Tryz.prog dd with defers:=[] }] 47 [dcall 82 #[.pointer (some p.stA)]] [] (d5 (DL p x d l) a1)) a1 st1.pop.toQ
 |succ n ih=>
  intro m c d l a v hn hd hc hm st
  have bc:BC Tryz.prog (Ww Tryz.prog p tot (.work m)):=Ww.bc
  obtain⟨w,hw,hc⟩:=Option.bind_eq_some_iff.1 hc
  obtain⟨r,hr,hc⟩:=Option.bind_eq_some_iff.1 hc
  obtain⟨c',hc',hc⟩:=Option.bind_eq_some_iff.1 hc
  have hcc:rZ r.1 x.1.2.1.length 0+c'=c:=Option.some.inj hc
  refine bc.move (fun _ _=>eH) ?_
  refine bc.move (fun _ _=>eH) ?_
  refine fB (c:=zo p Sh v0) (Γ':=(21,.eq (.bool true))::DL p x d l) bc rfl st ?_ fun a1 v1 st1=>?_
  ·
   refine ab ?_
   refine aC rfl rfl ?_
   refine aF rfl (ak (t:=.ptr bH) rfl pY rfl) ⟨rfl,trivial⟩ ?_
   refine aF rfl (dR rfl) ⟨rfl,trivial⟩ ?_
   refine aF rfl (aI 3 true rfl km rfl) ⟨rfl,trivial⟩ ?_
   refine aF rfl (aI 1 false rfl gR rfl) ⟨rfl,trivial⟩ ?_
   refine aF rfl (ak (t:=.int .i64) rfl cC rfl) ⟨rfl,trivial⟩ ?_
   refine aF rfl (bj rfl) ⟨rfl,rfl,trivial⟩ ?_
   refine ax (ag ?_)
   rw [decide_eq_true (by omega)]
   exact ky (junk:=[]) (by repeat (first |exact trivial |refine⟨rfl,?_⟩)) my
  refine bc.move (fun _ _=>oR (t:=true) (jK st1 (s:=21) rfl)) ?_
  rw [if_pos rfl]
  refine bc.move (fun _ _=>wB) ?_
  refine bc.move (fun _ _=>eH) ?_
  refine bc.move (fun _ _=>oS) ?_
  refine bc.move (fun _ _=>eH) ?_
  refine fB (c:=zo p Sh v0) (Γ':=Ub p x d r.2 r.1) bc rfl st1.pop ?_ fun a2 v2 st2=>?_
  ·
   refine ab ?_
   refine aC rfl rfl ?_
   refine aF rfl (ak (t:=.ptr bH) rfl pY rfl) ⟨rfl,trivial⟩ ?_
   refine aC rfl rfl ?_
   refine aF rfl (ao [.tmp 26,.tmp 27] rfl rfl I8 rfl (nJ k x d _ hw)) ⟨rfl,rfl,trivial⟩ ?_
   refine aF rfl (ao [.tmp 25,.tmp 28] rfl rfl I9 rfl (uF k l w _ hr)) ⟨rfl,rfl,trivial⟩ ?_
   refine aC rfl rfl ?_
   refine aF rfl (fH rfl rfl) ⟨rfl,trivial⟩ ?_
   refine aF rfl (fH rfl rfl) ⟨rfl,trivial⟩ ?_
   refine dk rfl rfl ?_
   refine dk rfl rfl ?_
   refine ax (ag ?_)
   exact ky (junk:=[]) (by repeat (first |exact trivial |refine⟨rfl,?_⟩)) my
  refine bc.move (fun _ _=>eH) ?_
  refine bc.move (fun _ _=>eH) ?_
  refine fB (c:=zo p Sh v0) (Γ':=wE p x d r.2 r.1 0) bc rfl st2 ?_ fun a3 v3 st3=>?_
  ·
   refine ab ?_
   refine aF rfl (ak (t:=.ptr bH) rfl pY rfl) ⟨rfl,trivial⟩ ?_
   refine aF rfl (dR rfl) ⟨rfl,trivial⟩ ?_
   refine aF rfl (aI 3 true rfl km rfl) ⟨rfl,trivial⟩ ?_
   refine aF rfl (aI 1 false rfl cg rfl) ⟨rfl,trivial⟩ ?_
   refine aF rfl (ak (t:=.slice aK) rfl fR rfl) ⟨rfl,trivial⟩ ?_
   refine aF rfl (jq rfl rfl Tryz.underlying22) ⟨rfl,trivial⟩ ?_
   refine eI rfl ?_
   refine ax (ag ?_)
   exact ky (junk:=[]) (by repeat (first |exact trivial |refine⟨rfl,?_⟩)) my
  refine bc.move (fun _ _=>oS) ?_
  refine bc.move (fun _ _=>zl) ?_
  refine I7 hne hsh hlen x.1.2.1.length 0 m a3 v3 (by omega) st3 (by omega) fun a4 v4 st4=>?_
  have bc':BC Tryz.prog (Ww Tryz.prog p tot (.work (m+rZ r.1 x.1.2.1.length 0))):=Ww.bc
  refine fB (c:=zo p Sh v0) (Γ':=DL p x d r.2) bc' rfl st4 ?_ fun a5 v5 st5=>?_
  ·
   refine ab ?_
   refine aC rfl rfl ?_
   refine dk rfl rfl ?_
   refine ax (ag ?_)
   exact ky (junk:=[]) (by repeat (first |exact trivial |refine⟨rfl,?_⟩)) my
  refine bc'.move (fun _ _=>oa) ?_
  refine fB (c:=zo p Sh v0) (Γ':=DL p x (d+1) r.2) bc' rfl st5 ?_ fun a6 v6 st6=>?_
  ·
   refine ab ?_
   refine aC rfl rfl ?_
   refine aF rfl (a9 rfl (q:=d+1) (by unfold ck;rw [if_pos (by omega)])) ⟨rfl,rfl,trivial⟩ ?_
   refine dk rfl rfl ?_
   refine ax (ag ?_)
   exact ky (junk:=[]) (by repeat (first |exact trivial |refine⟨rfl,?_⟩)) my
  refine bc'.move (fun _ _=>pW) ?_
  exact ih _ c' (d+1) r.2 a6 v6 (by omega) (by omega) hc' (by omega) st6
@[reducible] noncomputable def Rj (p:Gp) (x:dr) (ld:List (List Int)) (t f:Int):List A:=[.eq (.pointer (some p.stA)),.at (.arr 3 (.arr 5 (.int .i64))) ld,.at (.int .i64) t,.at (.int .i64) f,.at (.ptr bH) x,.eq (.pointer (some p.xA))]
theorem Gn(hne:p.bw≠p.bs){ld:List (List Int)}{t f:Int}(hw:pZ k x ld t f=some tot){p0 p1 p2 p3 p4 p5:Value}{v:VW}(hd:∀b,Sh b→b < v.heap.size)(hO:bf [] Sh v)(hsh:∀b,p.sh b→v.A b)(hall:gr Sh v (Rj p x ld t f) [p0,p1,p2,p3,p4,p5]):
 Ww Tryz.prog p tot (.work 0) v (fZ Tryz.prog { target:=.fn (.func 81) #[p0,p1,p2,p3,p4,p5],args:= #[] }) []:=by
 have bc:BC Tryz.prog (Ww Tryz.prog p tot (.work 0)):=Ww.bc
 unfold pZ at hw
 split at hw
 ·
  rename_i hc;obtain⟨h1,h2,h3⟩:=hc;obtain⟨l,hl,hw⟩:=Option.bind_eq_some_iff.1 hw;refine bc.move (fun m w=>zn Re) ?_;rw [enter_at Tryz.func81 rfl];have st0:St ⟨Tryz.prog,47,Sh,v,aE [],none,[],Md.plain Tryz.prog⟩ (entry 0 (Rj p x ld t f)) [] { tmps:= #[p0,p1,p2,p3,p4,p5]++Array.replicate (47 - 6) undef,defers:=[] } v:=St.entry (vs:=[p0,p1,p2,p3,p4,p5]) rfl hd hall hO
  have key:∀a0,St ⟨Tryz.prog,47,Sh,v,aE [],none,[],Md.plain Tryz.prog⟩ (entry 0 (Rj p x ld t f)) [] a0 v→Ww Tryz.prog p tot (.work 0) v (OI.atR a0 [.code (Tryz.f81.body.getD .skip)]) [{ fZ Tryz.prog { target:=.fn (.func 81) #[p0,p1,p2,p3,p4,p5],args:= #[] } with defers:=[] }]:=by
   intro a0 st0;have e0:a0.tmps.getD 0 undef= .pointer (some p.stA):=jK st0 (s:=0) rfl;refine bc.move (fun _ _=>eH) ?_;refine bc.move (fun _ _=>lq) ?_;refine(Qt.defer (d5:=[.pointer (some p.stA)]) (T:=Ww Tryz.prog p tot (.work 0)) (tj (by simp)) rfl rfl rfl (fun a1 q1=>?_):Qt (Ww Tryz.prog p tot (.work 0)) v OI _ 47 [] _ ((0,.pointer (some p.stA))::d5 (entry 0 (Rj p x ld t f)) a0)) a0 (st0.toQ.know e0);have st1:St (zo p Sh v) (entry 0 (Rj p x ld t f)) [] a1 v:=st0.ofQ (Cc.base.know e0) q1;refine bc.move (fun _ _=>ii) ?_;refine bc.move (fun _ _=>eH) ?_;refine fB (c:=zo p Sh v) (Γ':=(3,.at (.int .i64) f)::(6,.rep (.slice (.int .i64)) l)::[(4,.at (.ptr bH) x),(5,.eq (.pointer (some p.xA)))]) bc rfl st1 ?_ fun a2 v2 st2=>?_
   ·refine ab ?_;refine aF rfl (ak (t:=.arr 3 (.arr 5 (.int .i64))) rfl ft rfl) ⟨rfl,trivial⟩ ?_;refine aF rfl (ak (t:=.int .i64) rfl cC rfl) ⟨rfl,trivial⟩ ?_;refine aF rfl (ao [.tmp 11,.tmp 12] rfl rfl Jb rfl (gC k ld t _ hl)) ⟨rfl,rfl,trivial⟩ ?_;refine dk rfl rfl ?_;refine ax (ag ?_);exact ky (junk:=[]) (by repeat (first |exact trivial |refine⟨rfl,?_⟩)) my
   refine bc.move (fun _ _=>eH) ?_;refine fB (c:=zo p Sh v) (Γ':=DL p x f l) bc rfl st2 ?_ fun a3 v3 st3=>?_
   ·refine ab ?_;refine aF rfl (ak (t:=.int .i64) rfl cC rfl) ⟨rfl,trivial⟩ ?_;refine dk rfl rfl ?_;refine ax (ag ?_);exact ky (junk:=[]) (by repeat (first |exact trivial |refine⟨rfl,?_⟩)) my
   refine bc.move (fun _ _=>oS) ?_;refine bc.move (fun _ _=>zl) ?_;exact I6 hne hsh h2 h1 _ 0 tot f l a3 v3 rfl h3 hw (by omega) st3
  exact key _ st0
 ·
  cases hw
end
end Go.Proofs.YtddneonghpmidaaGreatDoor
set_option linter.unusedVariables false
set_option maxRecDepth 4000
set_option maxHeartbeats 1000000
namespace Go.Proofs.YtddneonghpmidaaGreatDoor
open K Go Go.Proofs Go.Conc
theorem J1{P:Program}{Wl:World→Prop}{Γ:Gv}{o:Oper}{f:FuncId}{cs:Array Operand}{us:List Value}(ho:o.op= .makeFunc (.func f) #[] cs)(h:cs.toList.map (ev Γ)=us.map some):OV P Wl o Γ (.func (.func f) #[] us.toArray):=fun N df a ha w hl=>by
 have hm:=zD ha h
 simp [execOp,ho,Instr.makeFunc,hm]
noncomputable def zp:Code:=match Tryz.f50.body with
 |some (.seq _ (.seq _ (.seq _ (.seq (.seq _ (.block _ (.loop b))) _))))=>b
 |_=>.skip
section
variable {p:Gp}{tot:Nat→Nat}{k n j:Nat}{x:dr}{ld:List (List Int)}{d:Int}{N:Nat}{Gd:Machine→Trace→Prop}{kk:List Item}{cs:List Frame}{b:Frame}
@[reducible] noncomputable def G3 (S:FS) (v:VW):Cx:=⟨Tryz.prog,24,S,v,aE [],none,[],Md.plain Tryz.prog⟩
@[reducible] noncomputable def ul (p:Gp) (x:dr) (ld:List (List Int)) (d:Int) (N i:Nat):Ga:=[(3,.at (.ptr bH) x),(4,.at (.arr 3 (.arr 5 (.int .i64))) ld),(5,.at (.int .i64) d),(7,.eq (.pointer (some p.xA))),(8,.eq (.pointer (some p.stA))),(15,.eq (.int .i64 (N:Int))),(16,.eq (.int .i64 (i:Int)))]
theorem OF:∀w,(zeroValue 3).run Tryz.prog w= .ok (.int .i64 0) w:=fun w=>by kernel_rfl
theorem OH:∀S w,(A.cells S w (.eq (.int .i64 (0:Int))) (Value.cells (.int .i64 (0:Int))).toList):=fun _ _=>⟨rfl,rfl⟩
@[reducible] def K.ez(v:VW):VW:=⟨v.toWorld,v.A,fun _=>False⟩
theorem K.bV.ez{X:Nat→Prop}{S S':FS}{v v':VW}(h:bV X S v S' v'):bV X S (K.ez v) S' (K.ez v'):=⟨h.sub,h.new,h.dom,h.size,h.keep,h.os,h.tape,h.output,h.subA,h.oldA,rfl⟩
def NI(v0:VW)(S0:FS)(Γ:Ga)(a:Act)(v:VW):Prop:=∃S,a.defers=[]∧a.tmps.size=24∧bV (aE []) S0 (ez v0) S (ez v)∧bf [] S v∧∀s r,lk Γ s=some r→r.holds S v (a.tmps.getD s undef)
theorem qm{b:Frame}{a:Act}{k:List Item}(hb:b.roundOf=none):b.atR a k=b.at a k:=by
 cases b;simp only [Frame.atR,Frame.at] at *;subst hb;rfl
theorem Gs(hnx:Nx Tryz.prog Gd)(hne:p.bw≠p.bs){i:Nat}(hi:i < N)(hN:N≤1000)(hj:j < 1000)(hw:pZ k x ld i d=some (tot n))(hn:0 < n)(htb:aS tot (n+1) < 9223372036854775808){S0:FS}{v0:VW}{a:Act}{v:VW}(hb:b.roundOf=none)(hbk:b.kind≠.early)
 (hsh:∀y,p.sh y→v.A y) (hI:NI v0 S0 (ul p x ld d N i) a v)
 (next:∀a' v',(∀y,p.sh y→v'.A y)→NI v0 S0 (ul p x ld d N (i+1)) a' v'→TW Tryz.prog p tot (n+1) 0 false 0 false (rm (n+1) (j+1)) Gd v' (b.atR a' kk) cs):
 TW Tryz.prog p tot n 0 false 0 false (rm n j) Gd v (b.atR a (.code zp::kk)) cs:=by
 have bc:BC Tryz.prog (TW Tryz.prog p tot n 0 false 0 false (rm n j) Gd):=TW.bc hnx rj
 have bc1:BC Tryz.prog (TW Tryz.prog p tot n 0 false 1 false (rm n j) Gd):=TW.bc hnx rj
 obtain⟨S,i1,i2,i3,i4,i5⟩:=hI
 have st:St (G3 S v) (ul p x ld d N i) [] a v:=⟨i1,i2,S,bV.refl i3.dom,fun b hb=>.inl hb,i4,i5⟩
 refine bc.move (fun _ _=>eH) ?_
 refine fB (c:=G3 S v) (Γ':=(17,.eq (.bool true))::ul p x ld d N i) bc hb st ?_ fun a1 v1 st1=>?_
 ·
  refine ab ?_;refine aF rfl (bj rfl) ⟨rfl,rfl,trivial⟩ ?_;refine ax (ag ?_);rw [decide_eq_true (by omega)];exact fun _ _ h=>h
 refine bc.move (fun _ _=>eH) ?_
 refine bc.move (fun _ _=>oR (t:=true) (jK st1 (s:=17) rfl)) ?_
 rw [if_pos rfl]
 refine bc.move (fun _ _=>wB) ?_
 refine bc.move (fun _ _=>eH) ?_
 refine bc.move (fun _ _=>oS) ?_
 refine bc.move (fun _ _=>eH) ?_
 refine fB (c:=G3 S v) (Γ':=(9,.at (.int .i64) (i:Int))::ul p x ld d N i) bc hb st1.pop ?_ fun a2 v2 st2=>?_
 ·
  refine ab ?_;refine aC rfl rfl ?_;refine aD rfl rfl rfl (aY rfl OF OH) trivial fun b9=>?_;refine a8 rfl rfl (aX rfl cC rfl rfl rfl) ⟨rfl,rfl,trivial⟩ ?_;refine co (l8 (t:=.int .i64) (x:=(i:Int)) [9] .int ⟨rfl,trivial⟩) ?_;refine ax (ag ?_);exact ky (junk:=[]) (by repeat (first |exact trivial |refine⟨rfl,?_⟩)) my
 refine bc.move (fun _ _=>eH) ?_
 refine bc.move (fun _ _=>lq) ?_
 have h8:a2.tmps.getD 8 undef= .pointer (some p.stA):=jK st2 (s:=8) rfl
 rw [qm hb]
 refine(Qt.call (d5:=[.pointer (some p.stA),.int .i64 1]) (T:=TV v2 Tryz.prog p tot n 0 false 0 false (rm n j) Gd) (f6 hnx rj) rfl rfl zX.f_add (by kernel_rfl) rfl rfl (fun c hk=>?_) (hk:=hbk):Qt (TV v2 Tryz.prog p tot n 0 false 0 false (rm n j) Gd) v2 b cs 24 [] _ ((8,.pointer (some p.stA))::d5 ((9,.at (.int .i64) (i:Int))::ul p x ld d N i) a2)) a2 (st2.toQ.know h8) ⟨cd.refl _,fun y hy=>st2.sh (hsh y hy)⟩
 refine MX hnx zX hne hj fun v3=>?_
 refine hk _ _ _ fun a3 q3 hv3=>?_
 have st3:St (G3 S v) ((9,.at (.int .i64) (i:Int))::ul p x ld d N i) [] a3 v3:=(st2.rely hv3.1).ofQ ((Cc.base.know h8).new) q3
 rw [←qm hb]
 refine bc1.move (fun _ _=>ii) ?_
 refine bc1.move (fun _ _=>lq) ?_
 rw [qm hb]
 refine(Qt.op (T:=TV v3 Tryz.prog p tot n 0 false 1 false (rm n j) Gd) (f6 hnx rj) rfl (J1 (us:=[a3.tmps.getD 8 undef,a3.tmps.getD 4 undef,a3.tmps.getD 9 undef,a3.tmps.getD 5 undef,a3.tmps.getD 3 undef,a3.tmps.getD 7 undef]) rfl rfl) (fun a4 q4 hv4=>?_) (hk:=hbk):Qt (TV v3 Tryz.prog p tot n 0 false 1 false (rm n j) Gd) v3 b cs 24 [] _ (d5 ((9,.at (.int .i64) (i:Int))::ul p x ld d N i) a3)) a3 st3.toQ ⟨cd.refl _,fun y hy=>st3.sh (hsh y hy)⟩
 have st4:St (G3 S v) ((9,.at (.int .i64) (i:Int))::ul p x ld d N i) [] a4 v3:=st3.ofQ (Cc.base.new) q4
 have hx:=q4.val 20 _ rfl
 obtain⟨g1,g2,S2,g3,g4,g5,g6⟩:=st4
 have h63:∀s r,lk ((9,.at (.int .i64) (i:Int))::ul p x ld d N i) s=some r→r.holds S2 v3 (a3.tmps.getD s undef):=fun s r hl=>by
  have e:=q4.val s _ ((Cc.base.new (d:=20) (u:=.func (.func 81) #[] [a3.tmps.getD 8 undef,a3.tmps.getD 4 undef,a3.tmps.getD 9 undef,a3.tmps.getD 5 undef,a3.tmps.getD 3 undef,a3.tmps.getD 7 undef].toArray)) s r hl);rw [←e];exact g6 s r hl
 have hshA:∀y,p.sh y→v3.A y:=fun y hy=>g3.subA y (hsh y hy)
 rw [←qm hb]
 refine TW.spawn hnx rj (Sh:=S2) (Iv':=rm (n+1) (j+1)) (fc:=fZ Tryz.prog { target:=.fn (.func 81) #[a3.tmps.getD 8 undef,a3.tmps.getD 4 undef,a3.tmps.getD 9 undef,a3.tmps.getD 5 undef,a3.tmps.getD 3 undef,a3.tmps.getD 7 undef],args:= #[] }) hn (fun w0=>Ua (i:=1) (rest:=[]) rfl (aA rfl _) rfl rfl hx) (fun y hy=>⟨g3.dom y hy,g5.sees y hy⟩) htb (fun sg hsg=>?_) (fun v4 hr4=>?_) ?_
 ·
  have hsg:al n sg Ph.act≤j:=hsg;show al (n+1) (upd sg n (.work 0)) Ph.act≤j+1;unfold al at hsg⊢;simp only [aS];rw [dQ,kM fun j hj=>by rw [dC (by omega)]];show _+1≤_;omega
 ·
  have hd4:∀y,S2 y→y < v4.heap.size:=fun y hy=>Nat.lt_of_lt_of_le (g3.dom y hy) hr4.size;have h64:∀s r,lk ((9,.at (.int .i64) (i:Int))::ul p x ld d N i) s=some r→r.holds S2 v4 (a3.tmps.getD s undef):=fun s r hl=>A.mono (fun _ h=>h) (kL g3.dom g5.sees hr4) r (h63 s r hl)
  exact Gn hne hw (v:=⟨v4.toWorld,fun b=>b < v4.heap.size∧¬S2 b,S2⟩) hd4 ⟨fun _ h=>by simp at h,fun _ hb=>(fw hb).elim,List.Pairwise.nil,fun _ hb=>(fw hb).elim,fun y hy h=>h.2 hy,fun _ h=>h.1,hd4⟩ (fun y hy=>⟨Nat.lt_of_lt_of_le (g5.domA y (hshA y hy)) hr4.size,fun hS=>g5.sees y hS (hshA y hy)⟩)
   ⟨_,_,rfl,h64 8 _ rfl,_,_,rfl,h64 4 _ rfl,_,_,rfl,h64 9 _ rfl,_,_,rfl,h64 5 _ rfl,_,_,rfl,h64 3 _ rfl,_,_,rfl,h64 7 _ rfl,rfl⟩
 ·
  have bc':BC Tryz.prog (TW Tryz.prog p tot (n+1) 0 false 0 false (rm (n+1) (j+1)) Gd):=TW.bc hnx rj;refine bc'.move (fun _ _=>ii) ?_;refine bc'.move (fun _ _=>oa) ?_;have hO4:bf [] S2 ⟨v3.toWorld,v3.A,fun b=>v3.Z b∨S2 b⟩:=⟨fun _ h=>by simp at h,fun _ hb=>(fw hb).elim,List.Pairwise.nil,fun _ hb=>(fw hb).elim,g5.sees,g5.domA,fun y hy=>hy.elim (g5.domZ y) (g3.dom y)⟩;have hE:bV (aE []) S0 (ez v0) S2 (ez ⟨v3.toWorld,v3.A,fun b=>v3.Z b∨S2 b⟩):=i3.trans g3.ez fun b hb=>.inl hb
  have st5:St (G3 S2 ⟨v3.toWorld,v3.A,fun b=>v3.Z b∨S2 b⟩) (ul p x ld d N i) [] (a4.put none undef) ⟨v3.toWorld,v3.A,fun b=>v3.Z b∨S2 b⟩:=
   ⟨g1,g2,S2,bV.refl g3.dom,fun b hb=>.inl hb,hO4,fun s r hl=>g6 s r (by
    have hs:s≠9:=fun e=>by subst e;simp [lk] at hl
    simp only [lk] at hl⊢;rw [if_neg (fun e=>hs e.symm)];exact hl)⟩
  refine fB (c:=G3 S2 ⟨v3.toWorld,v3.A,fun b=>v3.Z b∨S2 b⟩) (Γ':=ul p x ld d N (i+1)) bc' hb st5 ?_ fun a6 v6 st6=>?_
  ·refine ab ?_;refine aF rfl (a9 rfl (q:=((i+1:Nat):Int)) (by unfold ck;rw [if_pos (by omega)];congr 1)) ⟨rfl,rfl,trivial⟩ ?_;refine aC rfl rfl ?_;refine ax (ag ?_);exact ky (junk:=[]) (by repeat (first |exact trivial |refine⟨rfl,?_⟩)) my
  obtain⟨k1,k2,S6,k3,k4,k5,k6⟩:=st6;exact next a6 v6 (fun y hy=>k3.subA y (hshA y hy)) ⟨S6,k1,k2,hE.trans k3.ez fun b hb=>.inl hb,k5,k6⟩
theorem Gq{n0:Nat}(hnx:Nx Tryz.prog Gd)(hne:p.bw≠p.bs)(hN:N≤1000)(hws:∀i:Nat,i < N→pZ k x ld i d=some (tot (n0+i)))(hn:0 < n0)(htb:∀m,m≤n0+N→aS tot m < 9223372036854775808){S0:FS}{v0:VW}(hb:b.roundOf=none)(hbk:b.kind≠.early)
 (next:∀a' v',(∀y,p.sh y→v'.A y)→NI v0 S0 (ul p x ld d N N) a' v'→TW Tryz.prog p tot (n0+N) 0 false 0 false (rm (n0+N) N) Gd v' (b.atR a' kk) cs):∀(r i:Nat),i+r=N→∀(a:Act) (v:VW),(∀y,p.sh y→v.A y)→NI v0 S0 (ul p x ld d N i) a v→
 TW Tryz.prog p tot (n0+i) 0 false 0 false (rm (n0+i) i) Gd v (b.atR a (.code zp:: .inLoop zp:: .inBlock 0::kk)) cs:=fun r=>by
 induction r with
 |zero=>
  intro i hi a v hsh hI
  obtain rfl:i=N:=by omega
  have bc:BC Tryz.prog (TW Tryz.prog p tot (n0+i) 0 false 0 false (rm (n0+i) i) Gd):=TW.bc hnx rj
  obtain⟨S,i1,i2,i3,i4,i5⟩:=hI
  have st:St (G3 S v) (ul p x ld d i i) [] a v:=⟨i1,i2,S,bV.refl i3.dom,fun b hb=>.inl hb,i4,i5⟩
  refine bc.move (fun _ _=>eH) ?_
  refine fB (c:=G3 S v) (Γ':=(17,.eq (.bool false))::ul p x ld d i i) bc hb st ?_ fun a1 v1 st1=>?_
  ·
   refine ab ?_
   refine aF rfl (bj rfl) ⟨rfl,rfl,trivial⟩ ?_
   refine ax (ag ?_)
   rw [decide_eq_false (by omega)]
   exact fun _ _ h=>h
  refine bc.move (fun _ _=>eH) ?_
  refine bc.move (fun _ _=>oR (t:=false) (jK st1 (s:=17) rfl)) ?_
  rw [if_neg (by decide)]
  refine bc.move (fun _ _=>zm rfl) ?_
  obtain⟨k1,k2,S6,k3,k4,k5,k6⟩:=st1.pop
  exact next a1 v1 (fun y hy=>k3.subA y (hsh y hy)) ⟨S6,k1,k2,i3.trans k3.ez fun b hb=>.inl hb,k5,k6⟩
 |succ r ih=>
  intro i hi a v hsh hI
  refine Gs hnx hne (by omega) hN (by omega) (hws i (by omega)) (by omega) (htb _ (by omega)) hb hbk hsh hI fun a' v' hsh' hI'=>?_
  have bc:BC Tryz.prog (TW Tryz.prog p tot (n0+i+1) 0 false 0 false (rm (n0+i+1) (i+1)) Gd):=TW.bc hnx rj
  refine bc.move (fun _ _=>pW) ?_
  exact ih (i+1) (by omega) a' v' hsh' hI'
noncomputable def NN:Code:=match Tryz.f50.body with
 |some (.seq _ (.seq _ (.seq _ (.seq _ c))))=>c
 |_=>.skip
theorem Jc(hnx:Nx Tryz.prog Gd)(hne:p.bw≠p.bs){S0:FS}{v0:VW}{a:Act}{v:VW}(hb:b.roundOf=none)(hbk:b.kind≠.early)(hsh:∀y,p.sh y→v.A y)(hI:NI v0 S0 (ul p x ld d N N) a v)
 (next:∀a' v',(∀y,p.sh y→v'.A y)→NI v0 S0 [(6,.eq (.int .i64 ((aS tot n:Nat):Int)))] a' v'→TW Tryz.prog p tot n 0 false 0 true (uO n) Gd v' (b.atR a' (.code .ret::kk)) cs):
 TW Tryz.prog p tot n 0 false 0 false (rm n j) Gd v (b.atR a (.code NN::kk)) cs:=by
 have bc:BC Tryz.prog (TW Tryz.prog p tot n 0 false 0 false (rm n j) Gd):=TW.bc hnx rj
 have bc1:BC Tryz.prog (TW Tryz.prog p tot n 0 false 0 true (uO n) Gd):=TW.bc hnx Ba
 obtain⟨S,i1,i2,i3,i4,i5⟩:=hI
 have st:St (G3 S v) (ul p x ld d N N) [] a v:=⟨i1,i2,S,bV.refl i3.dom,fun b hb=>.inl hb,i4,i5⟩
 have h8:a.tmps.getD 8 undef= .pointer (some p.stA):=jK st (s:=8) rfl
 refine bc.move (fun _ _=>eH) ?_
 refine bc.move (fun _ _=>lq) ?_
 rw [qm hb]
 refine(Qt.call (d5:=[.pointer (some p.stA)]) (T:=TV v Tryz.prog p tot n 0 false 0 false (rm n j) Gd) (f6 hnx rj) rfl rfl zX.f_wait (by kernel_rfl) rfl rfl (fun c hk=>?_) (hk:=hbk):Qt (TV v Tryz.prog p tot n 0 false 0 false (rm n j) Gd) v b cs 24 [] _ ((8,.pointer (some p.stA))::d5 (ul p x ld d N N) a)) a (st.toQ.know h8) ⟨cd.refl _,hsh⟩
 refine Hf hnx zX hne fun v1=>?_
 refine hk _ _ _ fun a1 q1 hv1=>?_
 have st1:St (G3 S v) (ul p x ld d N N) [] a1 v1:=(st.rely hv1.1).ofQ ((Cc.base.know h8).new) q1
 have h7:a1.tmps.getD 7 undef= .pointer (some p.xA):=jK st1 (s:=7) rfl
 rw [←qm hb]
 refine bc1.move (fun _ _=>ii) ?_
 refine bc1.move (fun _ _=>eH) ?_
 refine bc1.move (fun _ _=>lq) ?_
 rw [qm hb]
 refine(Qt.call (d5:=[.pointer (some p.xA)]) (T:=TV v1 Tryz.prog p tot n 0 false 0 true (uO n) Gd) (f6 hnx Ba) rfl rfl Tryz.func85 (by kernel_rfl) rfl rfl (fun c hk=>?_) (hk:=hbk):Qt (TV v1 Tryz.prog p tot n 0 false 0 true (uO n) Gd) v1 b cs 24 [] _ ((7,.pointer (some p.xA))::d5 (ul p x ld d N N) a1)) a1 (st1.toQ.know h7) ⟨cd.refl _,fun y hy=>st1.sh (hsh y hy)⟩
 refine II hnx fun v2=>?_
 refine hk _ _ _ ?_
 refine Qt.op (f6 hnx Ba) rfl (vz rfl rfl) ?_ (hk:=hbk)
 intro a2 q2 hv2
 have st2:St (G3 S v) (ul p x ld d N N) [] a2 v2:=(st1.rely hv2.1).ofQ (((Cc.base.know h7).new).new) q2
 rw [←qm hb]
 refine bc1.move (fun _ _=>ii) ?_
 obtain⟨k1,k2,S6,k3,k4,k5,k6⟩:=st2
 refine next a2 v2 (fun y hy=>k3.subA y (hsh y hy)) ⟨S6,k1,k2,i3.trans k3.ez fun b hb=>.inl hb,k5,fun s r hl=>?_⟩
 simp only [lk] at hl
 split at hl
 ·
  rename_i e;subst e;cases hl;exact q2.val 6 _ rfl
 ·
  cases hl
end
end Go.Proofs.YtddneonghpmidaaGreatDoor
set_option linter.unusedVariables false
set_option maxRecDepth 4000
set_option maxHeartbeats 1000000
namespace Go.Proofs.YtddneonghpmidaaGreatDoor
open K Go Go.Proofs Go.Conc
theorem K.dD.ofT{P:Program}{M:Md P}{f:Nat}{fn:Func}{C:Code}{az:List A}{Δ:List D}{X:Type}{R:X→A×List D}(N:Nat)(hf:P.funcs[f]? =some fn)(hb:fn.body=some C)(hN:fn.ntmps=N)(hn:Nat.ble az.length N=true)
 (h:∀kind,kind≠.early→∀S w0 a,St ⟨P,N,S,w0,aE Δ,none,[],M⟩ (entry 0 az) Δ a w0→∀T,M.ok T→∀cs,(∀e a' v',cN P fn (dY S w0 Δ R) e a' v'→ng T { (default:Frame) with fn:=f,kind:=kind } [] cs e a' v')→
  T w0 (Frame.atR { (default:Frame) with fn:=f,kind:=kind } a [.code C]) cs):dD M f az Δ R:=by
 subst hN
 intro kind hkind S w vs hd hall hO T hT cs hc
 have hst:St ⟨P,fn.ntmps,S,w,aE Δ,none,[],M⟩ (entry 0 az) Δ { tmps:=vs.toArray++Array.replicate (fn.ntmps - vs.toArray.size) undef,defers:=[] } w:=St.entry hn hd hall hO
 have he:Frame.enter P f vs.toArray kind=Frame.atR { (default:Frame) with fn:=f,kind:=kind } { tmps:=vs.toArray++Array.replicate (fn.ntmps - vs.toArray.size) undef,defers:=[] } [.code C]:=enter_at hf hb
 rw [he]
 refine h kind hkind S w _ hst T hT cs fun e a' v' q=>?_
 have fin:∀todo,(a'.defers=[]∧∃x,(∀v1,cd v' v1→(results fn a'.tmps).run P v1= .ok x v1∧iJ v1 v1 ((results fn a'.tmps).events P v1 #[]))∧dY S w Δ R (.returned x) v')→
  T v' { Frame.atR { (default:Frame) with fn:=f,kind:=kind } a' todo with mode:=.returning } cs:=fun todo ⟨q1,x,q2,q3⟩=>hc _ _ _ q3 rfl rfl ⟨rfl,q1,fn,hf,q2⟩
 cases e with
 |normal=>exact(M.bc T hT).move (fun _ _=>Bl rfl) (fin _ q)
 |ret=>exact⟨fun _ todo=>fin todo q,fun h=>by cases h⟩
 |panic chain=>exact fun todo=>hc _ _ _ q.2 rfl rfl ⟨rfl,q.1,fn,hf⟩
 |exit id=>exact q.elim
 |goto l=>exact q.elim
 |outgrown=>exact q.elim
def wC(k:Nat)(x:dr)(ld:List (List Int))(d:Int):Nat→Option Nat
 |0=>some 0
 |n+1=>(wC k x ld d n).bind fun s=>(pZ k x ld n d).bind fun c=>some (s+c)
def f9(k:Nat)(x:dr)(ld:List (List Int))(d:Int):Option Int:=
 if x.1.2.2.length≤1000 then(wC k x ld d x.1.2.2.length).bind fun s=>if s < 9223372036854775808 then some (s:Int) else none else none
theorem Gt{k:Nat}{x:dr}{ld:List (List Int)}{d:Int}{n0:Nat}:∀{n s:Nat},wC k x ld d n=some s→(∀i,i < n→∃c,pZ k x ld i d=some c)∧aS (fun i=>if i < n0 then 0 else(pZ k x ld (i - n0:Nat) d).getD 0) (n0+n)=s:=by
 intro n
 induction n with
 |zero=>
  intro s h;cases h;refine⟨fun i hi=>absurd hi (Nat.not_lt_zero i),oc fun i hi=>?_⟩;rw [if_pos (by omega)]
 |succ n ih=>
  intro s h;obtain⟨s',h1,h⟩:=Option.bind_eq_some_iff.1 h;obtain⟨c,h2,h⟩:=Option.bind_eq_some_iff.1 h;cases h;obtain⟨g1,g2⟩:=ih h1;refine⟨fun i hi=>?_,?_⟩
  ·by_cases e:i=n
   ·subst e;exact⟨c,h2⟩
   ·exact g1 i (by omega)
  ·rw [show n0+(n+1)=n0+n+1 by omega];simp only [aS];rw [g2,if_neg (by omega),show n0+n - n0=n by omega,h2];rfl
theorem LV{c:Cx}{Γ':Ga}{Δ rest:List D}{S S':FS}{v v1 v':VW}{a':Act}{cf cb:Nat}(hX:∀b,¬c.X b)(h3:bV c.X c.S0 c.w0 S v)(h4:∀b,aE Δ b→c.X b∨c.w0.heap.size≤b)(hO:bf Δ S v)(hr:cd v v1)
 (hsub:∀b,aE rest b∨b=cf∨b=cb→aE Δ b) (i1:a'.defers=c.dfs) (i2:a'.tmps.size=c.N) (hE:bV (aE rest) S (ez ⟨v1.toWorld,fun b=>v1.A b∨b=cf∨b=cb,v1.Z⟩) S' (ez v')) (hO':bf rest S' v')
 (hs:∀s r,lk Γ' s=some r→r.holds S' v' (a'.tmps.getD s undef)):St c Γ' rest a' ⟨v'.toWorld,v'.A,c.w0.Z⟩:=by
 have hge:∀b,aE Δ b→c.w0.heap.size≤b:=fun b hb=>(h4 b hb).resolve_left (hX b)
 have hsz:c.w0.heap.size≤v'.heap.size:=Nat.le_trans h3.size (Nat.le_trans hr.size hE.size)
 have hZ:v.Z=c.w0.Z:=h3.Z
 have holdA1:∀b,v1.A b→c.w0.A b∨c.w0.heap.size≤b:=fun b hb=>by
  rcases hr.old b hb with h |h
  ·exact h3.oldA b h
  ·exact .inr (Nat.le_trans h3.size h)
 have holdA:∀b,v'.A b→c.w0.A b∨c.w0.heap.size≤b:=fun b hb=>by
  rcases hE.oldA b hb with(h |h) |h
  ·exact holdA1 b h
  ·exact .inr (hge b (hsub b (.inr h)))
  ·exact .inr (Nat.le_trans (Nat.le_trans h3.size hr.size) h)
 refine⟨i1,i2,S',⟨fun b hb=>hE.sub b (h3.sub b hb),fun b hb=>?_,hE.dom,hsz,fun b hb hA hx=>?_,hE.os.trans (hr.os.trans h3.os),hE.tape.trans (hr.tape.trans h3.tape),hE.output.trans (hr.output.trans h3.output),fun b hb=>hE.subA b (.inl (hr.sub b (h3.subA b hb))),holdA,rfl⟩,fun b hb=>h4 b (hsub b (.inl hb)),⟨hO'.holds,hO'.own,hO'.apart,fun b hb=>⟨(hO'.far b hb).1,fun hz=>?_⟩,hO'.sees,hO'.domA,fun b hb=>?_⟩,hs⟩
 ·
  rcases hE.new b hb with h |h |h
  ·exact h3.new b h
  ·exact .inr (.inl (Nat.le_trans (Nat.le_trans h3.size hr.size) h))
  ·exact .inr (.inl (hge b (hsub b (.inl h))))
 ·
  have k1:v.heap[b]? =c.w0.heap[b]? :=h3.keep b hb hA hx;have nA:¬v.A b:=fun h=>(h3.oldA b h).elim hA fun h=>by omega
  have nA1:¬v1.A b:=fun h=>(holdA1 b h).elim hA fun h=>by omega
  have nf:¬(aE rest b∨b=cf∨b=cb):=fun h=>by have:=hge b (hsub b h);omega
  have k2:v1.heap[b]? =v.heap[b]? :=hr.keep b (by have:=h3.size;omega) nA;have k3:v'.heap[b]? =v1.heap[b]? :=hE.keep b (by have:=h3.size;have:=hr.size;show b < v1.heap.size;omega) (fun h=>h.elim nA1 fun h=>nf (.inr h)) (fun h=>nf (.inl h));exact k3.trans (k2.trans k1)
 ·
  exact(hO.far b (hsub b (.inl hb))).2 (hZ▸hz)
 ·
  have:=hO.domZ b (hZ▸hb);exact Nat.lt_of_lt_of_le this (Nat.le_trans hr.size hE.size)
theorem K.JC.runD{c:Cx}{C:Code}{Γ Γ':Ga}{Δ Δ':List D}{a:Act}{v:VW}{T:Tq}{b:Frame}{k:List Item}{cs:List Frame}(hT:c.M.ok T)(hb:b.roundOf=c.rd)(st:St c Γ Δ a v)(h:JC c C (cE (fun a w=>St c Γ' Δ' a w) (fun _ _ _=>False)) Γ Δ)(hc:∀a' v',St c Γ' Δ' a' v'→T v' (b.atR a' k) cs):
 T v (b.atR a (.code C::k)) cs:=tB hT hb st h fun e a' v' q=>by
 cases e with
 |normal=>exact hc a' v' q
 |_=>exact q.elim
theorem Qb:∀w,(zeroValue 151).run Tryz.prog w= .ok (.agg #[.int .i64 0]) w:=fun w=>by kernel_rfl
theorem Ss:∀S w,(A.cells S w (.agg (.eq (.int .i64 (0:Int)))) (Value.cells (.agg #[.int .i64 0])).toList):=fun _ _=>⟨rfl,rfl⟩
theorem Qa:∀w,(zeroValue 157).run Tryz.prog w= .ok (.agg #[.int .u64 0,.int .u32 0]) w:=fun w=>by kernel_rfl
theorem Sr:∀S w,(A.cells S w (.agg (.pair (.eq (.int .u64 (0:Int))) (.eq (.int .u32 (0:Int))))) (Value.cells (.agg #[.int .u64 0,.int .u32 0])).toList):=fun _ _=>⟨[_],_,rfl,⟨rfl,rfl⟩,rfl,rfl⟩
noncomputable def SU (i:Nat):Code:=match i,Tryz.f50.body with
 |0,some (.seq r _)=>r
 |1,some (.seq _ (.seq r _))=>r
 |2,some (.seq _ (.seq _ (.seq r _)))=>r
 |3,some (.seq _ (.seq _ (.seq _ (.seq (.seq r _) _))))=>r
 |_,_=>.skip
section
variable {x:dr}{ld:List (List Int)}{d:Int}
@[reducible] noncomputable def Ce (S:FS) (v:VW):Cx:=⟨Tryz.prog,24,S,v,aE [],none,[],jg Tryz.prog⟩
@[reducible] noncomputable def Vb (x:dr) (ld:List (List Int)) (d:Int):List A:=[.at bH x,.rep (.arr 3 (.arr 5 (.int .i64))) ld,.eq (.int .i64 d)]
theorem Rb{S:FS}{w0:VW}{T:Tq}(hT:(jg Tryz.prog).ok T){b:Frame}(hb:b.roundOf=none){kk:List Item}{cs:List Frame}{a:Act}{v:VW}(st:St (Ce S w0) (entry 0 (Vb x ld d)) [] a v)
 (next:∀a' v',St (Ce S w0) [(3,.at (.ptr bH) x),(4,.at (.arr 3 (.arr 5 (.int .i64))) ld),(5,.at (.int .i64) d)] [] a' v'→T v' (b.atR a' kk) cs):T v (b.atR a (.code (SU 0)::kk)) cs:=by
 refine JC.runD (c:=Ce S w0) hT hb st ?_ next
 show JC _ (.region _ _ false) _ _ _
 refine ab ?_
 refine aD rfl rfl rfl (pi rfl trivial) ⟨rfl,trivial⟩ fun b3=>?_
 refine aD rfl rfl rfl (pi rfl rfl) ⟨rfl,trivial⟩ fun b4=>?_
 refine aD rfl rfl rfl (pi rfl rfl) ⟨rfl,trivial⟩ fun b5=>?_
 refine dJ rfl ?_
 refine co (l8 (t:=.int .i64) (x:=d) [5] .int ⟨rfl,trivial⟩) ?_
 refine co (l8 (t:=.arr 3 (.arr 5 (.int .i64))) (x:=ld) [4] .rep ⟨rfl,trivial⟩) ?_
 refine co (l8 (t:=.ptr bH) (x:=x) [3] .ptr ⟨rfl,trivial⟩) ?_
 refine ax (ag ?_)
 exact ky (junk:=[]) (by repeat (first |exact trivial |refine⟨rfl,?_⟩)) my
theorem OG{C:Code}{S:FS}{w0:VW}{T:Tq}(hT:(jg Tryz.prog).ok T){b:Frame}(hb:b.roundOf=none){kk:List Item}{cs:List Frame}{a:Act}{v:VW}(st:St (Ce S w0) [(3,.at (.ptr bH) x),(4,.at (.arr 3 (.arr 5 (.int .i64))) ld),(5,.at (.int .i64) d)] [] a v)
 (next:∀a' v' b7 b8,St (Ce S w0) [(3,.at (.ptr bH) x),(4,.at (.arr 3 (.arr 5 (.int .i64))) ld),(5,.at (.int .i64) d),(7,.eq (.pointer (some ⟨b7,0,none⟩))),(8,.eq (.pointer (some ⟨b8,0,none⟩)))] [.obj b8 157 (.agg (.pair (.eq (.int .u64 (0:Int))) (.eq (.int .u32 (0:Int))))),.obj b7 151 (.agg (.eq (.int .i64 (0:Int))))] a' v'→T v' (b.atR a' (.code C::kk)) cs):T v (b.atR a (.code (SU 1):: .code (.seq (SU 2) C)::kk)) cs:=by
 refine tB (c:=Ce S w0) (Q:=cE (fun a w=>∃b7,St (Ce S w0) [(3,.at (.ptr bH) x),(4,.at (.arr 3 (.arr 5 (.int .i64))) ld),(5,.at (.int .i64) d),(7,.eq (.pointer (some ⟨b7,0,none⟩)))] [.obj b7 151 (.agg (.eq (.int .i64 (0:Int))))] a w) (fun _ _ _=>False)) hT hb st ?_ fun e a1 v1 q1=>?_
 ·
  show JC _ (.region _ _ false) _ _ _;refine ab ?_;refine aD rfl rfl rfl (aY rfl Qb Ss) trivial fun b7=>?_;refine ax (ag ?_);exact fun a w st=>⟨b7,(ky (junk:=[]) (by repeat (first |exact trivial |refine⟨rfl,?_⟩)) (by simp)) a w st⟩
 cases e with
 |normal=>
  obtain⟨b7,st1⟩:=q1;refine hT.1.move (fun _ _=>eH) ?_;refine tB (c:=Ce S w0) (Q:=cE (fun a w=>∃b8,St (Ce S w0) [(3,.at (.ptr bH) x),(4,.at (.arr 3 (.arr 5 (.int .i64))) ld),(5,.at (.int .i64) d),(7,.eq (.pointer (some ⟨b7,0,none⟩))),(8,.eq (.pointer (some ⟨b8,0,none⟩)))] [.obj b8 157 (.agg (.pair (.eq (.int .u64 (0:Int))) (.eq (.int .u32 (0:Int))))),.obj b7 151 (.agg (.eq (.int .i64 (0:Int))))] a w) (fun _ _ _=>False)) hT hb st1 ?_ fun e a2 v2 q2=>?_
  ·show JC _ (.region _ _ false) _ _ _;refine ab ?_;refine aD rfl rfl rfl (aY rfl Qa Sr) trivial fun b8=>?_;refine ax (ag ?_);exact fun a w st=>⟨b8,(ky (junk:=[]) (by repeat (first |exact trivial |refine⟨rfl,?_⟩)) (by simp)) a w st⟩
  cases e with
  |normal=>obtain⟨b8,st2⟩:=q2;exact next a2 v2 b7 b8 st2
  |_=>exact q2.elim
 |_=>exact q1.elim
theorem Q9{S:FS}{w0:VW}{T:Tq}(hT:(jg Tryz.prog).ok T){b:Frame}(hb:b.roundOf=none){kk:List Item}{cs:List Frame}{a:Act}{v:VW}{b7 b8:Nat}{Δ:List D}{p:Gp}(e7:p.xA=⟨b7,0,none⟩)(e8:p.stA=⟨b8,0,none⟩)(st:St (Ce S w0) [(3,.at (.ptr bH) x),(4,.at (.arr 3 (.arr 5 (.int .i64))) ld),(5,.at (.int .i64) d),(7,.eq (.pointer (some ⟨b7,0,none⟩))),(8,.eq (.pointer (some ⟨b8,0,none⟩)))] Δ a v)
 (next:∀a' v',St (Ce S w0) (ul p x ld d x.1.2.2.length 0) Δ a' v'→T v' (b.atR a' kk) cs):T v (b.atR a (.code (SU 3)::kk)) cs:=by
 refine JC.runD (c:=Ce S w0) hT hb st ?_ next
 rw [show ul p x ld d x.1.2.2.length 0=[(3,.at (.ptr bH) x),(4,.at (.arr 3 (.arr 5 (.int .i64))) ld),(5,.at (.int .i64) d),(7,.eq (.pointer (some ⟨b7,0,none⟩))),(8,.eq (.pointer (some ⟨b8,0,none⟩))),(15,.eq (.int .i64 (x.1.2.2.length:Int))),(16,.eq (.int .i64 ((0:Nat):Int)))] by rw [←e7,←e8]]
 show JC _ (.region _ _ false) _ _ _
 refine ab ?_
 refine aF rfl (ak (t:=.ptr bH) rfl pY rfl) ⟨rfl,trivial⟩ ?_
 refine aF rfl (dR rfl) ⟨rfl,trivial⟩ ?_
 refine aF rfl (aI 3 true rfl km rfl) ⟨rfl,trivial⟩ ?_
 refine aF rfl (aI 1 false rfl cH rfl) ⟨rfl,trivial⟩ ?_
 refine aF rfl (ak (t:=.slice (.int .i64)) rfl bN rfl) ⟨rfl,trivial⟩ ?_
 refine aF rfl (jq rfl rfl Tryz.underlying23) ⟨rfl,trivial⟩ ?_
 refine eI rfl ?_
 refine ax (ag ?_)
 exact ky (junk:=[]) (by repeat (first |exact trivial |refine⟨rfl,?_⟩)) (by simp)
@[reducible] def LW(b8 b7:Nat):Gp:=⟨b8,b7,157,151⟩
@[reducible] noncomputable def Uc (b8 b7:Nat):List D:=[.obj b8 157 (.agg (.pair (.eq (.int .u64 (0:Int))) (.eq (.int .u32 (0:Int))))),.obj b7 151 (.agg (.eq (.int .i64 (0:Int))))]
theorem Rf{S:FS}{v:VW}{b8 b7:Nat}(h:bf (Uc b8 b7) S v):(LW b8 b7).At v ⟨0,0,0,0⟩∧b8≠b7∧(∀y,(LW b8 b7).sh y↔aE (Uc b8 b7) y):=by
 obtain⟨c8,h1,h2⟩:=h.holds _ (List.mem_cons_self ..);obtain⟨c7,h3,h4⟩:=h.holds _ (List.mem_cons_of_mem _ (List.mem_cons_self ..));obtain⟨q1,q2,rfl,⟨rfl,_⟩,rfl,_⟩:=h2;obtain⟨rfl,_⟩:=h4;refine⟨⟨h1,h3⟩,fun e=>?_,fun y=>?_⟩
 ·exact(List.pairwise_cons.1 h.apart).1 _ (List.mem_cons_self ..) b8 rfl (by rw [e];rfl)
 ·constructor
  ·rintro(rfl |rfl)
   ·exact⟨_,List.mem_cons_self ..,rfl⟩
   ·exact⟨_,List.mem_cons_of_mem _ (List.mem_cons_self ..),rfl⟩
  ·rintro⟨D,hD,hy⟩;simp only [List.mem_cons,List.not_mem_nil,or_false] at hD;rcases hD with rfl |rfl
   ·simp only [D.foot,Option.some.injEq] at hy;exact .inl hy.symm
   ·simp only [D.foot,Option.some.injEq] at hy;exact .inr hy.symm
theorem yf{f:Nat→Nat}:∀r m,aS f m≤aS f (m+r)
 |0,_=>Nat.le_refl _
 |r+1,m=>Nat.le_trans (yf r m) (by rw [←Nat.add_assoc];simp only [aS];omega)
theorem LU{k s N:Nat}(hs:wC k x ld d N=some s)(hN1:N≤1000)(hs2:s < 9223372036854775808){S:FS}{w0:VW}{T:Tq}(hT:(jg Tryz.prog).ok T){b:Frame}(hb:b.roundOf=none)(hbk:b.kind≠.early){kk:List Item}{cs:List Frame}{a:Act}{v:VW}{b7 b8:Nat}
 (st:St (Ce S w0) (ul (LW b8 b7) x ld d N 0) (Uc b8 b7) a v) (next:∀a' v',St (Ce S w0) [(6,.eq (.int .i64 (s:Int)))] [] a' v'→T v' (b.atR a' (.code .ret::kk)) cs):
 T v (b.atR a (.code (.block 0 (.loop zp)):: .code NN::kk)) cs:=by
 obtain⟨i1,i2,S1,i3,i4,i5,i6⟩:=st
 refine hT.2 _ _ _ fun Gd hG v1 hr gs sl tt kq hL=>?_
 have hnx:Nx Tryz.prog Gd:=hG.next
 have hO1:=i5.rely i3.dom hr
 obtain⟨hat,hne,hsh⟩:=Rf hO1
 have hn0:0 < gs.size:=(Array.getElem?_eq_some_iff.1 hL.head).1
 obtain⟨hone,hfu⟩:=Gt (n0:=gs.size) hs
 refine JS (P:=Tryz.prog) (p:=LW b8 b7) (tot:=fun i=>if i < gs.size then 0 else(pZ k x ld (i - gs.size:Nat) d).getD 0) hO1.domA hO1.domZ hat hne (fun y hy=>(hO1.far y ((hsh y).1 hy)).1) (fun i hi=>if_pos hi) hL ?_
 have bc:BC Tryz.prog (TW Tryz.prog (LW b8 b7) (fun i=>if i < gs.size then 0 else(pZ k x ld (i - gs.size:Nat) d).getD 0) gs.size 0 false 0 false (rm gs.size 0) Gd):=TW.bc hnx rj
 refine bc.move (fun _ _=>oS) ?_
 refine bc.move (fun _ _=>zl) ?_
 have hI0:NI ⟨v1.toWorld,fun y=>v1.A y∨(LW b8 b7).sh y,v1.Z⟩ S1 (ul (LW b8 b7) x ld d N 0) a ⟨v1.toWorld,fun y=>v1.A y∨(LW b8 b7).sh y,v1.Z⟩:=by
  refine⟨S1,i1,i2,bV.refl fun y hy=>Nat.lt_of_lt_of_le (i3.dom y hy) hr.size,⟨fun _ h=>by simp at h,fun _ h=>(fw h).elim,List.Pairwise.nil,fun _ h=>(fw h).elim,fun y hy h=>?_,fun y h=>?_,hO1.domZ⟩,fun s r hl=>A.mono (fun _ h=>h) (kL i3.dom i5.sees hr) r (i6 s r hl)⟩
  ·rcases h with h |h
   ·exact hO1.sees y hy h
   ·exact(hO1.own y ((hsh y).1 h)).1 hy
  ·rcases h with h |h
   ·exact hO1.domA y h
   ·exact(hO1.own y ((hsh y).1 h)).2
 refine Gq (k:=k) (n0:=gs.size) hnx hne hN1 (fun i hi=>?_) hn0 (fun m hm=>?_) hb hbk (fun a1 v2 h1 hI1=>?_) N 0 (Nat.zero_add N) a _ (fun y hy=>.inr hy) hI0
 ·
  obtain⟨c,hc⟩:=hone i hi;show _=some (if gs.size+i < gs.size then 0 else _);rw [if_neg (by omega),show gs.size+i - gs.size=i by omega,hc];rfl
 ·
  refine Nat.lt_of_le_of_lt (yf (gs.size+N - m) m) ?_;rw [show m+(gs.size+N - m)=gs.size+N by omega,hfu];exact hs2
 ·
  refine Jc hnx hne hb hbk h1 hI1 fun a3 v3 h3 hI3=>?_;refine TW.fin (Z0:=w0.Z) hT.1 hG ?_;obtain⟨S4,j1,j2,j3,j4,j5⟩:=hI3;rw [hfu] at j5;exact next a3 _ (LV (c:=Ce S w0) (cf:=b8) (cb:=b7) (fun y ⟨d,hd,_⟩=>by simp at hd) i3 i4 i5 hr (fun y hy=>hy.elim (fun h=>(fw h).elim) (hsh y).1) j1 j2 j3 j4 j5)
theorem tN(k:Nat)(r:Int)(h:f9 k x ld d=some r):dD (jg Tryz.prog) 50 (Vb x ld d) [] (fun _:Unit=>(bp [.eq (.int .i64 r)],[])):=by
 unfold f9 at h;split at h
 ·rename_i hlen;obtain⟨s,hs,h⟩:=Option.bind_eq_some_iff.1 h;split at h
  ·rename_i hs2;cases h;refine K.dD.ofT 24 Tryz.func50 rfl rfl rfl fun kind hk S w0 a st T hT cs hc=>?_;refine hT.1.move (fun _ _=>eH) ?_;refine Rb hT rfl st fun a1 v1 st1=>?_;refine hT.1.move (fun _ _=>eH) ?_;refine OG hT rfl st1 fun a2 v2 b7 b8 st2=>?_;refine hT.1.move (fun _ _=>eH) ?_;refine hT.1.move (fun _ _=>eH) ?_;refine Q9 (p:=LW b8 b7) hT rfl rfl rfl st2 fun a3 v3 st3=>?_;refine LU hs hlen hs2 hT rfl hk st3 fun a4 v4 st4=>?_;refine tB (c:=Ce S w0) hT rfl st4 ?_ hc;refine bJ ?_;exact jo () [_] ⟨rfl,trivial⟩ rfl
  ·cases h
 ·cases h
end
end Go.Proofs.YtddneonghpmidaaGreatDoor
set_option linter.unusedVariables false
set_option maxRecDepth 4000
set_option maxHeartbeats 1000000
namespace Go.Proofs.YtddneonghpmidaaGreatDoor
open K Go Go.Proofs
@[reducible] def aw:Ty:=.agg (.pair an .val)
theorem qk{S:FS}{w:World}{t:aQ}{m:Value}{v:Value}(h:(A.at aw (t,m)).holds S w v):(A.at bH (t,())).holds S w v:=by
 obtain⟨b,off,c,T,fz,e,hb,hc,c1,c2,e2,h1,h2,h3⟩:=h;exact⟨b,off,c,T,fz,e,hb,hc,c1,c2,e2,h1,m,h2,h3⟩
theorem PG{t:aQ}{m:Value}:AE (.at aw (t,m)) (.at bH (t,())):=fun S w cs h=>by
 obtain⟨b,off,c,T,fz,e,hb,hc,c1,c2,e2,h1,h2,h3⟩:=h
 exact⟨b,off,c,T,fz,e,hb,hc,c1,c2,e2,h1,m,h2,h3⟩
theorem Qd:∀w,(zeroValue 129).run Tryz.prog w= .ok (.agg #[(.int .i64 (0)),(.slice none 0 0),(.slice none 0 0),(.map none)]) w:=fun w=>by kernel_rfl
theorem Qy:zO Tryz.prog 129 #[(0,3),(3,1)]:=⟨_,Tryz.underlying129,fun _=>by kernel_rfl⟩
theorem PD:∀S w,(A.cells S w (.pair (.agg (.pair (.eq (.int .i64 (0:Int))) (.pair (.eq (.slice none 0 0)) (.eq (.slice none 0 0))))) (.eq (.map none))) (Value.cells (.agg #[(.int .i64 (0)),(.slice none 0 0),(.slice none 0 0),(.map none)])).toList):=fun _ _=>⟨[_,_,_],_,rfl,⟨[_],_,rfl,⟨rfl,rfl⟩,⟨[_],_,rfl,⟨rfl,rfl⟩,⟨rfl,rfl⟩⟩⟩,⟨rfl,rfl⟩⟩
theorem gB(a0:aQ):bZ Tryz.prog 28 [.rep an a0] [] (fun z:Nat=>(bp [.at aw (a0,.map (some z))],[.raw z (.map #[] 0)])):=by
 refine bZ.of 7 Tryz.func28 rfl Tryz.ntmps28 rfl fun S w0=>?_;refine ar ?_;refine ab ?_;refine aD rfl rfl rfl (pi rfl rfl) ⟨rfl,trivial⟩ fun b1=>?_;refine dJ rfl ?_;refine ax ?_;refine ag ?_;show JC _ _ _ _ _;refine ar ?_;refine ab ?_;refine bX rfl rfl rfl (ah rfl du (sT) rfl) ⟨rfl,trivial⟩ ?_;refine aD rfl rfl rfl (FW rfl) trivial fun z=>?_;refine aF rfl (c9 [(0,.tmp 3,_),(1,.tmp 4,_)] rfl Qy Qd PD (iN ⟨rfl,rfl,trivial⟩) rfl) ⟨rfl,rfl,trivial⟩ ?_;refine aD rfl rfl rfl (pi rfl trivial) ⟨rfl,trivial⟩ fun b2=>?_;refine dk rfl rfl ?_;refine ax ?_;refine ag ?_;show JC _ _ _ _ _;refine dE (l8 (t:=aw) (x:=(a0,.map (some z))) [2] (.agg (.pair .rep (.val rfl))) ⟨rfl,trivial⟩) ?_;refine bJ ?_;exact aL z [_] 1 ⟨rfl,trivial⟩ rfl
theorem mU(k:Nat)(a0:dr)(a1:List (List Int))(a2:Int)(r:Int)(h:f9 k a0 a1 a2=some r):dD (jg Tryz.prog) 50 [.at bH a0,.rep (.arr 3 (.arr 5 (.int .i64))) a1,.eq (.int .i64 a2)] [] (fun _:Unit=>(bp [.eq (.int .i64 r)],[])):=tN k r h
def gI(l:List Int):List Value:=l.map fun n=>.int .i64 n
def lH(l:List (List Int)):Value:=.agg (l.flatMap gI).toArray
def Kw(l:List (List Int)):Prop:=l.length=3∧∀r∈l,r.length=5∧∀n∈r, -1≤n∧n < 8
instance (l:List (List Int)):Decidable (Kw l):=by unfold Kw;infer_instance
theorem vM:∀{l l':List Int},gI l=gI l'→l=l'
 |[],[],_=>rfl
 |[],_::_,h=>by cases h
 |_::_,[],h=>by cases h
 |a::l,b::l',h=>by
  have h:Value.int .i64 a::gI l=Value.int .i64 b::gI l':=h
  simp only [List.cons.injEq,Value.int.injEq,true_and] at h
  rw [h.1,vM h.2]
theorem li(l:List Int):(gI l).length=l.length:=by simp [gI]
theorem xU{l l':List (List Int)}(h1:Kw l)(h2:Kw l')(h:lH l=lH l'):l=l':=by
 have key:∀{l l':List (List Int)},(∀r∈l,r.length=5)→(∀r∈l',r.length=5)→l.flatMap gI=l'.flatMap gI→l=l':=by
  intro l
  induction l with
  |nil=>intro l' _ g h;cases l' with
   |nil=>rfl
   |cons r l'=>exfalso;have e:=congrArg List.length h;have:=g r (by simp);simp [List.flatMap_cons,li,this] at e;omega
  |cons r l ih=>intro l' g0 g h;cases l' with
   |nil=>exfalso;have e:=congrArg List.length h;have:=g0 r (by simp);simp [List.flatMap_cons,li,this] at e
   |cons r' l'=>
    simp only [List.flatMap_cons] at h;obtain⟨e1,e2⟩:=List.append_inj h (by rw [li,li,g0 r (by simp),g r' (by simp)]);rw [vM e1,ih (fun x hx=>g0 x (by simp [hx])) (fun x hx=>g x (by simp [hx])) e2]
 simp only [lH,Value.agg.injEq] at h;exact key (fun r hr=>(h1.2 r hr).1) (fun r hr=>(h2.2 r hr).1) (by simpa using congrArg Array.toList h)
theorem wv{S:FS}{w:World}{u:Value}{l:List (List Int)}(h:(A.rep (.arr 3 (.arr 5 (.int .i64))) l).holds S w u):u=lH l:=by
 obtain⟨cs,⟨_,h1⟩,h2⟩:=h
 have row:∀{r:List Int} {cs:List Value},cM (rd S w (.int .i64)) r cs→cs=gI r:=by
  intro r
  induction r with
  |nil=>intro cs h;exact h
  |cons n r ih=>rintro cs ⟨c1,c2,rfl,h1,h2⟩;have h1:c1=[.int .i64 n]:=h1;rw [h1,ih h2];rfl
 have key:∀{l:List (List Int)} {cs:List Value},cM (rd S w (.arr 5 (.int .i64))) l cs→cs=l.flatMap gI:=by
  intro l
  induction l with
  |nil=>intro cs h;exact h
  |cons r l ih=>rintro cs ⟨c1,c2,rfl,h1,h2⟩;rw [row h1.2,ih h2];rfl
 rw [h2,key h1];rfl
theorem xT(l:List (List Int)):nX (lH l)=true:=by
 have row:∀r:List Int,(gI r).all wb=true:=fun r=>by
  induction r with
  |nil=>rfl
  |cons n r ih=>exact ih
 show((l.flatMap gI).toArray.toList.all wb)=true
 induction l with
 |nil=>rfl
 |cons r l ih=>simp only [List.flatMap_cons,List.all_append,row,Bool.true_and];exact ih
theorem Hn:Tryz.prog.types.size+2≤10000:=Nat.le_of_ble_eq_true (by kernel_rfl)
theorem xy:70 < Tryz.prog.types.size:=Nat.lt_of_lt_of_le (Nat.lt_succ_self 70) (Nat.le_of_ble_eq_true (by kernel_rfl))
theorem Bc:WideMaps.KeyLaw Tryz.prog 70:=deep_law_gate (by kernel_rfl) Hn (Nat.lt_of_lt_of_le (Nat.lt_succ_self 70) (Nat.le_of_ble_eq_true (by kernel_rfl))) (by kernel_rfl) (by kernel_rfl)
theorem He{n:Int}(h1: -1≤n)(h2:n < 8):(Lit.int .i64 n).wf=true:=by
 simp only [Lit.wf,Bool.and_eq_true,decide_eq_true_eq];exact⟨Int.le_trans (by decide) h1,Int.le_trans (Int.le_of_lt h2) (by decide)⟩
theorem vq(d:Nat){l:List Int}(h5:l.length=5)(hw:∀n∈l, -1≤n∧n < 8):Tryz.prog.keyLits (d+2) 68 (gI l)=some (l.map fun n=>.int .i64 n):=by
 match l,h5,hw with
 |[a,b,c,e,f],_,hw=>
  have hint:∀(n:Int),n∈[a,b,c,e,f]→Tryz.prog.keyLits (d+1) 3 [.int .i64 n]=some [.int .i64 n]:=fun n h=>by
   have:=hw n h;simp only [Program.keyLits,Tryz.underlying3,He this.1 this.2,and_self,if_true]
  have hc:Tryz.prog.cellsOf 68=5:=by kernel_rfl
  have hc3:Tryz.prog.cellsOf 3=1:=by kernel_rfl
  have hr:List.range 5=[0,1,2,3,4]:=by decide
  unfold Program.keyLits;simp [gI,Tryz.underlying68,hc,hc3,hr,hint a (by simp),hint b (by simp),hint c (by simp),hint e (by simp),hint f (by simp)]
theorem IT{l:List (List Int)}(h:Kw l):∃lt,keyOf Tryz.prog 70 (lH l)=some lt:=by
 obtain⟨h3,hr⟩:=h;match l,h3,hr with
 |[r1,r2,r3],_,hr=>
  obtain⟨d,hd⟩:∃d,Tryz.prog.types.size+1=d+3:=⟨Tryz.prog.types.size - 2,by have:=xy;omega⟩;obtain⟨l1,g1⟩:=hr r1 (by simp);obtain⟨l2,g2⟩:=hr r2 (by simp);obtain⟨l3,g3⟩:=hr r3 (by simp);have k1:=vq d l1 g1;have k2:=vq d l2 g2;have k3:=vq d l3 g3;have n1:=li r1;have n2:=li r2;have n3:=li r3;rw [l1] at n1;rw [l2] at n2;rw [l3] at n3;have hc:Tryz.prog.cellsOf 70=15:=by kernel_rfl
  have hc5:Tryz.prog.cellsOf 68=5:=by kernel_rfl
  have hk:Tryz.prog.keyType 70=true:=by kernel_rfl
  have hr3:List.range 3=[0,1,2]:=by decide
  have e0':(gI r1++(gI r2++gI r3)).take 5=gI r1:=by rw [←n1,List.take_left]
  have e1:((gI r1++(gI r2++gI r3)).drop 5).take 5=gI r2:=by rw [←n1,List.drop_left,n1,←n2,List.take_left]
  have e2:((gI r1++(gI r2++gI r3)).drop 10).take 5=gI r3:=by
   rw [show 10=(gI r1++gI r2).length by simp [n1,n2],←List.append_assoc,List.drop_left,←n3,List.take_length]
  have hL:Tryz.prog.keyLits (Tryz.prog.types.size+1) 70 (lH [r1,r2,r3]).cells.toList=some (r1.map (fun n=>.int .i64 n)++(r2.map (fun n=>.int .i64 n)++r3.map (fun n=>.int .i64 n))):=by
   rw [hd];have hcs:(lH [r1,r2,r3]).cells.toList=gI r1++(gI r2++gI r3):=by simp [lH,Value.cells]
   have hlen:(gI r1++(gI r2++gI r3)).length=15:=by simp [n1,n2,n3]
   rw [hcs];generalize gI r1++(gI r2++gI r3)=cs at *;unfold Program.keyLits;simp [Tryz.underlying70,hc,hlen,hc5,hr3,e0',e1,e2,k1,k2,k3]
  refine⟨.string (keyBytes (r1.map (fun n=>.int .i64 n)++(r2.map (fun n=>.int .i64 n)++r3.map (fun n=>.int .i64 n)))),?_⟩;unfold keyOf;rw [Tryz.underlying70];have hf:(lH [r1,r2,r3]).formed Tryz.prog 70=true:=by simp [lH,Value.formed,Tryz.underlying70,hc,n1,n2,n3]
  simp only [hk,hf,Bool.and_self,if_true,hL,Option.map_some]
def bS(k:Nat)(a0:aQ)(a1:List (List Int)):Option Int:=
 (cP (Kw a1)).bind fun _=>(f9 k (a0,()) a1 0).bind fun n=>some n
def bu(k:Nat)(a0:aQ):Obj→Prop:=mK Tryz.prog 70 fun kv n=>∃l,Kw l∧kv=lH l∧bS k a0 l=some n
theorem l5{k:Nat}{a0:aQ}:bu k a0 (.map #[] 0):=mK.nil
theorem Gf{k:Nat}{a0:aQ}{kv:Value}:∀n n':Int,(∃l,Kw l∧kv=lH l∧bS k a0 l=some n)→(∃l,Kw l∧kv=lH l∧bS k a0 l=some n')→n=n':=by
 rintro n n' ⟨p,h1,h2,h3⟩ ⟨q,h4,h5,h6⟩;obtain rfl:=xU h1 h4 (h2.symm.trans h5);exact Option.some.inj (h3.symm.trans h6)
theorem NV:∀w,(zeroValue 3).run Tryz.prog w= .ok (.int .i64 0) w:=fun w=>by kernel_rfl
def vO(l:List Int):Prop:=l.length=5∧∀n∈l, -1≤n∧n < 8
instance (l:List Int):Decidable (vO l):=by unfold vO;infer_instance
def uY(l:List Int):Value:=.agg (gI l).toArray
theorem qG{S:FS}{w:World}{u:Value}{l:List Int}(h:(A.rep (.arr 5 (.int .i64)) l).holds S w u):u=uY l:=by
 obtain⟨cs,⟨_,h1⟩,h2⟩:=h
 have row:∀{r:List Int} {cs:List Value},cM (rd S w (.int .i64)) r cs→cs=gI r:=by
  intro r
  induction r with
  |nil=>intro cs h;exact h
  |cons n r ih=>rintro cs ⟨c1,c2,rfl,h1,h2⟩;have h1:c1=[.int .i64 n]:=h1;rw [h1,ih h2];rfl
 rw [h2,row h1];rfl
theorem Ar(l:List Int):nX (uY l)=true:=by
 show((gI l).toArray.toList.all wb)=true
 induction l with
 |nil=>rfl
 |cons n r ih=>exact ih
theorem Lu:WideMaps.KeyLaw Tryz.prog 68:=deep_law_gate (by kernel_rfl) Hn (Nat.lt_of_lt_of_le (Nat.lt_succ_self 68) (Nat.le_of_ble_eq_true (by kernel_rfl))) (by kernel_rfl) (by kernel_rfl)
theorem Be{l:List Int}(h:vO l):∃lt,keyOf Tryz.prog 68 (uY l)=some lt:=by
 obtain⟨d,hd⟩:∃d,Tryz.prog.types.size+1=d+2:=⟨Tryz.prog.types.size - 1,by have:=xy;omega⟩;have k1:=vq d h.1 h.2;have n1:=li l;rw [h.1] at n1;have hc:Tryz.prog.cellsOf 68=5:=by kernel_rfl
 have hk:Tryz.prog.keyType 68=true:=by kernel_rfl
 have hL:Tryz.prog.keyLits (Tryz.prog.types.size+1) 68 (uY l).cells.toList=some (l.map fun n=>.int .i64 n):=by
  rw [hd];exact k1
 refine⟨.string (keyBytes (l.map fun n=>.int .i64 n)),?_⟩;unfold keyOf;rw [Tryz.underlying68];have hf:(uY l).formed Tryz.prog 68=true:=by simp [uY,Value.formed,Tryz.underlying68,hc,n1]
 simp only [hk,hf,Bool.and_self,if_true,hL,Option.map_some]
theorem Oa{l l':List Int}(h1:vO l)(h2:vO l')(w:World):(Op.equalIn 10000 68 (uY l) (uY l')).run Tryz.prog w= .ok (decide (l=l')) w:=by
 obtain⟨l1,k1⟩:=Be h1;obtain⟨l2,k2⟩:=Be h2;obtain⟨r,hr,hiff⟩:=run_equal_deep (P:=Tryz.prog) w (Nat.le_succ 9999) (by kernel_rfl) (by kernel_rfl) k1 k2
 have e:r=decide (l=l'):=by
  by_cases hl:l=l'
  ·subst hl;rw [k1] at k2;rw [decide_eq_true rfl,hiff.2 (Option.some.inj k2)]
  ·rw [decide_eq_false hl];cases hb:r with
   |false=>rfl
   |true=>
    have:=Lu.inj k1 (by rw [hiff.1 hb];exact k2);simp only [uY,Value.agg.injEq] at this;exact absurd (vM (by simpa using congrArg Array.toList this)) hl
 rw [←e];exact hr
theorem H4{M:Md Tryz.prog}{o:Oper}{x y:Operand}{T':TypeId}{l l':List Int}(ho:o.op= .binOp .neq 68 x y T')(h1:vO l)(h2:vO l'):bG M o [(x,.rep (.arr 5 (.int .i64)) l),(y,.rep (.arr 5 (.int .i64)) l')] [] (fun _:Unit=>(.eq (.bool (!decide (l=l'))),[])):=
 .val0 (hns:=fun S w a hN=>vo ho (by rw [qG hN.1,qG hN.2.1];exact A0 (Ar _) (Ar _))) fun S w a hN=>by
  have e1:a.eval x=uY l:=qG hN.1
  have e2:a.eval y=uY l':=qG hN.2.1
  have h3:=Oa h1 h2 w
  refine⟨_,?_,rfl⟩
  have hg:Tryz.prog.eqGuardType Tryz.prog.depth 68=false:=by kernel_rfl
  unfold uY at e1 e2 h3
  simp only [execOp,ho,e1,e2,Sem.run_bind,run_eqGuard_agg w _ _ _ _ _ _ hg,run_neq_struct,h3,Result.andThen_ok,Sem.run_pure]
end Go.Proofs.YtddneonghpmidaaGreatDoor
set_option linter.unusedVariables false
set_option maxRecDepth 4000
namespace Go.Proofs.YtddneonghpmidaaGreatDoor
open K Go Go.Proofs
theorem K.SE.finE{c:Cx}{Γ Γ':Ga}(E:List D)(hs:Ky Γ' Γ):SE c Γ E Γ' E:=bm [] E [] hs rfl
theorem Aa{vs:Nat→Value}:∀{l:List (List Int)} {j:Nat},(eB vs j l).length=l.length
 |[],_=>rfl
 |_::l,j=>by simp only [eB,List.length_cons,Aa (l:=l)]
theorem IL{vs:Nat→Value}{l:List (List Int)}{x:List Int}{v:Value}(h:bq (List.length l+List.length [x])):bq (List.length (eB vs 0 l)+List.length [v]):=by
 rw [Aa];exact h
section
variable {P:Program}
end
theorem sX(k:Nat)(a0:(List (List Int)))(r:(List (List Int)))(h:jD k a0=some r):
 bZ Tryz.prog 26 [.rep (.slice (.slice (.int .i64))) a0] [] (fun z:Value×(Nat→Value)=>(bp [.eq z.1],fD 23 z r)):=by
 unfold jD at h
 replace h:=ba h
 refine bZ.of 20 Tryz.func26 rfl Tryz.ntmps26 rfl fun S w0=>?_
 refine ar ?_
 refine ab ?_
 refine dJ rfl ?_
 refine ax ?_
 refine ag ?_
 show JC _ _ _ _ _
 refine ar ?_
 refine ab ?_
 refine dJ rfl ?_
 refine ax ?_
 refine ag ?_
 show JC _ _ _ _ _
 refine aJ (Z:=Value×(Nat→Value)) (α:=(List (List Int))) (fun z2 x1=>[(3,.eq z2.1)]) (fun z2 x1=>fD 23 z2 x1) h (fun K h=>?_) (fun z2 x1 h=>?_)
 ·
  refine ar ?_;refine ab ?_;refine dJ rfl ?_;refine ax ?_;refine ag ?_;show JC _ _ _ _ _;refine aj ?_;refine dE (SE.nil 23 .val) ?_;refine dE (BN (n:=0) (F:=[])) ?_;refine aH (Z:=Value×(Nat→Value)) (α:=(List (List Int))×Int) (fun z4 y3=>[(0,.rep (.slice (.slice (.int .i64))) a0),(3,.eq z4.1),(4,.eq (.int .i64 y3.2))]) (fun z4 y3=>fD 23 z4 y3.1) (fm k a0) k (.slice none 0 0,fun _=>.slice none 0 0) (([]:(List (List Int))),(0:Int)) (fun _=>rfl) h (SE.finE (fD 23 (.slice none 0 0,fun _=>.slice none 0 0) []) ⟨rfl,rfl,rfl,trivial⟩) (fun n z4 y3 h=>?_);unfold fm at h;refine ar ?_;refine ar ?_;refine ab ?_;refine aC rfl rfl ?_;refine aC rfl rfl ?_;refine aF rfl (jq rfl rfl Tryz.underlying37) ⟨rfl,trivial⟩ ?_;refine aF rfl (bj rfl) ⟨rfl,rfl,trivial⟩ ?_;refine ax ?_;refine ag ?_;show JC _ _ _ _ _;refine bK rfl (fun hb=>?_) (fun hb=>?_)
  ·replace h:=cF (oe hb) h;refine cT ?_;refine ag ?_;show JC _ _ _ _ _;refine ar ?_;refine aj ?_;refine ab ?_;refine aC rfl rfl ?_;refine aC rfl rfl ?_;refine aC rfl rfl ?_;obtain⟨x5,ex5,h⟩:=aa h;refine aF rfl (aG (t:=(.slice (.int .i64))) rfl Tryz.underlying37 bN ex5) ⟨rfl,rfl,trivial⟩ ?_;refine aF rfl (ak (t:=(.slice (.int .i64))) rfl bN rfl) ⟨rfl,trivial⟩ ?_;obtain⟨r6,er6,h⟩:=aa h;have cr6:=dp k x5 r6 er6;refine aD rfl rfl rfl (ao [.tmp 15] rfl rfl zx rfl cr6) ⟨rfl,trivial⟩ fun v7=>?_;refine fA fun hv=>?_;refine aF rfl (bh (t:=.val) [(.tmp 16,_)] [v7] rfl rfl lD (.cons hv (.val hv) .nil) rfl rfl) ⟨rfl,trivial⟩ ?_;obtain⟨u8,eu8,h⟩:=aa h;refine co (fE (Δ':=.sl z4.1 23 .val (eB z4.2 0 y3.1):: .sl v7 3 (.int .i64) r6::kY z4.2 0 y3.1) (List.Perm.swap _ _ _)) ?_;refine cp rfl rfl rfl (be rfl rfl lD (IL (ay eu8))) ⟨rfl,rfl,trivial⟩ fun v9=>?_;refine dk rfl rfl ?_;refine ax ?_;refine bT ?_;refine ag ?_;refine bi (fE (Δ':=.sl v7 3 (.int .i64) r6:: .sl v9 23 .val (eB z4.2 0 y3.1++[v7])::([]++kY z4.2 0 y3.1)) (List.Perm.swap _ _ _)) ?_;refine bi (yu (pre:=[])) ?_;show JC _ _ _ _ _;refine ab ?_;refine aC rfl rfl ?_;obtain⟨x10,ex10,h⟩:=aa h;refine aF rfl (a9 rfl ex10) ⟨rfl,rfl,trivial⟩ ?_;refine dk rfl rfl ?_;refine ax ?_;refine ag ?_;exact jm ((v9,nP z4.2 y3.1.length v7),(y3.1++[r6],x10)) h (SE.finE (fD 23 (v9,nP z4.2 y3.1.length v7) (y3.1++[r6])) ⟨rfl,rfl,rfl,trivial⟩)
  ·replace h:=bM (nr hb) h;refine jp ?_;refine cy ?_;refine cy ?_;refine dW ?_;refine ag ?_;exact jm (z4,y3.1) h (SE.finE (fD 23 z4 y3.1) ⟨rfl,trivial⟩)
 ·
  refine ar ?_;refine ab ?_;refine aC rfl rfl ?_;refine dk rfl rfl ?_;refine ax ?_;refine ag ?_;show JC _ _ _ _ _;refine bJ ?_;obtain rfl:=Option.some.inj h;exact aL z2 [.eq z2.1] (fD 23 z2 x1).length ⟨rfl,trivial⟩ (by rw [List.take_length])
