import Derived.Test.YtcnpijmfgfnpiaaGreatDoorChecked
import Derived.Test.YtcnpijmfgfnpiaaGreatDoorXXB8
import Derived.Test.YtcnpijmfgfnpiaaGreatDoorXXF1
import Derived.Test.YtcnpijmfgfnpiaaGreatDoorXXB5
set_option linter.unusedSimpArgs false
set_option linter.unusedVariables false
set_option maxRecDepth 20000
set_option maxHeartbeats 4000000
namespace Go.Proofs.YtcnpijmfgfnpiaaGreatDoor
open K Go Go.Proofs Go.Conc Go.Conc.Lib
abbrev Lp:Go.Conc.Lib.WgLink:={ add:=137,done:=139,wait:=141,relMerge:=163,disable:=164,enable:=165,inBubble:=166,associate:=167,fatal:=168,uOr:=169,uAdd:=170,raceRead:=171,uLoad:=172,uStore:=173,disassociate:=174,semrelease:=175,acquire:=177,isAssociated:=178,uCas:=179,raceWrite:=180,semacquire:=181,orU64:=191,addU64:=192,loadU64:=193,storeU64:=194,casU64:=195,tWgP:=234,tUP:=179,tAssoc:=236,tWg:=203,tAU:=200,tU64:=96,tUint:=170,tU32:=201,tPU32:=240,tPAU:=258,tPU64:=260,tNoCopy:=198,tANoCopy:=194,tAlign64:=195 }
theorem yB:Go.Conc.Lib.WgLib Tryz.prog Lp:=
 ⟨Tryz.func137,Tryz.func139,Tryz.func141,Tryz.func163,Tryz.func164,Tryz.func165,Tryz.func166,Tryz.func167,Tryz.func168,Tryz.func169,Tryz.func170,Tryz.func171,Tryz.func172,Tryz.func173,Tryz.func174,Tryz.func175,Tryz.func177,Tryz.func178,Tryz.func179,Tryz.func180,Tryz.func181,Tryz.func191,Tryz.func192,Tryz.func193,Tryz.func194,Tryz.func195,Tryz.underlying234,Tryz.runUnderlying234,Tryz.sizeOf234,Tryz.isAgg234,Tryz.zeroValue234,Tryz.underlying179,Tryz.runUnderlying179,Tryz.sizeOf179,Tryz.isAgg179,Tryz.zeroValue179,Tryz.underlying236,Tryz.runUnderlying236,Tryz.sizeOf236,Tryz.isAgg236,Tryz.zeroValue236,Tryz.underlying203,Tryz.runUnderlying203,Tryz.sizeOf203,Tryz.isAgg203,Tryz.zeroValue203,Tryz.underlying200,Tryz.runUnderlying200,Tryz.sizeOf200,Tryz.isAgg200,Tryz.zeroValue200,Tryz.underlying96,Tryz.runUnderlying96,Tryz.sizeOf96,Tryz.isAgg96,Tryz.zeroValue96,Tryz.underlying170,Tryz.runUnderlying170,Tryz.sizeOf170,Tryz.isAgg170,Tryz.zeroValue170,Tryz.underlying201,Tryz.runUnderlying201,Tryz.sizeOf201,Tryz.isAgg201,Tryz.zeroValue201,Tryz.underlying240,Tryz.runUnderlying240,Tryz.sizeOf240,Tryz.isAgg240,Tryz.zeroValue240,Tryz.underlying258,Tryz.runUnderlying258,Tryz.sizeOf258,Tryz.isAgg258,Tryz.zeroValue258,Tryz.underlying260,Tryz.runUnderlying260,Tryz.sizeOf260,Tryz.isAgg260,Tryz.zeroValue260,Tryz.underlying0,Tryz.runUnderlying0,Tryz.sizeOf0,Tryz.isAgg0,Tryz.zeroValue0,Tryz.underlying3,Tryz.runUnderlying3,Tryz.sizeOf3,Tryz.isAgg3,Tryz.zeroValue3,Tryz.underlying4,Tryz.runUnderlying4,Tryz.sizeOf4,Tryz.isAgg4,Tryz.zeroValue4,Tryz.underlying9,Tryz.runUnderlying9,Tryz.sizeOf9,Tryz.isAgg9,Tryz.zeroValue9,Tryz.underlying20,Tryz.runUnderlying20,Tryz.sizeOf20,Tryz.isAgg20,Tryz.zeroValue20,Tryz.underlying21,Tryz.runUnderlying21,Tryz.sizeOf21,Tryz.isAgg21,Tryz.zeroValue21,(by kernel_rfl),(by kernel_rfl)⟩
section
variable {p:Gp}{tot:Nat}{c:Frame}{cs:List Frame}{v0 v:VW}
theorem J5(hne:p.bw≠p.bs){m:Nat}(hm:m < tot)(hk:∀v' u,WV v0 Tryz.prog p tot (.work (m+1)) v' (c.finish u) cs):
 Qt (WV v0 Tryz.prog p tot (.work m)) v (base 140) (c::cs) 10 [] [.code (Tryz.f140.body.getD .skip)] (ent 0 [.pointer (some p.xA),.int .i64 1]):=by
 have hT:Mv Tryz.prog p.Live false (WV v0 Tryz.prog p tot (.work m)):=HU (by simp)
 refine qb ?_
 refine Qt.op hT rfl (dS (k:=0) rfl (c6 (n:=0) Tryz.underlying197 rfl Tryz.sizeOf2) rfl) ?_
 refine qb ?_
 refine Qg (d:=9) (s:=.work m) (u:=fun q=>.int .i64 ((q.x+1:Nat):Int)) (W:=fun w q=>w.setCell p.xA (.int .i64 ((q.x+1:Nat):Int))) (by simp) (fun e=>by cases e) (fun a ha w q hat hp=>?_) (fun w q hat _=>?_) fun v' q hp=>?_
 ·
  have hx:q.x+1 < 9223372036854775808:=hp hm
  have hw:IntKind.i64.wrap ((q.x:Int)+1)=((q.x+1:Nat):Int):=by
   rw [IntKind.wrap_i64];omega
  refine(stepG_add_atomic rfl (ar rfl _) (by exact fun h=>nomatch h) rfl Tryz.func176 (by kernel_rfl) (by kernel_rfl) (by kernel_rfl) .i64 (by kernel_rfl) (ad:=p.xA) (ha.ev rfl) (ha.ev rfl) hat.cx hat.fx).trans ?_;rw [hw];simp only [Ph.evs,if_pos hm];rfl
 ·
  simp only [Ph.eff,if_pos hm];exact Gp.Eff.x hne hat
 simp only [Ph.nx,if_pos hm]
 replace hT:Mv Tryz.prog p.Live false (WV v0 Tryz.prog p tot (.work (m+1))):=HU (by simp)
 refine qb ?_
 exact Qt.ret hT (f8 hT rfl Tryz.func140 rfl rfl (hk _ _))
end
section
variable {p:Gp}{tot:Nat→Nat}{n:Nat}{Gd:Machine→Trace→Prop}{c:Frame}{cs:List Frame}{v0 v:VW}
theorem M9{sg:Nat→Ph}(h:tB n sg):am n tot sg=aO tot n:=by
 unfold am;exact jU fun i hi=>by rw [h i hi];rfl
theorem GU(hnx:Nx Tryz.prog Gd)(hk:∀v',TV v0 Tryz.prog p tot n 0 false 0 true (tB n) Gd v' (c.finish (.int .i64 ((aO tot n:Nat):Int))) cs):
 Qt (TV v0 Tryz.prog p tot n 0 false 0 true (tB n) Gd) v (base 142) (c::cs) 7 [] [.code (Tryz.f142.body.getD .skip)] (ent 0 [.pointer (some p.xA)]):=by
 have hT:=fy (v0:=v0) (p:=p) (md:=0) (rg:=false) (pd:=0) (jn:=true) hnx (zC (tot:=tot) (n:=n))
 refine qb ?_
 refine Qt.op hT rfl (dS (k:=0) rfl (c6 (n:=0) Tryz.underlying197 rfl Tryz.sizeOf2) rfl) ?_
 refine Ak (d:=6) hnx zC (es:=fun _=> #[tQ p.xA]) (u:=fun q=>.int .i64 ((aO tot n:Nat):Int)) (W:=fun w q=>w) (e:=fun q=>q) (rg':=fun _=>false) (pd':=fun _=>0) (Iv':=fun q=>tB n)
  (fun q=>tY (.inr rfl)) (fun a ha w q hat hb=>?_) (fun w q hat=>Gp.Eff.refl hat) (fun q sg hb hi=>⟨hb,hi⟩) fun v' q hb=>?_
 ·
  obtain⟨sg,hb,hi⟩:=hb;have hc0:=hat.cx;rw [hb.x,M9 hi] at hc0;exact(stepG_load_atomic rfl (ar rfl _) (by exact fun h=>nomatch h) rfl Tryz.func182 (by kernel_rfl) (by kernel_rfl) (by kernel_rfl) .i64 (by kernel_rfl) (ad:=p.xA) (ha.ev rfl) hc0).trans rfl
 refine qb ?_
 exact Qt.ret hT (f8 hT rfl Tryz.func142 rfl rfl (hk _))
end
end Go.Proofs.YtcnpijmfgfnpiaaGreatDoor
set_option linter.unusedVariables false
set_option maxRecDepth 4000
set_option maxHeartbeats 1000000
namespace Go.Proofs.YtcnpijmfgfnpiaaGreatDoor
open K Go Go.Proofs Go.Conc
def wM(s i:Int):Bool:=decide (vU .u8 (ic .u8 s i) 1=1)
def qC(s:Int):Nat→Nat→Nat
 |0,_=>0
 |n+1,i=>(cond (wM s i) 1 0)+qC s n (i+1)
def OZ(k:Nat)(x:cV):Nat→Int→List Int→Option Nat
 |0,_,_=>some 0
 |n+1,d,l=>(gU k x d).bind fun w=>(mN k l w).bind fun r=>(OZ k x n (d+1) r.2).bind fun c=>some (qC r.1 x.1.2.1.length 0+c)
def oQ(k:Nat)(x:cV)(ld:List (List Int))(t f:Int):Option Nat:=
 if x.1.1≤1000000∧x.1.2.1.length≤1000000∧0≤f then(dJ k ld t).bind fun l=>OZ k x (x.1.1 - f).toNat f l else none
theorem OX:ag Tryz.prog 138:=ag.of Tryz.func138 (by kernel_rfl) (by kernel_rfl)
theorem Ju:ag Tryz.prog 87:=ag.of Tryz.func87 (by kernel_rfl) (by kernel_rfl)
theorem Hk:ag Tryz.prog 110:=ag.of Tryz.func110 (by kernel_rfl) (by kernel_rfl)
theorem Hj:ag Tryz.prog 127:=ag.of Tryz.func127 (by kernel_rfl) (by kernel_rfl)
theorem Hi:ag Tryz.prog 128:=ag.of Tryz.func128 (by kernel_rfl) (by kernel_rfl)
theorem oP:dC Tryz.prog 102 1 false:=⟨fun w=>by kernel_rfl,fun w=>by kernel_rfl⟩
theorem rX{c:Cx}{C:Code}{Q:Exit→Act→VW→Prop}{Γ:Ga}{Δ:List D}{a:Act}{v:VW}{T:Tq}{b:Frame}{k:List Item}{cs:List Frame}(hT:c.M.ok T)(hb:b.roundOf=c.rd)(st:St c Γ Δ a v)(h:JC c C Q Γ Δ)(hc:∀e a' v',Q e a' v'→mi T b k cs e a' v'):
 T v (b.atR a (.code C::k)) cs:=h a v st T hT b k cs hb hc
@[reducible] noncomputable def Si (c:Cx) (Γ:Ga):Exit→Act→VW→Prop:=bW (fun a w=>St c Γ [] a w) (fun _ _ _=>False)
theorem fe{c:Cx}{C:Code}{Γ Γ':Ga}{a:Act}{v:VW}{T:Tq}{b:Frame}{k:List Item}{cs:List Frame}(hT:c.M.ok T)(hb:b.roundOf=c.rd)(st:St c Γ [] a v)(h:JC c C (Si c Γ') Γ [])(hc:∀a' v',St c Γ' [] a' v'→T v' (b.atR a' k) cs):
 T v (b.atR a (.code C::k)) cs:=rX hT hb st h fun e a' v' q=>by
 cases e with
 |normal=>exact hc a' v' q
 |_=>exact q.elim
theorem i7{c:Cx}{Γ:Ga}{Δ:List D}{a:Act}{v:VW}{s:Nat}{x:Value}(st:St c Γ Δ a v)(h:lk Γ s=some (.eq x)):a.eval (.tmp s)=x:=by
 obtain⟨_,_,S,_,_,_,h6⟩:=st;exact h6 s _ h
noncomputable def BA:Code:=match Tryz.f138.body with
 |some (.seq _ (.seq _ (.seq _ (.block _ (.loop b)))))=>b
 |_=>.skip
noncomputable def CX:Code:=match BA with
 | .seq _ (.seq (.block _ (.seq _ (.seq (.seq _ (.block _ (.loop b))) _))) _)=>b
 |_=>.skip
section
variable {p:Gp}{tot:Nat}{k:Nat}{x:cV}{Sh:FS}{v0:VW}{kk:List Item}{cs:List Frame}
@[reducible] noncomputable def xX (p:Gp) (Sh:FS) (v0:VW):Cx:=⟨Tryz.prog,47,Sh,v0,ax [],none,[dcall 139 #[.pointer (some p.stA)]],Md.plain Tryz.prog⟩
@[reducible] noncomputable def vc (p:Gp) (x:cV) (d:Int) (l:List Int) (s:Int) (i:Nat):Ga:=[(4,.at (.ptr bj) x),(5,.eq (.pointer (some p.xA))),(7,.eq (.int .i64 d)),(8,.eq (.int .u8 s)),(9,.rep (.slice (.int .i64)) l),(37,.eq (.int .i64 (x.1.2.1.length:Int))),(38,.eq (.int .i64 (i:Int)))]
abbrev Mc:Frame:={ (default:Frame) with fn:=138,kind:=.deferred }
theorem K.St.sh{c:Cx}{Γ:Ga}{Δ:List D}{a:Act}{v:VW}(st:St c Γ Δ a v){b:Nat}(h:c.w0.A b):v.A b:=by
 obtain⟨_,_,S,h3,_⟩:=st;exact h3.subA b h
theorem K.St.pop{c:Cx}{Γ:Ga}{Δ:List D}{a:Act}{v:VW}{d:Nat}{r0:A}(st:St c ((d,r0)::Γ) Δ a v)(hd:lk Γ d=none:=by exact rfl):St c Γ Δ a v:=by
 obtain⟨h1,h2,S,h3,h4,h5,h6⟩:=st;refine⟨h1,h2,S,h3,h4,h5,fun s r hl=>h6 s r ?_⟩;simp only [lk];rw [if_neg (fun e=>by subst e;rw [hd] at hl;cases hl)];exact hl
theorem G7{k:Nat}{s:Int}{i:Nat}:dM k s (i:Int)=some (wM s i):=by
 simp [dM,eE,wM]
theorem Hh(hne:p.bw≠p.bs)(hsh:∀b,p.sh b→v0.A b)(hlen:x.1.2.1.length≤1000000){d:Int}{l:List Int}{s:Int}:∀(n i m:Nat) (a:Act) (v:VW),x.1.2.1.length=i+n→St (xX p Sh v0) (vc p x d l s i) [] a v→m+qC s n i≤tot→
 (∀a' v',St (xX p Sh v0) (vc p x d l s (i+n)) [] a' v'→Ww Tryz.prog p tot (.work (m+qC s n i)) v' (Mc.atR a' kk) cs)→
 Ww Tryz.prog p tot (.work m) v (Mc.atR a (.code CX:: .inLoop CX:: .inBlock 2::kk)) cs:=fun n=>by
 induction n with
 |zero=>
  intro i m a v hi st hm next
  have bc:BC Tryz.prog (Ww Tryz.prog p tot (.work m)):=Ww.bc
  refine bc.move (fun _ _=>dW) ?_
  refine fe (c:=xX p Sh v0) (Γ':=(39,.eq (.bool false))::vc p x d l s i) bc rfl st ?_ fun a1 v1 st1=>?_
  ·
   refine aa ?_
   refine aA rfl (bv rfl) ⟨rfl,rfl,trivial⟩ ?_
   refine ao (ae ?_)
   rw [decide_eq_false (by omega)]
   exact fun _ _ h=>h
  refine bc.move (fun _ _=>dW) ?_
  refine bc.move (fun _ _=>nC (t:=false) (i7 st1 (s:=39) rfl)) ?_
  rw [if_neg (by decide)]
  refine bc.move (fun _ _=>xU rfl) ?_
  exact next a1 v1 st1.pop
 |succ n ih=>
  intro i m a v hi st hm next
  have bc:BC Tryz.prog (Ww Tryz.prog p tot (.work m)):=Ww.bc
  refine bc.move (fun _ _=>dW) ?_
  refine fe (c:=xX p Sh v0) (Γ':=(39,.eq (.bool true))::vc p x d l s i) bc rfl st ?_ fun a1 v1 st1=>?_
  ·
   refine aa ?_
   refine aA rfl (bv rfl) ⟨rfl,rfl,trivial⟩ ?_
   refine ao (ae ?_)
   rw [decide_eq_true (by omega)]
   exact fun _ _ h=>h
  refine bc.move (fun _ _=>dW) ?_
  refine bc.move (fun _ _=>nC (t:=true) (i7 st1 (s:=39) rfl)) ?_
  rw [if_pos rfl]
  refine bc.move (fun _ _=>uZ) ?_
  refine bc.move (fun _ _=>dW) ?_
  refine bc.move (fun _ _=>nD) ?_
  refine bc.move (fun _ _=>dW) ?_
  refine fe (c:=xX p Sh v0) (Γ':=(10,.eq (.int .i64 (i:Int)))::vc p x d l s i) bc rfl st1.pop ?_ fun a2 v2 st2=>?_
  ·
   refine aa ?_
   refine av rfl rfl ?_
   refine dj rfl rfl ?_
   refine ao (ae ?_)
   exact eA (junk:=[]) (by repeat (first |exact trivial |refine⟨rfl,?_⟩)) gP
  refine bc.move (fun _ _=>dW) ?_
  refine fe (c:=xX p Sh v0) (Γ':=(43,.eq (.bool (wM s i)))::vc p x d l s i) bc rfl st2 ?_ fun a3 v3 st3=>?_
  ·
   refine aa ?_
   refine av rfl rfl ?_
   refine av rfl rfl ?_
   refine aA rfl (an [.tmp 41,.tmp 42] rfl rfl Ju rfl (ij 0 s i _ G7)) ⟨rfl,rfl,trivial⟩ ?_
   refine ao (ae ?_)
   exact eA (junk:=[]) (by repeat (first |exact trivial |refine⟨rfl,?_⟩)) gP
  have hb:=i7 st3 (s:=43) rfl
  cases hh:wM s i with
  |true=>
   rw [hh] at hb
   have e1:m+1+qC s n (i+1)=m+qC s (n+1) i:=by simp [qC,hh];omega
   refine bc.move (fun _ _=>nC (t:=true) hb) ?_
   rw [if_pos rfl]
   refine bc.move (fun _ _=>km) ?_
   have st4:=st3.pop
   have h5:a3.tmps.getD 5 undef= .pointer (some p.xA):=i7 st4 (s:=5) rfl
   refine(Qt.call (dL:=[.pointer (some p.xA),.int .i64 1]) (T:=WV v3 Tryz.prog p tot (.work m)) (HU (by simp)) rfl rfl Tryz.func140 (by kernel_rfl) rfl rfl (fun c hk=>?_):Qt (WV v3 Tryz.prog p tot (.work m)) v3 Mc cs 47 [dcall 139 #[.pointer (some p.stA)]] _ ((5,.pointer (some p.xA))::dL (vc p x d l s i) a3)) a3 (st4.toQ.know h5) ⟨bO.refl _,fun b hb=>st4.sh (hsh b hb)⟩
   refine J5 hne (by omega) fun v5 u=>?_
   refine hk _ _ _ fun a5 q5 hv5=>?_
   have st5:St (xX p Sh v0) (vc p x d l s i) [] a5 v5:=(st4.rely hv5.1).ofQ ((AB.base.know h5).new) q5
   have bc':BC Tryz.prog (Ww Tryz.prog p tot (.work (m+1))):=Ww.bc
   refine bc'.move (fun _ _=>gC) ?_
   refine bc'.move (fun _ _=>m4) ?_
   refine fe (c:=xX p Sh v0) (Γ':=vc p x d l s (i+1)) bc' rfl st5 ?_ fun a6 v6 st6=>?_
   ·
    refine aa ?_
    refine aA rfl (bg rfl (q:=((i+1:Nat):Int)) (by unfold ck;rw [if_pos (by omega)];congr 1)) ⟨rfl,rfl,trivial⟩ ?_
    refine av rfl rfl ?_
    refine ao (ae ?_)
    exact eA (junk:=[]) (by repeat (first |exact trivial |refine⟨rfl,?_⟩)) gP
   refine bc'.move (fun _ _=>oN) ?_
   refine ih (i+1) (m+1) a6 v6 (by omega) st6 (by omega) fun a7 v7 st7=>?_
   rw [e1]
   exact next a7 v7 (by rw [show i+(n+1)=i+1+n by omega];exact st7)
  |false=>
   rw [hh] at hb
   have e1:m+qC s n (i+1)=m+qC s (n+1) i:=by simp [qC,hh]
   refine bc.move (fun _ _=>nC (t:=false) hb) ?_
   rw [if_neg (by decide)]
   refine bc.move (fun _ _=>uZ) ?_
   refine bc.move (fun _ _=>m4) ?_
   refine fe (c:=xX p Sh v0) (Γ':=vc p x d l s (i+1)) bc rfl st3.pop ?_ fun a6 v6 st6=>?_
   ·
    refine aa ?_
    refine aA rfl (bg rfl (q:=((i+1:Nat):Int)) (by unfold ck;rw [if_pos (by omega)];congr 1)) ⟨rfl,rfl,trivial⟩ ?_
    refine av rfl rfl ?_
    refine ao (ae ?_)
    exact eA (junk:=[]) (by repeat (first |exact trivial |refine⟨rfl,?_⟩)) gP
   refine bc.move (fun _ _=>oN) ?_
   refine ih (i+1) m a6 v6 (by omega) st6 (by omega) fun a7 v7 st7=>?_
   rw [e1]
   exact next a7 v7 (by rw [show i+(n+1)=i+1+n by omega];exact st7)
@[reducible] noncomputable def Bz (p:Gp) (x:cV) (d:Int) (l:List Int):Ga:=[(4,.at (.ptr bj) x),(5,.eq (.pointer (some p.xA))),(6,.rep (.slice (.int .i64)) l),(7,.eq (.int .i64 d))]
@[reducible] noncomputable def Q8 (p:Gp) (x:cV) (d:Int) (l:List Int) (s:Int):Ga:=[(4,.at (.ptr bj) x),(5,.eq (.pointer (some p.xA))),(7,.eq (.int .i64 d)),(8,.eq (.int .u8 s)),(9,.rep (.slice (.int .i64)) l)]
theorem Hg(hne:p.bw≠p.bs)(hsh:∀b,p.sh b→v0.A b)(hlen:x.1.2.1.length≤1000000)(hdays:x.1.1≤1000000){dd:Deferred}:∀(n m c:Nat) (d:Int) (l:List Int) (a:Act) (v:VW),n=(x.1.1 - d).toNat→0≤d→OZ k x n d l=some c→m+c=tot→St (xX p Sh v0) (Bz p x d l) [] a v→
 Ww Tryz.prog p tot (.work m) v (Mc.atR a [.code BA,.inLoop BA,.inBlock 0]) [{ fw Tryz.prog dd with defers:=[] }]:=fun n=>by
 induction n with
 |zero=>
  intro m c d l a v hn hd hc hm st
  have bc:BC Tryz.prog (Ww Tryz.prog p tot (.work m)):=Ww.bc
  cases hc
  refine bc.move (fun _ _=>dW) ?_
  refine bc.move (fun _ _=>dW) ?_
  refine fe (c:=xX p Sh v0) (Γ':=(21,.eq (.bool false))::Bz p x d l) bc rfl st ?_ fun a1 v1 st1=>?_
  ·
   refine aa ?_
   refine av rfl rfl ?_
   refine aA rfl (au (t:=.ptr bj) rfl oP rfl) ⟨rfl,trivial⟩ ?_
   refine aA rfl (dB rfl) ⟨rfl,trivial⟩ ?_
   refine aA rfl (aL 3 true rfl jD rfl) ⟨rfl,trivial⟩ ?_
   refine aA rfl (aL 1 false rfl je rfl) ⟨rfl,trivial⟩ ?_
   refine aA rfl (au (t:=.int .i64) rfl dE rfl) ⟨rfl,trivial⟩ ?_
   refine aA rfl (bv rfl) ⟨rfl,rfl,trivial⟩ ?_
   refine ao (ae ?_)
   rw [decide_eq_false (by omega)]
   exact eA (junk:=[]) (by repeat (first |exact trivial |refine⟨rfl,?_⟩)) gP
  refine bc.move (fun _ _=>nC (t:=false) (i7 st1 (s:=21) rfl)) ?_
  rw [if_neg (by decide)]
  refine bc.move (fun _ _=>xU rfl) ?_
  exact(Qt.fin (rP (by simp)) (zV yB hne (by omega) fun v'=>H3 rfl Tryz.func138 rfl):Qt (Ww Tryz.prog p tot (.work m)) v1 Mc [{ fw Tryz.prog dd with defers:=[] }] 47 [dcall 139 #[.pointer (some p.stA)]] [] (dL (Bz p x d l) a1)) a1 st1.pop.toQ
 |succ n ih=>
  intro m c d l a v hn hd hc hm st
  have bc:BC Tryz.prog (Ww Tryz.prog p tot (.work m)):=Ww.bc
  obtain⟨w,hw,hc⟩:=Option.bind_eq_some_iff.1 hc
  obtain⟨r,hr,hc⟩:=Option.bind_eq_some_iff.1 hc
  obtain⟨c',hc',hc⟩:=Option.bind_eq_some_iff.1 hc
  have hcc:qC r.1 x.1.2.1.length 0+c'=c:=Option.some.inj hc
  refine bc.move (fun _ _=>dW) ?_
  refine bc.move (fun _ _=>dW) ?_
  refine fe (c:=xX p Sh v0) (Γ':=(21,.eq (.bool true))::Bz p x d l) bc rfl st ?_ fun a1 v1 st1=>?_
  ·
   refine aa ?_
   refine av rfl rfl ?_
   refine aA rfl (au (t:=.ptr bj) rfl oP rfl) ⟨rfl,trivial⟩ ?_
   refine aA rfl (dB rfl) ⟨rfl,trivial⟩ ?_
   refine aA rfl (aL 3 true rfl jD rfl) ⟨rfl,trivial⟩ ?_
   refine aA rfl (aL 1 false rfl je rfl) ⟨rfl,trivial⟩ ?_
   refine aA rfl (au (t:=.int .i64) rfl dE rfl) ⟨rfl,trivial⟩ ?_
   refine aA rfl (bv rfl) ⟨rfl,rfl,trivial⟩ ?_
   refine ao (ae ?_)
   rw [decide_eq_true (by omega)]
   exact eA (junk:=[]) (by repeat (first |exact trivial |refine⟨rfl,?_⟩)) gP
  refine bc.move (fun _ _=>nC (t:=true) (i7 st1 (s:=21) rfl)) ?_
  rw [if_pos rfl]
  refine bc.move (fun _ _=>uZ) ?_
  refine bc.move (fun _ _=>dW) ?_
  refine bc.move (fun _ _=>nD) ?_
  refine bc.move (fun _ _=>dW) ?_
  refine fe (c:=xX p Sh v0) (Γ':=Q8 p x d r.2 r.1) bc rfl st1.pop ?_ fun a2 v2 st2=>?_
  ·
   refine aa ?_
   refine av rfl rfl ?_
   refine aA rfl (au (t:=.ptr bj) rfl oP rfl) ⟨rfl,trivial⟩ ?_
   refine av rfl rfl ?_
   refine aA rfl (an [.tmp 26,.tmp 27] rfl rfl Hi rfl (mL k x d _ hw)) ⟨rfl,rfl,trivial⟩ ?_
   refine aA rfl (an [.tmp 25,.tmp 28] rfl rfl Hj rfl (tf k l w _ hr)) ⟨rfl,rfl,trivial⟩ ?_
   refine av rfl rfl ?_
   refine aA rfl (gW rfl rfl) ⟨rfl,trivial⟩ ?_
   refine aA rfl (gW rfl rfl) ⟨rfl,trivial⟩ ?_
   refine dj rfl rfl ?_
   refine dj rfl rfl ?_
   refine ao (ae ?_)
   exact eA (junk:=[]) (by repeat (first |exact trivial |refine⟨rfl,?_⟩)) gP
  refine bc.move (fun _ _=>dW) ?_
  refine bc.move (fun _ _=>dW) ?_
  refine fe (c:=xX p Sh v0) (Γ':=vc p x d r.2 r.1 0) bc rfl st2 ?_ fun a3 v3 st3=>?_
  ·
   refine aa ?_
   refine aA rfl (au (t:=.ptr bj) rfl oP rfl) ⟨rfl,trivial⟩ ?_
   refine aA rfl (dB rfl) ⟨rfl,trivial⟩ ?_
   refine aA rfl (aL 3 true rfl jD rfl) ⟨rfl,trivial⟩ ?_
   refine aA rfl (aL 1 false rfl ir rfl) ⟨rfl,trivial⟩ ?_
   refine aA rfl (au (t:=.slice cg) rfl ot rfl) ⟨rfl,trivial⟩ ?_
   refine aA rfl (jJ rfl rfl Tryz.underlying22) ⟨rfl,trivial⟩ ?_
   refine dX rfl ?_
   refine ao (ae ?_)
   exact eA (junk:=[]) (by repeat (first |exact trivial |refine⟨rfl,?_⟩)) gP
  refine bc.move (fun _ _=>nD) ?_
  refine bc.move (fun _ _=>xT) ?_
  refine Hh hne hsh hlen x.1.2.1.length 0 m a3 v3 (by omega) st3 (by omega) fun a4 v4 st4=>?_
  have bc':BC Tryz.prog (Ww Tryz.prog p tot (.work (m+qC r.1 x.1.2.1.length 0))):=Ww.bc
  refine fe (c:=xX p Sh v0) (Γ':=Bz p x d r.2) bc' rfl st4 ?_ fun a5 v5 st5=>?_
  ·
   refine aa ?_
   refine av rfl rfl ?_
   refine dj rfl rfl ?_
   refine ao (ae ?_)
   exact eA (junk:=[]) (by repeat (first |exact trivial |refine⟨rfl,?_⟩)) gP
  refine bc'.move (fun _ _=>m4) ?_
  refine fe (c:=xX p Sh v0) (Γ':=Bz p x (d+1) r.2) bc' rfl st5 ?_ fun a6 v6 st6=>?_
  ·
   refine aa ?_
   refine av rfl rfl ?_
   refine aA rfl (bg rfl (q:=d+1) (by unfold ck;rw [if_pos (by omega)])) ⟨rfl,rfl,trivial⟩ ?_
   refine dj rfl rfl ?_
   refine ao (ae ?_)
   exact eA (junk:=[]) (by repeat (first |exact trivial |refine⟨rfl,?_⟩)) gP
  refine bc'.move (fun _ _=>oN) ?_
  exact ih _ c' (d+1) r.2 a6 v6 (by omega) (by omega) hc' (by omega) st6
@[reducible] noncomputable def O0 (p:Gp) (x:cV) (ld:List (List Int)) (t f:Int):List A:=[.eq (.pointer (some p.stA)),.at (.arr 3 (.arr 5 (.int .i64))) ld,.at (.int .i64) t,.at (.int .i64) f,.at (.ptr bj) x,.eq (.pointer (some p.xA))]
theorem Ez(hne:p.bw≠p.bs){ld:List (List Int)}{t f:Int}(hw:oQ k x ld t f=some tot){p0 p1 p2 p3 p4 p5:Value}{v:VW}(hd:∀b,Sh b→b < v.heap.size)(hO:aW [] Sh v)(hsh:∀b,p.sh b→v.A b)(hall:fO Sh v (O0 p x ld t f) [p0,p1,p2,p3,p4,p5]):
 Ww Tryz.prog p tot (.work 0) v (fw Tryz.prog { target:=.fn (.func 138) #[p0,p1,p2,p3,p4,p5],args:= #[] }) []:=by
 have bc:BC Tryz.prog (Ww Tryz.prog p tot (.work 0)):=Ww.bc
 unfold oQ at hw
 split at hw
 ·
  rename_i hc;obtain⟨h1,h2,h3⟩:=hc;obtain⟨l,hl,hw⟩:=Option.bind_eq_some_iff.1 hw;refine bc.move (fun m w=>xW OX) ?_;rw [enter_at Tryz.func138 rfl];have st0:St ⟨Tryz.prog,47,Sh,v,ax [],none,[],Md.plain Tryz.prog⟩ (entry 0 (O0 p x ld t f)) [] { tmps:= #[p0,p1,p2,p3,p4,p5]++Array.replicate (47 - 6) undef,defers:=[] } v:=St.entry (vs:=[p0,p1,p2,p3,p4,p5]) rfl hd hall hO
  have key:∀a0,St ⟨Tryz.prog,47,Sh,v,ax [],none,[],Md.plain Tryz.prog⟩ (entry 0 (O0 p x ld t f)) [] a0 v→Ww Tryz.prog p tot (.work 0) v (Mc.atR a0 [.code (Tryz.f138.body.getD .skip)]) [{ fw Tryz.prog { target:=.fn (.func 138) #[p0,p1,p2,p3,p4,p5],args:= #[] } with defers:=[] }]:=by
   intro a0 st0;have e0:a0.tmps.getD 0 undef= .pointer (some p.stA):=i7 st0 (s:=0) rfl;refine bc.move (fun _ _=>dW) ?_;refine bc.move (fun _ _=>km) ?_;refine(Qt.defer (dL:=[.pointer (some p.stA)]) (T:=Ww Tryz.prog p tot (.work 0)) (rP (by simp)) rfl rfl rfl (fun a1 q1=>?_):Qt (Ww Tryz.prog p tot (.work 0)) v Mc _ 47 [] _ ((0,.pointer (some p.stA))::dL (entry 0 (O0 p x ld t f)) a0)) a0 (st0.toQ.know e0);have st1:St (xX p Sh v) (entry 0 (O0 p x ld t f)) [] a1 v:=st0.ofQ (AB.base.know e0) q1;refine bc.move (fun _ _=>gC) ?_;refine bc.move (fun _ _=>dW) ?_;refine fe (c:=xX p Sh v) (Γ':=(3,.at (.int .i64) f)::(6,.rep (.slice (.int .i64)) l)::[(4,.at (.ptr bj) x),(5,.eq (.pointer (some p.xA)))]) bc rfl st1 ?_ fun a2 v2 st2=>?_
   ·refine aa ?_;refine aA rfl (au (t:=.arr 3 (.arr 5 (.int .i64))) rfl cG rfl) ⟨rfl,trivial⟩ ?_;refine aA rfl (au (t:=.int .i64) rfl dE rfl) ⟨rfl,trivial⟩ ?_;refine aA rfl (an [.tmp 11,.tmp 12] rfl rfl Hk rfl (fU k ld t _ hl)) ⟨rfl,rfl,trivial⟩ ?_;refine dj rfl rfl ?_;refine ao (ae ?_);exact eA (junk:=[]) (by repeat (first |exact trivial |refine⟨rfl,?_⟩)) gP
   refine bc.move (fun _ _=>dW) ?_;refine fe (c:=xX p Sh v) (Γ':=Bz p x f l) bc rfl st2 ?_ fun a3 v3 st3=>?_
   ·refine aa ?_;refine aA rfl (au (t:=.int .i64) rfl dE rfl) ⟨rfl,trivial⟩ ?_;refine dj rfl rfl ?_;refine ao (ae ?_);exact eA (junk:=[]) (by repeat (first |exact trivial |refine⟨rfl,?_⟩)) gP
   refine bc.move (fun _ _=>nD) ?_;refine bc.move (fun _ _=>xT) ?_;exact Hg hne hsh h2 h1 _ 0 tot f l a3 v3 rfl h3 hw (by omega) st3
  exact key _ st0
 ·
  cases hw
end
end Go.Proofs.YtcnpijmfgfnpiaaGreatDoor
set_option linter.unusedVariables false
set_option maxRecDepth 4000
set_option maxHeartbeats 1000000
namespace Go.Proofs.YtcnpijmfgfnpiaaGreatDoor
open K Go Go.Proofs Go.Conc
theorem H5{P:Program}{Wl:World→Prop}{Γ:Gv}{o:Oper}{f:FuncId}{cs:Array Operand}{us:List Value}(ho:o.op= .makeFunc (.func f) #[] cs)(h:cs.toList.map (ev Γ)=us.map some):OV P Wl o Γ (.func (.func f) #[] us.toArray):=fun N df a ha w hl=>by
 have hm:=yh ha h
 simp [execOp,ho,Instr.makeFunc,hm]
noncomputable def xY:Code:=match Tryz.f105.body with
 |some (.seq _ (.seq _ (.seq _ (.seq (.seq _ (.block _ (.loop b))) _))))=>b
 |_=>.skip
section
variable {p:Gp}{tot:Nat→Nat}{k n j:Nat}{x:cV}{ld:List (List Int)}{d:Int}{N:Nat}{Gd:Machine→Trace→Prop}{kk:List Item}{cs:List Frame}{b:Frame}
@[reducible] noncomputable def E1 (S:FS) (v:VW):Cx:=⟨Tryz.prog,24,S,v,ax [],none,[],Md.plain Tryz.prog⟩
@[reducible] noncomputable def sX (p:Gp) (x:cV) (ld:List (List Int)) (d:Int) (N i:Nat):Ga:=[(3,.at (.ptr bj) x),(4,.at (.arr 3 (.arr 5 (.int .i64))) ld),(5,.at (.int .i64) d),(7,.eq (.pointer (some p.xA))),(8,.eq (.pointer (some p.stA))),(15,.eq (.int .i64 (N:Int))),(16,.eq (.int .i64 (i:Int)))]
theorem L6:∀w,(zeroValue 3).run Tryz.prog w= .ok (.int .i64 0) w:=fun w=>by kernel_rfl
theorem L9:∀S w,(A.cells S w (.eq (.int .i64 (0:Int))) (Value.cells (.int .i64 (0:Int))).toList):=fun _ _=>⟨rfl,rfl⟩
@[reducible] def K.ez(v:VW):VW:=⟨v.toWorld,v.A,fun _=>False⟩
theorem K.bN.ez{X:Nat→Prop}{S S':FS}{v v':VW}(h:bN X S v S' v'):bN X S (K.ez v) S' (K.ez v'):=⟨h.sub,h.new,h.dom,h.size,h.keep,h.os,h.tape,h.output,h.subA,h.oldA,rfl⟩
def NI(v0:VW)(S0:FS)(Γ:Ga)(a:Act)(v:VW):Prop:=∃S,a.defers=[]∧a.tmps.size=24∧bN (ax []) S0 (ez v0) S (ez v)∧aW [] S v∧∀s r,lk Γ s=some r→r.holds S v (a.tmps.getD s undef)
theorem oY{b:Frame}{a:Act}{k:List Item}(hb:b.roundOf=none):b.atR a k=b.at a k:=by
 cases b;simp only [Frame.atR,Frame.at] at *;subst hb;rfl
theorem EB(hnx:Nx Tryz.prog Gd)(hne:p.bw≠p.bs){i:Nat}(hi:i < N)(hN:N≤1000)(hj:j < 1000)(hw:oQ k x ld i d=some (tot n))(hn:0 < n)(htb:aO tot (n+1) < 9223372036854775808){S0:FS}{v0:VW}{a:Act}{v:VW}(hb:b.roundOf=none)(hbk:b.kind≠.early)
 (hsh:∀y,p.sh y→v.A y) (hI:NI v0 S0 (sX p x ld d N i) a v)
 (next:∀a' v',(∀y,p.sh y→v'.A y)→NI v0 S0 (sX p x ld d N (i+1)) a' v'→TW Tryz.prog p tot (n+1) 0 false 0 false (pP (n+1) (j+1)) Gd v' (b.atR a' kk) cs):
 TW Tryz.prog p tot n 0 false 0 false (pP n j) Gd v (b.atR a (.code xY::kk)) cs:=by
 have bc:BC Tryz.prog (TW Tryz.prog p tot n 0 false 0 false (pP n j) Gd):=TW.bc hnx pN
 have bc1:BC Tryz.prog (TW Tryz.prog p tot n 0 false 1 false (pP n j) Gd):=TW.bc hnx pN
 obtain⟨S,i1,i2,i3,i4,i5⟩:=hI
 have st:St (E1 S v) (sX p x ld d N i) [] a v:=⟨i1,i2,S,bN.refl i3.dom,fun b hb=>.inl hb,i4,i5⟩
 refine bc.move (fun _ _=>dW) ?_
 refine fe (c:=E1 S v) (Γ':=(17,.eq (.bool true))::sX p x ld d N i) bc hb st ?_ fun a1 v1 st1=>?_
 ·
  refine aa ?_;refine aA rfl (bv rfl) ⟨rfl,rfl,trivial⟩ ?_;refine ao (ae ?_);rw [decide_eq_true (by omega)];exact fun _ _ h=>h
 refine bc.move (fun _ _=>dW) ?_
 refine bc.move (fun _ _=>nC (t:=true) (i7 st1 (s:=17) rfl)) ?_
 rw [if_pos rfl]
 refine bc.move (fun _ _=>uZ) ?_
 refine bc.move (fun _ _=>dW) ?_
 refine bc.move (fun _ _=>nD) ?_
 refine bc.move (fun _ _=>dW) ?_
 refine fe (c:=E1 S v) (Γ':=(9,.at (.int .i64) (i:Int))::sX p x ld d N i) bc hb st1.pop ?_ fun a2 v2 st2=>?_
 ·
  refine aa ?_;refine av rfl rfl ?_;refine ay rfl rfl rfl (aP rfl L6 L9) trivial fun b9=>?_;refine aZ rfl rfl (aR rfl dE rfl rfl rfl) ⟨rfl,rfl,trivial⟩ ?_;refine cI (k9 (t:=.int .i64) (x:=(i:Int)) [9] .int ⟨rfl,trivial⟩) ?_;refine ao (ae ?_);exact eA (junk:=[]) (by repeat (first |exact trivial |refine⟨rfl,?_⟩)) gP
 refine bc.move (fun _ _=>dW) ?_
 refine bc.move (fun _ _=>km) ?_
 have h8:a2.tmps.getD 8 undef= .pointer (some p.stA):=i7 st2 (s:=8) rfl
 rw [oY hb]
 refine(Qt.call (dL:=[.pointer (some p.stA),.int .i64 1]) (T:=TV v2 Tryz.prog p tot n 0 false 0 false (pP n j) Gd) (fy hnx pN) rfl rfl yB.f_add (by kernel_rfl) rfl rfl (fun c hk=>?_) (hk:=hbk):Qt (TV v2 Tryz.prog p tot n 0 false 0 false (pP n j) Gd) v2 b cs 24 [] _ ((8,.pointer (some p.stA))::dL ((9,.at (.int .i64) (i:Int))::sX p x ld d N i) a2)) a2 (st2.toQ.know h8) ⟨bO.refl _,fun y hy=>st2.sh (hsh y hy)⟩
 refine J6 hnx yB hne hj fun v3=>?_
 refine hk _ _ _ fun a3 q3 hv3=>?_
 have st3:St (E1 S v) ((9,.at (.int .i64) (i:Int))::sX p x ld d N i) [] a3 v3:=(st2.rely hv3.1).ofQ ((AB.base.know h8).new) q3
 rw [←oY hb]
 refine bc1.move (fun _ _=>gC) ?_
 refine bc1.move (fun _ _=>km) ?_
 rw [oY hb]
 refine(Qt.op (T:=TV v3 Tryz.prog p tot n 0 false 1 false (pP n j) Gd) (fy hnx pN) rfl (H5 (us:=[a3.tmps.getD 8 undef,a3.tmps.getD 4 undef,a3.tmps.getD 9 undef,a3.tmps.getD 5 undef,a3.tmps.getD 3 undef,a3.tmps.getD 7 undef]) rfl rfl) (fun a4 q4 hv4=>?_) (hk:=hbk):Qt (TV v3 Tryz.prog p tot n 0 false 1 false (pP n j) Gd) v3 b cs 24 [] _ (dL ((9,.at (.int .i64) (i:Int))::sX p x ld d N i) a3)) a3 st3.toQ ⟨bO.refl _,fun y hy=>st3.sh (hsh y hy)⟩
 have st4:St (E1 S v) ((9,.at (.int .i64) (i:Int))::sX p x ld d N i) [] a4 v3:=st3.ofQ (AB.base.new) q4
 have hx:=q4.val 20 _ rfl
 obtain⟨g1,g2,S2,g3,g4,g5,g6⟩:=st4
 have h63:∀s r,lk ((9,.at (.int .i64) (i:Int))::sX p x ld d N i) s=some r→r.holds S2 v3 (a3.tmps.getD s undef):=fun s r hl=>by
  have e:=q4.val s _ ((AB.base.new (d:=20) (u:=.func (.func 138) #[] [a3.tmps.getD 8 undef,a3.tmps.getD 4 undef,a3.tmps.getD 9 undef,a3.tmps.getD 5 undef,a3.tmps.getD 3 undef,a3.tmps.getD 7 undef].toArray)) s r hl);rw [←e];exact g6 s r hl
 have hshA:∀y,p.sh y→v3.A y:=fun y hy=>g3.subA y (hsh y hy)
 rw [←oY hb]
 refine TW.spawn hnx pN (Sh:=S2) (Iv':=pP (n+1) (j+1)) (fc:=fw Tryz.prog { target:=.fn (.func 138) #[a3.tmps.getD 8 undef,a3.tmps.getD 4 undef,a3.tmps.getD 9 undef,a3.tmps.getD 5 undef,a3.tmps.getD 3 undef,a3.tmps.getD 7 undef],args:= #[] }) hn (fun w0=>Q7 (i:=1) (rest:=[]) rfl (ar rfl _) rfl rfl hx) (fun y hy=>⟨g3.dom y hy,g5.sees y hy⟩) htb (fun sg hsg=>?_) (fun v4 hr4=>?_) ?_
 ·
  have hsg:al n sg Ph.act≤j:=hsg;show al (n+1) (upd sg n (.work 0)) Ph.act≤j+1;unfold al at hsg⊢;simp only [aO];rw [dy,jU fun j hj=>by rw [de (by omega)]];show _+1≤_;omega
 ·
  have hd4:∀y,S2 y→y < v4.heap.size:=fun y hy=>Nat.lt_of_lt_of_le (g3.dom y hy) hr4.size;have h64:∀s r,lk ((9,.at (.int .i64) (i:Int))::sX p x ld d N i) s=some r→r.holds S2 v4 (a3.tmps.getD s undef):=fun s r hl=>A.mono (fun _ h=>h) (jT g3.dom g5.sees hr4) r (h63 s r hl)
  exact Ez hne hw (v:=⟨v4.toWorld,fun b=>b < v4.heap.size∧¬S2 b,S2⟩) hd4 ⟨fun _ h=>by simp at h,fun _ hb=>(eW hb).elim,List.Pairwise.nil,fun _ hb=>(eW hb).elim,fun y hy h=>h.2 hy,fun _ h=>h.1,hd4⟩ (fun y hy=>⟨Nat.lt_of_lt_of_le (g5.domA y (hshA y hy)) hr4.size,fun hS=>g5.sees y hS (hshA y hy)⟩)
   ⟨_,_,rfl,h64 8 _ rfl,_,_,rfl,h64 4 _ rfl,_,_,rfl,h64 9 _ rfl,_,_,rfl,h64 5 _ rfl,_,_,rfl,h64 3 _ rfl,_,_,rfl,h64 7 _ rfl,rfl⟩
 ·
  have bc':BC Tryz.prog (TW Tryz.prog p tot (n+1) 0 false 0 false (pP (n+1) (j+1)) Gd):=TW.bc hnx pN;refine bc'.move (fun _ _=>gC) ?_;refine bc'.move (fun _ _=>m4) ?_;have hO4:aW [] S2 ⟨v3.toWorld,v3.A,fun b=>v3.Z b∨S2 b⟩:=⟨fun _ h=>by simp at h,fun _ hb=>(eW hb).elim,List.Pairwise.nil,fun _ hb=>(eW hb).elim,g5.sees,g5.domA,fun y hy=>hy.elim (g5.domZ y) (g3.dom y)⟩;have hE:bN (ax []) S0 (ez v0) S2 (ez ⟨v3.toWorld,v3.A,fun b=>v3.Z b∨S2 b⟩):=i3.trans g3.ez fun b hb=>.inl hb
  have st5:St (E1 S2 ⟨v3.toWorld,v3.A,fun b=>v3.Z b∨S2 b⟩) (sX p x ld d N i) [] (a4.put none undef) ⟨v3.toWorld,v3.A,fun b=>v3.Z b∨S2 b⟩:=
   ⟨g1,g2,S2,bN.refl g3.dom,fun b hb=>.inl hb,hO4,fun s r hl=>g6 s r (by
    have hs:s≠9:=fun e=>by subst e;simp [lk] at hl
    simp only [lk] at hl⊢;rw [if_neg (fun e=>hs e.symm)];exact hl)⟩
  refine fe (c:=E1 S2 ⟨v3.toWorld,v3.A,fun b=>v3.Z b∨S2 b⟩) (Γ':=sX p x ld d N (i+1)) bc' hb st5 ?_ fun a6 v6 st6=>?_
  ·refine aa ?_;refine aA rfl (bg rfl (q:=((i+1:Nat):Int)) (by unfold ck;rw [if_pos (by omega)];congr 1)) ⟨rfl,rfl,trivial⟩ ?_;refine av rfl rfl ?_;refine ao (ae ?_);exact eA (junk:=[]) (by repeat (first |exact trivial |refine⟨rfl,?_⟩)) gP
  obtain⟨k1,k2,S6,k3,k4,k5,k6⟩:=st6;exact next a6 v6 (fun y hy=>k3.subA y (hshA y hy)) ⟨S6,k1,k2,hE.trans k3.ez fun b hb=>.inl hb,k5,k6⟩
theorem EA{n0:Nat}(hnx:Nx Tryz.prog Gd)(hne:p.bw≠p.bs)(hN:N≤1000)(hws:∀i:Nat,i < N→oQ k x ld i d=some (tot (n0+i)))(hn:0 < n0)(htb:∀m,m≤n0+N→aO tot m < 9223372036854775808){S0:FS}{v0:VW}(hb:b.roundOf=none)(hbk:b.kind≠.early)
 (next:∀a' v',(∀y,p.sh y→v'.A y)→NI v0 S0 (sX p x ld d N N) a' v'→TW Tryz.prog p tot (n0+N) 0 false 0 false (pP (n0+N) N) Gd v' (b.atR a' kk) cs):∀(r i:Nat),i+r=N→∀(a:Act) (v:VW),(∀y,p.sh y→v.A y)→NI v0 S0 (sX p x ld d N i) a v→
 TW Tryz.prog p tot (n0+i) 0 false 0 false (pP (n0+i) i) Gd v (b.atR a (.code xY:: .inLoop xY:: .inBlock 0::kk)) cs:=fun r=>by
 induction r with
 |zero=>
  intro i hi a v hsh hI
  obtain rfl:i=N:=by omega
  have bc:BC Tryz.prog (TW Tryz.prog p tot (n0+i) 0 false 0 false (pP (n0+i) i) Gd):=TW.bc hnx pN
  obtain⟨S,i1,i2,i3,i4,i5⟩:=hI
  have st:St (E1 S v) (sX p x ld d i i) [] a v:=⟨i1,i2,S,bN.refl i3.dom,fun b hb=>.inl hb,i4,i5⟩
  refine bc.move (fun _ _=>dW) ?_
  refine fe (c:=E1 S v) (Γ':=(17,.eq (.bool false))::sX p x ld d i i) bc hb st ?_ fun a1 v1 st1=>?_
  ·
   refine aa ?_
   refine aA rfl (bv rfl) ⟨rfl,rfl,trivial⟩ ?_
   refine ao (ae ?_)
   rw [decide_eq_false (by omega)]
   exact fun _ _ h=>h
  refine bc.move (fun _ _=>dW) ?_
  refine bc.move (fun _ _=>nC (t:=false) (i7 st1 (s:=17) rfl)) ?_
  rw [if_neg (by decide)]
  refine bc.move (fun _ _=>xU rfl) ?_
  obtain⟨k1,k2,S6,k3,k4,k5,k6⟩:=st1.pop
  exact next a1 v1 (fun y hy=>k3.subA y (hsh y hy)) ⟨S6,k1,k2,i3.trans k3.ez fun b hb=>.inl hb,k5,k6⟩
 |succ r ih=>
  intro i hi a v hsh hI
  refine EB hnx hne (by omega) hN (by omega) (hws i (by omega)) (by omega) (htb _ (by omega)) hb hbk hsh hI fun a' v' hsh' hI'=>?_
  have bc:BC Tryz.prog (TW Tryz.prog p tot (n0+i+1) 0 false 0 false (pP (n0+i+1) (i+1)) Gd):=TW.bc hnx pN
  refine bc.move (fun _ _=>oN) ?_
  exact ih (i+1) (by omega) a' v' hsh' hI'
noncomputable def K0:Code:=match Tryz.f105.body with
 |some (.seq _ (.seq _ (.seq _ (.seq _ c))))=>c
 |_=>.skip
theorem Hl(hnx:Nx Tryz.prog Gd)(hne:p.bw≠p.bs){S0:FS}{v0:VW}{a:Act}{v:VW}(hb:b.roundOf=none)(hbk:b.kind≠.early)(hsh:∀y,p.sh y→v.A y)(hI:NI v0 S0 (sX p x ld d N N) a v)
 (next:∀a' v',(∀y,p.sh y→v'.A y)→NI v0 S0 [(6,.eq (.int .i64 ((aO tot n:Nat):Int)))] a' v'→TW Tryz.prog p tot n 0 false 0 true (tB n) Gd v' (b.atR a' (.code .ret::kk)) cs):
 TW Tryz.prog p tot n 0 false 0 false (pP n j) Gd v (b.atR a (.code K0::kk)) cs:=by
 have bc:BC Tryz.prog (TW Tryz.prog p tot n 0 false 0 false (pP n j) Gd):=TW.bc hnx pN
 have bc1:BC Tryz.prog (TW Tryz.prog p tot n 0 false 0 true (tB n) Gd):=TW.bc hnx zC
 obtain⟨S,i1,i2,i3,i4,i5⟩:=hI
 have st:St (E1 S v) (sX p x ld d N N) [] a v:=⟨i1,i2,S,bN.refl i3.dom,fun b hb=>.inl hb,i4,i5⟩
 have h8:a.tmps.getD 8 undef= .pointer (some p.stA):=i7 st (s:=8) rfl
 refine bc.move (fun _ _=>dW) ?_
 refine bc.move (fun _ _=>km) ?_
 rw [oY hb]
 refine(Qt.call (dL:=[.pointer (some p.stA)]) (T:=TV v Tryz.prog p tot n 0 false 0 false (pP n j) Gd) (fy hnx pN) rfl rfl yB.f_wait (by kernel_rfl) rfl rfl (fun c hk=>?_) (hk:=hbk):Qt (TV v Tryz.prog p tot n 0 false 0 false (pP n j) Gd) v b cs 24 [] _ ((8,.pointer (some p.stA))::dL (sX p x ld d N N) a)) a (st.toQ.know h8) ⟨bO.refl _,hsh⟩
 refine E9 hnx yB hne fun v1=>?_
 refine hk _ _ _ fun a1 q1 hv1=>?_
 have st1:St (E1 S v) (sX p x ld d N N) [] a1 v1:=(st.rely hv1.1).ofQ ((AB.base.know h8).new) q1
 have h7:a1.tmps.getD 7 undef= .pointer (some p.xA):=i7 st1 (s:=7) rfl
 rw [←oY hb]
 refine bc1.move (fun _ _=>gC) ?_
 refine bc1.move (fun _ _=>dW) ?_
 refine bc1.move (fun _ _=>km) ?_
 rw [oY hb]
 refine(Qt.call (dL:=[.pointer (some p.xA)]) (T:=TV v1 Tryz.prog p tot n 0 false 0 true (tB n) Gd) (fy hnx zC) rfl rfl Tryz.func142 (by kernel_rfl) rfl rfl (fun c hk=>?_) (hk:=hbk):Qt (TV v1 Tryz.prog p tot n 0 false 0 true (tB n) Gd) v1 b cs 24 [] _ ((7,.pointer (some p.xA))::dL (sX p x ld d N N) a1)) a1 (st1.toQ.know h7) ⟨bO.refl _,fun y hy=>st1.sh (hsh y hy)⟩
 refine GU hnx fun v2=>?_
 refine hk _ _ _ ?_
 refine Qt.op (fy hnx zC) rfl (uc rfl rfl) ?_ (hk:=hbk)
 intro a2 q2 hv2
 have st2:St (E1 S v) (sX p x ld d N N) [] a2 v2:=(st1.rely hv2.1).ofQ (((AB.base.know h7).new).new) q2
 rw [←oY hb]
 refine bc1.move (fun _ _=>gC) ?_
 obtain⟨k1,k2,S6,k3,k4,k5,k6⟩:=st2
 refine next a2 v2 (fun y hy=>k3.subA y (hsh y hy)) ⟨S6,k1,k2,i3.trans k3.ez fun b hb=>.inl hb,k5,fun s r hl=>?_⟩
 simp only [lk] at hl
 split at hl
 ·
  rename_i e;subst e;cases hl;exact q2.val 6 _ rfl
 ·
  cases hl
end
end Go.Proofs.YtcnpijmfgfnpiaaGreatDoor
set_option linter.unusedVariables false
set_option maxRecDepth 4000
set_option maxHeartbeats 1000000
namespace Go.Proofs.YtcnpijmfgfnpiaaGreatDoor
open K Go Go.Proofs Go.Conc
theorem K.dh.ofT{P:Program}{M:Md P}{f:Nat}{fn:Func}{C:Code}{az:List A}{Δ:List D}{X:Type}{R:X→A×List D}(N:Nat)(hf:P.funcs[f]? =some fn)(hb:fn.body=some C)(hN:fn.ntmps=N)(hn:Nat.ble az.length N=true)
 (h:∀kind,kind≠.early→∀S w0 a,St ⟨P,N,S,w0,ax Δ,none,[],M⟩ (entry 0 az) Δ a w0→∀T,M.ok T→∀cs,(∀e a' v',cr P fn (dF S w0 Δ R) e a' v'→mi T { (default:Frame) with fn:=f,kind:=kind } [] cs e a' v')→
  T w0 (Frame.atR { (default:Frame) with fn:=f,kind:=kind } a [.code C]) cs):dh M f az Δ R:=by
 subst hN
 intro kind hkind S w vs hd hall hO T hT cs hc
 have hst:St ⟨P,fn.ntmps,S,w,ax Δ,none,[],M⟩ (entry 0 az) Δ { tmps:=vs.toArray++Array.replicate (fn.ntmps - vs.toArray.size) undef,defers:=[] } w:=St.entry hn hd hall hO
 have he:Frame.enter P f vs.toArray kind=Frame.atR { (default:Frame) with fn:=f,kind:=kind } { tmps:=vs.toArray++Array.replicate (fn.ntmps - vs.toArray.size) undef,defers:=[] } [.code C]:=enter_at hf hb
 rw [he]
 refine h kind hkind S w _ hst T hT cs fun e a' v' q=>?_
 have fin:∀todo,(a'.defers=[]∧∃x,(∀v1,bO v' v1→(results fn a'.tmps).run P v1= .ok x v1∧ie v1 v1 ((results fn a'.tmps).events P v1 #[]))∧dF S w Δ R (.returned x) v')→
  T v' { Frame.atR { (default:Frame) with fn:=f,kind:=kind } a' todo with mode:=.returning } cs:=fun todo ⟨q1,x,q2,q3⟩=>hc _ _ _ q3 rfl rfl ⟨rfl,q1,fn,hf,q2⟩
 cases e with
 |normal=>exact(M.bc T hT).move (fun _ _=>zN rfl) (fin _ q)
 |ret=>exact⟨fun _ todo=>fin todo q,fun h=>by cases h⟩
 |panic chain=>exact fun todo=>hc _ _ _ q.2 rfl rfl ⟨rfl,q.1,fn,hf⟩
 |exit id=>exact q.elim
 |goto l=>exact q.elim
 |outgrown=>exact q.elim
def vb(k:Nat)(x:cV)(ld:List (List Int))(d:Int):Nat→Option Nat
 |0=>some 0
 |n+1=>(vb k x ld d n).bind fun s=>(oQ k x ld n d).bind fun c=>some (s+c)
def fD(k:Nat)(x:cV)(ld:List (List Int))(d:Int):Option Int:=
 if x.1.2.2.length≤1000 then(vb k x ld d x.1.2.2.length).bind fun s=>if s < 9223372036854775808 then some (s:Int) else none else none
theorem EC{k:Nat}{x:cV}{ld:List (List Int)}{d:Int}{n0:Nat}:∀{n s:Nat},vb k x ld d n=some s→(∀i,i < n→∃c,oQ k x ld i d=some c)∧aO (fun i=>if i < n0 then 0 else(oQ k x ld (i - n0:Nat) d).getD 0) (n0+n)=s:=by
 intro n
 induction n with
 |zero=>
  intro s h;cases h;refine⟨fun i hi=>absurd hi (Nat.not_lt_zero i),m5 fun i hi=>?_⟩;rw [if_pos (by omega)]
 |succ n ih=>
  intro s h;obtain⟨s',h1,h⟩:=Option.bind_eq_some_iff.1 h;obtain⟨c,h2,h⟩:=Option.bind_eq_some_iff.1 h;cases h;obtain⟨g1,g2⟩:=ih h1;refine⟨fun i hi=>?_,?_⟩
  ·by_cases e:i=n
   ·subst e;exact⟨c,h2⟩
   ·exact g1 i (by omega)
  ·rw [show n0+(n+1)=n0+n+1 by omega];simp only [aO];rw [g2,if_neg (by omega),show n0+n - n0=n by omega,h2];rfl
theorem Jw{c:Cx}{Γ':Ga}{Δ rest:List D}{S S':FS}{v v1 v':VW}{a':Act}{cf cb:Nat}(hX:∀b,¬c.X b)(h3:bN c.X c.S0 c.w0 S v)(h4:∀b,ax Δ b→c.X b∨c.w0.heap.size≤b)(hO:aW Δ S v)(hr:bO v v1)
 (hsub:∀b,ax rest b∨b=cf∨b=cb→ax Δ b) (i1:a'.defers=c.dfs) (i2:a'.tmps.size=c.N) (hE:bN (ax rest) S (ez ⟨v1.toWorld,fun b=>v1.A b∨b=cf∨b=cb,v1.Z⟩) S' (ez v')) (hO':aW rest S' v')
 (hs:∀s r,lk Γ' s=some r→r.holds S' v' (a'.tmps.getD s undef)):St c Γ' rest a' ⟨v'.toWorld,v'.A,c.w0.Z⟩:=by
 have hge:∀b,ax Δ b→c.w0.heap.size≤b:=fun b hb=>(h4 b hb).resolve_left (hX b)
 have hsz:c.w0.heap.size≤v'.heap.size:=Nat.le_trans h3.size (Nat.le_trans hr.size hE.size)
 have hZ:v.Z=c.w0.Z:=h3.Z
 have holdA1:∀b,v1.A b→c.w0.A b∨c.w0.heap.size≤b:=fun b hb=>by
  rcases hr.old b hb with h |h
  ·exact h3.oldA b h
  ·exact .inr (Nat.le_trans h3.size h)
 have holdA:∀b,v'.A b→c.w0.A b∨c.w0.heap.size≤b:=fun b hb=>by
  rcases hE.oldA b hb with(h |h) |h
  ·exact holdA1 b h
  ·exact .inr (hge b (hsub b (.inr h)))
  ·exact .inr (Nat.le_trans (Nat.le_trans h3.size hr.size) h)
 refine⟨i1,i2,S',⟨fun b hb=>hE.sub b (h3.sub b hb),fun b hb=>?_,hE.dom,hsz,fun b hb hA hx=>?_,hE.os.trans (hr.os.trans h3.os),hE.tape.trans (hr.tape.trans h3.tape),hE.output.trans (hr.output.trans h3.output),fun b hb=>hE.subA b (.inl (hr.sub b (h3.subA b hb))),holdA,rfl⟩,fun b hb=>h4 b (hsub b (.inl hb)),⟨hO'.holds,hO'.own,hO'.apart,fun b hb=>⟨(hO'.far b hb).1,fun hz=>?_⟩,hO'.sees,hO'.domA,fun b hb=>?_⟩,hs⟩
 ·
  rcases hE.new b hb with h |h |h
  ·exact h3.new b h
  ·exact .inr (.inl (Nat.le_trans (Nat.le_trans h3.size hr.size) h))
  ·exact .inr (.inl (hge b (hsub b (.inl h))))
 ·
  have k1:v.heap[b]? =c.w0.heap[b]? :=h3.keep b hb hA hx;have nA:¬v.A b:=fun h=>(h3.oldA b h).elim hA fun h=>by omega
  have nA1:¬v1.A b:=fun h=>(holdA1 b h).elim hA fun h=>by omega
  have nf:¬(ax rest b∨b=cf∨b=cb):=fun h=>by have:=hge b (hsub b h);omega
  have k2:v1.heap[b]? =v.heap[b]? :=hr.keep b (by have:=h3.size;omega) nA;have k3:v'.heap[b]? =v1.heap[b]? :=hE.keep b (by have:=h3.size;have:=hr.size;show b < v1.heap.size;omega) (fun h=>h.elim nA1 fun h=>nf (.inr h)) (fun h=>nf (.inl h));exact k3.trans (k2.trans k1)
 ·
  exact(hO.far b (hsub b (.inl hb))).2 (hZ▸hz)
 ·
  have:=hO.domZ b (hZ▸hb);exact Nat.lt_of_lt_of_le this (Nat.le_trans hr.size hE.size)
theorem K.JC.runD{c:Cx}{C:Code}{Γ Γ':Ga}{Δ Δ':List D}{a:Act}{v:VW}{T:Tq}{b:Frame}{k:List Item}{cs:List Frame}(hT:c.M.ok T)(hb:b.roundOf=c.rd)(st:St c Γ Δ a v)(h:JC c C (bW (fun a w=>St c Γ' Δ' a w) (fun _ _ _=>False)) Γ Δ)(hc:∀a' v',St c Γ' Δ' a' v'→T v' (b.atR a' k) cs):
 T v (b.atR a (.code C::k)) cs:=rX hT hb st h fun e a' v' q=>by
 cases e with
 |normal=>exact hc a' v' q
 |_=>exact q.elim
theorem NP:∀w,(zeroValue 197).run Tryz.prog w= .ok (.agg #[.int .i64 0]) w:=fun w=>by kernel_rfl
theorem Qb:∀S w,(A.cells S w (.agg (.eq (.int .i64 (0:Int)))) (Value.cells (.agg #[.int .i64 0])).toList):=fun _ _=>⟨rfl,rfl⟩
theorem NN:∀w,(zeroValue 203).run Tryz.prog w= .ok (.agg #[.int .u64 0,.int .u32 0]) w:=fun w=>by kernel_rfl
theorem Qa:∀S w,(A.cells S w (.agg (.pair (.eq (.int .u64 (0:Int))) (.eq (.int .u32 (0:Int))))) (Value.cells (.agg #[.int .u64 0,.int .u32 0])).toList):=fun _ _=>⟨[_],_,rfl,⟨rfl,rfl⟩,rfl,rfl⟩
noncomputable def Qz (i:Nat):Code:=match i,Tryz.f105.body with
 |0,some (.seq r _)=>r
 |1,some (.seq _ (.seq r _))=>r
 |2,some (.seq _ (.seq _ (.seq r _)))=>r
 |3,some (.seq _ (.seq _ (.seq _ (.seq (.seq r _) _))))=>r
 |_,_=>.skip
section
variable {x:cV}{ld:List (List Int)}{d:Int}
@[reducible] noncomputable def AD (S:FS) (v:VW):Cx:=⟨Tryz.prog,24,S,v,ax [],none,[],iw Tryz.prog⟩
@[reducible] noncomputable def RR (x:cV) (ld:List (List Int)) (d:Int):List A:=[.at bj x,.rep (.arr 3 (.arr 5 (.int .i64))) ld,.eq (.int .i64 d)]
theorem OW{S:FS}{w0:VW}{T:Tq}(hT:(iw Tryz.prog).ok T){b:Frame}(hb:b.roundOf=none){kk:List Item}{cs:List Frame}{a:Act}{v:VW}(st:St (AD S w0) (entry 0 (RR x ld d)) [] a v)
 (next:∀a' v',St (AD S w0) [(3,.at (.ptr bj) x),(4,.at (.arr 3 (.arr 5 (.int .i64))) ld),(5,.at (.int .i64) d)] [] a' v'→T v' (b.atR a' kk) cs):T v (b.atR a (.code (Qz 0)::kk)) cs:=by
 refine JC.runD (c:=AD S w0) hT hb st ?_ next
 show JC _ (.region _ _ false) _ _ _
 refine aa ?_
 refine ay rfl rfl rfl (nR rfl trivial) ⟨rfl,trivial⟩ fun b3=>?_
 refine ay rfl rfl rfl (nR rfl rfl) ⟨rfl,trivial⟩ fun b4=>?_
 refine ay rfl rfl rfl (nR rfl rfl) ⟨rfl,trivial⟩ fun b5=>?_
 refine dG rfl ?_
 refine cI (k9 (t:=.int .i64) (x:=d) [5] .int ⟨rfl,trivial⟩) ?_
 refine cI (k9 (t:=.arr 3 (.arr 5 (.int .i64))) (x:=ld) [4] .rep ⟨rfl,trivial⟩) ?_
 refine cI (k9 (t:=.ptr bj) (x:=x) [3] .ptr ⟨rfl,trivial⟩) ?_
 refine ao (ae ?_)
 exact eA (junk:=[]) (by repeat (first |exact trivial |refine⟨rfl,?_⟩)) gP
theorem L8{C:Code}{S:FS}{w0:VW}{T:Tq}(hT:(iw Tryz.prog).ok T){b:Frame}(hb:b.roundOf=none){kk:List Item}{cs:List Frame}{a:Act}{v:VW}(st:St (AD S w0) [(3,.at (.ptr bj) x),(4,.at (.arr 3 (.arr 5 (.int .i64))) ld),(5,.at (.int .i64) d)] [] a v)
 (next:∀a' v' b7 b8,St (AD S w0) [(3,.at (.ptr bj) x),(4,.at (.arr 3 (.arr 5 (.int .i64))) ld),(5,.at (.int .i64) d),(7,.eq (.pointer (some ⟨b7,0,none⟩))),(8,.eq (.pointer (some ⟨b8,0,none⟩)))] [.obj b8 203 (.agg (.pair (.eq (.int .u64 (0:Int))) (.eq (.int .u32 (0:Int))))),.obj b7 197 (.agg (.eq (.int .i64 (0:Int))))] a' v'→T v' (b.atR a' (.code C::kk)) cs):T v (b.atR a (.code (Qz 1):: .code (.seq (Qz 2) C)::kk)) cs:=by
 refine rX (c:=AD S w0) (Q:=bW (fun a w=>∃b7,St (AD S w0) [(3,.at (.ptr bj) x),(4,.at (.arr 3 (.arr 5 (.int .i64))) ld),(5,.at (.int .i64) d),(7,.eq (.pointer (some ⟨b7,0,none⟩)))] [.obj b7 197 (.agg (.eq (.int .i64 (0:Int))))] a w) (fun _ _ _=>False)) hT hb st ?_ fun e a1 v1 q1=>?_
 ·
  show JC _ (.region _ _ false) _ _ _;refine aa ?_;refine ay rfl rfl rfl (aP rfl NP Qb) trivial fun b7=>?_;refine ao (ae ?_);exact fun a w st=>⟨b7,(eA (junk:=[]) (by repeat (first |exact trivial |refine⟨rfl,?_⟩)) (by simp)) a w st⟩
 cases e with
 |normal=>
  obtain⟨b7,st1⟩:=q1;refine hT.1.move (fun _ _=>dW) ?_;refine rX (c:=AD S w0) (Q:=bW (fun a w=>∃b8,St (AD S w0) [(3,.at (.ptr bj) x),(4,.at (.arr 3 (.arr 5 (.int .i64))) ld),(5,.at (.int .i64) d),(7,.eq (.pointer (some ⟨b7,0,none⟩))),(8,.eq (.pointer (some ⟨b8,0,none⟩)))] [.obj b8 203 (.agg (.pair (.eq (.int .u64 (0:Int))) (.eq (.int .u32 (0:Int))))),.obj b7 197 (.agg (.eq (.int .i64 (0:Int))))] a w) (fun _ _ _=>False)) hT hb st1 ?_ fun e a2 v2 q2=>?_
  ·show JC _ (.region _ _ false) _ _ _;refine aa ?_;refine ay rfl rfl rfl (aP rfl NN Qa) trivial fun b8=>?_;refine ao (ae ?_);exact fun a w st=>⟨b8,(eA (junk:=[]) (by repeat (first |exact trivial |refine⟨rfl,?_⟩)) (by simp)) a w st⟩
  cases e with
  |normal=>obtain⟨b8,st2⟩:=q2;exact next a2 v2 b7 b8 st2
  |_=>exact q2.elim
 |_=>exact q1.elim
theorem OU{S:FS}{w0:VW}{T:Tq}(hT:(iw Tryz.prog).ok T){b:Frame}(hb:b.roundOf=none){kk:List Item}{cs:List Frame}{a:Act}{v:VW}{b7 b8:Nat}{Δ:List D}{p:Gp}(e7:p.xA=⟨b7,0,none⟩)(e8:p.stA=⟨b8,0,none⟩)(st:St (AD S w0) [(3,.at (.ptr bj) x),(4,.at (.arr 3 (.arr 5 (.int .i64))) ld),(5,.at (.int .i64) d),(7,.eq (.pointer (some ⟨b7,0,none⟩))),(8,.eq (.pointer (some ⟨b8,0,none⟩)))] Δ a v)
 (next:∀a' v',St (AD S w0) (sX p x ld d x.1.2.2.length 0) Δ a' v'→T v' (b.atR a' kk) cs):T v (b.atR a (.code (Qz 3)::kk)) cs:=by
 refine JC.runD (c:=AD S w0) hT hb st ?_ next
 rw [show sX p x ld d x.1.2.2.length 0=[(3,.at (.ptr bj) x),(4,.at (.arr 3 (.arr 5 (.int .i64))) ld),(5,.at (.int .i64) d),(7,.eq (.pointer (some ⟨b7,0,none⟩))),(8,.eq (.pointer (some ⟨b8,0,none⟩))),(15,.eq (.int .i64 (x.1.2.2.length:Int))),(16,.eq (.int .i64 ((0:Nat):Int)))] by rw [←e7,←e8]]
 show JC _ (.region _ _ false) _ _ _
 refine aa ?_
 refine aA rfl (au (t:=.ptr bj) rfl oP rfl) ⟨rfl,trivial⟩ ?_
 refine aA rfl (dB rfl) ⟨rfl,trivial⟩ ?_
 refine aA rfl (aL 3 true rfl jD rfl) ⟨rfl,trivial⟩ ?_
 refine aA rfl (aL 1 false rfl eV rfl) ⟨rfl,trivial⟩ ?_
 refine aA rfl (au (t:=.slice (.int .i64)) rfl bZ rfl) ⟨rfl,trivial⟩ ?_
 refine aA rfl (jJ rfl rfl Tryz.underlying23) ⟨rfl,trivial⟩ ?_
 refine dX rfl ?_
 refine ao (ae ?_)
 exact eA (junk:=[]) (by repeat (first |exact trivial |refine⟨rfl,?_⟩)) (by simp)
@[reducible] def Jx(b8 b7:Nat):Gp:=⟨b8,b7,203,197⟩
@[reducible] noncomputable def Q9 (b8 b7:Nat):List D:=[.obj b8 203 (.agg (.pair (.eq (.int .u64 (0:Int))) (.eq (.int .u32 (0:Int))))),.obj b7 197 (.agg (.eq (.int .i64 (0:Int))))]
theorem OY{S:FS}{v:VW}{b8 b7:Nat}(h:aW (Q9 b8 b7) S v):(Jx b8 b7).At v ⟨0,0,0,0⟩∧b8≠b7∧(∀y,(Jx b8 b7).sh y↔ax (Q9 b8 b7) y):=by
 obtain⟨c8,h1,h2⟩:=h.holds _ (List.mem_cons_self ..);obtain⟨c7,h3,h4⟩:=h.holds _ (List.mem_cons_of_mem _ (List.mem_cons_self ..));obtain⟨q1,q2,rfl,⟨rfl,_⟩,rfl,_⟩:=h2;obtain⟨rfl,_⟩:=h4;refine⟨⟨h1,h3⟩,fun e=>?_,fun y=>?_⟩
 ·exact(List.pairwise_cons.1 h.apart).1 _ (List.mem_cons_self ..) b8 rfl (by rw [e];rfl)
 ·constructor
  ·rintro(rfl |rfl)
   ·exact⟨_,List.mem_cons_self ..,rfl⟩
   ·exact⟨_,List.mem_cons_of_mem _ (List.mem_cons_self ..),rfl⟩
  ·rintro⟨D,hD,hy⟩;simp only [List.mem_cons,List.not_mem_nil,or_false] at hD;rcases hD with rfl |rfl
   ·simp only [D.foot,Option.some.injEq] at hy;exact .inl hy.symm
   ·simp only [D.foot,Option.some.injEq] at hy;exact .inr hy.symm
theorem wK{f:Nat→Nat}:∀r m,aO f m≤aO f (m+r)
 |0,_=>Nat.le_refl _
 |r+1,m=>Nat.le_trans (wK r m) (by rw [←Nat.add_assoc];simp only [aO];omega)
theorem Jv{k s N:Nat}(hs:vb k x ld d N=some s)(hN1:N≤1000)(hs2:s < 9223372036854775808){S:FS}{w0:VW}{T:Tq}(hT:(iw Tryz.prog).ok T){b:Frame}(hb:b.roundOf=none)(hbk:b.kind≠.early){kk:List Item}{cs:List Frame}{a:Act}{v:VW}{b7 b8:Nat}
 (st:St (AD S w0) (sX (Jx b8 b7) x ld d N 0) (Q9 b8 b7) a v) (next:∀a' v',St (AD S w0) [(6,.eq (.int .i64 (s:Int)))] [] a' v'→T v' (b.atR a' (.code .ret::kk)) cs):
 T v (b.atR a (.code (.block 0 (.loop xY)):: .code K0::kk)) cs:=by
 obtain⟨i1,i2,S1,i3,i4,i5,i6⟩:=st
 refine hT.2 _ _ _ fun Gd hG v1 hr gs sl tt kq hL=>?_
 have hnx:Nx Tryz.prog Gd:=hG.next
 have hO1:=i5.rely i3.dom hr
 obtain⟨hat,hne,hsh⟩:=OY hO1
 have hn0:0 < gs.size:=(Array.getElem?_eq_some_iff.1 hL.head).1
 obtain⟨hone,hfu⟩:=EC (n0:=gs.size) hs
 refine HV (P:=Tryz.prog) (p:=Jx b8 b7) (tot:=fun i=>if i < gs.size then 0 else(oQ k x ld (i - gs.size:Nat) d).getD 0) hO1.domA hO1.domZ hat hne (fun y hy=>(hO1.far y ((hsh y).1 hy)).1) (fun i hi=>if_pos hi) hL ?_
 have bc:BC Tryz.prog (TW Tryz.prog (Jx b8 b7) (fun i=>if i < gs.size then 0 else(oQ k x ld (i - gs.size:Nat) d).getD 0) gs.size 0 false 0 false (pP gs.size 0) Gd):=TW.bc hnx pN
 refine bc.move (fun _ _=>nD) ?_
 refine bc.move (fun _ _=>xT) ?_
 have hI0:NI ⟨v1.toWorld,fun y=>v1.A y∨(Jx b8 b7).sh y,v1.Z⟩ S1 (sX (Jx b8 b7) x ld d N 0) a ⟨v1.toWorld,fun y=>v1.A y∨(Jx b8 b7).sh y,v1.Z⟩:=by
  refine⟨S1,i1,i2,bN.refl fun y hy=>Nat.lt_of_lt_of_le (i3.dom y hy) hr.size,⟨fun _ h=>by simp at h,fun _ h=>(eW h).elim,List.Pairwise.nil,fun _ h=>(eW h).elim,fun y hy h=>?_,fun y h=>?_,hO1.domZ⟩,fun s r hl=>A.mono (fun _ h=>h) (jT i3.dom i5.sees hr) r (i6 s r hl)⟩
  ·rcases h with h |h
   ·exact hO1.sees y hy h
   ·exact(hO1.own y ((hsh y).1 h)).1 hy
  ·rcases h with h |h
   ·exact hO1.domA y h
   ·exact(hO1.own y ((hsh y).1 h)).2
 refine EA (k:=k) (n0:=gs.size) hnx hne hN1 (fun i hi=>?_) hn0 (fun m hm=>?_) hb hbk (fun a1 v2 h1 hI1=>?_) N 0 (Nat.zero_add N) a _ (fun y hy=>.inr hy) hI0
 ·
  obtain⟨c,hc⟩:=hone i hi;show _=some (if gs.size+i < gs.size then 0 else _);rw [if_neg (by omega),show gs.size+i - gs.size=i by omega,hc];rfl
 ·
  refine Nat.lt_of_le_of_lt (wK (gs.size+N - m) m) ?_;rw [show m+(gs.size+N - m)=gs.size+N by omega,hfu];exact hs2
 ·
  refine Hl hnx hne hb hbk h1 hI1 fun a3 v3 h3 hI3=>?_;refine TW.fin (Z0:=w0.Z) hT.1 hG ?_;obtain⟨S4,j1,j2,j3,j4,j5⟩:=hI3;rw [hfu] at j5;exact next a3 _ (Jw (c:=AD S w0) (cf:=b8) (cb:=b7) (fun y ⟨d,hd,_⟩=>by simp at hd) i3 i4 i5 hr (fun y hy=>hy.elim (fun h=>(eW h).elim) (hsh y).1) j1 j2 j3 j4 j5)
theorem sj(k:Nat)(r:Int)(h:fD k x ld d=some r):dh (iw Tryz.prog) 105 (RR x ld d) [] (fun _:Unit=>(bu [.eq (.int .i64 r)],[])):=by
 unfold fD at h;split at h
 ·rename_i hlen;obtain⟨s,hs,h⟩:=Option.bind_eq_some_iff.1 h;split at h
  ·rename_i hs2;cases h;refine K.dh.ofT 24 Tryz.func105 rfl rfl rfl fun kind hk S w0 a st T hT cs hc=>?_;refine hT.1.move (fun _ _=>dW) ?_;refine OW hT rfl st fun a1 v1 st1=>?_;refine hT.1.move (fun _ _=>dW) ?_;refine L8 hT rfl st1 fun a2 v2 b7 b8 st2=>?_;refine hT.1.move (fun _ _=>dW) ?_;refine hT.1.move (fun _ _=>dW) ?_;refine OU (p:=Jx b8 b7) hT rfl rfl rfl st2 fun a3 v3 st3=>?_;refine Jv hs hlen hs2 hT rfl hk st3 fun a4 v4 st4=>?_;refine rX (c:=AD S w0) hT rfl st4 ?_ hc;refine aC ?_;exact gK () [_] ⟨rfl,trivial⟩ rfl
  ·cases h
 ·cases h
end
end Go.Proofs.YtcnpijmfgfnpiaaGreatDoor
set_option linter.unusedVariables false
set_option maxRecDepth 4000
set_option maxHeartbeats 1000000
namespace Go.Proofs.YtcnpijmfgfnpiaaGreatDoor
open K Go Go.Proofs
@[reducible] def ap:Ty:=.agg (.pair aG .val)
theorem oW{S:FS}{w:World}{t:bK}{m:Value}{v:Value}(h:(A.at ap (t,m)).holds S w v):(A.at bj (t,())).holds S w v:=by
 obtain⟨b,off,c,T,fz,e,hb,hc,c1,c2,e2,h1,h2,h3⟩:=h;exact⟨b,off,c,T,fz,e,hb,hc,c1,c2,e2,h1,m,h2,h3⟩
theorem Ni{t:bK}{m:Value}:AE (.at ap (t,m)) (.at bj (t,())):=fun S w cs h=>by
 obtain⟨b,off,c,T,fz,e,hb,hc,c1,c2,e2,h1,h2,h3⟩:=h
 exact⟨b,off,c,T,fz,e,hb,hc,c1,c2,e2,h1,m,h2,h3⟩
theorem NR:∀w,(zeroValue 173).run Tryz.prog w= .ok (.agg #[(.int .i64 (0)),(.slice none 0 0),(.slice none 0 0),(.map none)]) w:=fun w=>by kernel_rfl
theorem Oc:yt Tryz.prog 173 #[(0,3),(3,1)]:=⟨_,Tryz.underlying173,fun _=>by kernel_rfl⟩
theorem Nc:∀S w,(A.cells S w (.pair (.agg (.pair (.eq (.int .i64 (0:Int))) (.pair (.eq (.slice none 0 0)) (.eq (.slice none 0 0))))) (.eq (.map none))) (Value.cells (.agg #[(.int .i64 (0)),(.slice none 0 0),(.slice none 0 0),(.map none)])).toList):=fun _ _=>⟨[_,_,_],_,rfl,⟨[_],_,rfl,⟨rfl,rfl⟩,⟨[_],_,rfl,⟨rfl,rfl⟩,⟨rfl,rfl⟩⟩⟩,⟨rfl,rfl⟩⟩
theorem fS(a0:bK):cd Tryz.prog 84 [.rep aG a0] [] (fun z:Nat=>(bu [.at ap (a0,.map (some z))],[.raw z (.map #[] 0)])):=by
 refine cd.of 7 Tryz.func84 rfl Tryz.ntmps84 rfl fun S w0=>?_;refine ah ?_;refine aa ?_;refine ay rfl rfl rfl (nR rfl rfl) ⟨rfl,trivial⟩ fun b1=>?_;refine dG rfl ?_;refine ao ?_;refine ae ?_;show JC _ _ _ _ _;refine ah ?_;refine aa ?_;refine bU rfl rfl rfl (ak rfl i8 (xE) rfl) ⟨rfl,trivial⟩ ?_;refine ay rfl rfl rfl (Ed rfl) trivial fun z=>?_;refine aA rfl (cT [(0,.tmp 3,_),(1,.tmp 4,_)] rfl Oc NR Nc (iE ⟨rfl,rfl,trivial⟩) rfl) ⟨rfl,rfl,trivial⟩ ?_;refine ay rfl rfl rfl (nR rfl trivial) ⟨rfl,trivial⟩ fun b2=>?_;refine dj rfl rfl ?_;refine ao ?_;refine ae ?_;show JC _ _ _ _ _;refine fh (k9 (t:=ap) (x:=(a0,.map (some z))) [2] (.agg (.pair .rep (.val rfl))) ⟨rfl,trivial⟩) ?_;refine aC ?_;exact aI z [_] 1 ⟨rfl,trivial⟩ rfl
theorem lY(k:Nat)(a0:cV)(a1:List (List Int))(a2:Int)(r:Int)(h:fD k a0 a1 a2=some r):dh (iw Tryz.prog) 105 [.at bj a0,.rep (.arr 3 (.arr 5 (.int .i64))) a1,.eq (.int .i64 a2)] [] (fun _:Unit=>(bu [.eq (.int .i64 r)],[])):=sj k r h
def fX(l:List Int):List Value:=l.map fun n=>.int .i64 n
def kF(l:List (List Int)):Value:=.agg (l.flatMap fX).toArray
def Il(l:List (List Int)):Prop:=l.length=3∧∀r∈l,r.length=5∧∀n∈r, -1≤n∧n < 8
instance (l:List (List Int)):Decidable (Il l):=by unfold Il;infer_instance
theorem uu:∀{l l':List Int},fX l=fX l'→l=l'
 |[],[],_=>rfl
 |[],_::_,h=>by cases h
 |_::_,[],h=>by cases h
 |a::l,b::l',h=>by
  have h:Value.int .i64 a::fX l=Value.int .i64 b::fX l':=h
  simp only [List.cons.injEq,Value.int.injEq,true_and] at h
  rw [h.1,uu h.2]
theorem kg(l:List Int):(fX l).length=l.length:=by simp [fX]
theorem wy{l l':List (List Int)}(h1:Il l)(h2:Il l')(h:kF l=kF l'):l=l':=by
 have key:∀{l l':List (List Int)},(∀r∈l,r.length=5)→(∀r∈l',r.length=5)→l.flatMap fX=l'.flatMap fX→l=l':=by
  intro l
  induction l with
  |nil=>intro l' _ g h;cases l' with
   |nil=>rfl
   |cons r l'=>exfalso;have e:=congrArg List.length h;have:=g r (by simp);simp [List.flatMap_cons,kg,this] at e;omega
  |cons r l ih=>intro l' g0 g h;cases l' with
   |nil=>exfalso;have e:=congrArg List.length h;have:=g0 r (by simp);simp [List.flatMap_cons,kg,this] at e
   |cons r' l'=>
    simp only [List.flatMap_cons] at h;obtain⟨e1,e2⟩:=List.append_inj h (by rw [kg,kg,g0 r (by simp),g r' (by simp)]);rw [uu e1,ih (fun x hx=>g0 x (by simp [hx])) (fun x hx=>g x (by simp [hx])) e2]
 simp only [kF,Value.agg.injEq] at h;exact key (fun r hr=>(h1.2 r hr).1) (fun r hr=>(h2.2 r hr).1) (by simpa using congrArg Array.toList h)
theorem uS{S:FS}{w:World}{u:Value}{l:List (List Int)}(h:(A.rep (.arr 3 (.arr 5 (.int .i64))) l).holds S w u):u=kF l:=by
 obtain⟨cs,⟨_,h1⟩,h2⟩:=h
 have row:∀{r:List Int} {cs:List Value},cS (rd S w (.int .i64)) r cs→cs=fX r:=by
  intro r
  induction r with
  |nil=>intro cs h;exact h
  |cons n r ih=>rintro cs ⟨c1,c2,rfl,h1,h2⟩;have h1:c1=[.int .i64 n]:=h1;rw [h1,ih h2];rfl
 have key:∀{l:List (List Int)} {cs:List Value},cS (rd S w (.arr 5 (.int .i64))) l cs→cs=l.flatMap fX:=by
  intro l
  induction l with
  |nil=>intro cs h;exact h
  |cons r l ih=>rintro cs ⟨c1,c2,rfl,h1,h2⟩;rw [row h1.2,ih h2];rfl
 rw [h2,key h1];rfl
theorem wx(l:List (List Int)):mZ (kF l)=true:=by
 have row:∀r:List Int,(fX r).all uI=true:=fun r=>by
  induction r with
  |nil=>rfl
  |cons n r ih=>exact ih
 show((l.flatMap fX).toArray.toList.all uI)=true
 induction l with
 |nil=>rfl
 |cons r l ih=>simp only [List.flatMap_cons,List.all_append,row,Bool.true_and];exact ih
theorem Fo:Tryz.prog.types.size+2≤10000:=Nat.le_of_ble_eq_true (by kernel_rfl)
theorem vX:107 < Tryz.prog.types.size:=Nat.lt_of_lt_of_le (Nat.lt_succ_self 107) (Nat.le_of_ble_eq_true (by kernel_rfl))
theorem zD:WideMaps.KeyLaw Tryz.prog 107:=deep_law_gate (by kernel_rfl) Fo (Nat.lt_of_lt_of_le (Nat.lt_succ_self 107) (Nat.le_of_ble_eq_true (by kernel_rfl))) (by kernel_rfl) (by kernel_rfl)
theorem E8{n:Int}(h1: -1≤n)(h2:n < 8):(Lit.int .i64 n).wf=true:=by
 simp only [Lit.wf,Bool.and_eq_true,decide_eq_true_eq];exact⟨Int.le_trans (by decide) h1,Int.le_trans (Int.le_of_lt h2) (by decide)⟩
theorem t6(d:Nat){l:List Int}(h5:l.length=5)(hw:∀n∈l, -1≤n∧n < 8):Tryz.prog.keyLits (d+2) 105 (fX l)=some (l.map fun n=>.int .i64 n):=by
 match l,h5,hw with
 |[a,b,c,e,f],_,hw=>
  have hint:∀(n:Int),n∈[a,b,c,e,f]→Tryz.prog.keyLits (d+1) 3 [.int .i64 n]=some [.int .i64 n]:=fun n h=>by
   have:=hw n h;simp only [Program.keyLits,Tryz.underlying3,E8 this.1 this.2,and_self,if_true]
  have hc:Tryz.prog.cellsOf 105=5:=by kernel_rfl
  have hc3:Tryz.prog.cellsOf 3=1:=by kernel_rfl
  have hr:List.range 5=[0,1,2,3,4]:=by decide
  unfold Program.keyLits;simp [fX,Tryz.underlying105,hc,hc3,hr,hint a (by simp),hint b (by simp),hint c (by simp),hint e (by simp),hint f (by simp)]
theorem G2{l:List (List Int)}(h:Il l):∃lt,keyOf Tryz.prog 107 (kF l)=some lt:=by
 obtain⟨h3,hr⟩:=h;match l,h3,hr with
 |[r1,r2,r3],_,hr=>
  obtain⟨d,hd⟩:∃d,Tryz.prog.types.size+1=d+3:=⟨Tryz.prog.types.size - 2,by have:=vX;omega⟩;obtain⟨l1,g1⟩:=hr r1 (by simp);obtain⟨l2,g2⟩:=hr r2 (by simp);obtain⟨l3,g3⟩:=hr r3 (by simp);have k1:=t6 d l1 g1;have k2:=t6 d l2 g2;have k3:=t6 d l3 g3;have n1:=kg r1;have n2:=kg r2;have n3:=kg r3;rw [l1] at n1;rw [l2] at n2;rw [l3] at n3;have hc:Tryz.prog.cellsOf 107=15:=by kernel_rfl
  have hc5:Tryz.prog.cellsOf 105=5:=by kernel_rfl
  have hk:Tryz.prog.keyType 107=true:=by kernel_rfl
  have hr3:List.range 3=[0,1,2]:=by decide
  have e0':(fX r1++(fX r2++fX r3)).take 5=fX r1:=by rw [←n1,List.take_left]
  have e1:((fX r1++(fX r2++fX r3)).drop 5).take 5=fX r2:=by rw [←n1,List.drop_left,n1,←n2,List.take_left]
  have e2:((fX r1++(fX r2++fX r3)).drop 10).take 5=fX r3:=by
   rw [show 10=(fX r1++fX r2).length by simp [n1,n2],←List.append_assoc,List.drop_left,←n3,List.take_length]
  have hL:Tryz.prog.keyLits (Tryz.prog.types.size+1) 107 (kF [r1,r2,r3]).cells.toList=some (r1.map (fun n=>.int .i64 n)++(r2.map (fun n=>.int .i64 n)++r3.map (fun n=>.int .i64 n))):=by
   rw [hd];have hcs:(kF [r1,r2,r3]).cells.toList=fX r1++(fX r2++fX r3):=by simp [kF,Value.cells]
   have hlen:(fX r1++(fX r2++fX r3)).length=15:=by simp [n1,n2,n3]
   rw [hcs];generalize fX r1++(fX r2++fX r3)=cs at *;unfold Program.keyLits;simp [Tryz.underlying107,hc,hlen,hc5,hr3,e0',e1,e2,k1,k2,k3]
  refine⟨.string (keyBytes (r1.map (fun n=>.int .i64 n)++(r2.map (fun n=>.int .i64 n)++r3.map (fun n=>.int .i64 n)))),?_⟩;unfold keyOf;rw [Tryz.underlying107];have hf:(kF [r1,r2,r3]).formed Tryz.prog 107=true:=by simp [kF,Value.formed,Tryz.underlying107,hc,n1,n2,n3]
  simp only [hk,hf,Bool.and_self,if_true,hL,Option.map_some]
def bH(k:Nat)(a0:bK)(a1:List (List Int)):Option Int:=
 (eE (Il a1)).bind fun _=>(fD k (a0,()) a1 0).bind fun n=>some n
def a9(k:Nat)(a0:bK):Obj→Prop:=lO Tryz.prog 107 fun kv n=>∃l,Il l∧kv=kF l∧bH k a0 l=some n
theorem kZ{k:Nat}{a0:bK}:a9 k a0 (.map #[] 0):=lO.nil
theorem Eo{k:Nat}{a0:bK}{kv:Value}:∀n n':Int,(∃l,Il l∧kv=kF l∧bH k a0 l=some n)→(∃l,Il l∧kv=kF l∧bH k a0 l=some n')→n=n':=by
 rintro n n' ⟨p,h1,h2,h3⟩ ⟨q,h4,h5,h6⟩;obtain rfl:=wy h1 h4 (h2.symm.trans h5);exact Option.some.inj (h3.symm.trans h6)
theorem Lj:∀w,(zeroValue 3).run Tryz.prog w= .ok (.int .i64 0) w:=fun w=>by kernel_rfl
def uv(l:List Int):Prop:=l.length=5∧∀n∈l, -1≤n∧n < 8
instance (l:List Int):Decidable (uv l):=by unfold uv;infer_instance
def tL(l:List Int):Value:=.agg (fX l).toArray
theorem pn{S:FS}{w:World}{u:Value}{l:List Int}(h:(A.rep (.arr 5 (.int .i64)) l).holds S w u):u=tL l:=by
 obtain⟨cs,⟨_,h1⟩,h2⟩:=h
 have row:∀{r:List Int} {cs:List Value},cS (rd S w (.int .i64)) r cs→cs=fX r:=by
  intro r
  induction r with
  |nil=>intro cs h;exact h
  |cons n r ih=>rintro cs ⟨c1,c2,rfl,h1,h2⟩;have h1:c1=[.int .i64 n]:=h1;rw [h1,ih h2];rfl
 rw [h2,row h1];rfl
theorem yR(l:List Int):mZ (tL l)=true:=by
 show((fX l).toArray.toList.all uI)=true
 induction l with
 |nil=>rfl
 |cons n r ih=>exact ih
theorem I8:WideMaps.KeyLaw Tryz.prog 105:=deep_law_gate (by kernel_rfl) Fo (Nat.lt_of_lt_of_le (Nat.lt_succ_self 105) (Nat.le_of_ble_eq_true (by kernel_rfl))) (by kernel_rfl) (by kernel_rfl)
theorem zG{l:List Int}(h:uv l):∃lt,keyOf Tryz.prog 105 (tL l)=some lt:=by
 obtain⟨d,hd⟩:∃d,Tryz.prog.types.size+1=d+2:=⟨Tryz.prog.types.size - 1,by have:=vX;omega⟩;have k1:=t6 d h.1 h.2;have n1:=kg l;rw [h.1] at n1;have hc:Tryz.prog.cellsOf 105=5:=by kernel_rfl
 have hk:Tryz.prog.keyType 105=true:=by kernel_rfl
 have hL:Tryz.prog.keyLits (Tryz.prog.types.size+1) 105 (tL l).cells.toList=some (l.map fun n=>.int .i64 n):=by
  rw [hd];exact k1
 refine⟨.string (keyBytes (l.map fun n=>.int .i64 n)),?_⟩;unfold keyOf;rw [Tryz.underlying105];have hf:(tL l).formed Tryz.prog 105=true:=by simp [tL,Value.formed,Tryz.underlying105,hc,n1]
 simp only [hk,hf,Bool.and_self,if_true,hL,Option.map_some]
theorem LA{l l':List Int}(h1:uv l)(h2:uv l')(w:World):(Op.equalIn 10000 105 (tL l) (tL l')).run Tryz.prog w= .ok (decide (l=l')) w:=by
 obtain⟨l1,k1⟩:=zG h1;obtain⟨l2,k2⟩:=zG h2;obtain⟨r,hr,hiff⟩:=run_equal_deep (P:=Tryz.prog) w (Nat.le_succ 9999) (by kernel_rfl) (by kernel_rfl) k1 k2
 have e:r=decide (l=l'):=by
  by_cases hl:l=l'
  ·subst hl;rw [k1] at k2;rw [decide_eq_true rfl,hiff.2 (Option.some.inj k2)]
  ·rw [decide_eq_false hl];cases hb:r with
   |false=>rfl
   |true=>
    have:=I8.inj k1 (by rw [hiff.1 hb];exact k2);simp only [tL,Value.agg.injEq] at this;exact absurd (uu (by simpa using congrArg Array.toList this)) hl
 rw [←e];exact hr
theorem F4{M:Md Tryz.prog}{o:Oper}{x y:Operand}{T':TypeId}{l l':List Int}(ho:o.op= .binOp .neq 105 x y T')(h1:uv l)(h2:uv l'):bG M o [(x,.rep (.arr 5 (.int .i64)) l),(y,.rep (.arr 5 (.int .i64)) l')] [] (fun _:Unit=>(.eq (.bool (!decide (l=l'))),[])):=
 .val0 (hns:=fun S w a hN=>t4 ho (by rw [pn hN.1,pn hN.2.1];exact zt (yR _) (yR _))) fun S w a hN=>by
  have e1:a.eval x=tL l:=pn hN.1
  have e2:a.eval y=tL l':=pn hN.2.1
  have h3:=LA h1 h2 w
  refine⟨_,?_,rfl⟩
  have hg:Tryz.prog.eqGuardType Tryz.prog.depth 105=false:=by kernel_rfl
  unfold tL at e1 e2 h3
  simp only [execOp,ho,e1,e2,Sem.run_bind,run_eqGuard_agg w _ _ _ _ _ _ hg,run_neq_struct,h3,Result.andThen_ok,Sem.run_pure]
end Go.Proofs.YtcnpijmfgfnpiaaGreatDoor
set_option linter.unusedVariables false
set_option maxRecDepth 4000
namespace Go.Proofs.YtcnpijmfgfnpiaaGreatDoor
open K Go Go.Proofs
theorem K.SE.finE{c:Cx}{Γ Γ':Ga}(E:List D)(hs:Io Γ' Γ):SE c Γ E Γ' E:=bI [] E [] hs rfl
section
variable {P:Program}
end
end Go.Proofs.YtcnpijmfgfnpiaaGreatDoor
