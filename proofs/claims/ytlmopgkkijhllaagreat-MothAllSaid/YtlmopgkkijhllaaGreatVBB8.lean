import Derived.Test.YtlmopgkkijhllaaGreatVBB7
import Derived.Test.YtlmopgkkijhllaaGreatChecked
set_option linter.unusedSimpArgs false
set_option linter.unusedVariables false
namespace Go.Proofs.YtlmopgkkijhllaaGreat
namespace K
open Go Go.Conc
section
variable {P:Program}{p:Gp}{T:Tq}{mn:Bool}{s:Ph}{l:qB}{v0 v:VW}{b:Frame}{cs:List Frame}{N d i f:Nat}{df:List Deferred}{Γ:Gv}{ops:Array Oper}{rest:List Nat}{k:List Item}{o oj:Oper}{xs:Array Operand}{ts:Array TypeId}{fn:Func}
theorem Gh{a:Act}{j t:Nat}{g:Bool}(ha:QS N df Γ a)(hg:o.guard=some (j,g))(hj:ops[j]? =some oj)(hs:oj.dst=some t)(hl:lv Γ t=some (.bool g)):Region.wanted o (yielded ops a.tmps)=true:=by
 unfold Region.wanted yielded;rw [hg];simp [hj,hs,BK (ha.val t _ hl) (by simp [undef])]
theorem mh.mu{l':qB}{es:Array Event}(hs:s.Run)(h1:l.df=1)(h1':l'.df=1)(hdt:l'.dt=l.dt)(hd1:l.dt≤1)(he:es= #[]∨es= #[BV p.muA]∨es= #[BV p.muA,La p.muA]∨es=semEvents p.msA):mh p mn (s.set l) (s.set l') es:=by
 refine mh.lk hs (fun e hm=>?_) ?_ (fun j hj e hx _=>?_) (by rw [hdt];exact hd1) (fun e=>absurd hdt e) (fun e=>absurd hdt e)
 ·rcases he with rfl |rfl |rfl |rfl
  ·simp at hm
  ·simp at hm;subst hm;exact .inl ⟨_,_,rfl,MF⟩
  ·simp at hm;rcases hm with rfl |rfl <;> exact .inl ⟨_,_,rfl,MF⟩
  ·simp [semEvents] at hm;rcases hm with rfl |rfl |rfl |rfl
   ·exact .inr (.inl rfl)
   ·exact .inl ⟨_,_,rfl,MG⟩
   ·exact .inl ⟨_,_,rfl,MG⟩
   ·exact .inr (.inr (.inl rfl))
 ·rw [h1,h1'];rcases he with rfl |rfl |rfl |rfl <;> rfl
 ·rw [h1];rcases he with rfl |rfl |rfl |rfl
  ·simp at hj
  ·have:j=0:=by simpa using hj
   subst this;exact Nat.one_pos
  ·have:j=0∨j=1:=by simp at hj;omega
   rcases this with rfl |rfl <;> exact Nat.one_pos
  ·have:j=0∨j=1∨j=2∨j=3:=by simp [semEvents] at hj;omega
   rcases this with rfl |rfl |rfl |rfl <;> exact Nat.le_of_ble_eq_true rfl
theorem Dt{main:Bool}{a:Act}{TT:TypeId}{x:Operand}{ad:Addr}{u:Value}{w:World}(ho:ops[i]? =some o)(hw:Region.wanted o (yielded ops a.tmps)=true)(hk:b.kind≠.early)(hop:o.op= .load TT x)(hq:(P.funcs[b.fn]?).any (·.norace)=true)
 (hag:∀w,(isAgg TT).run P w= .ok false w) (hx:a.eval x= .pointer (some ad)) (hc:w.cell? ad=some u):stepG P main (G (b.at a (.inRegion ops (i::rest)::k)) cs) w= .go (G (b.at (a.put o.dst u) (.inRegion ops rest::k)) cs) w #[]:=by
 have hr:(execOp a.eval o).run P w= .ok (.value u) w:=by
  simp [execOp,hop,hx,Instr.loadAt,Instr.sureAddr,loadVar,hag,hc]
 have he:(execOp a.eval o).events P w #[]= #[⟨.cell ad,false,false⟩]:=by
  have h0:(isAgg TT).events P w #[]= #[]:=events_isAgg ..;simp [execOp,hop,hx,Instr.loadAt,Instr.sureAddr,loadVar,hag,hc,h0,events_load]
 rw [stepG_value ho hw hk hr]
 unfold listed
 rw [he,seen_def,hq]
 simp [seenStep]
theorem vd(hok:p.Ok)(hs:s.Run)(h1:l.df=1)(hd1:l.dt≤1){TT:TypeId}{x:Operand}(ho:ops[i]? =some o)(hop:o.op= .load TT x)(hq:(P.funcs[b.fn]?).any (·.norace)=true)(hag:∀w,(isAgg TT).run P w= .ok false w)(hx:ev Γ x=some (.pointer (some p.muA)))
 (L:c9→qB) (hL:∀q,(L q).df=1∧(L q).dt=l.dt) (hsv:∀q,lZ p mn (s.set l) q→Sv p mn (s.set l) q (s.set (L q)) q)
 (h:∀v' q,lZ p mn (s.set l) q→Qt (WV v0 P p T mn (s.set (L q))) v' b cs N df (.inRegion ops rest::k) ((d,.int .i32 (q.word:Int))::Γ))
 (hg:o.guard=none:=by exact rfl) (hd:o.dst=some d:=by exact rfl) (hN:Nat.blt d N=true:=by exact rfl) (hk:b.kind≠.early:=by exact fun h=>nomatch h):Qt (WV v0 P p T mn (s.set l)) v b cs N df (.inRegion ops (i::rest)::k) Γ:=
 pI hok hs.q (u:=fun q=>.int .i32 (q.word:Int)) (W:=fun w _=>w) (Q:=fun q=>q) (S:=fun q=>s.set (L q)) (es:=fun _=> #[]) (fun _=>hs.q) (fun a ha w q hat _=>by
  have:=Dt (P:=P) (main:=mn) (b:=b) (cs:=cs) (k:=k) (rest:=rest) ho (ab hg _) hk hop hq hag (ha.ev hx) hat.m0
  rw [hd] at this;exact this) (fun w q hat _=>.refl hat) hsv (fun q _=>mh.mu hs h1 (hL q).1 (hL q).2 hd1 (.inl rfl))
  (fun a q _ _ e=>by rcases e with e |e |e <;> first |exact absurd e (Nat.lt_irrefl _) |exact absurd rfl e) (fun _ _=>id) h hN
theorem tX(hok:p.Ok)(hs:s.Run)(h1:l.df=1)(hdt:l.dt=0)(hmx:l.mx≤1)(hnb:l.nb=0){ow nw:Nat}{x y z:Operand}(ho:ops[i]? =some o)(hop:o.op= .call { callee:=.value (.func f),args:= #[x,y,z],argTypes:=ts })
 (hw:∀a,QS N df Γ a→Region.wanted o (yielded ops a.tmps)=true)
 (hf:P.funcs[f]? =some fn) (hname:(fn.name == "runtime.NumGoroutine")=false) (hb:fn.body.isNone=true) (hn:Extern.findNext fn=none) (he:Extern.find fn=some (Extern.Atomic.casT (.int .i32)))
 (hx:ev Γ x=some (.pointer (some p.muA))) (hy:ev Γ y=some (.int .i32 (ow:Int))) (hz:ev Γ z=some (.int .i32 (nw:Int))) (lh:Nat→qB) (hlh:∀x,(lh x).df=1∧(lh x).dt=0) (qn:c9→c9)
 (hit:∀q,lZ p mn (s.set l) q→q.word=ow→(qn q).word=nw∧((qn q).c=q.c∧(qn q).wt=q.wt∧(qn q).sm=q.sm∧(qn q).cl=q.cl∧(qn q).cs=q.cs∧(qn q).h=q.h)∧(qn q).T=q.T∧(qn q).f < q.f∧Sv p mn (s.set l) q (s.set (lh (qn q).f)) (qn q))
 (k1:∀v' φ',(∀φ,l.se=some (ow,φ)→φ' < φ)→Qt (WV v0 P p T mn (s.set (lh φ'))) v' b cs N df (.inRegion ops rest::k) ((d,.bool true)::Γ))
 (k2:∀v' ow' φ',(∀φ,l.se=some (ow,φ)→φ' < φ)→Qt (WV v0 P p T mn (s.set { l with se:=some (ow',φ') })) v' b cs N df (.inRegion ops rest::k) ((d,.bool false)::Γ))
 (hd:o.dst=some d:=by exact rfl) (hN:Nat.blt d N=true:=by exact rfl) (hk:b.kind≠.early:=by exact fun h=>nomatch h):Qt (WV v0 P p T mn (s.set l)) v b cs N df (.inRegion ops (i::rest)::k) Γ:=by
 refine pI hok hs.q (u:=fun q=>.bool (decide (q.word=ow))) (W:=fun w q=>if q.word=ow then w.setCell p.muA (.int .i32 (nw:Int)) else w) (Q:=fun q=>if q.word=ow then qn q else q) (S:=fun q=>if q.word=ow then s.set (lh (qn q).f) else s.set { l with se:=some (q.word,q.f) })
  (es:=fun q=>if q.word=ow then #[BV p.muA,La p.muA] else #[BV p.muA]) (fun q=>?_) (fun a ha w q hat hp=>?_) (fun w q hat hp=>?_) (fun q hp=>?_) (fun q hp=>?_) (fun a q _ hp e=>?_) (fun q hp e=>?_) (fun v' q hp=>?_) hN
 ·
  by_cases e:q.word=ow
  ·simp only [if_pos e];exact hs.q
  ·simp only [if_neg e];exact hs.q
 ·
  by_cases e:q.word=ow
  ·simp only [if_pos e,decide_eq_true e];have:=stepG_cas_hit (P:=P) (main:=mn) (b:=b) (cs:=cs) (kk:=k) (rest:=rest) ho (hw a ha) hk hop hf hname hb hn .i32 he (ha.ev hx) (ha.ev hy) (ha.ev hz) (by rw [hat.m0,e]) hat.g0;rw [hd] at this;exact this
  ·simp only [if_neg e,decide_eq_false e];have:=stepG_cas_miss (P:=P) (main:=mn) (b:=b) (cs:=cs) (kk:=k) (rest:=rest) ho (hw a ha) hk hop hf hname hb hn .i32 he (ha.ev hx) (ha.ev hy) (ha.ev hz) hat.m0 hat.g0 (fun x=>e (by omega));rw [hd] at this;exact this
 ·
  by_cases e:q.word=ow
  ·simp only [if_pos e];obtain⟨g1,g2,g3,_⟩:=hit q hp e;rw [←g1];exact Gp.Eff.word hok hat g2 g3
  ·simp only [if_neg e];exact .refl hat
 ·
  by_cases e:q.word=ow
  ·simp only [if_pos e];exact(hit q hp e).2.2.2.2
  ·simp only [if_neg e];exact Sv.lk hs ⟨rfl,rfl,rfl,rfl⟩ (fun o _ h2 _ _ _=>h2) (.inr ⟨rfl,rfl⟩) (fun ow φ e=>by cases e;exact .inl ⟨Nat.le_refl _,fun _=>rfl⟩) (fun x h1 h2 _=>⟨h1,h2⟩) (fun h=>⟨h,.inl hnb⟩) hmx (by rw [show({ l with se:=some (q.word,q.f) }:qB).dt=l.dt from rfl,hdt];exact Nat.zero_le _)
 ·
  by_cases e:q.word=ow
  ·simp only [if_pos e];exact mh.mu hs h1 (hlh _).1 ((hlh _).2.trans hdt.symm) (by omega) (.inr (.inr (.inl rfl)))
  ·simp only [if_neg e];exact mh.mu hs h1 h1 rfl (by omega) (.inr (.inl rfl))
 ·
  exfalso;by_cases e':q.word=ow
  ·simp only [if_pos e'] at e;obtain⟨_,⟨_,_,g1,g2,_,_⟩,g3,_⟩:=hit q hp e';rcases e with e |e |e
   ·omega
   ·omega
   ·exact e g2.symm
  ·simp only [if_neg e'] at e;rcases e with e |e |e <;> first |exact Nat.lt_irrefl _ e |exact e rfl
 ·
  by_cases e':q.word=ow
  ·simp only [if_pos e'];exact(hit q hp e').2.1.2.2.2.1.trans e
  ·simp only [if_neg e'];exact e
 ·
  obtain⟨oo,_,hm,hsx,_⟩:=hp.mu;by_cases e:q.word=ow
  ·simp only [if_pos e,decide_eq_true e];exact k1 v' _ fun φ hse=>by have:=(hit q hp e).2.2.2.1;have:=(hsx ow φ hse).1;omega
  ·simp only [if_neg e,decide_eq_false e];refine k2 v' _ _ fun φ hse=>?_;have hsx:=hsx ow φ hse;rcases Nat.lt_or_ge q.f φ with h |h
   ·exact h
   ·exact absurd (hsx.2 (by omega)) e
theorem D2(hok:p.Ok)(hs:s.Run)(h1:l.df=1)(hdt:l.dt=0){dl:Int}{x y:Operand}(ho:ops[i]? =some o)(hop:o.op= .call { callee:=.value (.func f),args:= #[x,y],argTypes:=ts })
 (hf:P.funcs[f]? =some fn) (hname:(fn.name == "runtime.NumGoroutine")=false) (hb:fn.body.isNone=true) (hn:Extern.findNext fn=none) (he:Extern.find fn=some (Extern.Atomic.update (Op.intArith .add) .i32 true))
 (hx:ev Γ x=some (.pointer (some p.muA))) (hy:ev Γ y=some (.int .i32 dl)) (lh:c9→qB) (hlh:∀q,(lh q).df=1∧(lh q).dt=0) (qn:c9→c9)
 (hit:∀q,lZ p mn (s.set l) q→IntKind.i32.wrap ((q.word:Int)+dl)=((qn q).word:Int)∧((qn q).c=q.c∧(qn q).wt=q.wt∧(qn q).sm=q.sm∧(qn q).cl=q.cl∧(qn q).cs=q.cs∧(qn q).h=q.h)∧(qn q).T=q.T∧Sv p mn (s.set l) q (s.set (lh q)) (qn q))
 (h:∀v' q,lZ p mn (s.set l) q→Qt (WV v0 P p T mn (s.set (lh q))) v' b cs N df (.inRegion ops rest::k) ((d,.int .i32 ((qn q).word:Int))::Γ))
 (hg:o.guard=none:=by exact rfl) (hd:o.dst=some d:=by exact rfl) (hN:Nat.blt d N=true:=by exact rfl) (hk:b.kind≠.early:=by exact fun h=>nomatch h):Qt (WV v0 P p T mn (s.set l)) v b cs N df (.inRegion ops (i::rest)::k) Γ:=by
 refine pI hok hs.q (u:=fun q=>.int .i32 ((qn q).word:Int)) (W:=fun w q=>w.setCell p.muA (.int .i32 ((qn q).word:Int))) (Q:=qn) (S:=fun q=>s.set (lh q)) (es:=fun q=> #[BV p.muA,La p.muA]) (fun q=>hs.q) (fun a ha w q hat hp=>?_) (fun w q hat hp=>?_) (fun q hp=>(hit q hp).2.2.2) (fun q hp=>?_) (fun a q _ hp e=>?_) (fun q hp e=>(hit q hp).2.1.2.2.2.1.trans e) h hN
 ·
  have:=stepG_add_atomic (P:=P) (main:=mn) (b:=b) (cs:=cs) (kk:=k) (rest:=rest) ho (ab hg _) hk hop hf hname hb hn .i32 he (ha.ev hx) (ha.ev hy) hat.m0 hat.g0;rw [hd,(hit q hp).1] at this;exact this
 ·
  obtain⟨g1,g2,g3,_⟩:=hit q hp;exact Gp.Eff.word hok hat g2 g3
 ·
  exact mh.mu hs h1 (hlh _).1 ((hlh _).2.trans hdt.symm) (by omega) (.inr (.inr (.inl rfl)))
 ·
  exfalso;obtain⟨_,⟨_,_,g1,g2,_,_⟩,g3,_⟩:=hit q hp;rcases e with e |e |e
  ·omega
  ·omega
  ·exact e g2.symm
theorem MH(ho:ops[i]? =some o)(hop:o.op= .call { callee:=.value (.func f),args:=xs,argTypes:=ts })(hf:P.funcs[f]? =some fn)(hb:fn.body.isNone=true)(a:Act):mayWake P (G (b.at a (.inRegion ops (i::rest)::k)) cs)=true:=by
 have hb:fn.body=none:=by simpa using hb
 have he:(b.at a (.inRegion ops (i::rest)::k)).eval (.func f)= .func (.func f) #[] #[]:=rfl;simp only [Frame.at] at he;simp [mayWake,G,Frame.at,ho,hop,he,hf,hb]
theorem DZ(hok:p.Ok)(hs:s.Run)(h1:l.df=1)(hdt:l.dt=0){x y z:Operand}(ho:ops[i]? =some o)(hop:o.op= .call { callee:=.value (.func f),args:= #[x,y,z],argTypes:=ts })
 (hf:P.funcs[f]? =some fn) (hname:(fn.name == "runtime.NumGoroutine")=false) (hb:fn.body.isNone=true) (hn:Extern.findNext fn=none) (he:Extern.find fn=some Extern.Sync.semrelease)
 (hx:ev Γ x=some (.pointer (some p.msA))) (l':qB) (hl':l'.df=1∧l'.dt=0) (hsv:∀q,lZ p mn (s.set l) q→Sv p mn (s.set l) q (s.set l') { q with T:=q.T+1 })
 (h:∀v',Qt (WV v0 P p T mn (s.set l')) v' b cs N df (.inRegion ops rest::k) ((d,.tuple #[])::Γ))
 (hg:o.guard=none:=by exact rfl) (hd:o.dst=some d:=by exact rfl) (hN:Nat.blt d N=true:=by exact rfl) (hk:b.kind≠.early:=by exact fun h=>nomatch h):Qt (WV v0 P p T mn (s.set l)) v b cs N df (.inRegion ops (i::rest)::k) Γ:=by
 refine pI hok hs.q (u:=fun q=>.tuple #[]) (W:=fun w q=>w.setCell p.msA (.int .u32 (((q.T+1:Nat)):Int))) (Q:=fun q=>{ q with T:=q.T+1 }) (S:=fun q=>s.set l') (es:=fun q=>semEvents p.msA) (fun q=>hs.q) (fun a ha w q hat hp=>?_) (fun w q hat hp=>?_) hsv (fun q hp=>?_) (fun a q _ hp e=>MH ho hop hf hb a) (fun q hp e=>e) (fun v' _ _=>h v') hN
 ·
  have hT:q.T≤1:=by obtain⟨_,_,_,_,_,_,_,h⟩:=hp.mu;exact h
  have:=stepG_semrelease (P:=P) (main:=mn) (b:=b) (cs:=cs) (kk:=k) (rest:=rest) ho (ab hg _) hk hop hf hname hb hn he (by rw [Array.getElem?_map];exact congrArg some (ha.ev hx)) hat.m1 hat.g1;rw [hd,show IntKind.u32.wrap ((q.T:Int)+1)=((q.T+1:Nat):Int) by rw [IntKind.wrap_u32];omega] at this;exact this
 ·
  exact Gp.Eff.sema (q':={ q with T:=q.T+1 }) hok hat ⟨rfl,rfl,rfl,rfl,rfl,rfl⟩ rfl
 ·
  exact mh.mu hs h1 hl'.1 (hl'.2.trans hdt.symm) (by omega) (.inr (.inr (.inr rfl)))
theorem LN(hok:p.Ok)(hs:s.Run)(h1:l.df=1)(hdt:l.dt=0)(hqu:l.qu=1){x y z:Operand}(ho:ops[i]? =some o)(hop:o.op= .call { callee:=.value (.func f),args:= #[x,y,z],argTypes:=ts })
 (hf:P.funcs[f]? =some fn) (hname:(fn.name == "runtime.NumGoroutine")=false) (hb:fn.body.isNone=true) (hn:Extern.findNext fn=none) (he:Extern.find fn=some Extern.Sync.semacquire)
 (hx:ev Γ x=some (.pointer (some p.msA))) (l':qB) (hl':l'.df=1∧l'.dt=0) (hsv:∀q,lZ p mn (s.set l) q→q.T=1→Sv p mn (s.set l) q (s.set l') { q with T:=0 })
 (h:∀v',Qt (WV v0 P p T mn (s.set l')) v' b cs N df (.inRegion ops rest::k) ((d,.tuple #[])::Γ))
 (hg:o.guard=none:=by exact rfl) (hd:o.dst=some d:=by exact rfl) (hN:Nat.blt d N=true:=by exact rfl) (hk:b.kind≠.early:=by exact fun h=>nomatch h):Qt (WV v0 P p T mn (s.set l)) v b cs N df (.inRegion ops (i::rest)::k) Γ:=fun a ha hv _=>by
 refine .of ⟨hs.q,.inr (.inr (.inl ⟨.inl hqu,fun v1 q hr hat hp=>⟨fun hb'=>?_,fun hb'=>?_⟩⟩))⟩
 ·
  have hT:q.T=0:=hb'.elim And.right fun e=>by
   have e1:s.rg=true:=e.1
   rw [hs.rg] at e1;cases e1
  exact stepG_semacquire_wait (P:=P) (main:=mn) (b:=b) (cs:=cs) (kk:=k) (rest:=rest) ho (ab hg _) hop hf hname hb hn he (by rw [Array.getElem?_map];exact congrArg some (ha.ev hx)) (by rw [hat.m1,hT];rfl)
 ·
  have hT1:q.T≤1:=by obtain⟨_,_,_,_,_,_,_,h⟩:=hp.mu;exact h
  have hT:q.T=1:=by
   rcases Nat.eq_zero_or_pos q.T with e |e
   ·exact absurd (.inl ⟨hqu,e⟩) hb'
   ·omega
  have heff:p.Eff v1.toWorld (v1.toWorld.setCell p.msA (.int .u32 ((0:Nat):Int))) { q with T:=0 }:=Gp.Eff.sema (q':={ q with T:=0 }) hok hat ⟨rfl,rfl,rfl,rfl,rfl,rfl⟩ rfl;have hst:=stepG_semacquire (P:=P) (main:=mn) (b:=b) (cs:=cs) (kk:=k) (rest:=rest) ho (ab hg _) hk hop hf hname hb hn he (by rw [Array.getElem?_map];exact congrArg some (ha.ev hx)) hat.m1 (by omega) hat.g1;rw [hd,hT] at hst;refine⟨s.set l',{ q with T:=0 },_,_,_,semEvents p.msA,hst,heff,hsv q hp hT,mh.mu hs h1 hl'.1 (hl'.2.trans hdt.symm) (by omega) (.inr (.inr (.inr rfl))),fun e=>?_,id,fun _=>⟨q,undef,true,h _ _ (ha.put hN) ((hv.rely hr).put hok heff) (pR.trans (by rw [show(s.set l').dt=0 from hl'.2]))⟩,fun e=>?_⟩
  ·rcases e with e |e |e
   ·exact absurd e (Nat.not_lt_zero _)
   ·exact absurd e (Nat.lt_irrefl _)
   ·exact absurd rfl e
  ·have e:s.q=true:=e;rw [hs.q] at e;cases e
end
end K
end Go.Proofs.YtlmopgkkijhllaaGreat
set_option linter.unusedVariables false
namespace Go.Proofs.YtlmopgkkijhllaaGreat
namespace K
open Go Go.Conc
@[reducible] def qA(c:Nat)(aw:Bool)(ow φ:Nat):qB:={ df:=1,aw:=cond aw 1 0,phi:=c+cond aw 5 6,se:=some (ow,φ) }
structure nN(ow:Nat)(st aw:Bool):Prop where
 lt:ow < 820
 st:st=true→aw=true
 aw:aw=true→ow / 2 % 2=1∧ow / 4 % 2=0
def AH(ow:Nat):Nat:=if ow / 4 % 2=0 then ow+1 - ow % 2 else ow
def vv(ow:Nat):Nat:=if ow % 2=0∧ow / 4 % 2=0 then AH ow else AH ow+8
def AG(ow:Nat)(st:Bool):Nat:=if st=true∧ow % 2=1 then vv ow+4 else vv ow
def C4(ow:Nat)(st aw:Bool):Nat:=if aw=true then AG ow st - 2 else AG ow st
theorem fX{q:c9}(h:q.L≤1∧q.W≤1∧q.S≤1):q.word % 2=q.L∧q.word / 2 % 2=q.W∧q.word / 4 % 2=q.S∧q.word / 8=q.N:=by
 simp only [c9.word];omega
macro "mu_sv" :tactic=> `(tactic|(refine⟨?_,?_,fun _=>?_,fun _=>?_,?_,?_⟩ <;> (try dsimp only) <;> (try dsimp only at *) <;> omega))
section
variable {p:Gp}{mn:Bool}{s:Ph}{q:c9}
theorem NE(hs:s.Run){l:qB}(hmx:l.mx≤1)(hdt:l.dt≤l.hd)(hnb:l.nb=0):Sv p mn (s.set l) q (s.set { l with se:=some (q.word,q.f) }) q:=
 Sv.lk hs ⟨rfl,rfl,rfl,rfl⟩ (fun o _ h2 _ _ _=>h2) (.inr ⟨rfl,rfl⟩) (fun ow φ e=>by cases e;exact .inl ⟨Nat.le_refl _,fun _=>rfl⟩) (fun x h1 h2 _=>⟨h1,h2⟩) (fun h=>⟨h,.inl hnb⟩) hmx hdt
theorem J2{aw:Bool}{f:Nat}{se0:Option (Nat×Nat)}(hp:lZ p mn (s.set { df:=1,aw:=cond aw 1 0,phi:=f,se:=se0 }) q):q.word < 820∧(aw=true→q.word / 2 % 2=1∧q.word / 4 % 2=0)∧∀ow φ,se0=some (ow,φ)→q.f≤φ:=by
 obtain⟨o,h1,⟨k1,k2,k3,k4,k5,k6⟩,hse,_,_,hN,hT⟩:=hp.mu;dsimp only at k2 k3 k4 k5 k6;obtain⟨w1,w2,w3,w4⟩:=fX k1;refine⟨by simp only [c9.word];omega,fun e=>?_,fun ow φ e=>(hse ow φ e).1⟩;subst e;dsimp only [cond] at k3 k4;rcases(show q.S=0∨q.S=1 by omega) with e |e
 ·have:=k3 e;omega
 ·have:=k4 e;omega
theorem ww{l:qB}(hp:lZ p mn (s.set l) q):l.phi+2 * q.T≤q.f:=by
 obtain⟨o,h1,⟨k1,k2,k3,k4,k5,k6⟩,_⟩:=hp.mu;try dsimp only at k6
 omega
theorem km{l:qB}(hp:lZ p mn (s.set l) q):q.L≤1∧q.W≤1∧q.S≤1:=by
 obtain⟨o,h1,h2,_⟩:=hp.mu;exact h2.le
theorem JS(hs:s.Run){c φ:Nat}{se0:Option (Nat×Nat)}(hw:q.word=0)(hf:0 < q.f):Sv p mn (s.set { df:=1,phi:=c+6,se:=se0 }) q (s.set { df:=1,hd:=1,phi:=c+4 }) { q with L:=1,f:=q.f - 1 }:=by
 have hw:q.L=0∧q.W=0∧q.S=0∧q.N=0:=by simp only [c9.word] at hw;omega
 refine Sv.lk hs ⟨rfl,rfl,rfl,rfl⟩ (fun o hod hm hse hnb _=>?_) (.inl (by show q.f - 1 < q.f;omega)) (fun ow φ e=>by cases e) (fun x h1 h2 _=>?_) (fun _=>⟨Nat.zero_le _,.inl rfl⟩) (Nat.le_of_ble_eq_true rfl) (Nat.le_of_ble_eq_true rfl)
 ·obtain⟨k1,k2,k3,k4,k5,k6⟩:=hm;dsimp only at k2 k3 k4 k5 k6;refine⟨?_,?_,?_,?_,?_,?_⟩ <;> (try dsimp only) <;> omega
 ·dsimp only;omega
theorem JK(hs:s.Run){c ow φ:Nat}(hw:q.word=ow)(h1:ow % 2=1)(h2:ow / 2 % 2=0)(h4:ow / 4 % 2=0)(hle:q.L≤1∧q.W≤1∧q.S≤1)(hf:0 < q.f):Sv p mn (s.set (qA c false ow φ)) q (s.set (qA c true (ow+2) (q.f - 1))) { q with W:=1,f:=q.f - 1 }:=by
 obtain⟨w1,w2,w3,w4⟩:=fX hle;rw [hw] at w1 w2 w3 w4;refine Sv.lk hs ⟨rfl,rfl,rfl,rfl⟩ (fun o hod hm hse hnb _=>?_) (.inl (by show q.f - 1 < q.f;omega)) (fun ow φ e=>by cases e;exact .inl ⟨Nat.le_refl _,fun _=>by subst hw;simp only [c9.word] at *;omega⟩) (fun x h1 h2 _=>?_) (fun _=>⟨Nat.zero_le _,.inl rfl⟩) (Nat.le_of_ble_eq_true rfl) (Nat.le_of_ble_eq_true rfl)
 ·obtain⟨k1,k2,k3,k4,k5,k6⟩:=hm;dsimp only [cond] at k2 k3 k4 k5 k6;refine⟨?_,?_,?_,?_,?_,?_⟩ <;> (try dsimp only [cond]) <;> omega
 ·dsimp only;omega
@[reducible] def NU(aw:Bool)(q:c9):c9:={ q with L:=1,W:=cond aw 0 q.W,f:=q.f - 1 }
theorem H8{ow:Nat}{st aw:Bool}(ho:nN ow st aw)(hw:q.word=ow)(hle:q.L≤1∧q.W≤1∧q.S≤1)(h0:ow % 2=0)(h4:ow / 4 % 2=0):(NU aw q).word=C4 ow st aw:=by
 obtain⟨w1,w2,w3,w4⟩:=fX hle;rw [hw] at w1 w2 w3 w4;have hw':q.L+2 * q.W+4 * q.S+8 * q.N=ow:=hw;have e3:AG ow st=ow+1:=by unfold AG vv AH;rw [if_neg (by rintro⟨_,x⟩;omega),if_pos ⟨h0,h4⟩,if_pos h4];omega
 unfold C4;rw [e3];cases aw with
 |true=>
  have:=ho.aw rfl;simp only [c9.word,cond,if_true];omega
 |false=>
  simp only [c9.word,cond];rw [if_neg (by simp)];omega
theorem NJ(hs:s.Run){c ow φ:Nat}{st aw:Bool}(ho:nN ow st aw)(hw:q.word=ow)(hle:q.L≤1∧q.W≤1∧q.S≤1)(h0:ow % 2=0)(h4:ow / 4 % 2=0)(hf:0 < q.f):Sv p mn (s.set (qA c aw ow φ)) q (s.set { df:=1,hd:=1,phi:=c+4 }) (NU aw q):=by
 obtain⟨w1,w2,w3,w4⟩:=fX hle;rw [hw] at w1 w2 w3 w4;refine Sv.lk hs ⟨rfl,rfl,rfl,rfl⟩ (fun o hod hm hse hnb _=>?_) (.inl (by show q.f - 1 < q.f;omega)) (fun ow φ e=>by cases e) (fun x h1 h2 _=>?_) (fun _=>⟨Nat.zero_le _,.inl rfl⟩) (Nat.le_of_ble_eq_true rfl) (Nat.le_of_ble_eq_true rfl)
 ·obtain⟨k1,k2,k3,k4,k5,k6⟩:=hm;cases aw with
  |true=>
   have:=ho.aw rfl;dsimp only [cond] at k2 k3 k4 k5 k6;refine⟨?_,?_,?_,?_,?_,?_⟩ <;> (try dsimp only [cond]) <;> omega
  |false=>
   dsimp only [cond] at k2 k3 k4 k5 k6;refine⟨?_,?_,?_,?_,?_,?_⟩ <;> (try dsimp only [cond]) <;> omega
 ·dsimp only;omega
@[reducible] def NT(st aw:Bool)(q:c9):c9:={ q with N:=q.N+1,W:=cond aw 0 q.W,S:=cond st 1 q.S,f:=q.f - 1 }
theorem yZ{ow:Nat}{st aw:Bool}(ho:nN ow st aw)(hw:q.word=ow)(hle:q.L≤1∧q.W≤1∧q.S≤1)(h0:¬(ow % 2=0∧ow / 4 % 2=0)):(NT st aw q).word=C4 ow st aw:=by
 obtain⟨w1,w2,w3,w4⟩:=fX hle;rw [hw] at w1 w2 w3 w4;have hw':q.L+2 * q.W+4 * q.S+8 * q.N=ow:=hw;have hst:=ho.st;have haw:=ho.aw;have e2:vv ow=ow+8:=by unfold vv AH;rw [if_neg h0];split <;> omega
 unfold C4 AG;rw [e2];simp only [c9.word];cases aw with
 |true=>
  have:=haw rfl;cases st with
  |true=>rw [if_pos rfl,if_pos ⟨rfl,by omega⟩];dsimp only [cond];omega
  |false=>rw [if_pos rfl,if_neg (by simp)];dsimp only [cond];omega
 |false=>
  cases st with
  |true=>cases hst rfl
  |false=>rw [if_neg (by simp),if_neg (by simp)];dsimp only [cond];omega
theorem NH(hs:s.Run){c ow φ:Nat}{st aw:Bool}(ho:nN ow st aw)(hw:q.word=ow)(hle:q.L≤1∧q.W≤1∧q.S≤1)(h0:¬(ow % 2=0∧ow / 4 % 2=0))(hf:0 < q.f):Sv p mn (s.set (qA c aw ow φ)) q (s.set { df:=1,qu:=1,phi:=c+4,se:=some (C4 ow st aw,q.f - 1) }) (NT st aw q):=by
 have hqw:=yZ ho hw hle h0;obtain⟨w1,w2,w3,w4⟩:=fX hle;rw [hw] at w1 w2 w3 w4;refine Sv.lk hs ⟨rfl,rfl,rfl,rfl⟩ (fun o hod hm hse hnb _=>?_) (.inl (by show q.f - 1 < q.f;omega)) (fun ow φ e=>by cases e;exact .inl ⟨Nat.le_refl _,fun _=>hqw⟩) (fun x h1 h2 _=>?_) (fun _=>⟨Nat.zero_le _,.inl rfl⟩) (Nat.le_of_ble_eq_true rfl) (Nat.le_of_ble_eq_true rfl)
 ·obtain⟨k1,k2,k3,k4,k5,k6⟩:=hm;cases aw with
  |true=>
   have:=ho.aw rfl;cases st with
   |true=>
    dsimp only [cond] at k2 k3 k4 k5 k6;refine⟨?_,?_,?_,?_,?_,?_⟩ <;> (try dsimp only [cond]) <;> omega
   |false=>
    dsimp only [cond] at k2 k3 k4 k5 k6;refine⟨?_,?_,?_,?_,?_,?_⟩ <;> (try dsimp only [cond]) <;> omega
  |false=>
   cases st with
   |true=>cases ho.st rfl
   |false=>
    dsimp only [cond] at k2 k3 k4 k5 k6;refine⟨?_,?_,?_,?_,?_,?_⟩ <;> (try dsimp only [cond]) <;> omega
 ·cases st with
  |true=>
   have:=ho.aw (ho.st rfl);dsimp only [cond];omega
  |false=>dsimp only [cond];omega
theorem ND(hs:s.Run){c:Nat}{se0:Option (Nat×Nat)}(hT:q.T=1):Sv p mn (s.set { df:=1,qu:=1,phi:=c+4,se:=se0 }) q (s.set { df:=1,tk:=1,phi:=c+5,se:=se0 }) { q with T:=0 }:=by
 refine Sv.lk hs ⟨rfl,rfl,rfl,rfl⟩ (fun o hod hm hse hnb _=>?_) (.inr ⟨rfl,rfl⟩) (fun ow φ e=>.inr e) (fun x h1 h2 _=>⟨h1,h2⟩) (fun _=>⟨Nat.zero_le _,.inl rfl⟩) (Nat.le_of_ble_eq_true rfl) (Nat.le_of_ble_eq_true rfl);obtain⟨k1,k2,k3,k4,k5,k6⟩:=hm;dsimp only at k2 k3 k4 k5 k6;refine⟨?_,?_,?_,?_,?_,?_⟩ <;> (try dsimp only) <;> omega
@[reducible] def Om(c:Nat)(q:c9):qB:=if q.S=1 then { df:=1,tk:=1,phi:=c+5,nb:=q.N } else qA c true q.word q.f
theorem GA(hs:s.Run){c:Nat}{se0:Option (Nat×Nat)}(hle:q.L≤1∧q.W≤1∧q.S≤1):Sv p mn (s.set { df:=1,tk:=1,phi:=c+5,se:=se0 }) q (s.set (Om c q)) q:=by
 by_cases e:q.S=1
 ·rw [show Om c q={ df:=1,tk:=1,phi:=c+5,nb:=q.N } from if_pos e];exact Sv.lk hs ⟨rfl,rfl,rfl,rfl⟩ (fun o _ h2 _ _ _=>h2) (.inr ⟨rfl,rfl⟩) (fun ow φ e=>by cases e) (fun x h1 h2 _=>⟨h1,h2⟩) (fun _=>⟨Nat.le_refl _,.inr ⟨e,rfl⟩⟩) (Nat.le_of_ble_eq_true rfl) (Nat.le_of_ble_eq_true rfl)
 ·rw [show Om c q=qA c true q.word q.f from if_neg e];refine Sv.lk hs ⟨rfl,rfl,rfl,rfl⟩ (fun o hod hm _ _ _=>?_) (.inr ⟨rfl,rfl⟩) (fun ow φ e=>by cases e;exact .inl ⟨Nat.le_refl _,fun _=>rfl⟩) (fun x h1 h2 _=>⟨h1,h2⟩) (fun _=>⟨Nat.zero_le _,.inl rfl⟩) (Nat.le_of_ble_eq_true rfl) (Nat.le_of_ble_eq_true rfl);obtain⟨k1,k2,k3,k4,k5,k6⟩:=hm;dsimp only at k2 k3 k4 k5 k6;refine⟨?_,?_,?_,?_,?_,?_⟩ <;> (try dsimp only [cond]) <;> omega
@[reducible] def PR(x:Bool)(q:c9):c9:={ q with L:=1,N:=q.N - 1,S:=cond x 0 1,f:=q.f - 1 }
theorem za{c n0:Nat}(hn:0 < n0)(hp:lZ p mn (s.set { df:=1,tk:=1,phi:=c+5,nb:=n0 }) q):q.S=1∧q.L=0∧q.W=0∧n0≤q.N:=by
 obtain⟨o,h1,⟨k1,k2,k3,k4,k5,k6⟩,hse,h2,h3,hN,hT⟩:=hp.mu;dsimp only at k2 k3 k4 k5 k6;try dsimp only at h2 h3
 omega
theorem JL(hs:s.Run){c n0:Nat}{x:Bool}(hn:0 < n0)(hx:x=false→2≤n0)(hp:lZ p mn (s.set { df:=1,tk:=1,phi:=c+5,nb:=n0 }) q):Sv p mn (s.set { df:=1,tk:=1,phi:=c+5,nb:=n0 }) q (s.set { df:=1,hd:=1,phi:=c+4 }) (PR x q):=by
 obtain⟨g1,g2,g3,g4⟩:=za hn hp;have hf:=ww hp;try dsimp only at hf
 refine Sv.lk hs ⟨rfl,rfl,rfl,rfl⟩ (fun o hod hm hse hnb _=>?_) (.inl (by show q.f - 1 < q.f;omega)) (fun ow φ e=>by cases e) (fun x h1 h2 h3=>?_) (fun _=>⟨Nat.zero_le _,.inl rfl⟩) (Nat.le_of_ble_eq_true rfl) (Nat.le_of_ble_eq_true rfl)
 ·obtain⟨k1,k2,k3,k4,k5,k6⟩:=hm;dsimp only at k2 k3 k4 k5 k6;cases x with
  |true=>refine⟨?_,?_,?_,?_,?_,?_⟩ <;> (try dsimp only [cond]) <;> omega
  |false=>
   have:=hx rfl;refine⟨?_,?_,?_,?_,?_,?_⟩ <;> (try dsimp only [cond]) <;> omega
 ·have:=h3 g1;dsimp only at this⊢;omega
@[reducible] def FH(c:Nat)(q:c9):qB:=if q.S=1 then { df:=1,rh:=1,phi:=c+2 } else if 0 < q.N∧q.W=0 then { df:=1,ty:=1,phi:=c+3,se:=some (8 * q.N,q.f - 1) } else { df:=1,phi:=c }
theorem NK(hs:s.Run){c:Nat}(hp:lZ p mn (s.set { df:=1,hd:=1,phi:=c+4 }) q):q.L=1∧Sv p mn (s.set { df:=1,hd:=1,phi:=c+4 }) q (s.set (FH c q)) { q with L:=0,f:=q.f - 1 }:=by
 have hf:=ww hp;obtain⟨o,h1,⟨k1,k2,k3,k4,k5,k6⟩,hse,h2,h3,hN,hT⟩:=hp.mu;dsimp only at k2 k3 k4 k5 k6;try dsimp only at h2 h3
 try dsimp only at hf
 refine⟨by omega,?_⟩;by_cases e:q.S=1
 ·rw [show FH c q={ df:=1,rh:=1,phi:=c+2 } from if_pos e];refine Sv.lk hs ⟨rfl,rfl,rfl,rfl⟩ (fun o hod hm hse hnb _=>?_) (.inl (by show q.f - 1 < q.f;omega)) (fun ow φ e=>by cases e) (fun x h1 h2 _=>⟨h1,h2⟩) (fun _=>⟨Nat.zero_le _,.inl rfl⟩) (Nat.le_of_ble_eq_true rfl) (Nat.le_of_ble_eq_true rfl);obtain⟨k1,k2,k3,k4,k5,k6⟩:=hm;dsimp only at k2 k3 k4 k5 k6;refine⟨?_,?_,?_,?_,?_,?_⟩ <;> (try dsimp only) <;> omega
 ·by_cases e2:0 < q.N∧q.W=0
  ·rw [show FH c q={ df:=1,ty:=1,phi:=c+3,se:=some (8 * q.N,q.f - 1) } from(if_neg e).trans (if_pos e2)];refine Sv.lk hs ⟨rfl,rfl,rfl,rfl⟩ (fun o hod hm hse hnb _=>?_) (.inl (by show q.f - 1 < q.f;omega)) (fun ow φ e=>by cases e;exact .inl ⟨Nat.le_refl _,fun _=>by simp only [c9.word];omega⟩) (fun x h1 h2 _=>⟨h1,h2⟩) (fun _=>⟨Nat.zero_le _,.inl rfl⟩) (Nat.le_of_ble_eq_true rfl) (Nat.le_of_ble_eq_true rfl);obtain⟨k1,k2,k3,k4,k5,k6⟩:=hm;dsimp only at k2 k3 k4 k5 k6;refine⟨?_,?_,?_,?_,?_,?_⟩ <;> (try dsimp only) <;> omega
  ·rw [show FH c q={ df:=1,phi:=c } from(if_neg e).trans (if_neg e2)];refine Sv.lk hs ⟨rfl,rfl,rfl,rfl⟩ (fun o hod hm hse hnb _=>?_) (.inl (by show q.f - 1 < q.f;omega)) (fun ow φ e=>by cases e) (fun x h1 h2 _=>⟨h1,h2⟩) (fun _=>⟨Nat.zero_le _,.inl rfl⟩) (Nat.le_of_ble_eq_true rfl) (Nat.le_of_ble_eq_true rfl);obtain⟨k1,k2,k3,k4,k5,k6⟩:=hm;dsimp only at k2 k3 k4 k5 k6;refine⟨?_,?_,?_,?_,?_,?_⟩ <;> (try dsimp only) <;> omega
@[reducible] def Ol(c:Nat)(q:c9):qB:=if q.word % 8=0∧0 < q.N then { df:=1,ty:=1,phi:=c+3,se:=some (q.word,q.f) } else { df:=1,phi:=c }
theorem NC(hs:s.Run){c:Nat}{se0:Option (Nat×Nat)}(hle:q.L≤1∧q.W≤1∧q.S≤1):Sv p mn (s.set { df:=1,ty:=1,phi:=c+3,se:=se0 }) q (s.set (Ol c q)) q:=by
 obtain⟨w1,w2,w3,w4⟩:=fX hle;by_cases e:q.word % 8=0∧0 < q.N
 ·rw [show Ol c q={ df:=1,ty:=1,phi:=c+3,se:=some (q.word,q.f) } from if_pos e];exact Sv.lk hs ⟨rfl,rfl,rfl,rfl⟩ (fun o _ h2 _ _ _=>h2) (.inr ⟨rfl,rfl⟩) (fun ow φ e=>by cases e;exact .inl ⟨Nat.le_refl _,fun _=>rfl⟩) (fun x h1 h2 _=>⟨h1,h2⟩) (fun _=>⟨Nat.zero_le _,.inl rfl⟩) (Nat.le_of_ble_eq_true rfl) (Nat.le_of_ble_eq_true rfl)
 ·rw [show Ol c q={ df:=1,phi:=c } from if_neg e];refine Sv.lk hs ⟨rfl,rfl,rfl,rfl⟩ (fun o hod hm _ _ _=>?_) (.inr ⟨rfl,rfl⟩) (fun ow φ e=>by cases e) (fun x h1 h2 _=>⟨h1,h2⟩) (fun _=>⟨Nat.zero_le _,.inl rfl⟩) (Nat.le_of_ble_eq_true rfl) (Nat.le_of_ble_eq_true rfl);obtain⟨k1,k2,k3,k4,k5,k6⟩:=hm;simp only [c9.word] at e;dsimp only at k2 k3 k4 k5 k6;refine⟨?_,?_,?_,?_,?_,?_⟩ <;> (try dsimp only) <;> omega
@[reducible] def RO(q:c9):c9:={ q with N:=q.N - 1,W:=1,f:=q.f - 1 }
theorem JJ(hs:s.Run){c φ ow:Nat}(hw:q.word=ow)(h8:ow % 8=0)(hn:0 < ow)(hle:q.L≤1∧q.W≤1∧q.S≤1)(hf:0 < q.f):(RO q).word=ow - 8+2∧Sv p mn (s.set { df:=1,ty:=1,phi:=c+3,se:=some (ow,φ) }) q (s.set { df:=1,rn:=1,phi:=c+2 }) (RO q):=by
 have hw':q.L+2 * q.W+4 * q.S+8 * q.N=ow:=hw;refine⟨by simp only [c9.word];omega,?_⟩;refine Sv.lk hs ⟨rfl,rfl,rfl,rfl⟩ (fun o hod hm hse hnb _=>?_) (.inl (by show q.f - 1 < q.f;omega)) (fun ow φ e=>by cases e) (fun x h1 h2 _=>?_) (fun _=>⟨Nat.zero_le _,.inl rfl⟩) (Nat.le_of_ble_eq_true rfl) (Nat.le_of_ble_eq_true rfl)
 ·obtain⟨k1,k2,k3,k4,k5,k6⟩:=hm;dsimp only at k2 k3 k4 k5 k6;refine⟨?_,?_,?_,?_,?_,?_⟩ <;> (try dsimp only) <;> omega
 ·dsimp only;omega
theorem NF(hs:s.Run){c:Nat}:Sv p mn (s.set { df:=1,rn:=1,phi:=c+2 }) q (s.set { df:=1,phi:=c }) { q with T:=q.T+1 }:=by
 refine Sv.lk hs ⟨rfl,rfl,rfl,rfl⟩ (fun o hod hm hse hnb _=>?_) (.inr ⟨rfl,rfl⟩) (fun ow φ e=>by cases e) (fun x h1 h2 _=>⟨h1,h2⟩) (fun _=>⟨Nat.zero_le _,.inl rfl⟩) (Nat.le_of_ble_eq_true rfl) (Nat.le_of_ble_eq_true rfl);obtain⟨k1,k2,k3,k4,k5,k6⟩:=hm;dsimp only at k2 k3 k4 k5 k6;refine⟨?_,?_,?_,?_,?_,?_⟩ <;> (try dsimp only) <;> omega
theorem NG(hs:s.Run){c:Nat}:Sv p mn (s.set { df:=1,rh:=1,phi:=c+2 }) q (s.set { df:=1,phi:=c }) { q with T:=q.T+1 }:=by
 refine Sv.lk hs ⟨rfl,rfl,rfl,rfl⟩ (fun o hod hm hse hnb _=>?_) (.inr ⟨rfl,rfl⟩) (fun ow φ e=>by cases e) (fun x h1 h2 _=>⟨h1,h2⟩) (fun _=>⟨Nat.zero_le _,.inl rfl⟩) (Nat.le_of_ble_eq_true rfl) (Nat.le_of_ble_eq_true rfl);obtain⟨k1,k2,k3,k4,k5,k6⟩:=hm;dsimp only at k2 k3 k4 k5 k6;refine⟨?_,?_,?_,?_,?_,?_⟩ <;> (try dsimp only) <;> omega
end
end K
end Go.Proofs.YtlmopgkkijhllaaGreat
set_option linter.unusedVariables false
set_option maxRecDepth 20000
set_option maxHeartbeats 4000000
namespace Go.Proofs.YtlmopgkkijhllaaGreat
namespace K
open Go Go.Conc Go.Conc.Lib
section
variable {P:Program}{p:Gp}{T:Tq}{mn:Bool}{s s':Ph}{v0 v:VW}{b:Frame}{cs:List Frame}{N d i f:Nat}{df:List Deferred}{Γ:Gv}{ops:Array Oper}{rest:List Nat}{k:List Item}{o:Oper}
theorem Gp.Eff.st{w:World}{q:c9}(hok:p.Ok)(hcr:p.cr=true)(h:p.At w q){c wt:Nat}:p.Eff w (w.setCell p.stA (.int .u64 ((c * 4294967296+wt:Nat):Int))) { q with c:=c,wt:=wt }:=by
 have hlt:=(Array.getElem?_eq_some_iff.1 (h.wg hcr)).1;rw [show p.stA=⟨p.bw,0,none⟩ from rfl,JX (h.wg hcr)];have g:∀x b,b≠p.bw→(w.heap.setIfInBounds p.bw x)[b]? =w.heap[b]? :=fun x b hb=>Array.getElem?_setIfInBounds_ne fun e=>hb e.symm;refine⟨⟨fun _=>?_,fun hc=>(g _ _ (hok.wm hc).2.2.symm).trans (h.ch hc),(g _ _ (hok.wm hcr).1.symm).trans h.mu,fun e=>?_⟩,fun b hb=>g _ _ fun e=>hb (.inr ⟨hcr,.inl e⟩),by simp,rfl,rfl,rfl⟩
 ·exact Array.getElem?_setIfInBounds_self_of_lt hlt
 ·obtain⟨o,ho,hr⟩:=h.mp e;exact⟨o,(g _ _ (hok.wm hcr).2.1.symm).trans ho,hr⟩
theorem Gp.Eff.sm{w:World}{q:c9}(hok:p.Ok)(hcr:p.cr=true)(h:p.At w q){s:Nat}:p.Eff w (w.setCell p.smA (.int .u32 (s:Int))) { q with sm:=s }:=by
 have hlt:=(Array.getElem?_eq_some_iff.1 (h.wg hcr)).1;rw [show p.smA=⟨p.bw,1,none⟩ from rfl,JX (h.wg hcr)];have g:∀x b,b≠p.bw→(w.heap.setIfInBounds p.bw x)[b]? =w.heap[b]? :=fun x b hb=>Array.getElem?_setIfInBounds_ne fun e=>hb e.symm;refine⟨⟨fun _=>?_,fun hc=>(g _ _ (hok.wm hc).2.2.symm).trans (h.ch hc),(g _ _ (hok.wm hcr).1.symm).trans h.mu,fun e=>?_⟩,fun b hb=>g _ _ fun e=>hb (.inr ⟨hcr,.inl e⟩),by simp,rfl,rfl,rfl⟩
 ·exact Array.getElem?_setIfInBounds_self_of_lt hlt
 ·obtain⟨o,ho,hr⟩:=h.mp e;exact⟨o,(g _ _ (hok.wm hcr).2.1.symm).trans ho,hr⟩
theorem wb(hc:p.cr=true):p.wc (.cell p.stA):=.inr (.inr ⟨hc,.inl rfl⟩)
theorem we(hc:p.cr=true):p.wc (.cell p.smA):=.inr (.inr ⟨hc,.inr (.inl rfl)⟩)
theorem IK(hok:p.Ok)(hq:s.q=false){u:c9→Value}{W:World→c9→World}{Q:c9→c9}{S:c9→Ph}{es:c9→Array Event}
 (step:∀a,QS N df Γ a→∀w q,p.At w q→lZ p mn s q→stepG P mn (G (b.at a (.inRegion ops (i::rest)::k)) cs) w= .go (G (b.at (a.put (some d) (u q)) (.inRegion ops rest::k)) cs) (W w q) (es q))
 (eff:∀w q,p.At w q→lZ p mn s q→p.Eff w (W w q) (Q q)) (sv:∀q,lZ p mn s q→Sv p mn s q (S q) (Q q)) (ev:∀q,lZ p mn s q→mh p mn s (S q) (es q))
 (wk:∀a q,QS N df Γ a→lZ p mn s q→(q.T < (Q q).T∨q.sm < (Q q).sm∨q.cl≠(Q q).cl)→mayWake P (G (b.at a (.inRegion ops (i::rest)::k)) cs)=true) (hcl:∀q,lZ p mn s q→q.cl=true→(Q q).cl=true)
 (h:∀v' q,lZ p mn s q→((S q).q=false→Qt (WV v0 P p T mn (S q)) v' b cs N df (.inRegion ops rest::k) ((d,u q)::Γ))∧((S q).q=true→mn=false∧Qt (TQ P 1) v' b cs N df (.inRegion ops rest::k) ((d,u q)::Γ))) (hN:Nat.blt d N=true:=by exact rfl):
 Qt (WV v0 P p T mn s) v b cs N df (.inRegion ops (i::rest)::k) Γ:=fun a ha hv _=>
 po hq fun v1 q hr hat hp=>⟨S q,Q q,_,_,W v1.toWorld q,es q,step a ha _ q hat hp,eff _ q hat hp,sv q hp,ev q hp,wk a q ha hp,hcl q hp,fun e=>⟨q,undef,true,(h _ q hp).1 e _ (ha.put hN) ((hv.rely hr).put hok (eff _ q hat hp)) pR⟩,fun e=>⟨((h v1 q hp).2 e).1,((h v1 q hp).2 e).2 _ (ha.put hN)⟩⟩
@[reducible] def Jv(c:Nat):Ph:={ ac:=1,phi:=c }
@[reducible] def Nv(c:Nat):Ph:={ ac:=1,nr:=false,phi:=c }
@[reducible] def Ju(c:Nat):Ph:={ ac:=1,nr:=false,df:=1,phi:=c }
@[reducible] def FB:Ph:={ w1:=1,nr:=false,df:=1 }
@[reducible] def Pg:Ph:={ w2:=1,nr:=false,df:=1 }
theorem wZ{p:Gp}{s s':Ph}{q q':c9}(hs:s.q=false)(hmx:s.hd=0∧s.dt=0∧s.aw=0∧s.rn=0∧s.qu=0∧s.tk=0∧s.rh=0∧s.ty=0)(hmx':s'.hd=0∧s'.dt=0∧s'.aw=0∧s'.rn=0∧s'.qu=0∧s'.tk=0∧s'.rh=0∧s'.ty=0)(hse:s'.se=none)(hnb:s'.nb=0)(hphi:s'.phi≤s.phi)(hnw:s'.nw=s.nw)(hlv:s'.lv≤s.lv)
 (hsame:q'.L=q.L∧q'.W=q.W∧q'.S=q.S∧q'.N=q.N∧q'.T=q.T∧q'.f=q.f∧q'.h=q.h∧q'.cl=q.cl) (hcc:q'.c≤q.c)
 (hA:∀a b z,Ar q a z→LX a s→Q9 a b s s'→(q'.c=b.ac+z.pd)∧(z.rg=false→q'.wt=0∧q'.sm=0∧b.w1=0∧b.w2=0)∧(z.rg=true→z.pd=0∧(0 < q'.c→q'.wt=1∧q'.sm=0∧b.w1=0∧b.w2=0)∧(q'.c=0→q'.wt=b.w1∧b.w1+b.w2+q'.sm=1)))
 (hok:∀i,i≠0→s.Ok i→s'.Ok i):Sv p false s q s' q':=by
 obtain⟨e1,e2,e3,e4,e5,e6,e7,e8⟩:=hsame
 obtain⟨m1,m2,m3,m4,m5,m6,m7,m8⟩:=hmx
 obtain⟨n1,n2,n3,n4,n5,n6,n7,n8⟩:=hmx'
 refine Sv.mk (fun a b z ha hp hb _ _ _ _ _=>?_) hs (.inr ⟨e6,by simp only [c9.word];rw [e1,e2,e3,e4]⟩) (fun ow φ e=>by rw [hse] at e;cases e) (fun x h1 h2 _=>by rw [e4,e3];exact⟨h1,h2⟩) (fun _ _ _ _ _=>by rw [hnb];exact⟨Nat.zero_le _,.inl rfl⟩) (fun i hi ho=>hok i (fun e=>by subst e;simp at hi) ho) (fun e=>by cases e)
 rw [if_neg (by simp)]
 obtain⟨k1,k2,k3⟩:=hA a b z ha hp hb
 have q5:=hb.hd;have q6:=hb.dt;have q7:=hb.aw;have q8:=hb.rn;have q9:=hb.qu;have q10:=hb.tk;have q11:=hb.rh;have q12:=hb.ty;have q13:=hb.phi;have q14:=hb.lv;have q15:=hb.nw
 rw [m1,n1] at q5;rw [m2,n2] at q6;rw [m3,n3] at q7;rw [m4,n4] at q8;rw [m5,n5] at q9;rw [m6,n6] at q10;rw [m7,n7] at q11;rw [m8,n8] at q12;rw [hnw] at q15
 have r5:b.hd=a.hd:=by omega
 have r6:b.dt=a.dt:=by omega
 have r7:b.aw=a.aw:=by omega
 have r8:b.rn=a.rn:=by omega
 have r9:b.qu=a.qu:=by omega
 have r10:b.tk=a.tk:=by omega
 have r11:b.rh=a.rh:=by omega
 have r12:b.ty=a.ty:=by omega
 have r15:b.nw=a.nw:=by omega
 refine⟨k1,k2,k3,ha.pd,by rw [e8];exact ha.rgc,by rw [e8];exact ha.op,by rw [e8,r15];exact ha.nw,by rw [e1,e2,e3];exact ha.le,by rw [e1,r5];exact ha.hd,by rw [e1,e2,e3,e4,e5,r7,r8,r9,r10,r11,r12];exact ha.s0,by rw [e1,e2,e3,e4,e5,r7,r8,r9,r10,r11];exact ha.s1,by rw [e7,r6];exact ha.h,?_,?_,fun B e=>Nat.le_trans hcc (ha.cb B e)⟩
 ·
  have:=ha.f;rw [e5,e6];omega
 ·
  have:=ha.lv;omega
theorem JP{q:c9}{c:Nat}:Sv p false (Jv c) q (Nv c) q:=
 wZ rfl (by simp) (by simp) rfl rfl (Nat.le_refl _) rfl (Nat.le_refl _) ⟨rfl,rfl,rfl,rfl,rfl,rfl,rfl,rfl⟩ (Nat.le_refl _) (fun a b z ha hp hb=>by
  have h1:=hb.ac;have h2:=hb.w1;have h3:=hb.w2
  simp only [Jv,Nv] at h1 h2 h3
  rw [show b.ac=a.ac by omega,show b.w1=a.w1 by omega,show b.w2=a.w2 by omega]
  exact⟨ha.c,ha.un,ha.re⟩) (fun i hi ho=>⟨Nat.zero_le _,fun e=>(by cases e),fun _=>rfl,fun e=>(by cases e),Nat.le_refl _,fun e=>absurd e hi,fun _ _=>⟨rfl,fun e=>(by cases e)⟩⟩)
theorem JQ{q:c9}{c:Nat}:Sv p false (Nv c) q (Ju c) q:=
 wZ rfl (by simp) (by simp) rfl rfl (Nat.le_refl _) rfl (Nat.le_refl _) ⟨rfl,rfl,rfl,rfl,rfl,rfl,rfl,rfl⟩ (Nat.le_refl _) (fun a b z ha hp hb=>by
  have h1:=hb.ac;have h2:=hb.w1;have h3:=hb.w2
  simp only [Ju,Nv] at h1 h2 h3
  rw [show b.ac=a.ac by omega,show b.w1=a.w1 by omega,show b.w2=a.w2 by omega]
  exact⟨ha.c,ha.un,ha.re⟩) (fun i hi ho=>⟨Nat.zero_le _,fun e=>(by cases e),fun _=>rfl,fun e=>(by cases e),Nat.le_refl _,fun e=>absurd e hi,fun _ _=>⟨rfl,fun e=>(by cases e)⟩⟩)
@[reducible] def Gf(q:c9):Ph:=if 2≤q.c∨q.wt=0 then .quit else FB
theorem CZ{i:Nat}(hi:i≠0):Ph.quit.Ok i:=⟨Nat.zero_le _,fun e=>(by cases e),fun e=>(by cases e),fun _=>rfl,Nat.le_refl _,fun e=>absurd e hi,fun _ e=>(by cases e)⟩
theorem JR{q:c9}{c:Nat}:Sv p false (Ju c) q (Gf q) { q with c:=q.c - 1,wt:=q.wt }:=by
 by_cases e:2≤q.c∨q.wt=0
 ·rw [show Gf q= .quit from if_pos e];refine wZ rfl (by simp) (by simp) rfl rfl (Nat.zero_le _) rfl (Nat.le_of_ble_eq_true rfl) ⟨rfl,rfl,rfl,rfl,rfl,rfl,rfl,rfl⟩ (Nat.sub_le _ _) (fun a b z ha hp hb=>?_) fun i hi _=>CZ hi;have h1:=hb.ac;have h2:=hb.w1;have h3:=hb.w2;have h4:=hp.ac;have h5:=ha.c;have h6:=ha.un;have h7:=ha.re;simp only [Ju] at h1 h2 h3 h4;refine⟨by dsimp only;omega,fun hz=>?_,fun hz=>?_⟩
  ·have:=h6 hz;dsimp only;omega
  ·have:=h7 hz;dsimp only;omega
 ·rw [show Gf q=FB from if_neg e];refine wZ rfl (by simp) (by simp) rfl rfl (Nat.zero_le _) rfl (Nat.le_refl _) ⟨rfl,rfl,rfl,rfl,rfl,rfl,rfl,rfl⟩ (Nat.sub_le _ _) (fun a b z ha hp hb=>?_) fun i hi _=>⟨Nat.zero_le _,fun e=>(by cases e),fun _=>rfl,fun e=>(by cases e),Nat.le_refl _,fun e=>absurd e hi,fun _ _=>⟨rfl,fun e=>(by cases e)⟩⟩;have h1:=hb.ac;have h2:=hb.w1;have h3:=hb.w2;have h4:=hp.ac;have h5:=ha.c;have h6:=ha.un;have h7:=ha.re;simp only [Ju,FB] at h1 h2 h3 h4;refine⟨by dsimp only;omega,fun hz=>?_,fun hz=>?_⟩
  ·have:=h6 hz;dsimp only;omega
  ·have:=h7 hz;dsimp only;omega
theorem CU{q:c9}(hp:lZ p false FB q):q.c=0∧q.wt=1∧Sv p false FB q Pg { q with c:=0,wt:=0 }:=by
 obtain⟨a,z,ha,hpt,_⟩:=hp.get;have h1:=hpt.w1;have h6:=ha.un;have h7:=ha.re;simp only [FB] at h1
 have hz:z.rg=true:=by
  cases hz:z.rg with
  |true=>rfl
  |false=>have:=h6 hz;omega
 have h7:=h7 hz;have hc:q.c=0:=by omega
 refine⟨hc,by have:=h7.2.2 hc;omega,?_⟩;refine wZ rfl (by simp) (by simp) rfl rfl (Nat.le_refl _) rfl (Nat.le_refl _) ⟨rfl,rfl,rfl,rfl,rfl,rfl,rfl,rfl⟩ (Nat.zero_le _) (fun a b z ha hp hb=>?_) fun i hi _=>⟨Nat.zero_le _,fun e=>(by cases e),fun _=>rfl,fun e=>(by cases e),Nat.le_refl _,fun e=>absurd e hi,fun _ _=>⟨rfl,fun e=>(by cases e)⟩⟩;have h1:=hb.ac;have h2:=hb.w1;have h3:=hb.w2;have h4:=hp.w1;have h5:=ha.c;have h6:=ha.un;have h7:=ha.re;simp only [FB,Pg] at h1 h2 h3 h4;refine⟨by dsimp only;omega,fun hz=>?_,fun hz=>?_⟩
 ·have:=h6 hz;dsimp only;omega
 ·have:=h7 hz;dsimp only;omega
theorem JM{q:c9}:Sv p false Pg q .quit { q with sm:=q.sm+1 }:=by
 refine wZ rfl (by simp) (by simp) rfl rfl (Nat.le_refl _) rfl (Nat.le_of_ble_eq_true rfl) ⟨rfl,rfl,rfl,rfl,rfl,rfl,rfl,rfl⟩ (Nat.le_refl _) (fun a b z ha hp hb=>?_) fun i hi _=>CZ hi;have h1:=hb.ac;have h2:=hb.w1;have h3:=hb.w2;have h4:=hp.w2;have h5:=ha.c;have h6:=ha.un;have h7:=ha.re;simp only [Pg] at h1 h2 h3 h4;refine⟨by dsimp only;omega,fun hz=>?_,fun hz=>?_⟩
 ·have:=h6 hz;dsimp only;omega
 ·have:=h7 hz;dsimp only;omega
end
end K
end Go.Proofs.YtlmopgkkijhllaaGreat
set_option linter.unusedVariables false
set_option maxRecDepth 20000
set_option maxHeartbeats 4000000
namespace Go.Proofs.YtlmopgkkijhllaaGreat
namespace K
open Go Go.Conc Go.Conc.Lib
section
variable {P:Program}{L:WgLink}{p:Gp}{T:Tq}{v0 v:VW}{b:Frame}{cs:List Frame}{N d:Nat}{df:List Deferred}{Γ:Gv}
theorem vq{s s':Ph}{es:Array Event}(hcr:p.cr=true)(h1:s.df=1)(hn:s.nr=false)(hd:s.dt=0)(hd':s'.dt=0)(hn':s'.nr=false)(hj:s'.jn=false)(hdf:s'.q=true∨s'.df=1)(he:es= #[BV p.stA]∨es= #[La p.stA]∨es= #[BV p.stA,La p.stA]∨es=semEvents p.smA):mh p false s s' es where
 sh e hm:=by
  rcases he with rfl |rfl |rfl |rfl
  ·simp at hm;subst hm;exact .inl ⟨_,_,rfl,wb hcr⟩
  ·simp at hm;subst hm;exact .inl ⟨_,_,rfl,wb hcr⟩
  ·simp at hm;rcases hm with rfl |rfl <;> exact .inl ⟨_,_,rfl,wb hcr⟩
  ·simp [semEvents] at hm;rcases hm with rfl |rfl |rfl |rfl
   ·exact .inr (.inl rfl)
   ·exact .inl ⟨_,_,rfl,we hcr⟩
   ·exact .inl ⟨_,_,rfl,we hcr⟩
   ·exact .inr (.inr (.inl rfl))
 df:=by
  have:deafBehind s.df es=1:=by rw [h1];rcases he with rfl |rfl |rfl |rfl <;> rfl
  rw [this];rcases hdf with e |e
  ·rw [if_pos e]
  ·rw [e];split <;> rfl
 deaf _ j hj e hx _:=by
  rw [h1];rcases he with rfl |rfl |rfl |rfl
  ·have:j=0:=by simpa using hj
   subst this;exact Nat.one_pos
  ·have:j=0:=by simpa using hj
   subst this;exact Nat.one_pos
  ·have:j=0∨j=1:=by simp at hj;omega
   rcases this with rfl |rfl <;> exact Nat.one_pos
  ·have:j=0∨j=1∨j=2∨j=3:=by simp [semEvents] at hj;omega
   rcases this with rfl |rfl |rfl |rfl <;> exact Nat.le_of_ble_eq_true rfl
 acq e:=absurd (hd'.trans hd.symm) e
 rel e:=absurd (hd'.trans hd.symm) e
 dt:=by rw [hd'];exact Nat.zero_le _
 nr e:=by rw [hn] at e;cases e
 nr' e:=by rw [hn'] at e;cases e
 jn e:=by rw [hj] at e;cases e
 bw _ _:=⟨hcr,fun e hm b hb=>by
  rcases he with rfl |rfl |rfl |rfl
  ·simp at hm;subst hm;cases hb;rfl
  ·simp at hm;subst hm;cases hb;rfl
  ·simp at hm;rcases hm with rfl |rfl <;> (cases hb;rfl)
  ·simp [semEvents] at hm;rcases hm with rfl |rfl |rfl |rfl <;> cases hb <;> rfl⟩
theorem LQ(hok:p.Ok){c:Nat}:Wd P p.Kf false #[iL (.releaseMerge p.stA)] (WV v0 P p T false (Jv c)) (WV v0 P p T false (Nv c)):=
 tj hok rfl rfl rfl (fun q _=>JP) ⟨fun e h=>(by simp at h;subst h;exact .inr (.inr (.inr (.inr (.inl ⟨_,rfl⟩))))),rfl,fun _ j hj e he ht=>(by
  have:j=0:=by simpa using hj
  subst this;simp at he;subst he;exact absurd rfl ht),fun e=>absurd rfl e,fun e=>absurd rfl e,Nat.zero_le _,fun _ _=>⟨rfl,rfl⟩,fun e=>(by cases e),fun e=>(by cases e),fun _ e=>(by cases e)⟩
theorem LR(hok:p.Ok)(hcr:p.cr=true){c:Nat}:Wd P p.Kf false #[iL .disable] (WV v0 P p T false (Nv c)) (WV v0 P p T false (Ju c)):=
 tj hok rfl rfl rfl (fun q _=>JQ) ⟨fun e h=>(by simp at h;subst h;exact .inr (.inl rfl)),rfl,fun _ j hj e he ht=>(by
  have:j=0:=by simpa using hj
  subst this;simp at he;subst he;exact absurd rfl ht),fun e=>absurd rfl e,fun e=>absurd rfl e,Nat.zero_le _,fun e=>(by cases e),fun e=>(by cases e),fun e=>(by cases e),fun _ _=>⟨hcr,fun e h b hb=>(by simp at h;subst h;cases hb)⟩⟩
theorem G1{q:c9}{c:Nat}(hp:lZ p false (Ju c) q):1≤q.c∧q.c≤102∧q.wt≤1:=by
 obtain⟨a,z,ha,hpt,_,_,_,_,_,_,h1,h2,_⟩:=hp.get;have h3:=hpt.ac;have h4:=ha.c;simp only [Ju] at h3;omega
theorem EU{q:c9}{cc:Nat}{its:List Item}(hcc:q.c - 1=cc)(p1:1≤q.c)(p3:q.wt≤1)(v':VW)
 (h1:∀(g:Bool),iy .gtr .i32 (cc:Int) 0=some (.bool g)→(g=true∨q.wt=0)→∀hT:Mv P (fun _=>True) false (TQ P 1),Qt (TQ P 1) v' b cs N df its Γ)
 (h2:iy .gtr .i32 (cc:Int) 0=some (.bool false)→q.wt=1→∀hT:Mv P p.Kf false (WV v0 P p T false FB),Qt (WV v0 P p T false FB) v' b cs N df its Γ):
 ((Gf q).q=false→Qt (WV v0 P p T false (Gf q)) v' b cs N df its Γ)∧((Gf q).q=true→false=false∧Qt (TQ P 1) v' b cs N df its Γ):=by
 by_cases hd:2≤q.c∨q.wt=0
 ·
  rw [show Gf q= .quit from if_pos hd];refine⟨fun e=>(by cases e),fun _=>⟨rfl,?_⟩⟩;by_cases hc0:0 < cc
  ·exact h1 true (by simp [iy];omega) (.inl rfl) vf
  ·exact h1 false (by simp [iy];omega) (.inr (by omega)) vf
 ·
  rw [show Gf q=FB from if_neg hd];exact⟨fun _=>h2 (by simp [iy];omega) (by omega) (bf rfl),fun e=>(by cases e)⟩
theorem zR(H:WgLib P L)(hok:p.Ok)(hcr:p.cr=true){c0:Nat}(hq:∀v',Qr (TQ P 0) v' b cs N [] Γ):Qr (WV v0 P p T false (Jv c0)) v b cs N [dcall L.done #[.pointer (some p.stA)]] Γ:=by
 have hT:Mv P p.Kf false (WV v0 P p T false (Jv c0)):=bf rfl;refine Qr.enter (cL:=[.pointer (some p.stA)]) hT H.f_done (by kernel_rfl) rfl rfl fun c hc hk=>?_;refine qa ?_;refine Qt.call (cL:=[.pointer (some p.stA),.int .i64 (-1)]) hT rfl rfl H.f_add (by kernel_rfl) rfl rfl fun c1 hk1=>?_
 have fin1:∀v' Γ',Qr (TQ P 1) v' (base L.add) (c1::c::cs) 117 [dcall L.enable #[]] Γ':=fun v' Γ'=>
  Qr.mark Q7 (HQ H) (dj vf rfl H.f_add rfl (hk1 (TQ P 0) v' _ (lY vf (Qt.fin vf (xb vf rfl H.f_done rfl hc (hk (TQ P 0) v' (hq v')))))))
 refine qa ?_;refine Qt.cond hT true ?_;refine qa ?_;refine Qt.op hT rfl (aV (u:=.bool true) rfl rfl rfl rfl) ?_;refine qa ?_;refine Qt.cond hT true ?_;refine qa ?_;refine Qt.op hT rfl (jI rfl (mj hcr (off:=0) (n:=1) H.underlying_tWgP H.underlying_tUP H.sizeOf_tWg (by decide)) rfl) ?_;refine oM (LQ hok) (P3 H) rfl rfl rfl ?_;replace hT:Mv P p.Kf false (WV v0 P p T false (Nv c0)):=bf rfl;refine qa ?_;refine ik (LR hok hcr) (HS H) rfl rfl ?_;replace hT:Mv P p.Kf false (WV v0 P p T false (Ju c0)):=bf rfl;refine qa ?_;refine Qt.defer (cL:=[]) hT rfl rfl rfl ?_;refine qa ?_;refine vi hT (MS H) rfl rfl ?_;refine qa ?_;refine Qt.cond hT false ?_;refine qa ?_;refine Qt.op hT rfl (fR rfl rfl) ?_;refine Qt.op hT rfl (bq (k:=0) rfl (cO (n:=0) H.underlying_tWg rfl H.sizeOf_tAU) rfl) ?_;refine qa ?_;refine Qt.op hT rfl (fC (z:=18446744073709551615) rfl H.underlying_t3 H.underlying_tU64 rfl (by decide)) ?_;refine Qt.op hT rfl (Gk (z:=18446744069414584320) rfl rfl rfl (by decide) (by decide)) ?_;refine Qt.call (cL:=[.pointer (some p.stA),.int .u64 18446744069414584320]) hT rfl rfl H.f_uAdd (by kernel_rfl) rfl rfl fun c2 hk2=>?_;refine qa ?_;refine Qt.op hT rfl (fR rfl rfl) ?_;refine Qt.op hT rfl (bq (k:=0) rfl (cO (n:=0) H.underlying_tAU rfl H.sizeOf_tU64) rfl) ?_;refine qa ?_;refine IK (d:=9) hok rfl (u:=fun q=>.int .u64 (((q.c - 1) * 4294967296+q.wt:Nat):Int)) (W:=fun w q=>w.setCell p.stA (.int .u64 (((q.c - 1) * 4294967296+q.wt:Nat):Int))) (Q:=fun q=>{ q with c:=q.c - 1,wt:=q.wt }) (S:=Gf) (es:=fun q=> #[BV p.stA,La p.stA]) (fun a ha w q hat hp=>?_) (fun w q hat _=>Gp.Eff.st hok hcr hat) (fun q _=>JR) (fun q _=>?_) (fun a q _ _ e=>by rcases e with e |e |e <;> first |exact absurd e (Nat.lt_irrefl _) |exact absurd rfl e) (fun _ _=>id) fun v' q hp=>?_
 ·obtain⟨p1,p2,p3⟩:=G1 hp;have hw:IntKind.u64.wrap (((q.c * 4294967296+q.wt:Nat):Int)+18446744069414584320)=(((q.c - 1) * 4294967296+q.wt:Nat):Int):=by rw [IntKind.wrap_u64];omega
  refine(stepG_add_atomic rfl (ab rfl _) (by exact fun h=>nomatch h) rfl H.f_addU64 (by kernel_rfl) (by kernel_rfl) (by kernel_rfl) .u64 (by kernel_rfl) (ad:=p.stA) (ha.ev rfl) (ha.ev rfl) (hat.c0 hcr) (hat.f0 hcr)).trans ?_;rw [hw];rfl
 ·by_cases e:2≤q.c∨q.wt=0
  ·rw [show Gf q= .quit from if_pos e];exact vq hcr rfl rfl rfl rfl rfl rfl (.inl rfl) (.inr (.inr (.inl rfl)))
  ·rw [show Gf q=FB from if_neg e];exact vq hcr rfl rfl rfl rfl rfl rfl (.inr rfl) (.inr (.inr (.inl rfl)))
 obtain⟨p1,p2,p3⟩:=G1 hp;generalize hcc:q.c - 1=cc;have hlt:cc < 2147483648:=by omega
 refine EU hcc p1 p3 v' (fun g hg hw hT=>?_) (fun hg hw hT=>?_)
 ·rcases(show q.wt=0∨q.wt=1 by omega) with hw0 |hw0
  ·rw [hw0];refine qa ?_;refine Qt.ret hT (gQ hT rfl H.f_uAdd rfl rfl (hk2 _ _ _ ?_));refine qa ?_;refine Qt.op hT rfl (aV (u:=.int .u64 0) rfl rfl rfl (congrArg (fun z=>some (Value.int .u64 z)) (wo hlt (by decide)))) ?_;refine qb ?_;refine Qt.op hT rfl (kS (z:=cc) rfl rfl rfl (by decide) (wn hlt (by decide))) ?_;refine Qt.op hT rfl (fC (z:=cc) rfl H.underlying_tU64 H.underlying_t21 rfl (yN hlt)) ?_;refine qa ?_;refine Qt.op hT rfl (aV (u:=.int .u64 0) rfl rfl rfl (congrArg (fun z=>some (Value.int .u64 z)) (wl hlt (by decide)))) ?_;refine Qt.op hT rfl (fC (z:=0) rfl H.underlying_tU64 H.underlying_tU32 rfl rfl) ?_;refine qb ?_;refine Qt.op hT rfl (aV (u:=.bool g) rfl rfl rfl hg) ?_;cases g
   ·refine qb ?_;exact Qt.ret hT (fin1 _ _)
   ·refine qb ?_;exact Qt.ret hT (fin1 _ _)
  ·rw [hw0];have hgt:g=true:=hw.elim id fun e=>by omega
   subst hgt;refine qa ?_;refine Qt.ret hT (gQ hT rfl H.f_uAdd rfl rfl (hk2 _ _ _ ?_));refine qa ?_;refine Qt.op hT rfl (aV (u:=.int .u64 0) rfl rfl rfl (congrArg (fun z=>some (Value.int .u64 z)) (wo hlt (by decide)))) ?_;refine qb ?_;refine Qt.op hT rfl (kS (z:=cc) rfl rfl rfl (by decide) (wn hlt (by decide))) ?_;refine Qt.op hT rfl (fC (z:=cc) rfl H.underlying_tU64 H.underlying_t21 rfl (yN hlt)) ?_;refine qa ?_;refine Qt.op hT rfl (aV (u:=.int .u64 1) rfl rfl rfl (congrArg (fun z=>some (Value.int .u64 z)) (wl hlt (by decide)))) ?_;refine Qt.op hT rfl (fC (z:=1) rfl H.underlying_tU64 H.underlying_tU32 rfl rfl) ?_;refine qb ?_;refine Qt.op hT rfl (aV (u:=.bool true) rfl rfl rfl hg) ?_;refine qb ?_;exact Qt.ret hT (fin1 _ _)
 ·rw [hw];have hcc0:cc=0:=by simp [iy] at hg;omega
  subst hcc0;refine qa ?_;refine Qt.ret hT (gQ hT rfl H.f_uAdd rfl rfl (hk2 _ _ _ ?_));refine qa ?_;refine Qt.op hT rfl (aV (u:=.int .u64 0) rfl rfl rfl (congrArg (fun z=>some (Value.int .u64 z)) (wo hlt (by decide)))) ?_;refine qb ?_;refine Qt.op hT rfl (kS (z:=(0:Nat)) rfl rfl rfl (by decide) (wn hlt (by decide))) ?_;refine Qt.op hT rfl (fC (z:=(0:Nat)) rfl H.underlying_tU64 H.underlying_t21 rfl (yN hlt)) ?_;refine qa ?_;refine Qt.op hT rfl (aV (u:=.int .u64 1) rfl rfl rfl (congrArg (fun z=>some (Value.int .u64 z)) (wl hlt (by decide)))) ?_;refine Qt.op hT rfl (fC (z:=1) rfl H.underlying_tU64 H.underlying_tU32 rfl rfl) ?_;refine qb ?_;refine Qt.op hT rfl (bq (k:=0) rfl (cO (n:=0) H.underlying_tWg rfl H.sizeOf_tAU) rfl) ?_;refine Qt.call (cL:=[.pointer (some p.stA)]) hT rfl rfl H.f_uLoad (by kernel_rfl) rfl rfl fun c3 hk3=>?_;refine qb ?_;refine Qt.op hT rfl (bq (k:=0) rfl (cO (n:=0) H.underlying_tAU rfl H.sizeOf_tU64) rfl) ?_;refine pI (d:=6) hok rfl (u:=fun q=>.int .u64 1) (W:=fun w q=>w) (Q:=fun q=>q) (S:=fun _=>FB) (es:=fun _=> #[BV p.stA]) (fun _=>rfl) (fun a ha w q hat hp=>?_) (fun w q hat _=>.refl hat) (fun _ _=>.refl) (fun q _=>vq hcr rfl rfl rfl rfl rfl rfl (.inr rfl) (.inl rfl)) (fun a q _ _ e=>by rcases e with e |e |e <;> first |exact absurd e (Nat.lt_irrefl _) |exact absurd rfl e) (fun _ _=>id) fun v2 q2 hp=>?_
  ·obtain⟨p1,p2,_⟩:=CU hp;have hc0:=hat.c0 hcr;rw [p1,p2] at hc0;exact(stepG_load_atomic rfl (ab rfl _) (by exact fun h=>nomatch h) rfl H.f_loadU64 (by kernel_rfl) (by kernel_rfl) (by kernel_rfl) .u64 (by kernel_rfl) (ad:=p.stA) (ha.ev rfl) hc0).trans rfl
  clear hp;refine qb ?_;refine Qt.ret hT (gQ hT rfl H.f_uLoad rfl rfl (hk3 _ _ _ ?_));refine qb ?_;refine Qt.op hT rfl (bq (k:=0) rfl (cO (n:=0) H.underlying_tWg rfl H.sizeOf_tAU) rfl) ?_;refine Qt.call (cL:=[.pointer (some p.stA),.int .u64 0]) hT rfl rfl H.f_uStore (by kernel_rfl) rfl rfl fun c4 hk4=>?_;refine qb ?_;refine Qt.op hT rfl (bq (k:=0) rfl (cO (n:=0) H.underlying_tAU rfl H.sizeOf_tU64) rfl) ?_;refine qb ?_;refine pI (d:=8) hok rfl (u:=fun q=>.tuple #[]) (W:=fun w q=>w.setCell p.stA (.int .u64 ((0 * 4294967296+0:Nat):Int))) (Q:=fun q=>{ q with c:=0,wt:=0 }) (S:=fun _=>Pg) (es:=fun _=> #[La p.stA]) (fun _=>rfl) (fun a ha w q hat hp=>?_) (fun w q hat _=>Gp.Eff.st hok hcr hat) (fun _ hp=>(CU hp).2.2) (fun q _=>vq hcr rfl rfl rfl rfl rfl rfl (.inr rfl) (.inr (.inl rfl))) (fun a q _ _ e=>by rcases e with e |e |e <;> first |exact absurd e (Nat.lt_irrefl _) |exact absurd rfl e) (fun _ _=>id) fun v3 q3 hp3=>?_
  ·exact(stepG_store_atomic rfl (ab rfl _) (by exact fun h=>nomatch h) rfl H.f_storeU64 (by kernel_rfl) (by kernel_rfl) (by kernel_rfl) (by kernel_rfl) (ad:=p.stA) (k:=.u64) (v:=0) (ha.ev rfl) (ha.ev rfl) (hat.c0 hcr) (hat.f0 hcr)).trans rfl
  replace hT:Mv P p.Kf false (WV v0 P p T false Pg):=bf rfl;refine qb ?_;refine Qt.fin hT (dj hT rfl H.f_uStore rfl (hk4 _ _ _ ?_));refine qb ?_;refine Qt.loop hT ?_;refine qb ?_;refine Qt.op hT rfl (bq (k:=1) rfl (cO (n:=0) H.underlying_tWg rfl H.sizeOf_tU32) rfl) ?_;refine IK (d:=116) hok rfl (u:=fun q=>.tuple #[]) (W:=fun w q=>w.setCell p.smA (.int .u32 ((q.sm+1:Nat):Int))) (Q:=fun q=>{ q with sm:=q.sm+1 }) (S:=fun _=>.quit) (es:=fun _=>semEvents p.smA) (fun a ha w q hat hp=>?_) (fun w q hat _=>Gp.Eff.sm hok hcr hat) (fun _ _=>JM) (fun q _=>vq hcr rfl rfl rfl rfl rfl rfl (.inl rfl) (.inr (.inr (.inr rfl)))) (fun a _ _ _ _=>MH rfl rfl H.f_semrelease (by kernel_rfl) a) (fun _ _=>id) fun v4 q4 hp4=>⟨fun e=>(by cases e),fun _=>⟨rfl,?_⟩⟩
  ·have p3:q.sm≤1:=by obtain⟨a,z,_,_,_,_,_,_,_,_,_,_,h⟩:=hp.get;exact h
   have hw:IntKind.u32.wrap ((q.sm:Int)+1)=((q.sm+1:Nat):Int):=by rw [IntKind.wrap_u32];omega
   refine(stepG_semrelease rfl (ab rfl _) (by exact fun h=>nomatch h) rfl H.f_semrelease (by kernel_rfl) (by kernel_rfl) (by kernel_rfl) (by kernel_rfl) (ad:=p.smA) (by rw [Array.getElem?_map];exact congrArg some (ha.ev (x:=.tmp 115) rfl)) (hat.c1 hcr) (hat.f1 hcr)).trans ?_;rw [hw];rfl
  replace hT:Mv P (fun _=>True) false (TQ P 1):=vf;refine qb ?_;refine Qt.op hT rfl (aV (u:=.int .u32 0) rfl rfl rfl rfl) ?_;refine qb ?_;refine Qt.inLoop hT ?_;refine qb ?_;refine Qt.exit hT rfl ?_;exact Qt.fin hT (fin1 _ _)
end
end K
end Go.Proofs.YtlmopgkkijhllaaGreat
set_option linter.unusedVariables false
set_option maxRecDepth 20000
set_option maxHeartbeats 4000000
namespace Go.Proofs.YtlmopgkkijhllaaGreat
namespace K
open Go Go.Conc Go.Conc.Lib
@[reducible] def Ph.stt(s:Ph)(df pd:Nat)(rg:Bool)(cb:Option Nat)(al jn:Bool):Ph:={ s with df:=df,pd:=pd,rg:=rg,cb:=cb,al:=al,jn:=jn }
structure Ph.Stt(s:Ph):Prop where
 q:s.q=false
 nr:s.nr=true
 mx:s.mx=0
 dt:s.dt=0
 se:s.se=none
 nb:s.nb=0
section
variable {P:Program}{L:WgLink}{p:Gp}{T:Tq}{v0 v:VW}{s:Ph}
theorem Sv.gs{q q':c9}{df pd df' pd':Nat}{rg al jn rg' al' jn':Bool}{cb cb':Option Nat}(hs:s.Stt)
 (hsame:q'.L=q.L∧q'.W=q.W∧q'.S=q.S∧q'.N=q.N∧q'.T=q.T∧q'.f=q.f∧q'.h=q.h∧q'.cl=q.cl)
 (hA:∀a,Ar q a (s.stt df pd rg cb al jn)→q'.c=a.ac+pd'∧(rg'=false→q'.wt=0∧q'.sm=0∧a.w1=0∧a.w2=0)∧(rg'=true→pd'=0∧(0 < q'.c→q'.wt=1∧q'.sm=0∧a.w1=0∧a.w2=0)∧(q'.c=0→q'.wt=a.w1∧a.w1+a.w2+q'.sm=1))∧pd'≤1∧(rg'=true→q.cl=true)∧(∀B,cb'=some B→q'.c≤B)∧(al'=true→al=true∨(a.ac=0∧a.w1=0∧a.w2=0))):
 Sv p true (s.stt df pd rg cb al jn) q (s.stt df' pd' rg' cb' al' jn') q':=by
 obtain⟨e1,e2,e3,e4,e5,e6,e7,e8⟩:=hsame
 have hw:q'.word=q.word:=by simp only [c9.word];rw [e1,e2,e3,e4]
 refine Sv.mk (fun a b z ha hp hb hz _ _ _ _=>?_) hs.q (.inr ⟨e6,hw⟩) (fun ow φ e=>by rw [show(s.stt df' pd' rg' cb' al' jn').se=none from hs.se] at e;cases e) (fun x h1 h2 _=>by rw [e4,e3];exact⟨h1,h2⟩) (fun _ _ _ _ _=>by rw [show(s.stt df' pd' rg' cb' al' jn').nb=0 from hs.nb];exact⟨Nat.zero_le _,.inl rfl⟩) (fun i hi ho=>⟨ho.one,fun e=>⟨hs.mx,hi.1 rfl⟩,ho.lv,fun e=>?_,ho.dt,ho.main,ho.work⟩) (fun _ e=>?_)
 ·
  rw [if_pos rfl];have hz:=hz rfl;subst hz;obtain⟨k1,k2,k3,k4,k5,k6,k7⟩:=hA a ha;have r1:b.ac=a.ac:=Nat.add_right_cancel hb.ac;have r2:b.w1=a.w1:=Nat.add_right_cancel hb.w1;have r3:b.w2=a.w2:=Nat.add_right_cancel hb.w2;have r4:b.nw=a.nw:=Nat.add_right_cancel hb.nw;have r5:b.hd=a.hd:=Nat.add_right_cancel hb.hd;have r6:b.dt=a.dt:=Nat.add_right_cancel hb.dt;have r7:b.aw=a.aw:=Nat.add_right_cancel hb.aw;have r8:b.rn=a.rn:=Nat.add_right_cancel hb.rn;have r9:b.qu=a.qu:=Nat.add_right_cancel hb.qu;have r10:b.tk=a.tk:=Nat.add_right_cancel hb.tk;have r11:b.rh=a.rh:=Nat.add_right_cancel hb.rh;have r12:b.ty=a.ty:=Nat.add_right_cancel hb.ty;have r13:b.phi=a.phi:=Nat.add_right_cancel hb.phi;have r14:b.lv=a.lv:=Nat.add_right_cancel hb.lv;refine⟨by rw [r1];exact k1,by rw [r2,r3];exact k2,by rw [r2,r3];exact k3,k4,fun e=>?_,by rw [e8];exact ha.op,by rw [e8,r4];exact ha.nw,by rw [e1,e2,e3];exact ha.le,by rw [e1,r5];exact ha.hd,by rw [e1,e2,e3,e4,e5,r7,r8,r9,r10,r11,r12];exact ha.s0,by rw [e1,e2,e3,e4,e5,r7,r8,r9,r10,r11];exact ha.s1,by rw [e7,r6];exact ha.h,by rw [e5,e6,r13];exact ha.f,by rw [r14];exact ha.lv,k6⟩;rw [e8];exact e.elim k5 fun e=>ha.rgc (.inr e)
 ·
  have e:s.q=true:=e;rw [hs.q] at e;cases e
 ·
  by_cases h:al=true
  ·exact .inl h
  ·exact .inr fun a ha=>((hA a ha).2.2.2.2.2.2 e).resolve_left h
theorem mh.gs{df pd df' pd':Nat}{rg al jn rg' al' jn':Bool}{cb cb':Option Nat}{es:Array Event}(hs:s.Stt)
 (sh:∀e∈es,(∃l wr,e=⟨l,wr,true⟩∧p.wc l)∨e=iL .disable∨e=iL .enable∨(∃a,e=iL (.acquire a))∨(∃a,e=iL (.releaseMerge a))∨(true=true∧∃a,(e=iL (.read a)∨e=iL (.write a))∧p.wc (.cell a)))
 (hdf:deafBehind df es=df') (hjn:jn'=true→al'=true∧(jn=true∨(es= #[iL (.acquire p.stA)]∧df=0∧al=true))):mh p true (s.stt df pd rg cb al jn) (s.stt df' pd' rg' cb' al' jn') es where
 sh:=sh
 df:=by rw [if_neg (by rw [show(s.stt df' pd' rg' cb' al' jn').q=s.q from rfl,hs.q];simp)];exact hdf
 deaf e:=by cases e
 acq e:=absurd rfl e
 rel e:=absurd rfl e
 dt:=by show s.dt≤1;rw [hs.dt];exact Nat.zero_le _
 nr _ e:=by have e:s.nr=false:=e;rw [hs.nr] at e;cases e
 nr' h:=h
 jn:=hjn
 bw e:=by cases e
theorem kJ{q:c9}{df pd df':Nat}{rg al jn:Bool}{cb:Option Nat}{a:Su}(ha:Ar q a (s.stt df pd rg cb al jn)):q.c=a.ac+pd∧(rg=false→q.wt=0∧q.sm=0∧a.w1=0∧a.w2=0)∧(rg=true→pd=0∧(0 < q.c→q.wt=1∧q.sm=0∧a.w1=0∧a.w2=0)∧(q.c=0→q.wt=a.w1∧a.w1+a.w2+q.sm=1))∧pd≤1∧(rg=true→q.cl=true)∧(∀B,cb=some B→q.c≤B)∧(al=true→al=true∨(a.ac=0∧a.w1=0∧a.w2=0)):=
 ⟨ha.c,ha.un,ha.re,ha.pd,fun e=>ha.rgc (.inl e),ha.cb,.inl⟩
variable {df pd:Nat}{rg al jn:Bool}{cb:Option Nat}
theorem DX(hok:p.Ok)(hs:s.Stt)(hjn:jn=true→al=true):Wd P p.Kf true #[iL .disable] (WV v0 P p T true (s.stt df pd rg cb al jn)) (WV v0 P p T true (s.stt (df+1) pd rg cb al jn)):=
 tj hok hs.q hs.q rfl (fun q _=>Sv.gs hs ⟨rfl,rfl,rfl,rfl,rfl,rfl,rfl,rfl⟩ fun a ha=>kJ (df':=0) ha) (mh.gs hs (fun e h=>by simp at h;subst h;exact .inr (.inl rfl)) rfl fun e=>⟨hjn e,.inl e⟩)
theorem yo(hok:p.Ok)(hs:s.Stt)(hjn:jn=true→al=true):Wd P p.Kf true #[iL .enable] (WV v0 P p T true (s.stt (df+1) pd rg cb al jn)) (WV v0 P p T true (s.stt df pd rg cb al jn)):=
 tj hok hs.q hs.q rfl (fun q _=>Sv.gs hs ⟨rfl,rfl,rfl,rfl,rfl,rfl,rfl,rfl⟩ fun a ha=>kJ (df':=0) ha) (mh.gs hs (fun e h=>by simp at h;subst h;exact .inr (.inr (.inl rfl))) rfl fun e=>⟨hjn e,.inl e⟩)
theorem OT(hok:p.Ok)(hcr:p.cr=true)(hs:s.Stt)(hjn:jn=true→al=true):Wd P p.Kf true #[iL (.read p.smA)] (WV v0 P p T true (s.stt df pd rg cb al jn)) (WV v0 P p T true (s.stt df pd rg cb al jn)):=
 tj hok hs.q hs.q rfl (fun q _=>Sv.refl) (mh.gs hs (fun e h=>by simp at h;subst h;exact .inr (.inr (.inr (.inr (.inr ⟨rfl,_,.inl rfl,we hcr⟩))))) rfl fun e=>⟨hjn e,.inl e⟩)
theorem OS(hok:p.Ok)(hcr:p.cr=true)(hs:s.Stt)(hjn:jn=true→al=true):Wd P p.Kf true #[iL (.write p.smA)] (WV v0 P p T true (s.stt df pd rg cb al jn)) (WV v0 P p T true (s.stt df pd rg cb al jn)):=
 tj hok hs.q hs.q rfl (fun q _=>Sv.refl) (mh.gs hs (fun e h=>by simp at h;subst h;exact .inr (.inr (.inr (.inr (.inr ⟨rfl,_,.inr rfl,we hcr⟩))))) rfl fun e=>⟨hjn e,.inl e⟩)
theorem DY(hok:p.Ok)(hs:s.Stt):Wd P p.Kf true #[iL (.acquire p.stA)] (WV v0 P p T true (s.stt 0 pd rg cb true jn)) (WV v0 P p T true (s.stt 0 pd rg cb true true)):=
 tj hok hs.q hs.q rfl (fun q _=>Sv.gs hs ⟨rfl,rfl,rfl,rfl,rfl,rfl,rfl,rfl⟩ fun a ha=>kJ (df':=0) ha) (mh.gs hs (fun e h=>by simp at h;subst h;exact .inr (.inr (.inr (.inl ⟨_,rfl⟩)))) rfl fun e=>⟨rfl,.inr ⟨rfl,rfl,rfl⟩⟩)
end
section
variable {P:Program}{L:WgLink}{p:Gp}{T:Tq}{v0 v:VW}{s:Ph}{c:Frame}{cs:List Frame}{cb:Option Nat}{al jn:Bool}
theorem LJ(H:WgLib P L)(hok:p.Ok)(hcr:p.cr=true)(hs:s.Stt)(hjn:jn=true→al=true)(hk:∀v',WV v0 P p T true (s.stt 0 1 false none al jn) v' (c.finish (.tuple #[])) cs):
 Qt (WV v0 P p T true (s.stt 0 0 false none al jn)) v (base L.add) (c::cs) 117 [] [.code ((addFn L).body.getD .skip)] (ent 0 [.pointer (some p.stA),.int .i64 1]):=by
 have hT:Mv P p.Kf true (WV v0 P p T true (s.stt 0 0 false none al jn)):=bf hs.q
 refine qb ?_
 refine ik (DX hok hs hjn) (HS H) rfl rfl ?_
 replace hT:Mv P p.Kf true (WV v0 P p T true (s.stt 1 0 false none al jn)):=bf hs.q
 refine qb ?_
 refine Qt.defer (cL:=[]) hT rfl rfl rfl ?_
 refine qb ?_
 refine vi hT (MS H) rfl rfl ?_
 refine qb ?_
 refine Qt.op hT rfl (bq (k:=0) rfl (cO (n:=0) H.underlying_tWg rfl H.sizeOf_tAU) rfl) ?_
 refine qb ?_
 refine Qt.op hT rfl (fC (z:=1) rfl H.underlying_t3 H.underlying_tU64 rfl (by decide)) ?_
 refine Qt.op hT rfl (Gk (z:=4294967296) rfl rfl rfl (by decide) (by decide)) ?_
 refine Qt.call (cL:=[.pointer (some p.stA),.int .u64 4294967296]) hT rfl rfl H.f_uAdd (by kernel_rfl) rfl rfl fun c2 hk2=>?_
 refine qb ?_
 refine Qt.op hT rfl (bq (k:=0) rfl (cO (n:=0) H.underlying_tAU rfl H.sizeOf_tU64) rfl) ?_
 refine qb ?_
 refine pI (d:=9) hok hs.q (u:=fun q=>.int .u64 (((q.c+1) * 4294967296+0:Nat):Int)) (W:=fun w q=>w.setCell p.stA (.int .u64 (((q.c+1) * 4294967296+0:Nat):Int))) (Q:=fun q=>{ q with c:=q.c+1,wt:=0 }) (S:=fun _=>s.stt 1 1 false none al jn) (es:=fun _=> #[BV p.stA,La p.stA]) (fun _=>hs.q)
  (fun a ha w q hat hp=>?_) (fun w q hat _=>Gp.Eff.st hok hcr hat) (fun q hp=>?_) (fun q _=>mh.gs hs (fun e h=>?_) rfl fun e=>⟨hjn e,.inl e⟩) (fun a q _ _ e=>by rcases e with e |e |e <;> first |exact absurd e (Nat.lt_irrefl _) |exact absurd rfl e) (fun _ _=>id) fun v' q hp=>?_
 ·
  obtain⟨a',z,hA,_,hz,_,_,_,_,_,hc,_⟩:=hp.get;have hz:=hz rfl;subst hz;have hwt:=(hA.un rfl).1;have hw:IntKind.u64.wrap (((q.c * 4294967296+q.wt:Nat):Int)+4294967296)=(((q.c+1) * 4294967296+0:Nat):Int):=by rw [IntKind.wrap_u64];omega
  refine(stepG_add_atomic rfl (ab rfl _) (by exact fun h=>nomatch h) rfl H.f_addU64 (by kernel_rfl) (by kernel_rfl) (by kernel_rfl) .u64 (by kernel_rfl) (ad:=p.stA) (ha.ev rfl) (ha.ev rfl) (hat.c0 hcr) (hat.f0 hcr)).trans ?_;rw [hw];rfl
 ·
  refine Sv.gs hs ⟨rfl,rfl,rfl,rfl,rfl,rfl,rfl,rfl⟩ fun a ha=>?_;obtain⟨k1,k2,k3,k4,k5,k6,k7⟩:=kJ (df':=0) ha;exact⟨by show q.c+1=_;omega,fun _=>⟨rfl,(k2 rfl).2⟩,fun e=>(by cases e),Nat.le_refl _,fun e=>(by cases e),fun B e=>(by cases e),.inl⟩
 ·
  simp at h;rcases h with rfl |rfl <;> exact .inl ⟨_,_,rfl,wb hcr⟩
 have hlt:q.c+1 < 2147483648:=by obtain⟨_,_,_,_,_,_,_,_,_,_,hc,_⟩:=hp.get;omega
 have hpos:0 < q.c+1:=by omega
 replace hT:Mv P p.Kf true (WV v0 P p T true (s.stt 1 1 false none al jn)):=bf hs.q
 clear hp
 generalize q.c+1=cc at hlt hpos
 refine qb ?_
 refine Qt.ret hT (gQ hT rfl H.f_uAdd rfl rfl (hk2 _ _ _ ?_))
 refine qb ?_
 refine Qt.op hT rfl (aV (u:=.int .u64 0) rfl rfl rfl (congrArg (fun z=>some (Value.int .u64 z)) (wo hlt (by decide)))) ?_
 refine qb ?_
 refine Qt.op hT rfl (kS (z:=cc) rfl rfl rfl (by decide) (wn hlt (by decide))) ?_
 refine Qt.op hT rfl (fC (z:=cc) rfl H.underlying_tU64 H.underlying_t21 rfl (yN hlt)) ?_
 refine qa ?_
 refine Qt.op hT rfl (aV (u:=.int .u64 0) rfl rfl rfl (congrArg (fun z=>some (Value.int .u64 z)) (wl hlt (by decide)))) ?_
 refine Qt.op hT rfl (fC (z:=0) rfl H.underlying_tU64 H.underlying_tU32 rfl rfl) ?_
 refine qb ?_
 refine bX hT rfl (fC (z:=1) rfl H.underlying_t3 H.underlying_t21 rfl (by decide)) ?_
 have hgt:iy .gtr .i32 (cc:Int) 0=some (.bool true):=by simp [iy];omega
 rcases Decidable.em (cc=1) with h1 |h1
 ·
  refine bX hT rfl (aV (u:=.bool true) rfl rfl rfl (by simp [iy];omega)) ?_;refine qb ?_;refine Qt.op hT rfl (bq (k:=1) rfl (cO (n:=0) H.underlying_tWg rfl H.sizeOf_tU32) rfl) ?_;refine Qt.op hT rfl (jI rfl (mj hcr (off:=1) (n:=0) H.underlying_tPU32 H.underlying_tUP H.sizeOf_tU32 (by decide)) rfl) ?_;refine oM (OT hok hcr hs hjn) (R7 H) rfl rfl rfl ?_;refine qb ?_;refine Qt.op hT rfl (aV (u:=.bool true) rfl rfl rfl hgt) ?_;refine qb ?_;exact Qt.ret hT (Qr.mark (yo hok hs hjn) (HQ H) (dj (bf hs.q) rfl H.f_add rfl (hk _)))
 ·
  refine bX hT rfl (aV (u:=.bool false) rfl rfl rfl (by simp [iy];omega)) ?_;refine qb ?_;refine Qt.op hT rfl (aV (u:=.bool true) rfl rfl rfl hgt) ?_;refine qb ?_;exact Qt.ret hT (Qr.mark (yo hok hs hjn) (HQ H) (dj (bf hs.q) rfl H.f_add rfl (hk _)))
end
end K
end Go.Proofs.YtlmopgkkijhllaaGreat
set_option linter.unusedVariables false
set_option maxRecDepth 20000
set_option maxHeartbeats 4000000
namespace Go.Proofs.YtlmopgkkijhllaaGreat
namespace K
open Go Go.Conc Go.Conc.Lib
def yM(L:WgLink):Code:=match (waitFn L).body with
 |some (.seq _ (.block _ (.loop b)))=>b
 |_=>.skip
section
variable {P:Program}{L:WgLink}{p:Gp}{T:Tq}{v0 v:VW}{s:Ph}{c:Frame}{cs:List Frame}{cb:Option Nat}{N d i:Nat}{df:List Deferred}{Γ:Gv}{ops:Array Oper}{rest:List Nat}{k:List Item}{b:Frame}
theorem xk(hcr:p.cr=true):∀e∈ #[BV p.stA],(∃l wr,e=⟨l,wr,true⟩∧p.wc l)∨e=iL .disable∨e=iL .enable∨(∃a,e=iL (.acquire a))∨(∃a,e=iL (.releaseMerge a))∨(true=true∧∃a,(e=iL (.read a)∨e=iL (.write a))∧p.wc (.cell a)):=fun e h=>by
 simp at h;subst h;exact .inl ⟨_,_,rfl,wb hcr⟩
theorem LO(H:WgLib P L)(hok:p.Ok)(hcr:p.cr=true)(hs:s.Stt){al:Bool}(hk:∀v' cc,(∀B,cb=some B→cc≤B)→cc < 2147483648→WV v0 P p T true (if cc=0 then s.stt 1 0 false (some 0) true false else s.stt 1 0 false (some cc) al false) v' (c.finish (.int .u64 ((cc * 4294967296+0:Nat):Int))) cs):
 Qt (WV v0 P p T true (s.stt 1 0 false cb al false)) v (base L.uLoad) (c::cs) 7 [] [.code ((uLoadFn L).body.getD .skip)] (ent 0 [.pointer (some p.stA)]):=by
 have hT:Mv P p.Kf true (WV v0 P p T true (s.stt 1 0 false cb al false)):=bf hs.q
 refine qb ?_
 refine Qt.op hT rfl (bq (k:=0) rfl (cO (n:=0) H.underlying_tAU rfl H.sizeOf_tU64) rfl) ?_
 refine pI (d:=6) hok hs.q (u:=fun q=>.int .u64 ((q.c * 4294967296+0:Nat):Int)) (W:=fun w q=>w) (Q:=fun q=>q) (S:=fun q=>if q.c=0 then s.stt 1 0 false (some 0) true false else s.stt 1 0 false (some q.c) al false) (es:=fun _=> #[BV p.stA]) (fun q=>by split <;> exact hs.q)
  (fun a ha w q hat hp=>?_) (fun w q hat _=>.refl hat) (fun q hp=>?_) (fun q _=>?_) (fun a q _ _ e=>by rcases e with e |e |e <;> first |exact absurd e (Nat.lt_irrefl _) |exact absurd rfl e) (fun _ _=>id) fun v' q hp=>?_
 ·
  obtain⟨a',z,hA,_,hz,_⟩:=hp.get;have hz:=hz rfl;subst hz;have hwt:=(hA.un rfl).1;have hc0:=hat.c0 hcr;rw [hwt] at hc0;exact(stepG_load_atomic rfl (ab rfl _) (by exact fun h=>nomatch h) rfl H.f_loadU64 (by kernel_rfl) (by kernel_rfl) (by kernel_rfl) .u64 (by kernel_rfl) (ad:=p.stA) (ha.ev rfl) hc0).trans rfl
 ·
  by_cases e:q.c=0
  ·simp only [if_pos e];refine Sv.gs hs ⟨rfl,rfl,rfl,rfl,rfl,rfl,rfl,rfl⟩ fun a ha=>?_;obtain⟨k1,k2,k3,k4,k5,k6,k7⟩:=kJ (df':=0) ha;exact⟨k1,k2,k3,k4,k5,fun B e'=>(by cases e';omega),fun _=>.inr ⟨by omega,(k2 rfl).2.2⟩⟩
  ·simp only [if_neg e];refine Sv.gs hs ⟨rfl,rfl,rfl,rfl,rfl,rfl,rfl,rfl⟩ fun a ha=>?_;obtain⟨k1,k2,k3,k4,k5,k6,k7⟩:=kJ (df':=0) ha;exact⟨k1,k2,k3,k4,k5,fun B e'=>(by cases e';exact Nat.le_refl _),.inl⟩
 ·
  by_cases e:q.c=0
  ·simp only [if_pos e];exact mh.gs hs (xk hcr) rfl fun e=>(by cases e)
  ·simp only [if_neg e];exact mh.gs hs (xk hcr) rfl fun e=>(by cases e)
 have hb:(∀B,cb=some B→q.c≤B)∧q.c≤102:=by
  obtain⟨a',z,hA,_,hz,_,_,_,_,_,hc,_⟩:=hp.get;have hz:=hz rfl;subst hz;exact⟨hA.cb,hc⟩
 generalize q.c=cc at hb
 have hT:Mv P p.Kf true (WV v0 P p T true (if cc=0 then s.stt 1 0 false (some 0) true false else s.stt 1 0 false (some cc) al false)):=bf (by split <;> exact hs.q)
 refine qb ?_
 exact Qt.ret hT (gQ hT rfl H.f_uLoad rfl rfl (hk _ _ hb.1 (by omega)))
theorem IL(H:WgLib P L)(hok:p.Ok)(hcr:p.cr=true)(hs:s.Stt){al:Bool}(hk:∀v',WV v0 P p T true (s.stt 1 0 false (some 0) al false) v' (c.finish (.int .u64 0)) cs):
 Qt (WV v0 P p T true (s.stt 1 0 false (some 0) al false)) v (base L.uLoad) (c::cs) 7 [] [.code ((uLoadFn L).body.getD .skip)] (ent 0 [.pointer (some p.stA)]):=by
 have hT:Mv P p.Kf true (WV v0 P p T true (s.stt 1 0 false (some 0) al false)):=bf hs.q
 refine qb ?_
 refine Qt.op hT rfl (bq (k:=0) rfl (cO (n:=0) H.underlying_tAU rfl H.sizeOf_tU64) rfl) ?_
 refine pI (d:=6) hok hs.q (u:=fun q=>.int .u64 0) (W:=fun w q=>w) (Q:=fun q=>q) (S:=fun q=>s.stt 1 0 false (some 0) al false) (es:=fun _=> #[BV p.stA]) (fun q=>hs.q)
  (fun a ha w q hat hp=>?_) (fun w q hat _=>.refl hat) (fun q hp=>Sv.refl) (fun q _=>mh.gs hs (xk hcr) rfl fun e=>(by cases e)) (fun a q _ _ e=>by rcases e with e |e |e <;> first |exact absurd e (Nat.lt_irrefl _) |exact absurd rfl e) (fun _ _=>id) fun v' q hp=>?_
 ·
  obtain⟨a',z,hA,_,hz,_⟩:=hp.get;have hz:=hz rfl;subst hz;have hwt:=(hA.un rfl).1;have hc:q.c=0:=Nat.le_zero.1 (hA.cb 0 rfl);have hc0:=hat.c0 hcr;rw [hwt,hc] at hc0;exact(stepG_load_atomic rfl (ab rfl _) (by exact fun h=>nomatch h) rfl H.f_loadU64 (by kernel_rfl) (by kernel_rfl) (by kernel_rfl) .u64 (by kernel_rfl) (ad:=p.stA) (ha.ev rfl) hc0).trans rfl
 refine qb ?_
 exact Qt.ret hT (gQ hT rfl H.f_uLoad rfl rfl (hk _))
theorem OU(H:WgLib P L)(hok:p.Ok)(hcr:p.cr=true)(hs:s.Stt)(hcd:s.cd=true){cc:Nat}{al:Bool}(hcc:0 < cc)(hk1:∀v',WV v0 P p T true (s.stt 1 0 true (some cc) al false) v' (c.finish (.bool true)) cs)(hk2:∀v',WV v0 P p T true (s.stt 1 0 false (some (cc - 1)) al false) v' (c.finish (.bool false)) cs):
 Qt (WV v0 P p T true (s.stt 1 0 false (some cc) al false)) v (base L.uCas) (c::cs) 13 [] [.code ((uCasFn L).body.getD .skip)] (ent 0 [.pointer (some p.stA),.int .u64 ((cc * 4294967296+0:Nat):Int),.int .u64 ((cc * 4294967296+1:Nat):Int)]):=by
 have hT:Mv P p.Kf true (WV v0 P p T true (s.stt 1 0 false (some cc) al false)):=bf hs.q
 refine qb ?_
 refine Qt.op hT rfl (bq (k:=0) rfl (cO (n:=0) H.underlying_tAU rfl H.sizeOf_tU64) rfl) ?_
 refine qb ?_
 refine pI (d:=12) hok hs.q (u:=fun q=>.bool (decide (q.c=cc))) (W:=fun w q=>if q.c=cc then w.setCell p.stA (.int .u64 ((cc * 4294967296+1:Nat):Int)) else w) (Q:=fun q=>if q.c=cc then { q with c:=cc,wt:=1 } else q) (S:=fun q=>if q.c=cc then s.stt 1 0 true (some cc) al false else s.stt 1 0 false (some (cc - 1)) al false) (es:=fun q=>if q.c=cc then #[BV p.stA,La p.stA] else #[BV p.stA]) (fun q=>by split <;> exact hs.q)
  (fun a ha w q hat hp=>?_) (fun w q hat _=>?_) (fun q hp=>?_) (fun q _=>?_) (fun a q _ _ e=>?_) (fun q _ e=>?_) fun v' q hp=>?_
 ·
  obtain⟨a',z,hA,_,hz,_⟩:=hp.get;have hz:=hz rfl;subst hz;have hwt:=(hA.un rfl).1;have hc0:=hat.c0 hcr;rw [hwt] at hc0;by_cases e:q.c=cc
  ·simp only [if_pos e,e,decide_true];rw [e] at hc0;exact(stepG_cas_hit rfl (ab rfl _) (by exact fun h=>nomatch h) rfl H.f_casU64 (by kernel_rfl) (by kernel_rfl) (by kernel_rfl) .u64 (by kernel_rfl) (ad:=p.stA) (ha.ev rfl) (ha.ev rfl) (ha.ev rfl) hc0 (hat.f0 hcr)).trans rfl
  ·simp only [if_neg e,decide_eq_false e];exact(stepG_cas_miss rfl (ab rfl _) (by exact fun h=>nomatch h) rfl H.f_casU64 (by kernel_rfl) (by kernel_rfl) (by kernel_rfl) .u64 (by kernel_rfl) (ad:=p.stA) (ha.ev rfl) (ha.ev rfl) (ha.ev rfl) hc0 (hat.f0 hcr) (by omega)).trans rfl
 ·
  split
  ·exact Gp.Eff.st hok hcr hat
  ·exact .refl hat
 ·
  by_cases e:q.c=cc
  ·simp only [if_pos e];refine Sv.gs hs ⟨rfl,rfl,rfl,rfl,rfl,rfl,rfl,rfl⟩ fun a ha=>?_;have hcl:=ha.rgc (.inr hcd);obtain⟨k1,k2,k3,k4,k5,k6,k7⟩:=kJ (df':=0) ha;exact⟨by show cc=_;omega,fun e=>(by cases e),fun _=>⟨rfl,fun _=>⟨rfl,(k2 rfl).2⟩,fun e'=>absurd (show cc=0 from e') (by omega)⟩,k4,fun _=>hcl,fun B e'=>(by cases e';exact Nat.le_refl _),.inl⟩
  ·simp only [if_neg e];refine Sv.gs hs ⟨rfl,rfl,rfl,rfl,rfl,rfl,rfl,rfl⟩ fun a ha=>?_;obtain⟨k1,k2,k3,k4,k5,k6,k7⟩:=kJ (df':=0) ha;exact⟨k1,k2,k3,k4,k5,fun B e'=>(by cases e';have:=k6 cc rfl;omega),.inl⟩
 ·
  by_cases e:q.c=cc
  ·simp only [if_pos e];exact mh.gs hs (fun e h=>by simp at h;rcases h with rfl |rfl <;> exact .inl ⟨_,_,rfl,wb hcr⟩) rfl fun e=>(by cases e)
  ·simp only [if_neg e];exact mh.gs hs (xk hcr) rfl fun e=>(by cases e)
 ·
  exfalso;split at e <;> rcases e with e |e |e <;> first |exact absurd e (Nat.lt_irrefl _) |exact absurd rfl e
 ·
  split <;> exact e
 by_cases e:q.c=cc
 ·
  simp only [if_pos e,decide_eq_true e];replace hT:Mv P p.Kf true (WV v0 P p T true (s.stt 1 0 true (some cc) al false)):=bf hs.q;refine qb ?_;exact Qt.ret hT (gQ hT rfl H.f_uCas rfl rfl (hk1 _))
 ·
  simp only [if_neg e,decide_eq_false e];replace hT:Mv P p.Kf true (WV v0 P p T true (s.stt 1 0 false (some (cc - 1)) al false)):=bf hs.q;refine qb ?_;exact Qt.ret hT (gQ hT rfl H.f_uCas rfl rfl (hk2 _))
theorem LP(hok:p.Ok)(hcr:p.cr=true)(hs:s.Stt){al:Bool}(h0:∀a,QS N df Γ a→∀w q,p.At w q→q.sm=0→stepG P true (G (b.at a (.inRegion ops (i::rest)::k)) cs) w= .go { G (b.at a (.inRegion ops (i::rest)::k)) cs with status:=.blocked } w #[])
 (h1:∀a,QS N df Γ a→∀w q,p.At w q→q.sm=1→stepG P true (G (b.at a (.inRegion ops (i::rest)::k)) cs) w= .go (G (b.at (a.put (some d) (.tuple #[])) (.inRegion ops rest::k)) cs) (w.setCell p.smA (.int .u32 ((0:Nat):Int))) (semEvents p.smA))
 (h2:∀v',Qt (WV v0 P p T true (s.stt 1 0 false (some 0) true false)) v' b cs N df (.inRegion ops rest::k) ((d,.tuple #[])::Γ)) (hN:Nat.blt d N=true:=by exact rfl):Qt (WV v0 P p T true (s.stt 1 0 true cb al false)) v b cs N df (.inRegion ops (i::rest)::k) Γ:=fun a ha hv _=>by
 refine .of ⟨hs.q,.inr (.inr (.inl ⟨.inr rfl,fun v1 q hr hat hp=>⟨fun hb'=>?_,fun hb'=>?_⟩⟩))⟩
 ·
  have hT:q.sm=0:=hb'.elim (fun e=>by
   have e1:s.qu=1:=e.1
   have:=hs.mx
   simp only [Ph.mx] at this
   omega) And.right
  exact h0 a ha _ q hat hT
 ·
  obtain⟨a',z,hA,_,hz,_,_,_,_,_,_,_,hsm⟩:=hp.get
  have hz:=hz rfl
  subst hz
  have hne:q.sm≠0:=fun e=>hb' (.inr ⟨rfl,e⟩)
  have hre:=hA.re rfl
  have hc:q.c=0:=by
   rcases Nat.eq_zero_or_pos q.c with e |e
   ·exact e
   ·exact absurd (hre.2.1 e).2.1 hne
  have heff:p.Eff v1.toWorld (v1.toWorld.setCell p.smA (.int .u32 ((0:Nat):Int))) { q with sm:=0 }:=Gp.Eff.sm hok hcr hat;refine⟨s.stt 1 0 false (some 0) true false,{ q with sm:=0 },_,_,_,semEvents p.smA,h1 a ha _ q hat (by omega),heff,?_,mh.gs hs (fun e h=>?_) rfl fun e=>(by cases e),fun e=>?_,id,fun _=>⟨q,undef,true,h2 _ _ (ha.put hN) ((hv.rely hr).put hok heff) pR⟩,fun e=>?_⟩
  ·refine Sv.gs hs ⟨rfl,rfl,rfl,rfl,rfl,rfl,rfl,rfl⟩ fun a ha=>?_;obtain⟨k1,k2,k3,k4,k5,k6,k7⟩:=kJ (df':=0) ha;have k3:=(k3 rfl).2.2 hc;refine⟨k1,fun _=>?_,fun e=>(by cases e),k4,fun e=>(by cases e),fun B e'=>(by cases e';show q.c≤0;omega),fun _=>.inr ?_⟩
   ·dsimp only;omega
   ·omega
  ·simp [semEvents] at h;rcases h with rfl |rfl |rfl |rfl
   ·exact .inr (.inl rfl)
   ·exact .inl ⟨_,_,rfl,we hcr⟩
   ·exact .inl ⟨_,_,rfl,we hcr⟩
   ·exact .inr (.inr (.inl rfl))
  ·rcases e with e |e |e
   ·exact absurd e (Nat.lt_irrefl _)
   ·exact absurd e (Nat.not_lt_zero _)
   ·exact absurd rfl e
  ·have e:s.q=true:=e;rw [hs.q] at e;cases e
end
section
variable {P:Program}{L:WgLink}{p:Gp}{T:Tq}{v0:VW}{s:Ph}{c:Frame}{cs:List Frame}
theorem Et(H:WgLib P L)(hok:p.Ok)(hcr:p.cr=true)(hs:s.Stt)(hcd:s.cd=true){al:Bool}(hk:∀v',WV v0 P p T true (s.stt 0 0 false (some 0) true true) v' (c.finish (.tuple #[])) cs):∀(B:Nat) v Γ,lv Γ 0=some (.pointer (some p.stA))→
 Qt (WV v0 P p T true (s.stt 1 0 false (some B) al false)) v (base L.wait) (c::cs) 84 [] [.code (yM L),.inLoop (yM L),.inBlock 0] Γ:=fun B=>by
 induction B using Nat.strongRecOn with
 |_ B ih=>
 intro v Γ h0
 have hT:Mv P p.Kf true (WV v0 P p T true (s.stt 1 0 false (some B) al false)):=bf hs.q
 refine qa ?_
 refine Qt.op hT rfl (dy rfl h0) ?_
 refine qb ?_
 refine Qt.op hT rfl (bq (k:=0) rfl (cO (n:=0) H.underlying_tWg rfl H.sizeOf_tAU) rfl) ?_
 refine Qt.call (cL:=[.pointer (some p.stA)]) hT rfl rfl H.f_uLoad (by kernel_rfl) rfl rfl fun c1 hk1=>?_
 refine LO H hok hcr hs fun v' cc hB hlt=>?_
 have hB:=hB B rfl
 rcases Nat.eq_zero_or_pos cc with hz |hpos
 ·
  subst hz
  rw [if_pos rfl]
  replace hT:Mv P p.Kf true (WV v0 P p T true (s.stt 1 0 false (some 0) true false)):=bf hs.q
  refine hk1 _ _ _ ?_
  refine qb ?_
  refine Qt.op hT rfl (kS (z:=(0:Nat)) rfl rfl rfl (by decide) (wn (by decide) (by decide))) ?_
  refine Qt.op hT rfl (fC (z:=(0:Nat)) rfl H.underlying_tU64 H.underlying_t21 rfl rfl) ?_
  refine qb ?_
  refine Qt.op hT rfl (aV (u:=.int .u64 0) rfl rfl rfl (congrArg (fun z=>some (Value.int .u64 z)) (wl (by decide) (by decide)))) ?_
  refine Qt.op hT rfl (fC (z:=0) rfl H.underlying_tU64 H.underlying_tU32 rfl rfl) ?_
  refine qb ?_
  refine ik (yo hok hs (fun e=>by cases e)) (HQ H) rfl rfl ?_
  replace hT:Mv P p.Kf true (WV v0 P p T true (s.stt 0 0 false (some 0) true false)):=bf hs.q
  refine qa ?_
  refine Qt.op hT rfl (dy rfl h0) ?_
  refine Qt.op hT rfl (jI rfl (mj hcr (off:=0) (n:=1) H.underlying_tWgP H.underlying_tUP H.sizeOf_tWg (by decide)) rfl) ?_
  refine oM (DY hok hs) (MU H) rfl rfl rfl ?_
  replace hT:Mv P p.Kf true (WV v0 P p T true (s.stt 0 0 false (some 0) true true)):=bf hs.q
  refine qb ?_
  refine bX hT rfl (aV (u:=.int .u64 0) rfl rfl rfl (congrArg (fun z=>some (Value.int .u64 z)) (wo (by decide) (by decide)))) ?_
  refine qb ?_
  exact Qt.ret hT (dj hT rfl H.f_wait rfl (hk _))
 ·
  rw [if_neg (by omega)]
  replace hT:Mv P p.Kf true (WV v0 P p T true (s.stt 1 0 false (some cc) al false)):=bf hs.q
  refine hk1 _ _ _ ?_
  refine qb ?_
  refine Qt.op hT rfl (kS (z:=cc) rfl rfl rfl (by decide) (wn hlt (by decide))) ?_
  refine Qt.op hT rfl (fC (z:=cc) rfl H.underlying_tU64 H.underlying_t21 rfl (yN hlt)) ?_
  refine qa ?_
  refine Qt.op hT rfl (aV (u:=.int .u64 0) rfl rfl rfl (congrArg (fun z=>some (Value.int .u64 z)) (wl hlt (by decide)))) ?_
  refine Qt.op hT rfl (fC (z:=0) rfl H.underlying_tU64 H.underlying_tU32 rfl rfl) ?_
  refine qa ?_
  refine Qt.op hT rfl (aV (u:=.bool false) rfl rfl rfl (by simp [iy];omega)) ?_
  refine qb ?_
  refine Qt.op hT rfl (dy rfl h0) ?_
  refine qb ?_
  refine Qt.op hT rfl (bq (k:=0) rfl (cO (n:=0) H.underlying_tWg rfl H.sizeOf_tAU) rfl) ?_
  refine qa ?_
  refine Qt.op hT rfl (aV (u:=.int .u64 ((cc * 4294967296+1:Nat):Int)) rfl rfl rfl (by simp only [iy,IntKind.wrap_u64];congr 2;omega)) ?_
  refine Qt.call (cL:=[.pointer (some p.stA),.int .u64 ((cc * 4294967296+0:Nat):Int),.int .u64 ((cc * 4294967296+1:Nat):Int)]) hT rfl rfl H.f_uCas (by kernel_rfl) rfl rfl fun c2 hk2=>?_
  refine OU H hok hcr hs hcd hpos (fun v'=>?_) (fun v'=>?_)
  ·
   replace hT:Mv P p.Kf true (WV v0 P p T true (s.stt 1 0 true (some cc) al false)):=bf hs.q
   refine hk2 _ _ _ ?_
   refine qb ?_
   refine Qt.op hT rfl (dy rfl h0) ?_
   refine qb ?_
   refine Qt.op hT rfl (bq (k:=1) rfl (cO (n:=0) H.underlying_tWg rfl H.sizeOf_tU32) rfl) ?_
   refine Qt.op hT rfl (jI rfl (mj hcr (off:=1) (n:=0) H.underlying_tPU32 H.underlying_tUP H.sizeOf_tU32 (by decide)) rfl) ?_
   refine oM (OS hok hcr hs (fun e=>by cases e)) (R2 H) rfl rfl rfl ?_
   refine qb ?_
   refine Qt.op hT rfl (aV (u:=.int .u64 0) rfl rfl rfl (congrArg (fun z=>some (Value.int .u64 z)) (wo hlt (by decide)))) ?_
   refine qb ?_
   refine Qt.op hT rfl (dy rfl h0) ?_
   refine qb ?_
   refine Qt.op hT rfl (bq (k:=1) rfl (cO (n:=0) H.underlying_tWg rfl H.sizeOf_tU32) rfl) ?_
   refine qa ?_
   refine LP (d:=72) hok hcr hs (fun a ha w q hat hq=>?_) (fun a ha w q hat hq=>?_) fun v'=>?_
   ·
    have h1:=hat.c1 hcr
    rw [hq] at h1
    exact(stepG_semacquire_wait rfl (ab rfl _) rfl H.f_semacquire (by kernel_rfl) (by kernel_rfl) (by kernel_rfl) (by kernel_rfl) (ad:=p.smA) (by rw [Array.getElem?_map];exact congrArg some (ha.ev (x:=.tmp 70) rfl)) h1).trans rfl
   ·
    have h1:=hat.c1 hcr
    rw [hq] at h1
    exact(stepG_semacquire rfl (ab rfl _) (by exact fun h=>nomatch h) rfl H.f_semacquire (by kernel_rfl) (by kernel_rfl) (by kernel_rfl) (by kernel_rfl) (ad:=p.smA) (by rw [Array.getElem?_map];exact congrArg some (ha.ev (x:=.tmp 70) rfl)) h1 (by decide) (hat.f1 hcr)).trans rfl
   replace hT:Mv P p.Kf true (WV v0 P p T true (s.stt 1 0 false (some 0) true false)):=bf hs.q
   refine qa ?_
   refine Qt.op hT rfl (dy rfl h0) ?_
   refine qb ?_
   refine Qt.op hT rfl (bq (k:=0) rfl (cO (n:=0) H.underlying_tWg rfl H.sizeOf_tAU) rfl) ?_
   refine Qt.call (cL:=[.pointer (some p.stA)]) hT rfl rfl H.f_uLoad (by kernel_rfl) rfl rfl fun c3 hk3=>?_
   refine IL H hok hcr hs fun v3=>hk3 _ _ _ ?_
   refine qb ?_
   refine ik (yo hok hs (fun e=>by cases e)) (HQ H) rfl rfl ?_
   replace hT:Mv P p.Kf true (WV v0 P p T true (s.stt 0 0 false (some 0) true false)):=bf hs.q
   refine qa ?_
   refine Qt.op hT rfl (dy rfl h0) ?_
   refine Qt.op hT rfl (jI rfl (mj hcr (off:=0) (n:=1) H.underlying_tWgP H.underlying_tUP H.sizeOf_tWg (by decide)) rfl) ?_
   refine oM (DY hok hs) (MU H) rfl rfl rfl ?_
   replace hT:Mv P p.Kf true (WV v0 P p T true (s.stt 0 0 false (some 0) true true)):=bf hs.q
   refine qb ?_
   exact Qt.ret hT (dj hT rfl H.f_wait rfl (hk _))
  ·
   refine hk2 _ _ _ ?_
   replace hT:Mv P p.Kf true (WV v0 P p T true (s.stt 1 0 false (some (cc - 1)) al false)):=bf hs.q
   refine qb ?_
   refine Qt.inLoop hT ?_
   exact ih (cc - 1) (by omega) _ _ h0
theorem Gi(H:WgLib P L)(hok:p.Ok)(hcr:p.cr=true)(hs:s.Stt)(hcd:s.cd=true){v:VW}{al:Bool}(hk:∀v',WV v0 P p T true (s.stt 0 0 false (some 0) true true) v' (c.finish (.tuple #[])) cs):
 Qt (WV v0 P p T true (s.stt 0 0 false (some 102) al false)) v (base L.wait) (c::cs) 84 [] [.code ((waitFn L).body.getD .skip)] (ent 0 [.pointer (some p.stA)]):=by
 have hT:Mv P p.Kf true (WV v0 P p T true (s.stt 0 0 false (some 102) al false)):=bf hs.q
 refine qb ?_
 refine ik (DX hok hs (fun e=>by cases e)) (HS H) rfl rfl ?_
 replace hT:Mv P p.Kf true (WV v0 P p T true (s.stt 1 0 false (some 102) al false)):=bf hs.q
 refine qb ?_
 refine Qt.loop hT ?_
 exact Et H hok hcr hs hcd hk 102 _ _ rfl
end
end K
end Go.Proofs.YtlmopgkkijhllaaGreat
set_option linter.unusedVariables false
namespace Go.Proofs.YtlmopgkkijhllaaGreat
namespace K
open Go Go.Conc
theorem ij{b:Nat}{R:Obj→Prop}{Δ:List D}{x:Nat}:ap (.inv b R::Δ) x↔x=b∨ap Δ x:=by
 constructor
 ·rintro⟨e,he,hx⟩;rcases List.mem_cons.1 he with rfl |he
  ·exact .inl (Option.some.inj hx).symm
  ·exact .inr ⟨e,he,hx⟩
 ·rintro(rfl |⟨e,he,hx⟩)
  ·exact⟨_,List.mem_cons_self,rfl⟩
  ·exact⟨e,List.mem_cons_of_mem _ he,hx⟩
theorem jD{p:Gp}{v:VW}(h:v.A p.bk):v.ub p=v:=by
 have:(fun b=>v.A b∨b=p.bk)=v.A:=by
  funext b;exact propext ⟨fun x=>x.elim id fun e=>e▸h,.inl⟩
 show(⟨v.toWorld,fun b=>v.A b∨b=p.bk,v.Z⟩:VW)=v;rw [this]
section
variable {P:Program}{p:Gp}{T:Tq}{M M':Md P}{N:Nat}{S0:FS}{w0:VW}{X:Nat→Prop}{rd:Option Nat}{df df':List Deferred}{Γ Γ':Ga}{Δ Δ':List D}{a a':Act}{v v':VW}
structure Hd(p:Gp)(S0:FS)(w0:VW)(X:Nat→Prop)(Δ:List D)(S:FS)(v:VW):Prop where
 st:bp X S0 w0 S (v.ub p)
 ft:∀b,ap Δ b→X b∨w0.heap.size≤b
 lt:p.bk < v.heap.size
theorem D4(st:St ⟨P,N,S0,w0,X,rd,df,M⟩ Γ Δ a (v.ub p))(hA:¬v.A p.bk)(hR:∃o,v.heap[p.bk]? =some o∧p.R o)(hZ:¬v.Z p.bk):
 ∃S,Hd p S0 w0 X Δ S v∧St ⟨P,N,S,v,ap (.inv p.bk p.R::Δ),rd,df,M'⟩ Γ (.inv p.bk p.R::Δ) a v:=by
 obtain⟨h1,h2,S,h3,h4,h5,h6⟩:=st
 have hlt:p.bk < v.heap.size:=h5.domA _ (.inr rfl)
 have hS:¬S p.bk:=fun h=>h5.sees _ h (.inr rfl)
 have hf:¬ap Δ p.bk:=fun h=>(h5.far _ h).1 (.inr rfl)
 refine⟨S,⟨h3,h4,hlt⟩,h1,h2,S,bp.refl h3.dom,fun b hb=>.inl hb,⟨fun d hd=>?_,fun b hb=>?_,List.pairwise_cons.2 ⟨fun d hd b e e'=>?_,h5.apart⟩,fun b hb=>?_,fun b hb hA'=>h5.sees b hb (.inl hA'),fun b hb=>h5.domA b (.inl hb),h5.domZ⟩,h6⟩
 ·
  rcases List.mem_cons.1 hd with rfl |hd
  ·exact hR
  ·exact h5.holds d hd
 ·
  rcases ij.1 hb with rfl |hb
  ·exact⟨hS,hlt⟩
  ·exact h5.own b hb
 ·
  have:b=p.bk:=(Option.some.inj e).symm;subst this;exact hf ⟨d,hd,e'⟩
 ·
  rcases ij.1 hb with rfl |hb
  ·exact⟨hA,hZ⟩
  ·exact⟨fun h=>(h5.far b hb).1 (.inl h),(h5.far b hb).2⟩
theorem Ao{S:FS}(hd:Hd p S0 w0 X Δ S v)(hw:w0.A p.bk)(hsh:∀b,p.sh b→w0.A b)(hne:∀b,p.sh b→b≠p.bk)(st:St ⟨P,N,S,v,ap (.inv p.bk p.R::Δ),rd,df,M'⟩ Γ' (.inv p.bk p.R::Δ') a' v'):
 St ⟨P,N,S0,w0,X,rd,df,M⟩ Γ' Δ' a' (v'.ub p)∧¬v'.A p.bk∧(∃o,v'.heap[p.bk]? =some o∧p.R o)∧VR p v' v':=by
 obtain⟨h1,h2,S',h3,h4,h5,h6⟩:=st
 have k3:=hd.st
 have hbk':ap (.inv p.bk p.R::Δ') p.bk:=ij.2 (.inl rfl)
 have hS':¬S' p.bk:=(h5.own _ hbk').1
 have hlt':p.bk < v'.heap.size:=(h5.own _ hbk').2
 have hnf:∀b,ap Δ' b→b≠p.bk:=fun b ⟨d,hd',e'⟩ e=>(List.pairwise_cons.1 h5.apart).1 d hd' p.bk rfl (e▸e')
 have hsz:w0.heap.size≤v'.heap.size:=Nat.le_trans k3.size h3.size
 have hA':¬v'.A p.bk:=(h5.far _ hbk').1
 refine⟨⟨h1,h2,S',⟨fun b hb=>h3.sub b (k3.sub b hb),fun b hb=>?_,h3.dom,hsz,fun b hb ha hx=>?_,h3.os.trans k3.os,h3.tape.trans k3.tape,h3.output.trans k3.output,fun b hb=>?_,fun b hb=>?_,h3.Z.trans k3.Z⟩,fun b hb=>?_,⟨fun d hd=>h5.holds d (List.mem_cons_of_mem _ hd),fun b hb=>h5.own b (ij.2 (.inr hb)),(List.pairwise_cons.1 h5.apart).2,fun b hb=>⟨fun h=>?_,(h5.far b (ij.2 (.inr hb))).2⟩,fun b hb h=>?_,fun b hb=>?_,h5.domZ⟩,h6⟩,hA',h5.holds _ List.mem_cons_self,VR.refl (fun b hb=>?_) hlt'⟩
 ·
  rcases h3.new b hb with h |h |h
  ·exact k3.new b h
  ·exact .inr (.inl (Nat.le_trans k3.size h))
  ·rcases ij.1 h with rfl |h
   ·exact absurd hb hS'
   ·exact(hd.ft b h).elim (fun h=>.inr (.inr h)) fun h=>.inr (.inl h)
 ·
  have e1:=k3.keep b hb ha hx
  have e2:=h3.keep b (Nat.lt_of_lt_of_le hb k3.size) (fun h=>(k3.oldA b (.inl h)).elim ha fun h=>absurd hb (Nat.not_lt.2 h)) fun h=>by
   rcases ij.1 h with rfl |h
   ·exact ha hw
   ·exact(hd.ft b h).elim hx fun h=>absurd hb (Nat.not_lt.2 h)
  exact e2.trans e1
 ·
  rcases k3.subA b hb with h |h
  ·exact .inl (h3.subA b h)
  ·exact .inr h
 ·
  rcases hb with h |h
  ·rcases h3.oldA b h with h |h
   ·exact k3.oldA b (.inl h)
   ·exact .inr (Nat.le_trans k3.size h)
  ·subst h;exact .inl hw
 ·
  rcases h4 b (ij.2 (.inr hb)) with h |h
  ·rcases ij.1 h with h |h
   ·exact absurd h (hnf b hb)
   ·exact hd.ft b h
  ·exact .inr (Nat.le_trans k3.size h)
 ·
  rcases h with h |h
  ·exact(h5.far b (ij.2 (.inr hb))).1 h
  ·exact hnf b hb h
 ·
  rcases h with h |h
  ·exact h5.sees b hb h
  ·subst h;exact hS' hb
 ·
  rcases hb with h |h
  ·exact h5.domA b h
  ·subst h;exact hlt'
 ·
  rcases k3.subA b (hsh b hb) with h |h
  ·exact h3.subA b h
  ·exact absurd h (hne b hb)
theorem St.vr(st:St ⟨P,N,S0,w0,X,rd,df,M⟩ Γ Δ a (v.ub p))(h:VR p v v'):St ⟨P,N,S0,w0,X,rd,df,M⟩ Γ Δ a (v'.ub p):=st.rely h.1
theorem Nb{c0 c1 c2 c3 c4 c5:Value}(hm:p.m0= #[c0,c1,c2,c3,c4,c5]):Kn (MW P p T) p.bm 0 [c0,c1,c2,c3,c4,c5]:=by
 refine⟨fun w hw=>?_,fun j hj=>?_⟩
 ·obtain⟨x,y,h⟩:=(show p.Kf w from hw).mu;rw [hm] at h;exact⟨_,_,_,h,rfl⟩
 ·have hj:j < 6:=hj;refine⟨j,by rw [Nat.zero_add],?_,?_⟩ <;> rw [hm] <;> simp <;> omega
theorem O0{c0 c1 c2 c3 c4 c5:Value}(hm:p.m0= #[c0,c1,c2,c3,c4,c5]):Kn (MW P p T) p.bm 8 [.map (some p.bk)]:=by
 refine⟨fun w hw=>?_,fun j hj=>?_⟩
 ·obtain⟨x,y,h⟩:=(show p.Kf w from hw).mu;rw [hm] at h;exact⟨_,_,_,h,rfl⟩
 ·have hj:j < 1:=hj;refine⟨8+j,rfl,?_,?_⟩ <;> rw [hm] <;> simp <;> omega
end
end K
end Go.Proofs.YtlmopgkkijhllaaGreat
set_option linter.unusedVariables false
set_option maxRecDepth 4000
set_option maxHeartbeats 1000000
namespace Go.Proofs.YtlmopgkkijhllaaGreat
open K Go Go.Proofs
def lI(k:Nat)(a0:ag)(a1:Int):Option (List (List Int)):=(cF (0≤a1∧a1 < 256)).bind fun _=>jm k a0 a1
def E3(l:List (List Int)):Value:=.agg (l.flatMap fun r=>r.map fun n=>Value.int .i64 n).toArray
def i9(l:List (List Int)):Prop:=l.length=7∧∀r∈l,r.length=5
theorem xm{S:FS}{w:World}:∀{r:List Int} {cs:List Value},dH (rd S w (.int .i64)) r cs↔cs=r.map fun n=>Value.int .i64 n
 |[],cs=>Iff.rfl
 |n::r,cs=>by
  constructor
  ·
   rintro⟨c1,c2,rfl,h1,h2⟩
   have h1:c1=[.int .i64 n]:=h1
   rw [h1,xm.1 h2];rfl
  ·
   rintro rfl
   exact⟨[.int .i64 n],_,rfl,rfl,xm.2 rfl⟩
theorem qM{S:FS}{w:World}:∀{l:List (List Int)} {cs:List Value},dH (rd S w (.arr 5 (.int .i64))) l cs↔(∀r∈l,r.length=5)∧cs=l.flatMap fun r=>r.map fun n=>Value.int .i64 n
 |[],cs=>⟨fun h=>⟨fun r hr=>by simp at hr,h⟩,fun h=>h.2⟩
 |r::l,cs=>by
  constructor
  ·
   rintro⟨c1,c2,rfl,⟨h0,h1⟩,h2⟩
   obtain⟨g1,g2⟩:=qM.1 h2
   refine⟨fun x hx=>(List.mem_cons.1 hx).elim (fun e=>e▸h0) (g1 x),?_⟩
   rw [xm.1 h1,g2];rfl
  ·
   rintro⟨g1,rfl⟩
   exact⟨_,_,rfl,⟨g1 r List.mem_cons_self,xm.2 rfl⟩,qM.2 ⟨fun x hx=>g1 x (List.mem_cons_of_mem _ hx),rfl⟩⟩
theorem EX{S:FS}{w:World}{l:List (List Int)}(h:i9 l):(A.rep (.arr 7 (.arr 5 (.int .i64))) l).holds S w (E3 l):=⟨_,⟨h.1,qM.2 ⟨h.2,rfl⟩⟩,rfl⟩
theorem Lj{S:FS}{w:World}{l:List (List Int)}{u:Value}(h:(A.rep (.arr 7 (.arr 5 (.int .i64))) l).holds S w u):u=E3 l∧i9 l:=by
 obtain⟨cs,⟨h1,h2⟩,e⟩:=h;obtain⟨g1,rfl⟩:=qM.1 h2;exact⟨e,h1,g1⟩
def aL(k:Nat)(a0:ag):Obj→Prop:=vm Tryz.prog 71 E3 fun kv r=>i9 r∧∃s,kv= .int .u8 s∧lI k a0 s=some r
theorem Ls{k:Nat}{a0:ag}{kv:Value}:∀n n':List (List Int),(i9 n∧∃s,kv= .int .u8 s∧lI k a0 s=some n)→(i9 n'∧∃s,kv= .int .u8 s∧lI k a0 s=some n')→n=n':=by
 rintro n n' ⟨_,s,rfl,h1⟩ ⟨_,s',e,h2⟩;cases e;exact Option.some.inj (h1.symm.trans h2)
theorem DC:Maps.Keyed Tryz.prog 71:=Maps.int_keyed Tryz.underlying71
theorem Dz{s:Int}(h:0≤s∧s < 256):∃lt,keyOf Tryz.prog 71 (.int .u8 s)=some lt:=by
 have hw:(Lit.int .u8 s).wf=true:=by simp [Lit.wf,IntKind.min,IntKind.max,IntKind.signed,IntKind.bits];omega
 exact⟨.int .u8 s,by simp [keyOf,mapKey,Tryz.underlying71,hw]⟩
theorem Is:∀w,(zeroValue 77).run Tryz.prog w= .ok (E3 sP) w:=fun w=>by kernel_rfl
theorem E2:i9 sP:=⟨rfl,fun r hr=>by simp at hr;subst hr;rfl⟩
end Go.Proofs.YtlmopgkkijhllaaGreat
set_option linter.unusedVariables false
set_option maxRecDepth 4000
set_option maxHeartbeats 1000000
namespace Go.Proofs.YtlmopgkkijhllaaGreat
open K Go Go.Proofs
theorem zS:∀w,(zeroValue 77).run Tryz.prog w= .ok (.agg #[(.int .i64 (0)),(.int .i64 (0)),(.int .i64 (0)),(.int .i64 (0)),(.int .i64 (0)),(.int .i64 (0)),(.int .i64 (0)),(.int .i64 (0)),(.int .i64 (0)),(.int .i64 (0)),(.int .i64 (0)),(.int .i64 (0)),(.int .i64 (0)),(.int .i64 (0)),(.int .i64 (0)),(.int .i64 (0)),(.int .i64 (0)),(.int .i64 (0)),(.int .i64 (0)),(.int .i64 (0)),(.int .i64 (0)),(.int .i64 (0)),(.int .i64 (0)),(.int .i64 (0)),(.int .i64 (0)),(.int .i64 (0)),(.int .i64 (0)),(.int .i64 (0)),(.int .i64 (0)),(.int .i64 (0)),(.int .i64 (0)),(.int .i64 (0)),(.int .i64 (0)),(.int .i64 (0)),(.int .i64 (0))]) w:=fun w=>by kernel_rfl
theorem zT:∀S w,(A.cells S w (.rep (.arr 7 (.arr 5 (.int .i64))) [[(0:Int),(0:Int),(0:Int),(0:Int),(0:Int)],[(0:Int),(0:Int),(0:Int),(0:Int),(0:Int)],[(0:Int),(0:Int),(0:Int),(0:Int),(0:Int)],[(0:Int),(0:Int),(0:Int),(0:Int),(0:Int)],[(0:Int),(0:Int),(0:Int),(0:Int),(0:Int)],[(0:Int),(0:Int),(0:Int),(0:Int),(0:Int)],[(0:Int),(0:Int),(0:Int),(0:Int),(0:Int)]]) (Value.cells (.agg #[(.int .i64 (0)),(.int .i64 (0)),(.int .i64 (0)),(.int .i64 (0)),(.int .i64 (0)),(.int .i64 (0)),(.int .i64 (0)),(.int .i64 (0)),(.int .i64 (0)),(.int .i64 (0)),(.int .i64 (0)),(.int .i64 (0)),(.int .i64 (0)),(.int .i64 (0)),(.int .i64 (0)),(.int .i64 (0)),(.int .i64 (0)),(.int .i64 (0)),(.int .i64 (0)),(.int .i64 (0)),(.int .i64 (0)),(.int .i64 (0)),(.int .i64 (0)),(.int .i64 (0)),(.int .i64 (0)),(.int .i64 (0)),(.int .i64 (0)),(.int .i64 (0)),(.int .i64 (0)),(.int .i64 (0)),(.int .i64 (0)),(.int .i64 (0)),(.int .i64 (0)),(.int .i64 (0)),(.int .i64 (0))])).toList):=fun _ _=>⟨rfl,⟨[_,_,_,_,_],_,rfl,⟨rfl,⟨[_],_,rfl,rfl,⟨[_],_,rfl,rfl,⟨[_],_,rfl,rfl,⟨[_],_,rfl,rfl,⟨[_],_,rfl,rfl,rfl⟩⟩⟩⟩⟩⟩,⟨[_,_,_,_,_],_,rfl,⟨rfl,⟨[_],_,rfl,rfl,⟨[_],_,rfl,rfl,⟨[_],_,rfl,rfl,⟨[_],_,rfl,rfl,⟨[_],_,rfl,rfl,rfl⟩⟩⟩⟩⟩⟩,⟨[_,_,_,_,_],_,rfl,⟨rfl,⟨[_],_,rfl,rfl,⟨[_],_,rfl,rfl,⟨[_],_,rfl,rfl,⟨[_],_,rfl,rfl,⟨[_],_,rfl,rfl,rfl⟩⟩⟩⟩⟩⟩,⟨[_,_,_,_,_],_,rfl,⟨rfl,⟨[_],_,rfl,rfl,⟨[_],_,rfl,rfl,⟨[_],_,rfl,rfl,⟨[_],_,rfl,rfl,⟨[_],_,rfl,rfl,rfl⟩⟩⟩⟩⟩⟩,⟨[_,_,_,_,_],_,rfl,⟨rfl,⟨[_],_,rfl,rfl,⟨[_],_,rfl,rfl,⟨[_],_,rfl,rfl,⟨[_],_,rfl,rfl,⟨[_],_,rfl,rfl,rfl⟩⟩⟩⟩⟩⟩,⟨[_,_,_,_,_],_,rfl,⟨rfl,⟨[_],_,rfl,rfl,⟨[_],_,rfl,rfl,⟨[_],_,rfl,rfl,⟨[_],_,rfl,rfl,⟨[_],_,rfl,rfl,rfl⟩⟩⟩⟩⟩⟩,⟨[_,_,_,_,_],_,rfl,⟨rfl,⟨[_],_,rfl,rfl,⟨[_],_,rfl,rfl,⟨[_],_,rfl,rfl,⟨[_],_,rfl,rfl,⟨[_],_,rfl,rfl,rfl⟩⟩⟩⟩⟩⟩,rfl⟩⟩⟩⟩⟩⟩⟩⟩
theorem lw:dY Tryz.prog 77 35 true:=⟨fun w=>by kernel_rfl,fun w=>by kernel_rfl⟩
theorem Dx:aU Tryz.prog 123 2 8:=aU.of (by kernel_rfl)
theorem Gx:dY Tryz.prog 121 1 false:=⟨fun w=>by kernel_rfl,fun w=>by kernel_rfl⟩
section
variable {M:Md Tryz.prog}{bm bk:Nat}{c0 c1 c2 c3 c4 c5:Value}{S:FS}{w0:VW}{X:Nat→Prop}{df:List Deferred}{b1 b2:Nat}{k:Nat}{a0:ag}{a1:Int}
@[reducible] noncomputable def Iu (bm:Nat) (c0 c1 c2 c3 c4 c5:Value) (a0:ag) (a1:Int) (b1:Nat):Ga:=[(0,.rep (.mo (.pointer (some ⟨bm,0,none⟩)) [c0,c1,c2,c3,c4,c5] aj) a0),(1,.eq (.int .u8 a1)),(4,.eq (.pointer (some ⟨b1,0,none⟩)))]
theorem OJ:JC (np M S w0 X df) (Iw 0) (bS (fun a w=>∃b1,St (np M S w0 X df) (Iu bm c0 c1 c2 c3 c4 c5 a0 a1 b1) [.obj b1 77 (.rep (.arr 7 (.arr 5 (.int .i64))) sP)] a w) (fun _ _ _=>False)) (entry 0 [.rep (.mo (.pointer (some ⟨bm,0,none⟩)) [c0,c1,c2,c3,c4,c5] aj) a0,.eq (.int .u8 a1)]) []:=by
 refine ae ?_;refine aW rfl rfl rfl (bj rfl zS zT) trivial fun b1=>?_;refine be (ax ?_);exact fun a w st=>⟨b1,(jd (junk:=[]) (by repeat (first |exact trivial |refine⟨rfl,?_⟩)) (by simp)) a w st⟩
theorem OH(hK:Kn M bm 8 [.map (some bk)])(hs:0≤a1∧a1 < 256):
 JC (np M S w0 X df) (Iw 2) (bS (fun a w=>∃b2 y fd,(fd=true→lI k a0 a1=some y)∧(fd=false→y=sP)∧St (np M S w0 X df) ((6,.eq (.bool fd))::sQ bm c0 c1 c2 c3 c4 c5 a0 a1 b1 b2) (.inv bk (aL k a0)::AI b1 b2 y) a w) (fun _ _ _=>False))
  (Iu bm c0 c1 c2 c3 c4 c5 a0 a1 b1) [.inv bk (aL k a0),.obj b1 77 (.rep (.arr 7 (.arr 5 (.int .i64))) sP)]:=by
 refine CE fun ob hob=>?_
 obtain⟨y,fd,h1,h2,hlk⟩:=vT (z:=bk) Tryz.underlying121 sP Is DC (Dz hs) Ls hob
 have hy:i9 y:=by
  cases fd with
  |true=>exact(h1 rfl).1
  |false=>rw [h2 rfl];exact E2
 have h1':fd=true→lI k a0 a1=some y:=fun e=>by
  obtain⟨_,s,e',h⟩:=h1 e;cases e';exact h
 refine ae ?_
 refine bY rfl (wy rfl) ⟨rfl,trivial⟩ ?_
 refine bY rfl (cH rfl) ⟨rfl,trivial⟩ ?_
 refine bY rfl (aG rfl Dx) ⟨rfl,trivial⟩ ?_
 refine bY rfl (wA rfl Gx hK) ⟨rfl,trivial⟩ ?_
 refine gU rfl rfl ?_
 refine mf rfl rfl rfl (EE (V:=E3) (n:=y) (rk:=.eq (.int .u8 a1)) (kv:=.int .u8 a1) (fun y=>.rep (.arr 7 (.arr 5 (.int .i64))) y) (fun _ _=>EX hy) rfl (vm.calm hob) rfl (fun _ _ _ hh=>hh) hlk) ⟨rfl,rfl,trivial⟩ ?_
 refine gU rfl rfl ?_
 refine bY rfl (jl rfl rfl) ⟨rfl,trivial⟩ ?_
 refine bY rfl (jl rfl rfl) ⟨rfl,trivial⟩ ?_
 refine aW rfl rfl rfl (bj rfl zS zT) trivial fun b2=>?_
 refine aR rfl rfl (aP rfl lw rfl rfl rfl) ⟨rfl,rfl,trivial⟩ ?_
 refine vo rfl rfl ?_
 refine j7 1 rfl ?_
 refine eC (sW (aL k a0) hob) ?_
 refine be (ax ?_)
 refine fun a w st=>⟨b2,y,fd,h1',h2,(jd (junk:=[]) (by repeat (first |exact trivial |refine⟨rfl,?_⟩)) ?_) a w st⟩
 exact(List.Perm.refl _).cons _ |>.trans (by first |exact List.Perm.refl _ |exact .cons _ (.swap ..))
theorem Lm(hK:Kn M bm 8 [.map (some bk)])(hs:0≤a1∧a1 < 256){y:List (List Int)}(hy:lI k a0 a1=some y)(hg:i9 y):
 JC (np M S w0 X df) (Iw 9) (bS (fun a w=>St (np M S w0 X df) (sQ bm c0 c1 c2 c3 c4 c5 a0 a1 b1 b2) (.inv bk (aL k a0)::AI b1 b2 y) a w) (fun _ _ _=>False))
  (sQ bm c0 c1 c2 c3 c4 c5 a0 a1 b1 b2) (.inv bk (aL k a0)::AI b1 b2 y):=by
 refine cK ?_
 refine fx rfl rfl rfl (wy rfl) ⟨rfl,trivial⟩ ?_
 refine fx rfl rfl rfl (cH rfl) ⟨rfl,trivial⟩ ?_
 refine fx rfl rfl rfl (aG rfl Dx) ⟨rfl,trivial⟩ ?_
 refine fx rfl rfl rfl (wA rfl Gx hK) ⟨rfl,trivial⟩ ?_
 refine fx rfl rfl rfl (bz rfl) ⟨rfl,trivial⟩ ?_
 refine yw 2 rfl rfl rfl rfl (aA rfl lw (qV) rfl) ⟨rfl,trivial⟩ ?_
 refine CG (by kernel_rfl) dW ?_
 refine aR rfl rfl (xC (V:=E3) (n:=y) (rk:=.eq (.int .u8 a1)) (kv:=.int .u8 a1) (R:=fun kv r=>i9 r∧∃s,kv= .int .u8 s∧lI k a0 s=some r) (fun _ _ _ hh=>(Lj hh).1) rfl rfl Tryz.underlying121 DC (fun _ _ _ hh=>hh) (Dz hs) ⟨hg,a1,rfl,hy⟩) ⟨rfl,rfl,rfl,trivial⟩ ?_
 refine be (ax ?_)
 exact jd (junk:=[]) (by repeat (first |exact trivial |refine⟨rfl,?_⟩)) (List.Perm.refl _)
theorem Lt{y:List (List Int)}{Q:Exit→Act→VW→Prop}{Δ:List D}(h:∀a w,St (np M S w0 X df) (sQ bm c0 c1 c2 c3 c4 c5 a0 a1 b1 b2) (Δ++[.obj b1 77 (.rep (.arr 7 (.arr 5 (.int .i64))) y),.obj b2 77 (.rep (.arr 7 (.arr 5 (.int .i64))) y)]) a w→Q .ret a w):
 JC (np M S w0 X df) (Iw 10) Q (sQ bm c0 c1 c2 c3 c4 c5 a0 a1 b1 b2) (AI b1 b2 y++Δ):=by
 refine cg ?_
 refine ae ?_
 refine j7 1 rfl ?_
 refine mf rfl rfl rfl (aA rfl lw (qV) rfl) ⟨rfl,trivial⟩ ?_
 refine j7 1 rfl ?_
 refine aR rfl rfl (aP rfl lw rfl rfl rfl) ⟨rfl,rfl,trivial⟩ ?_
 refine be (ax ?_)
 refine dw ?_
 exact fun a w st=>h a w ((jd (junk:=[]) (by repeat (first |exact trivial |refine⟨rfl,?_⟩)) (by rw [List.append_nil];exact List.perm_append_comm (l₁:=[.obj b1 77 (.rep (.arr 7 (.arr 5 (.int .i64))) y),.obj b2 77 (.rep (.arr 7 (.arr 5 (.int .i64))) y)]) (l₂:=Δ))) a w st)
end
end Go.Proofs.YtlmopgkkijhllaaGreat
set_option linter.unusedVariables false
namespace Go.Proofs.YtlmopgkkijhllaaGreat
namespace K
open Go Go.Conc
def cL(Γ:Ga)(a:Act):Gv:=Γ.map fun q=>(q.1,a.tmps.getD q.1 undef)
def vD(Γ:Ga)(a:Act)(Γq:Gv):Prop:=∀s r,lk Γ s=some r→lv Γq s=some (a.tmps.getD s undef)
theorem Di{a:Act}:∀{Γ:Ga} {s:Nat} {x:Value},lv (cL Γ a) s=some x→a.tmps.getD s undef=x
 |[],_,_,h=>by cases h
 |(s0,r0)::l,s,x,h=>by
  simp only [cL,List.map_cons,lv] at h
  split at h
  ·
   rename_i e;subst e;exact Option.some.inj h
  ·
   exact Di (Γ:=l) h
theorem vD.base{a:Act}:∀{Γ:Ga},vD Γ a (cL Γ a)
 |[],_,_,h=>by cases h
 |(s0,r0)::l,s,r,h=>by
  simp only [lk] at h
  simp only [cL,List.map_cons,lv]
  split at h
  ·
   rename_i e;subst e;simp
  ·
   rename_i e;rw [if_neg e];exact vD.base (Γ:=l) s r h
theorem vD.new{Γ:Ga}{a:Act}{Γq:Gv}{d:Nat}{u:Value}(h:vD Γ a Γq)(hd:lk Γ d=none:=by exact rfl):vD Γ a ((d,u)::Γq):=fun s r hl=>by
 simp only [lv]
 split
 ·
  rename_i e;subst e;rw [hd] at hl;cases hl
 ·
  exact h s r hl
theorem vD.know{Γ:Ga}{a:Act}{Γq:Gv}{d:Nat}{u:Value}(h:vD Γ a Γq)(hd:a.tmps.getD d undef=u):vD Γ a ((d,u)::Γq):=fun s r hl=>by
 simp only [lv]
 split
 ·
  rename_i e;subst e;rw [hd]
 ·
  exact h s r hl
theorem QS.know{N:Nat}{df:List Deferred}{Γq:Gv}{a:Act}{d:Nat}{u:Value}(h:QS N df Γq a)(hd:a.tmps.getD d undef=u):QS N df ((d,u)::Γq) a:=⟨h.size,h.defers,fun s x hl=>by
 simp only [lv] at hl
 split at hl
 ·
  rename_i e;subst e;cases hl;exact hd
 ·
  exact h.val s x hl⟩
theorem St.toQ{c:Cx}{Γ:Ga}{Δ:List D}{a:Act}{v:VW}(st:St c Γ Δ a v):QS c.N c.dfs (cL Γ a) a:=⟨st.size,st.defers,fun s x h=>Di h⟩
theorem lz{P:Program}{M:Md P}{N:Nat}{S0:FS}{w0:VW}{X:Nat→Prop}{rd:Option Nat}{df df':List Deferred}{Γ:Ga}{Δ:List D}{a a':Act}{v:VW}{Γq:Gv}(st:St ⟨P,N,S0,w0,X,rd,df,M⟩ Γ Δ a v)(hc:vD Γ a Γq)(q:QS N df' Γq a'):St ⟨P,N,S0,w0,X,rd,df',M⟩ Γ Δ a' v:=by
 obtain⟨h1,h2,S,h3,h4,h5,h6⟩:=st;refine⟨q.defers,q.size,S,h3,h4,h5,fun s r hl=>?_⟩;rw [q.val s _ (hc s r hl)];exact h6 s r hl
section
variable {P:Program}{main:Bool}{b:Frame}{a:Act}{k:List Item}{cs:List Frame}{ops:Array Oper}{i:Nat}{rest:List Nat}{o:Oper}{w:World}
def eD(P:Program)(d:Deferred):Frame:={ (default:Frame) with fn:=P.funcs.size,defers:=[d],mode:=.panicking [goexitEntry] }
theorem SI{cl:Call}{s g:Nat}{cap:Array Value}{ts:Array TypeId}(ho:ops[i]? =some o)(hw:Region.wanted o (yielded ops a.tmps)=true)(hop:o.op= .go cl)(hcl:cl={ callee:=.value (.tmp s),args:= #[],argTypes:=ts })
 (hv:a.eval (.tmp s)= .func (.func g) #[] cap):
 stepG P main (Gr (b.atR a (.inRegion ops (i::rest)::k)) cs) w= .spawn (Gr (b.atR (a.put o.dst undef) (.inRegion ops rest::k)) cs) (Gr (eD P { target:=.fn (.func g) cap,args:= #[] }) []) w #[]:=by
 have he:execOp a.eval o=pure (.spawn { target:=.fn (.func g) cap,args:= #[] }):=by
  unfold execOp;rw [hop,hcl];simp [resolve,hv,Deferred.ofValue]
 have hT:(pure (Next.spawn { target:=.fn (.func g) cap,args:= #[] }):Sem Next).runT P w #[]=(.ok (.spawn { target:=.fn (.func g) cap,args:= #[] }) w, #[]):=rfl
 have hfin:(b.atR a (.inRegion ops (i::rest)::k)).finish undef=b.atR (a.put o.dst undef) (.inRegion ops rest::k):=by rw [Frame.finish_atR,ho];rfl
 rw [uS ho hw,Oper.semAt_eq _ _ _ (by simp [hop]),he]
 simp only [stepG.apply,if_true,hT,uR,kV,GStep.after,hfin]
 simp [eD]
theorem xY{g:Nat}{cap:Array Value}(hen:ah P g):stepG P main (Gr (eD P { target:=.fn (.func g) cap,args:= #[] }) []) w= .go (Gr (Frame.enter P g cap .deferred) [{ eD P { target:=.fn (.func g) cap,args:= #[] } with defers:=[] }]) w #[]:=by
 have hi:invoke (.fn (.func g) cap) #[]=callFunc g cap:=by simp [invoke]
 simp only [stepG,eD,unwind,callDeferred,hi,nn hen,GStep.after,Array.append_empty,kV];rfl
theorem Bc{d:Deferred}:QuitsD P 1 0 (Gr { eD P d with defers:=[] } []):=by
 refine .ctl (g':={ Gr { eD P d with defers:=[] } [] with status:=.finished }) rfl (fun w=>?_) ⟨rfl,rfl⟩
 have hc:({ eD P d with defers:=[] }:Frame).catches P=false:=by
  simp [Frame.catches,eD];rfl
 simp [stepG,unwind,eD,goexitEntry] at hc⊢;simp [Frame.catches];rfl
theorem IV{d:Deferred}{fn:Func}{N:Nat}{Γ:Gv}{v:VW}(hb:b.kind= .deferred)(hf:P.funcs[b.fn]? =some fn)(hr:fn.results= #[]):Qr (TQ P 0) v b [{ eD P d with defers:=[] }] N [] Γ:=fun a todo ha=>by
 refine⟨2,.ctl rfl (fun w=>?_) (Bc (d:=d))⟩
 have hres:(results fn a.tmps).runT P w #[]=(.ok (.tuple #[]) w, #[]):=by
  simp [results,hr]
 simp only [stepG,Gr,Frame.at,unwind,ha.defers,hf,hres,doReturn,hb,GStep.after,Array.append_empty,kV,eD,goexitEntry]
end
theorem yt{c:Cx}{C:Code}{Q:Exit→Act→VW→Prop}{Γ:Ga}{Δ:List D}{a:Act}{v:VW}{T:Tq}{b:Frame}{k:List Item}{cs:List Frame}(hT:c.M.ok T)(hb:b.roundOf=c.rd)(st:St c Γ Δ a v)(h:JC c C Q Γ Δ)(hc:∀e a' v',Q e a' v'→mO T b k cs e a' v'):
 T v (b.atR a (.code C::k)) cs:=h a v st T hT b k cs hb hc
theorem eE{c:Cx}{C:Code}{Q:Act→VW→Prop}{Γ:Ga}{Δ:List D}{a:Act}{v:VW}{T:Tq}{b:Frame}{k:List Item}{cs:List Frame}(hT:c.M.ok T)(hb:b.roundOf=c.rd)(st:St c Γ Δ a v)(h:JC c C (bS Q (fun _ _ _=>False)) Γ Δ)(hc:∀a' v',Q a' v'→T v' (b.atR a' k) cs):
 T v (b.atR a (.code C::k)) cs:=yt hT hb st h fun e a' v' q=>by
 cases e with
 |normal=>exact hc a' v' q
 |_=>exact q.elim
theorem ge{c:Cx}{Γ:Ga}{Δ:List D}{a:Act}{v:VW}{s:Nat}{x:Value}(st:St c Γ Δ a v)(h:lk Γ s=some (.eq x)):a.eval (.tmp s)=x:=by
 obtain⟨_,_,S,_,_,_,h6⟩:=st;exact h6 s _ h
theorem oL{c:Cx}{Γ:Ga}{Δ:List D}{a:Act}{v:VW}{s:Nat}{p:Value}{cs:List Value}{t:Ty}{d:t.den}(st:St c Γ Δ a v)(h:lk Γ s=some (.rep (.mo p cs t) d)):a.tmps.getD s undef=p:=by
 obtain⟨_,_,S,_,_,_,h6⟩:=st;exact(qh (h6 s _ h)).1
end K
end Go.Proofs.YtlmopgkkijhllaaGreat
set_option linter.unusedVariables false
set_option maxRecDepth 20000
set_option maxHeartbeats 4000000
namespace Go.Proofs.YtlmopgkkijhllaaGreat
open K Go Go.Proofs Go.Conc Go.Conc.Lib
theorem HN:xd Tryz.prog 107 .disable:=⟨⟨_,Tryz.func107,by kernel_rfl,by kernel_rfl,by kernel_rfl,by kernel_rfl⟩,fun g h=>by cases h⟩
theorem HM:xd Tryz.prog 108 .enable:=⟨⟨_,Tryz.func108,by kernel_rfl,by kernel_rfl,by kernel_rfl,by kernel_rfl⟩,fun g h=>by cases h⟩
theorem Oh:rG Tryz.prog 106 .releaseMerge:=⟨⟨_,Tryz.func106,by kernel_rfl,by kernel_rfl,by kernel_rfl,by kernel_rfl⟩,fun a g h=>by cases h⟩
theorem HO:rG Tryz.prog 119 .acquire:=⟨⟨_,Tryz.func119,by kernel_rfl,by kernel_rfl,by kernel_rfl,by kernel_rfl⟩,fun a g h=>by cases h⟩
theorem KC:IW Tryz.prog 135 (.tuple #[]):=⟨_,Tryz.func135,by kernel_rfl,by kernel_rfl,by kernel_rfl,by kernel_rfl⟩
theorem Dc:(Tryz.prog.funcs[125]?).any (·.norace)=true:=by rw [Tryz.func125];kernel_rfl
theorem KD:(Tryz.prog.funcs[127]?).any (·.norace)=true:=by rw [Tryz.func127];kernel_rfl
theorem KE:(Tryz.prog.funcs[99]?).any (·.norace)=true:=by rw [Tryz.func99];kernel_rfl
theorem nC{b off:Nat}(w:World):(Instr.fieldAt 118 (.pointer (some ⟨b,off,none⟩)) 0).runT Tryz.prog w #[]=(.ok (.pointer (some ⟨b,off+0,none⟩)) w, #[]):=cO (n:=0) Tryz.underlying118 rfl Tryz.sizeOf21 w
theorem HL{b off:Nat}(w:World):(Instr.fieldAt 118 (.pointer (some ⟨b,off,none⟩)) 1).runT Tryz.prog w #[]=(.ok (.pointer (some ⟨b,off+1,none⟩)) w, #[]):=cO (n:=0) Tryz.underlying118 rfl Tryz.sizeOf116 w
theorem HK{b off:Nat}(w:World):(Instr.fieldAt 120 (.pointer (some ⟨b,off,none⟩)) 1).runT Tryz.prog w #[]=(.ok (.pointer (some ⟨b,off+0,none⟩)) w, #[]):=cO (n:=1) Tryz.underlying120 rfl Tryz.sizeOf118 w
noncomputable def iC:Code:=match Tryz.f125.body with
 |some (.seq _ (.seq _ (.seq _ (.seq _ (.seq _ (.seq (.block _ (.loop b)) _))))))=>b
 |_=>.skip
noncomputable def jq:Code:=match Tryz.f125.body with
 |some (.seq _ (.seq _ (.seq _ (.seq _ (.seq _ (.seq _ b))))) )=>b
 |_=>.skip
noncomputable def Rw:Code:=match iC with
 | .block _ (.seq _ x)=>x
 |_=>.skip
noncomputable def Uk:Code:=match iC with
 | .block _ (.seq (.seq _ (.cond _ (.seq _ s) _)) _)=>s
 |_=>.skip
noncomputable def Ru:Code:=match Rw with
 | .seq _ (.seq _ (.seq _ (.seq _ (.seq _ y))))=>y
 |_=>.skip
noncomputable def Si:Code:=match Rw with
 | .seq _ (.seq _ (.seq _ (.seq _ (.seq y _))))=>y
 |_=>.skip
noncomputable def R9:Code:=match Ru with
 | .seq _ (.cond _ (.seq _ z) _)=>z
 |_=>.skip
noncomputable def P5:Code:=match R9 with
 | .seq _ (.seq _ z)=>z
 |_=>.skip
noncomputable def P4:Code:=match P5 with
 | .seq _ (.seq _ z)=>z
 |_=>.skip
noncomputable def Ul:Code:=match P4 with
 | .seq _ (.seq (.seq _ (.cond _ (.seq _ (.seq _ (.seq _ e))) _)) _)=>e
 |_=>.skip
@[reducible] def xM(p:Gp)(W:Int)(st aw:Bool)(it:Int)(ow:Nat):Gv:=[(0,.pointer (some p.muA)),(2,.int .i64 W),(3,.bool st),(4,.bool aw),(5,.int .i64 it),(6,.int .i32 (ow:Int))]
section
variable {P:Program}{Wl:World→Prop}{main:Bool}{T':Tq}{v:VW}{b:Frame}{cs:List Frame}{N:Nat}{df:List Deferred}{Γ:Gv}{k:List Item}{x y:Code}
theorem vk(hT:Mv P Wl main T'){c:Operand}(t:Bool)(Γ':Gv)(hc:ev Γ c=some (.bool t))(h1:t=true→Qt T' v b cs N df k Γ'→Qt T' v b cs N df (.code x::k) Γ)(h0:t=false→Qt T' v b cs N df k Γ'→Qt T' v b cs N df (.code y::k) Γ)(h:Qt T' v b cs N df k Γ'):Qt T' v b cs N df (.code (.cond c x y)::k) Γ:=by
 refine Qt.cond hT t ?_ hc;cases t
 ·exact h0 rfl h
 ·exact h1 rfl h
end
theorem qr{G G':Prop}(k:G')(h:G'→G:=by
 intro k;repeat (first |refine Qt.region hT ?_ |refine lY hT ?_ |refine Qt.op hT rfl (dy rfl rfl) ?_ |refine Qt.op hT rfl (t5 rfl rfl) ?_)
 exact k):G:=h k
section
variable {p:Gp}{T:Tq}{mn:Bool}{s:Ph}{v0 v:VW}{cs:List Frame}{N:Nat}
theorem ku{n m:Int}(h:n=m):some (Value.int .i32 n)=some (.int .i32 m):=by rw [h]
theorem Oj(hs:s.Run){l:qB}{W it:Int}{st aw:Bool}{ow:Nat}(ho:nN ow st aw)(v:VW){k:List Item}
 (h:Qt (WV v0 Tryz.prog p T mn (s.set l)) v (base 125) cs 139 [] (.code Ru::k) ((7,.int .i32 (C4 ow st aw:Nat))::xM p W st aw it ow)):Qt (WV v0 Tryz.prog p T mn (s.set l)) v (base 125) cs 139 [] (.code Rw::k) (xM p W st aw it ow):=by
 have hT:Mv Tryz.prog p.Kf mn (WV v0 Tryz.prog p T mn (s.set l)):=bf hs.q
 have hlt:=ho.lt
 obtain⟨w5,w1,w2,w4,w3,w7,o1,o2,o4,n2,s3⟩:=j9 ow (by omega)
 have b0:ow % 2=0∨ow % 2=1:=by omega
 have b2:ow / 4 % 2=0∨ow / 4 % 2=1:=by omega
 refine qa ?_
 refine Qt.op hT rfl (aV (u:=.int .i32 ((4 * (ow / 4 % 2):Nat):Int)) rfl rfl rfl (ku w4)) ?_
 refine Qt.op hT rfl (aV (u:=.bool (decide (ow / 4 % 2=0))) rfl rfl rfl (by simp only [iy];congr 2;apply decide_eq_decide.2;omega)) ?_
 refine qa ?_
 refine vk hT _ ((7,.int .i32 (AH ow:Nat))::xM p W st aw it ow) rfl (fun e hk=>?_) (fun e hk=>?_) ?_
 ·
  refine qr ?_;refine Qt.op hT rfl (aV (u:=.int .i32 (AH ow:Nat)) rfl rfl rfl (ku (o1.trans (by unfold AH;rw [if_pos (of_decide_eq_true e)])))) ?_;refine qr ?_;exact Qt.base _ hk
 ·
  rw [show AH ow=ow by unfold AH;rw [if_neg (of_decide_eq_false e)]] at hk;exact Qt.skip hT (Qt.base _ hk)
 refine qa ?_
 refine Qt.op hT rfl (aV (u:=.int .i32 ((ow % 2+4 * (ow / 4 % 2):Nat):Int)) rfl rfl rfl (ku w5)) ?_
 refine Qt.op hT rfl (aV (u:=.bool (decide (¬(ow % 2=0∧ow / 4 % 2=0)))) rfl rfl rfl (by simp only [iy];congr 2;rw [←decide_not];apply decide_eq_decide.2;omega)) ?_
 refine qa ?_
 have hn1:AH ow < 830:=by unfold AH;split <;> omega
 refine vk hT _ ((7,.int .i32 (vv ow:Nat))::xM p W st aw it ow) rfl (fun e hk=>?_) (fun e hk=>?_) ?_
 ·
  refine qr ?_
  refine Qt.op hT rfl (aV (u:=.int .i32 (vv ow:Nat)) rfl rfl rfl (ku (by
   have:vv ow=AH ow+8:=by unfold vv;rw [if_neg (of_decide_eq_true e)]
   rw [this,wrap_i32_small _ (by omega) (by omega)];rfl))) ?_
  refine qr ?_;exact Qt.base _ hk
 ·
  rw [show vv ow=AH ow by unfold vv;rw [if_pos (Decidable.not_not.1 (of_decide_eq_false e))]] at hk;exact Qt.skip hT (Qt.base _ hk)
 refine qa ?_
 have hn2:vv ow < 838:=by unfold vv;split <;> omega
 obtain⟨_,_,_,_,_,_,_,_,o42,_,_⟩:=j9 (vv ow) (by omega)
 have hn3:AG ow st < 842:=by unfold AG;split <;> omega
 have stg:Qt (WV v0 Tryz.prog p T mn (s.set l)) v (base 125) cs 139 [] (.code (.seq Si Ru)::k) ((7,.int .i32 (AG ow st:Nat))::xM p W st aw it ow):=by
  have hm:ow % 2≤vv ow:=by unfold vv AH;split <;> split <;> omega
  refine qa ?_;refine vk hT aw ((7,.int .i32 (C4 ow st aw:Nat))::xM p W st aw it ow) rfl (fun e hk=>?_) (fun e hk=>?_) h
  ·subst e;obtain⟨a1,a2⟩:=ho.aw rfl
   have e2:AG ow st / 2 % 2=1:=by
    unfold AG vv AH;rw [if_pos a2];split <;> split <;> omega
   obtain⟨_,_,w2',_,_,_,_,_,_,n2',_⟩:=j9 (AG ow st) (by omega);refine Qt.seq hT (Qt.seq hT ?_);refine qr ?_;refine Qt.op hT rfl (aV (u:=.int .i32 2) rfl rfl rfl (ku (w2'.trans (by rw [e2];rfl)))) ?_;refine Qt.op hT rfl (aV (u:=.bool false) rfl rfl rfl rfl) ?_;refine qr ?_;refine Qt.cond hT false (Qt.skip hT ?_);refine qr ?_;refine Qt.op hT rfl (aV (u:=.int .i32 (C4 ow st true:Nat)) rfl rfl rfl (ku (n2'.trans (by unfold C4;rw [if_pos rfl,e2])))) ?_;refine qr ?_;exact Qt.base _ hk
  ·subst e;exact Qt.skip hT (Qt.base _ hk)
 cases st with
 |true=>
  have hj:AG ow true=if ow % 2=1 then vv ow+4 else vv ow:=by unfold AG;simp
  refine qr ?_;refine bX hT rfl (dy rfl rfl) ?_;refine bX hT rfl (aV (u:=.int .i32 ((ow % 2:Nat):Int)) rfl rfl rfl (ku w1)) ?_;refine bX hT rfl (aV (u:=.bool (decide (ow % 2=1))) rfl rfl rfl (by simp only [iy];congr 2;rw [←decide_not];apply decide_eq_decide.2;omega)) ?_;refine Qt.op hT rfl (dF rfl true rfl rfl) ?_;refine qr ?_;refine vk hT (decide (ow % 2=1)) _ rfl (fun e hk=>?_) (fun e hk=>?_) stg
  ·have e:=of_decide_eq_true e;have:=(ho.aw (ho.st rfl)).2
   have e4:vv ow / 4 % 2=0:=by
    unfold vv AH;rw [if_pos this,if_neg (by omega)];omega
   refine qr ?_;refine Qt.op hT rfl (aV (u:=.int .i32 (AG ow true:Nat)) rfl rfl rfl (ku (o42.trans (by rw [hj,if_pos e,e4];rfl)))) ?_;refine qr ?_;exact Qt.base _ hk
  ·rw [hj,if_neg (of_decide_eq_false e)] at hk;exact Qt.skip hT (Qt.base _ hk)
 |false=>
  rw [show AG ow false=vv ow by unfold AG;simp] at stg;refine qr ?_;refine bG hT rfl ?_;refine bG hT rfl ?_;refine bG hT rfl ?_;refine Qt.op hT rfl (dF rfl false rfl rfl) ?_;refine qr ?_;exact Qt.cond hT false (Qt.skip hT (Qt.base _ stg))
end
end Go.Proofs.YtlmopgkkijhllaaGreat
set_option linter.unusedVariables false
set_option maxRecDepth 20000
set_option maxHeartbeats 4000000
namespace Go.Proofs.YtlmopgkkijhllaaGreat
open K Go Go.Proofs Go.Conc Go.Conc.Lib
section
variable {p:Gp}{T:Tq}{mn:Bool}{s:Ph}{v0:VW}{cs:List Frame}
theorem xK(hok:p.Ok)(hs:s.Run){v:VW}{b:Frame}(hb:b.fn=125){c:Nat}{aw:Bool}{se0:Option (Nat×Nat)}{N d i:Nat}{Γ:Gv}{ops:Array Oper}{rest:List Nat}{k:List Item}{o:Oper}{x:Operand}{df:List Deferred}
 (ho:ops[i]? =some o) (hop:o.op= .load 21 x) (hx:ev Γ x=some (.pointer (some p.muA)))
 (h:∀v' ow φ,(∀ow0 φ0,se0=some (ow0,φ0)→φ≤φ0)→ow < 820→(aw=true→ow / 2 % 2=1∧ow / 4 % 2=0)→Qt (WV v0 Tryz.prog p T mn (s.set (qA c aw ow φ))) v' b cs N df (.inRegion ops rest::k) ((d,.int .i32 (ow:Int))::Γ))
 (hg:o.guard=none:=by exact rfl) (hd:o.dst=some d:=by exact rfl) (hN:Nat.blt d N=true:=by exact rfl) (hk:b.kind≠.early:=by exact fun h=>nomatch h):
 Qt (WV v0 Tryz.prog p T mn (s.set { df:=1,aw:=cond aw 1 0,phi:=c+cond aw 5 6,se:=se0 })) v b cs N df (.inRegion ops (i::rest)::k) Γ:=by
 refine vd hok hs rfl (Nat.zero_le _) ho hop (by rw [hb];exact Dc) Tryz.isAgg21 hx (fun q=>qA c aw q.word q.f) (fun q=>⟨rfl,rfl⟩) (fun q hp=>?_) (fun v' q hp=>?_) hg hd hN hk
 ·
  exact NE hs (by cases aw <;> exact Nat.le_of_ble_eq_true rfl) (Nat.le_refl _) rfl
 ·
  obtain⟨h1,h2,h3⟩:=J2 hp;exact h v' _ _ h3 h1 h2
theorem NS(hs:s.Run){v:VW}{b:Frame}{N d i:Nat}{Γ:Gv}{ops:Array Oper}{rest:List Nat}{k:List Item}{o:Oper}{x:Operand}{df:List Deferred}{ts:Array TypeId}{it:Int}{l:qB}
 (hw:∀a,QS N df Γ a→Region.wanted o (yielded ops a.tmps)=true) (ho:ops[i]? =some o) (hop:o.op= .call { callee:=.value (.func 134),args:= #[x],argTypes:=ts }) (hx:ev Γ x=some (.int .i64 it))
 (h:∀v' u,(u=true→it < 4)→Qt (WV v0 Tryz.prog p T mn (s.set l)) v' b cs N df (.inRegion ops rest::k) ((d,.bool u)::Γ))
 (hd:o.dst=some d:=by exact rfl) (hN:Nat.blt d N=true:=by exact rfl) (hk:b.kind≠.early:=by exact fun h=>nomatch h):
 Qt (WV v0 Tryz.prog p T mn (s.set l)) v b cs N df (.inRegion ops (i::rest)::k) Γ:=by
 refine D1 hs.q (Ok:=fun u=>∃z:Bool,u= .bool z∧(z=true→it < 4)) (fun a ha w=>?_) (fun v' u ⟨z,e,hz⟩=>?_) hN
 ·
  have hm:(#[x]:Array Operand).map a.eval= #[.int .i64 it]:=by simp [ha.ev hx]
  by_cases h4:it < 4
  ·have:=stepG_canSpin_ask (P:=Tryz.prog) (main:=mn) (w:=w) (b:=b) (cs:=cs) (kk:=k) (rest:=rest) ho (hw a ha) hk hop Tryz.func134 (by kernel_rfl) (by kernel_rfl) (by kernel_rfl) (by kernel_rfl) hm h4;rw [hd] at this;exact⟨_,_,⟨_,rfl,fun _=>h4⟩,this,rfl,j6.refl _,rfl,rfl⟩
  ·have:=stepG_canSpin_no (P:=Tryz.prog) (main:=mn) (w:=w) (b:=b) (cs:=cs) (kk:=k) (rest:=rest) ho (hw a ha) hk hop Tryz.func134 (by kernel_rfl) (by kernel_rfl) (by kernel_rfl) (by kernel_rfl) hm (by omega);rw [hd] at this;exact⟨_,_,⟨false,rfl,fun e=>by cases e⟩,this,rfl,j6.refl _,rfl,rfl⟩
 ·
  subst e;exact h v' z hz
theorem GZ(hs:s.Run){v:VW}{b:Frame}{N d i:Nat}{Γ:Gv}{ops:Array Oper}{rest:List Nat}{k:List Item}{o:Oper}{df:List Deferred}{ts:Array TypeId}{l:qB}{xs:Array Operand}
 (hw:∀a,QS N df Γ a→Region.wanted o (yielded ops a.tmps)=true) (ho:ops[i]? =some o) (hop:o.op= .call { callee:=.value (.func 137),args:=xs,argTypes:=ts })
 (h:∀v' z,Qt (WV v0 Tryz.prog p T mn (s.set l)) v' b cs N df (.inRegion ops rest::k) ((d,.int .i64 z)::Γ))
 (hd:o.dst=some d:=by exact rfl) (hN:Nat.blt d N=true:=by exact rfl) (hk:b.kind≠.early:=by exact fun h=>nomatch h):
 Qt (WV v0 Tryz.prog p T mn (s.set l)) v b cs N df (.inRegion ops (i::rest)::k) Γ:=by
 refine D1 hs.q (Ok:=fun u=>∃z:Int,u= .int .i64 z) (fun a ha w=>?_) (fun v' u ⟨z,e⟩=>?_) hN
 ·
  have:=stepG_nanotime (P:=Tryz.prog) (main:=mn) (w:=w) (b:=b) (cs:=cs) (kk:=k) (rest:=rest) ho (hw a ha) hk hop Tryz.func137 (by kernel_rfl) (by kernel_rfl) (by kernel_rfl) (by kernel_rfl) (by kernel_rfl);rw [hd] at this;exact⟨_,_,⟨_,rfl⟩,this,rfl,⟨_,rfl⟩,rfl,rfl⟩
 ·
  subst e;exact h v' z
noncomputable abbrev KX:List Item:=[.inBlock 1,.inLoop iC,.inBlock 0,.code jq]
theorem KQ(hok:p.Ok)(hs:s.Run){v:VW}{c φ:Nat}{ow:Nat}{st aw:Bool}{W it:Int}(ho:nN ow st aw)
 (hget:∀v',Qt (WV v0 Tryz.prog p T mn (s.set { df:=1,hd:=1,phi:=c+4 })) v' (base 125) cs 139 [] [.code jq] [(0,.pointer (some p.muA))])
 (hq:∀v' φ',φ' < φ→Qt (WV v0 Tryz.prog p T mn (s.set { df:=1,qu:=1,phi:=c+4,se:=some (C4 ow st aw,φ') })) v' (base 125) cs 139 [] (.code R9::KX) (xM p W st aw it ow))
 (hl:∀v' ow' φ',φ' < φ→nN ow' st aw→Qt (WV v0 Tryz.prog p T mn (s.set (qA c aw ow' φ'))) v' (base 125) cs 139 [] [.code iC,.inLoop iC,.inBlock 0,.code jq] (xM p W st aw it ow')):
 Qt (WV v0 Tryz.prog p T mn (s.set (qA c aw ow φ))) v (base 125) cs 139 [] (.code Ru::KX) ((7,.int .i32 (C4 ow st aw:Nat))::xM p W st aw it ow):=by
 have hT:Mv Tryz.prog p.Kf mn (WV v0 Tryz.prog p T mn (s.set (qA c aw ow φ))):=bf hs.q
 have hlt:=ho.lt
 obtain⟨w5,_⟩:=j9 ow (by omega)
 refine Qt.seq hT ?_
 refine qr ?_
 refine Qt.op hT rfl (fR rfl rfl) ?_
 refine Qt.op hT rfl (bq (k:=0) rfl nC rfl) ?_
 refine qr ?_
 refine tX hok hs rfl rfl (by cases aw <;> exact Nat.le_of_ble_eq_true rfl) rfl (ow:=ow) (nw:=C4 ow st aw) rfl rfl (fun a ha=>ab rfl _) Tryz.func124 (by kernel_rfl) (by kernel_rfl) (by kernel_rfl) (by kernel_rfl) rfl rfl rfl
  (fun φ'=>if ow % 2=0∧ow / 4 % 2=0 then { df:=1,hd:=1,phi:=c+4 } else { df:=1,qu:=1,phi:=c+4,se:=some (C4 ow st aw,φ') }) (fun x=>by split <;> exact⟨rfl,rfl⟩) (fun q=>if ow % 2=0∧ow / 4 % 2=0 then NU aw q else NT st aw q) (fun q hp e=>?_) (fun v' φ' hφ=>?_) fun v' ow' φ' hφ=>?_
 ·
  have hf:=ww hp;have hf:0 < q.f:=by revert hf;cases aw <;> (dsimp only [cond];omega)
  by_cases h0:ow % 2=0∧ow / 4 % 2=0
  ·simp only [if_pos h0];exact⟨H8 ho e (km hp) h0.1 h0.2,(by simp),(by simp),(by show q.f - 1 < q.f;omega),NJ hs ho e (km hp) h0.1 h0.2 hf⟩
  ·simp only [if_neg h0];exact⟨yZ ho e (km hp) h0,(by simp),(by simp),(by show q.f - 1 < q.f;omega),NH hs ho e (km hp) h0 hf⟩
 ·
  have hφ:=hφ φ rfl;by_cases h0:ow % 2=0∧ow / 4 % 2=0
  ·simp only [if_pos h0];have hT:Mv Tryz.prog p.Kf mn (WV v0 Tryz.prog p T mn (s.set { df:=1,hd:=1,phi:=c+4 })):=bf hs.q;refine lY hT ?_;refine Qt.cond hT true ?_;refine Qt.seq hT (Qt.seq hT ?_);refine qr ?_;refine Qt.op hT rfl (aV (u:=.int .i32 0) rfl rfl rfl (ku (w5.trans (by omega)))) ?_;refine Qt.op hT rfl (aV (u:=.bool true) rfl rfl rfl rfl) ?_;refine qr ?_;refine Qt.cond hT true ?_;refine Qt.exit hT rfl ?_;exact Qt.base _ (hget v')
  ·simp only [if_neg h0];have hT:Mv Tryz.prog p.Kf mn (WV v0 Tryz.prog p T mn (s.set { df:=1,qu:=1,phi:=c+4,se:=some (C4 ow st aw,φ') })):=bf hs.q;refine lY hT ?_;refine Qt.cond hT true ?_;refine Qt.seq hT (Qt.seq hT ?_);refine qr ?_;refine Qt.op hT rfl (aV (u:=.int .i32 ((ow % 2+4 * (ow / 4 % 2):Nat):Int)) rfl rfl rfl (ku w5)) ?_;refine Qt.op hT rfl (aV (u:=.bool false) rfl rfl rfl (by simp only [iy];rw [decide_eq_false (by omega)])) ?_;refine qr ?_;refine Qt.cond hT false (Qt.skip hT ?_);exact Qt.base _ (hq v' φ' hφ)
 ·
  have hφ:=hφ φ rfl;have hT:Mv Tryz.prog p.Kf mn (WV v0 Tryz.prog p T mn (s.set { qA c aw ow φ with se:=some (ow',φ') })):=bf hs.q;refine lY hT ?_;refine Qt.cond hT false ?_;refine qr ?_;refine Qt.op hT rfl (fR rfl rfl) ?_;refine Qt.op hT rfl (bq (k:=0) rfl nC rfl) ?_;refine xK hok hs rfl rfl rfl rfl fun v2 ow2 φ2 g1 g2 g3=>?_;replace hT:Mv Tryz.prog p.Kf mn (WV v0 Tryz.prog p T mn (s.set (qA c aw ow2 φ2))):=bf hs.q;refine qr ?_;refine Qt.inBlock hT (Qt.inLoop hT ?_);exact Qt.base _ (hl v2 ow2 φ2 (Nat.lt_of_le_of_lt (g1 _ _ rfl) hφ) ⟨g2,ho.st,g3⟩)
end
