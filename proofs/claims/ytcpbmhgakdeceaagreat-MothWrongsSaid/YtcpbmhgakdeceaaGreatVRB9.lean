import Derived.Test.YtcpbmhgakdeceaaGreatVRB8
import Derived.Test.YtcpbmhgakdeceaaGreatChecked
open Nat
open List hiding mem_of_getElem?
open Array hiding mem_of_getElem? mk
set_option linter.unusedSimpArgs false
set_option linter.unusedVariables false
set_option maxRecDepth 20000
set_option maxHeartbeats 4000000
namespace Go.Proofs.YtcpbmhgakdeceaaGreat
namespace K
open Go Go.Conc Go.Conc.Lib
section
variable {P:Program}{p:Gp}{T:Tq}{mn:Bool}{s s':Ph}{v0 v:VW}{b:Frame}{cs:List Frame}{N d i f:Nat}{df:List Deferred}{Γ:Gv}{ops:Array Oper}{rest:List Nat}{k:List Item}{o:Oper}
theorem Gp.Eff.st{w:World}{q:eu}(hok:p.Ok)(hcr:p.cr=true)(h:p.At w q){c wt:Nat}:p.Eff w (w.setCell p.stA (.int .u64 ((c * 4294967296+wt:Nat):Int))) { q with c:=c,wt:=wt }:=by
 have hlt:=(Array.getElem?_eq_some_iff.1 (h.wg hcr)).1;rw [show p.stA=⟨p.bw,0,none⟩ from rfl,Nq (h.wg hcr)];have g:∀x b,b≠p.bw->(w.heap.setIfInBounds p.bw x)[b]? =w.heap[b]? :=λx b hb=>getElem?_setIfInBounds_ne λe=>hb e.symm;refine⟨⟨λ_=>?_,λhc=>(g _ _ (hok.wm hc).2.2.symm).trans (h.ch hc),(g _ _ (hok.wm hcr).1.symm).trans h.mu,λe=>?_⟩,λb hb=>g _ _ λe=>hb (.inr ⟨hcr,.inl e⟩),by simp,rfl,rfl,rfl⟩
 .simp_all
 .obtain⟨o,ho,hr⟩:=h.mp e;exact⟨o,(g _ _ (hok.wm hcr).2.1.symm).trans ho,hr⟩
theorem Gp.Eff.sm{w:World}{q:eu}(hok:p.Ok)(hcr:p.cr=true)(h:p.At w q){s:Nat}:p.Eff w (w.setCell p.smA (.int .u32 (s:Int))) { q with sm:=s }:=by
 have hlt:=(Array.getElem?_eq_some_iff.1 (h.wg hcr)).1;rw [show p.smA=⟨p.bw,1,none⟩ from rfl,Nq (h.wg hcr)];have g:∀x b,b≠p.bw->(w.heap.setIfInBounds p.bw x)[b]? =w.heap[b]? :=λx b hb=>getElem?_setIfInBounds_ne λe=>hb e.symm;refine⟨⟨λ_=>?_,λhc=>(g _ _ (hok.wm hc).2.2.symm).trans (h.ch hc),(g _ _ (hok.wm hcr).1.symm).trans h.mu,λe=>?_⟩,λb hb=>g _ _ λe=>hb (.inr ⟨hcr,.inl e⟩),by simp,rfl,rfl,rfl⟩
 .simp_all
 .obtain⟨o,ho,hr⟩:=h.mp e;exact⟨o,(g _ _ (hok.wm hcr).2.1.symm).trans ho,hr⟩
theorem yp(hc:p.cr=true):p.wc (.cell p.stA):=.inr (.inr ⟨hc,.inl rfl⟩)
theorem yq(hc:p.cr=true):p.wc (.cell p.smA):=.inr (.inr ⟨hc,.inr (.inl rfl)⟩)
theorem Lp(hok:p.Ok)(hq:s.q=false){u:eu->Value}{W:World->eu->World}{Q:eu->eu}{S:eu->Ph}{es:eu->Array Event}
 (step:∀a,QS N df Γ a->∀w q,p.At w q->nN p mn s q->stepG P mn (G (b.at a (.inRegion ops (i::rest)::k)) cs) w= .go (G (b.at (a.put (some d) (u q)) (.inRegion ops rest::k)) cs) (W w q) (es q))
 (eff:∀w q,p.At w q->nN p mn s q->p.Eff w (W w q) (Q q)) (sv:∀q,nN p mn s q->Sv p mn s q (S q) (Q q)) (ev:∀q,nN p mn s q->nV p mn s (S q) (es q))
 (wk:∀a q,QS N df Γ a->nN p mn s q->(q.T < (Q q).T\/q.sm < (Q q).sm\/q.cl≠(Q q).cl)->mayWake P (G (b.at a (.inRegion ops (i::rest)::k)) cs)=true) (hcl:∀q,nN p mn s q->q.cl=true->(Q q).cl=true)
 (h:∀v' q,nN p mn s q->((S q).q=false->Qt (WV v0 P p T mn (S q)) v' b cs N df (.inRegion ops rest::k) ((d,u q)::Γ))/\((S q).q=true->mn=false/\Qt (TQ P 1) v' b cs N df (.inRegion ops rest::k) ((d,u q)::Γ))) (hN:blt d N=true:=by exact rfl):
 Qt (WV v0 P p T mn s) v b cs N df (.inRegion ops (i::rest)::k) Γ:=λa ha hv _=>
 rz hq λv1 q hr hat hp=>⟨S q,Q q,_,_,W v1.toWorld q,es q,step a ha _ q hat hp,eff _ q hat hp,sv q hp,ev q hp,wk a q ha hp,hcl q hp,λe=>⟨q,undef,true,(h _ q hp).1 e _ (ha.put hN) ((hv.rely hr).put hok (eff _ q hat hp)) uc⟩,λe=>⟨((h v1 q hp).2 e).1,((h v1 q hp).2 e).2 _ (ha.put hN)⟩⟩
@[reducible] def MS(c:Nat):Ph:={ ac:=1,phi:=c }
@[reducible] def QJ(c:Nat):Ph:={ ac:=1,nr:=false,phi:=c }
@[reducible] def Tv(c:Nat):Ph:={ ac:=1,nr:=false,df:=1,phi:=c }
@[reducible] def Mc:Ph:={ w1:=1,nr:=false,df:=1 }
@[reducible] def VO:Ph:={ w2:=1,nr:=false,df:=1 }
theorem zi{p:Gp}{s s':Ph}{q q':eu}(hs:s.q=false)(hmx:s.hd=0/\s.dt=0/\s.aw=0/\s.rn=0/\s.qu=0/\s.tk=0/\s.rh=0/\s.ty=0)(hmx':s'.hd=0/\s'.dt=0/\s'.aw=0/\s'.rn=0/\s'.qu=0/\s'.tk=0/\s'.rh=0/\s'.ty=0)(hse:s'.se=none)(hnb:s'.nb=0)(hphi:s'.phi≤s.phi)(hnw:s'.nw=s.nw)(hlv:s'.lv≤s.lv)
 (hsame:q'.L=q.L/\q'.W=q.W/\q'.S=q.S/\q'.N=q.N/\q'.T=q.T/\q'.f=q.f/\q'.h=q.h/\q'.cl=q.cl) (hcc:q'.c≤q.c)
 (hA:∀a b z,Ar q a z->PK a s->VE a b s s'->(q'.c=b.ac+z.pd)/\(z.rg=false->q'.wt=0/\q'.sm=0/\b.w1=0/\b.w2=0)/\(z.rg=true->z.pd=0/\(0 < q'.c->q'.wt=1/\q'.sm=0/\b.w1=0/\b.w2=0)/\(q'.c=0->q'.wt=b.w1/\b.w1+b.w2+q'.sm=1)))
 (hok:∀i,i≠0->s.Ok i->s'.Ok i):Sv p false s q s' q':=by
 obtain⟨e1,e2,e3,e4,e5,e6,e7,e8⟩:=hsame
 obtain⟨m1,m2,m3,m4,m5,m6,m7,m8⟩:=hmx
 obtain⟨n1,n2,n3,n4,n5,n6,n7,n8⟩:=hmx'
 refine Sv.mk (λa b z ha hp hb _ _ _ _ _=>?_) hs (.inr ⟨e6,by grind⟩) (λow φ e=>by simp_all) (λx h1 h2 _=>by omega) (λ_ _ _ _ _=>by omega) (λi hi ho=>hok i (λe=>by simp_all) ho) (λe=>by cases e)
 rw [if_neg (by simp)]
 obtain⟨k1,k2,k3⟩:=hA a b z ha hp hb
 have q5:=hb.hd;have q6:=hb.dt;have q7:=hb.aw;have q8:=hb.rn;have q9:=hb.qu;have q10:=hb.tk;have q11:=hb.rh;have q12:=hb.ty;have q13:=hb.phi;have q14:=hb.lv;have q15:=hb.nw
 rw [m1,n1] at q5;rw [m2,n2] at q6;rw [m3,n3] at q7;rw [m4,n4] at q8;rw [m5,n5] at q9;rw [m6,n6] at q10;rw [m7,n7] at q11;rw [m8,n8] at q12;rw [hnw] at q15
 have r5:b.hd=a.hd:=by omega
 have r6:b.dt=a.dt:=by omega
 have r7:b.aw=a.aw:=by omega
 have r8:b.rn=a.rn:=by omega
 have r9:b.qu=a.qu:=by omega
 have r10:b.tk=a.tk:=by omega
 have r11:b.rh=a.rh:=by omega
 have r12:b.ty=a.ty:=by omega
 have r15:b.nw=a.nw:=by omega
 refine⟨k1,k2,k3,ha.pd,by rw [e8];exact ha.rgc,by rw [e8];exact ha.op,by rw [e8,r15];exact ha.nw,by rw [e1,e2,e3];exact ha.le,by rw [e1,r5];exact ha.hd,by rw [e1,e2,e3,e4,e5,r7,r8,r9,r10,r11,r12];exact ha.s0,by rw [e1,e2,e3,e4,e5,r7,r8,r9,r10,r11];exact ha.s1,by rw [e7,r6];exact ha.h,?_,?_,λB e=>Nat.le_trans hcc (ha.cb B e)⟩
 .
  have:=ha.f;omega
 .
  have:=ha.lv;omega
theorem Ni{q:eu}{c:Nat}:Sv p false (MS c) q (QJ c) q:=
 zi rfl (by simp) (by simp) rfl rfl (Nat.le_refl _) rfl (Nat.le_refl _) ⟨rfl,rfl,rfl,rfl,rfl,rfl,rfl,rfl⟩ (Nat.le_refl _) (λa b z ha hp hb=>by
  have h1:=hb.ac;have h2:=hb.w1;have h3:=hb.w2
  simp only [MS,QJ] at h1 h2 h3
  rw [show b.ac=a.ac by omega,show b.w1=a.w1 by omega,show b.w2=a.w2 by omega]
  exact⟨ha.c,ha.un,ha.re⟩) (λi hi ho=>⟨zero_le _,λe=>(by cases e),λ_=>rfl,λe=>(by cases e),Nat.le_refl _,λe=>absurd e hi,λ_ _=>⟨rfl,λe=>(by cases e)⟩⟩)
theorem Nj{q:eu}{c:Nat}:Sv p false (QJ c) q (Tv c) q:=
 zi rfl (by simp) (by simp) rfl rfl (Nat.le_refl _) rfl (Nat.le_refl _) ⟨rfl,rfl,rfl,rfl,rfl,rfl,rfl,rfl⟩ (Nat.le_refl _) (λa b z ha hp hb=>by
  have h1:=hb.ac;have h2:=hb.w1;have h3:=hb.w2
  simp only [Tv,QJ] at h1 h2 h3
  rw [show b.ac=a.ac by omega,show b.w1=a.w1 by omega,show b.w2=a.w2 by omega]
  exact⟨ha.c,ha.un,ha.re⟩) (λi hi ho=>⟨zero_le _,λe=>(by cases e),λ_=>rfl,λe=>(by cases e),Nat.le_refl _,λe=>absurd e hi,λ_ _=>⟨rfl,λe=>(by cases e)⟩⟩)
@[reducible] def ID(q:eu):Ph:=if 2≤q.c\/q.wt=0 then .quit else Mc
theorem FC{i:Nat}(hi:i≠0):Ph.quit.Ok i:=⟨zero_le _,λe=>(by cases e),λe=>(by cases e),λ_=>rfl,Nat.le_refl _,λe=>absurd e hi,λ_ e=>(by cases e)⟩
theorem Nk{q:eu}{c:Nat}:Sv p false (Tv c) q (ID q) { q with c:=q.c - 1,wt:=q.wt }:=by
 by_cases e:2≤q.c\/q.wt=0
 .rw [show ID q= .quit from if_pos e];refine zi rfl (by simp) (by simp) rfl rfl (zero_le _) rfl (le_of_ble_eq_true rfl) ⟨rfl,rfl,rfl,rfl,rfl,rfl,rfl,rfl⟩ (sub_le _ _) (λa b z ha hp hb=>?_) λi hi _=>FC hi;have h1:=hb.ac;have h2:=hb.w1;have h3:=hb.w2;have h4:=hp.ac;have h5:=ha.c;have h6:=ha.un;have h7:=ha.re;grind
 .rw [show ID q=Mc from if_neg e];refine zi rfl (by simp) (by simp) rfl rfl (zero_le _) rfl (Nat.le_refl _) ⟨rfl,rfl,rfl,rfl,rfl,rfl,rfl,rfl⟩ (sub_le _ _) (λa b z ha hp hb=>?_) λi hi _=>⟨zero_le _,λe=>(by cases e),λ_=>rfl,λe=>(by cases e),Nat.le_refl _,λe=>absurd e hi,λ_ _=>⟨rfl,λe=>(by cases e)⟩⟩;have h1:=hb.ac;have h2:=hb.w1;have h3:=hb.w2;have h4:=hp.ac;have h5:=ha.c;have h6:=ha.un;have h7:=ha.re;grind
theorem Ft{q:eu}(hp:nN p false Mc q):q.c=0/\q.wt=1/\Sv p false Mc q VO { q with c:=0,wt:=0 }:=by
 obtain⟨a,z,ha,hpt,_⟩:=hp.get;have h1:=hpt.w1;have h6:=ha.un;have h7:=ha.re;simp only [Mc] at h1
 have hz:z.rg=true:=by
  grind
 have h7:=h7 hz;have hc:q.c=0:=by omega
 refine⟨hc,by omega,?_⟩;refine zi rfl (by simp) (by simp) rfl rfl (Nat.le_refl _) rfl (Nat.le_refl _) ⟨rfl,rfl,rfl,rfl,rfl,rfl,rfl,rfl⟩ (zero_le _) (λa b z ha hp hb=>?_) λi hi _=>⟨zero_le _,λe=>(by cases e),λ_=>rfl,λe=>(by cases e),Nat.le_refl _,λe=>absurd e hi,λ_ _=>⟨rfl,λe=>(by cases e)⟩⟩;have h1:=hb.ac;have h2:=hb.w1;have h3:=hb.w2;have h4:=hp.w1;have h5:=ha.c;have h6:=ha.un;have h7:=ha.re;grind
theorem Nh{q:eu}:Sv p false VO q .quit { q with sm:=q.sm+1 }:=by
 refine zi rfl (by simp) (by simp) rfl rfl (Nat.le_refl _) rfl (le_of_ble_eq_true rfl) ⟨rfl,rfl,rfl,rfl,rfl,rfl,rfl,rfl⟩ (Nat.le_refl _) (λa b z ha hp hb=>?_) λi hi _=>FC hi;have h1:=hb.ac;have h2:=hb.w1;have h3:=hb.w2;have h4:=hp.w2;have h5:=ha.c;have h6:=ha.un;have h7:=ha.re;grind
end
end K
end Go.Proofs.YtcpbmhgakdeceaaGreat
set_option linter.unusedVariables false
set_option maxRecDepth 20000
set_option maxHeartbeats 4000000
namespace Go.Proofs.YtcpbmhgakdeceaaGreat
namespace K
open Go Go.Conc Go.Conc.Lib
section
variable {P:Program}{L:WgLink}{p:Gp}{T:Tq}{v0 v:VW}{b:Frame}{cs:List Frame}{N d:Nat}{df:List Deferred}{Γ:Gv}
theorem xB{s s':Ph}{es:Array Event}(hcr:p.cr=true)(h1:s.df=1)(hn:s.nr=false)(hd:s.dt=0)(hd':s'.dt=0)(hn':s'.nr=false)(hj:s'.jn=false)(hdf:s'.q=true\/s'.df=1)(he:es= #[EM p.stA]\/es= #[OF p.stA]\/es= #[EM p.stA,OF p.stA]\/es=semEvents p.smA):nV p false s s' es where
 sh e hm:=by
  rcases he with rfl |rfl |rfl |rfl
  .simp at hm;subst hm;exact .inl ⟨_,_,rfl,yp hcr⟩
  .simp at hm;subst hm;exact .inl ⟨_,_,rfl,yp hcr⟩
  .simp at hm;rcases hm with rfl |rfl <;> exact .inl ⟨_,_,rfl,yp hcr⟩
  .simp [semEvents] at hm;rcases hm with rfl |rfl |rfl |rfl
   .exact .inr (.inl rfl)
   .simp_all [yq]
   .simp_all [yq]
   .exact .inr (.inr (.inl rfl))
 df:=by
  have:deafBehind s.df es=1:=by rw [h1];rcases he with rfl |rfl |rfl |rfl <;> rfl
  grind
 deaf _ j hj e hx _:=by
  rw [h1];rcases he with rfl |rfl |rfl |rfl
  .have:j=0:=by simp_all
   subst this;exact Nat.one_pos
  .have:j=0:=by simp_all
   subst this;exact Nat.one_pos
  .have:j=0\/j=1:=by grind
   rcases this with rfl |rfl <;> exact Nat.one_pos
  .have:j=0\/j=1\/j=2\/j=3:=by grind [semEvents]
   rcases this with rfl |rfl |rfl |rfl <;> exact le_of_ble_eq_true rfl
 acq e:=absurd (hd'.trans hd.symm) e
 rel e:=absurd (hd'.trans hd.symm) e
 dt:=by omega
 nr e:=by simp_all
 nr' e:=by simp_all
 jn e:=by simp_all
 bw _ _:=⟨hcr,λe hm b hb=>by
  rcases he with rfl |rfl |rfl |rfl
  .simp at hm;subst hm;cases hb;rfl
  .simp at hm;subst hm;cases hb;rfl
  .simp at hm;rcases hm with rfl |rfl <;> (cases hb;rfl)
  .simp [semEvents] at hm;rcases hm with rfl |rfl |rfl |rfl <;> cases hb <;> rfl⟩
theorem Pz(hok:p.Ok){c:Nat}:Wd P p.Kf false #[jK (.releaseMerge p.stA)] (WV v0 P p T false (MS c)) (WV v0 P p T false (QJ c)):=
 vg hok rfl rfl rfl (λq _=>Ni) ⟨λe h=>(by grind),rfl,λ_ j hj e he ht=>(by
  have:j=0:=by simp_all
  subst this;simp at he;subst he;exact absurd rfl ht),λe=>absurd rfl e,λe=>absurd rfl e,zero_le _,λ_ _=>⟨rfl,rfl⟩,λe=>(by cases e),λe=>(by cases e),λ_ e=>(by cases e)⟩
theorem PC(hok:p.Ok)(hcr:p.cr=true){c:Nat}:Wd P p.Kf false #[jK .disable] (WV v0 P p T false (QJ c)) (WV v0 P p T false (Tv c)):=
 vg hok rfl rfl rfl (λq _=>Nj) ⟨λe h=>(by simp_all),rfl,λ_ j hj e he ht=>(by
  have:j=0:=by simp_all
  subst this;simp at he;subst he;exact absurd rfl ht),λe=>absurd rfl e,λe=>absurd rfl e,zero_le _,λe=>(by cases e),λe=>(by cases e),λe=>(by cases e),λ_ _=>⟨hcr,λe h b hb=>(by simp at h;subst h;cases hb)⟩⟩
theorem Jl{q:eu}{c:Nat}(hp:nN p false (Tv c) q):1≤q.c/\q.c≤102/\q.wt≤1:=by
 obtain⟨a,z,ha,hpt,_,_,_,_,_,_,h1,h2,_⟩:=hp.get;have h3:=hpt.ac;have h4:=ha.c;grind
theorem HB{q:eu}{cc:Nat}{its:List Item}(hcc:q.c - 1=cc)(p1:1≤q.c)(p3:q.wt≤1)(v':VW)
 (h1:∀(g:Bool),jJ .gtr .i32 (cc:Int) 0=some (.bool g)->(g=true\/q.wt=0)->∀hT:Mv P (λ_=>True) false (TQ P 1),Qt (TQ P 1) v' b cs N df its Γ)
 (h2:jJ .gtr .i32 (cc:Int) 0=some (.bool false)->q.wt=1->∀hT:Mv P p.Kf false (WV v0 P p T false Mc),Qt (WV v0 P p T false Mc) v' b cs N df its Γ):
 ((ID q).q=false->Qt (WV v0 P p T false (ID q)) v' b cs N df its Γ)/\((ID q).q=true->false=false/\Qt (TQ P 1) v' b cs N df its Γ):=by
 by_cases hd:2≤q.c\/q.wt=0
 .
  rw [show ID q= .quit from if_pos hd];grind [jJ,zh]
 .
  rw [show ID q=Mc from if_neg hd];grind [jJ,bA]
theorem CV(H:WgLib P L)(hok:p.Ok)(hcr:p.cr=true){c0:Nat}(hq:∀v',Qr (TQ P 0) v' b cs N [] Γ):Qr (WV v0 P p T false (MS c0)) v b cs N [dcall L.done #[.pointer (some p.stA)]] Γ:=by
 have hT:Mv P p.Kf false (WV v0 P p T false (MS c0)):=bA rfl;refine Qr.enter (c9:=[.pointer (some p.stA)]) hT H.f_done (by kernel_rfl) rfl rfl λc hc hk=>?_;refine qa ?_;refine Qt.call (c9:=[.pointer (some p.stA),.int .i64 (-1)]) hT rfl rfl H.f_add (by kernel_rfl) rfl rfl λc1 hk1=>?_
 have fin1:∀v' Γ',Qr (TQ P 1) v' (base L.add) (c1::c::cs) 117 [dcall L.enable #[]] Γ':=λv' Γ'=>
  Qr.mark VC (J8 H) (dS zh rfl H.f_add rfl (hk1 (TQ P 0) v' _ (nM zh (Qt.fin zh (zl zh rfl H.f_done rfl hc (hk (TQ P 0) v' (hq v')))))))
 refine qa ?_;refine Qt.cond hT true ?_;refine qa ?_;refine Qt.op hT rfl (bi (u:=.bool true) rfl rfl rfl rfl) ?_;refine qa ?_;refine Qt.cond hT true ?_;refine qa ?_;refine Qt.op hT rfl (kS rfl (nX hcr (off:=0) (n:=1) H.underlying_tWgP H.underlying_tUP H.sizeOf_tWg (by decide)) rfl) ?_;refine qK (Pz hok) (Us H) rfl rfl rfl ?_;replace hT:Mv P p.Kf false (WV v0 P p T false (QJ c0)):=bA rfl;refine qa ?_;refine jk (PC hok hcr) (J9 H) rfl rfl ?_;replace hT:Mv P p.Kf false (WV v0 P p T false (Tv c0)):=bA rfl;refine qa ?_;refine Qt.defer (c9:=[]) hT rfl rfl rfl ?_;refine qa ?_;refine xo hT (Qg H) rfl rfl ?_;refine qa ?_;refine Qt.cond hT false ?_;refine qa ?_;refine Qt.op hT rfl (gY rfl rfl) ?_;refine Qt.op hT rfl (bJ (k:=0) rfl (dj (n:=0) H.underlying_tWg rfl H.sizeOf_tAU) rfl) ?_;refine qa ?_;refine Qt.op hT rfl (gx (z:=18446744073709551615) rfl H.underlying_t3 H.underlying_tU64 rfl (by decide)) ?_;refine Qt.op hT rfl (IH (z:=18446744069414584320) rfl rfl rfl (by decide) (by decide)) ?_;refine Qt.call (c9:=[.pointer (some p.stA),.int .u64 18446744069414584320]) hT rfl rfl H.f_uAdd (by kernel_rfl) rfl rfl λc2 hk2=>?_;refine qa ?_;refine Qt.op hT rfl (gY rfl rfl) ?_;refine Qt.op hT rfl (bJ (k:=0) rfl (dj (n:=0) H.underlying_tAU rfl H.sizeOf_tU64) rfl) ?_;refine qa ?_;refine Lp (d:=9) hok rfl (u:=λq=>.int .u64 (((q.c - 1) * 4294967296+q.wt:Nat):Int)) (W:=λw q=>w.setCell p.stA (.int .u64 (((q.c - 1) * 4294967296+q.wt:Nat):Int))) (Q:=λq=>{ q with c:=q.c - 1,wt:=q.wt }) (S:=ID) (es:=λq=> #[EM p.stA,OF p.stA]) (λa ha w q hat hp=>?_) (λw q hat _=>Gp.Eff.st hok hcr hat) (λq _=>Nk) (λq _=>?_) (λa q _ _ e=>by rcases e with e |e |e <;> first |exact absurd e (Nat.lt_irrefl _) |exact absurd rfl e) (λ_ _=>id) λv' q hp=>?_
 .obtain⟨p1,p2,p3⟩:=Jl hp;have hw:IntKind.u64.wrap (((q.c * 4294967296+q.wt:Nat):Int)+18446744069414584320)=(((q.c - 1) * 4294967296+q.wt:Nat):Int):=by rw [IntKind.wrap_u64];omega
  refine(stepG_add_atomic rfl (aj rfl _) (by exact λh=>nomatch h) rfl H.f_addU64 (by kernel_rfl) (by kernel_rfl) (by kernel_rfl) .u64 (by kernel_rfl) (ad:=p.stA) (ha.ev rfl) (ha.ev rfl) (hat.c0 hcr) (hat.f0 hcr)).trans ?_;rw [hw];rfl
 .by_cases e:2≤q.c\/q.wt=0
  .rw [show ID q= .quit from if_pos e];exact xB hcr rfl rfl rfl rfl rfl rfl (.inl rfl) (.inr (.inr (.inl rfl)))
  .rw [show ID q=Mc from if_neg e];exact xB hcr rfl rfl rfl rfl rfl rfl (.inr rfl) (.inr (.inr (.inl rfl)))
 obtain⟨p1,p2,p3⟩:=Jl hp;generalize hcc:q.c - 1=cc;have hlt:cc < 2147483648:=by omega
 refine HB hcc p1 p3 v' (λg hg hw hT=>?_) (λhg hw hT=>?_)
 .rcases(show q.wt=0\/q.wt=1 by omega) with hw0 |hw0
  .rw [hw0];refine qa ?_;refine Qt.ret hT (iT hT rfl H.f_uAdd rfl rfl (hk2 _ _ _ ?_));refine qa ?_;refine Qt.op hT rfl (bi (u:=.int .u64 0) rfl rfl rfl (congrArg (λz=>some (Value.int .u64 z)) (yx hlt (by decide)))) ?_;refine qb ?_;refine Qt.op hT rfl (mi (z:=cc) rfl rfl rfl (by decide) (yw hlt (by decide))) ?_;refine Qt.op hT rfl (gx (z:=cc) rfl H.underlying_tU64 H.underlying_t21 rfl (Be hlt)) ?_;refine qa ?_;refine Qt.op hT rfl (bi (u:=.int .u64 0) rfl rfl rfl (congrArg (λz=>some (Value.int .u64 z)) (yv hlt (by decide)))) ?_;refine Qt.op hT rfl (gx (z:=0) rfl H.underlying_tU64 H.underlying_tU32 rfl rfl) ?_;refine qb ?_;refine Qt.op hT rfl (bi (u:=.bool g) rfl rfl rfl hg) ?_;cases g
   .refine qb ?_;exact Qt.ret hT (fin1 _ _)
   .refine qb ?_;exact Qt.ret hT (fin1 _ _)
  .rw [hw0];have hgt:g=true:=hw.elim id λe=>by omega
   subst hgt;refine qa ?_;refine Qt.ret hT (iT hT rfl H.f_uAdd rfl rfl (hk2 _ _ _ ?_));refine qa ?_;refine Qt.op hT rfl (bi (u:=.int .u64 0) rfl rfl rfl (congrArg (λz=>some (Value.int .u64 z)) (yx hlt (by decide)))) ?_;refine qb ?_;refine Qt.op hT rfl (mi (z:=cc) rfl rfl rfl (by decide) (yw hlt (by decide))) ?_;refine Qt.op hT rfl (gx (z:=cc) rfl H.underlying_tU64 H.underlying_t21 rfl (Be hlt)) ?_;refine qa ?_;refine Qt.op hT rfl (bi (u:=.int .u64 1) rfl rfl rfl (congrArg (λz=>some (Value.int .u64 z)) (yv hlt (by decide)))) ?_;refine Qt.op hT rfl (gx (z:=1) rfl H.underlying_tU64 H.underlying_tU32 rfl rfl) ?_;refine qb ?_;refine Qt.op hT rfl (bi (u:=.bool true) rfl rfl rfl hg) ?_;refine qb ?_;exact Qt.ret hT (fin1 _ _)
 .rw [hw];have hcc0:cc=0:=by simp [jJ] at hg;omega
  subst hcc0;refine qa ?_;refine Qt.ret hT (iT hT rfl H.f_uAdd rfl rfl (hk2 _ _ _ ?_));refine qa ?_;refine Qt.op hT rfl (bi (u:=.int .u64 0) rfl rfl rfl (congrArg (λz=>some (Value.int .u64 z)) (yx hlt (by decide)))) ?_;refine qb ?_;refine Qt.op hT rfl (mi (z:=(0:Nat)) rfl rfl rfl (by decide) (yw hlt (by decide))) ?_;refine Qt.op hT rfl (gx (z:=(0:Nat)) rfl H.underlying_tU64 H.underlying_t21 rfl (Be hlt)) ?_;refine qa ?_;refine Qt.op hT rfl (bi (u:=.int .u64 1) rfl rfl rfl (congrArg (λz=>some (Value.int .u64 z)) (yv hlt (by decide)))) ?_;refine Qt.op hT rfl (gx (z:=1) rfl H.underlying_tU64 H.underlying_tU32 rfl rfl) ?_;refine qb ?_;refine Qt.op hT rfl (bJ (k:=0) rfl (dj (n:=0) H.underlying_tWg rfl H.sizeOf_tAU) rfl) ?_;refine Qt.call (c9:=[.pointer (some p.stA)]) hT rfl rfl H.f_uLoad (by kernel_rfl) rfl rfl λc3 hk3=>?_;refine qb ?_;refine Qt.op hT rfl (bJ (k:=0) rfl (dj (n:=0) H.underlying_tAU rfl H.sizeOf_tU64) rfl) ?_;refine rK (d:=6) hok rfl (u:=λq=>.int .u64 1) (W:=λw q=>w) (Q:=λq=>q) (S:=λ_=>Mc) (es:=λ_=> #[EM p.stA]) (λ_=>rfl) (λa ha w q hat hp=>?_) (λw q hat _=>.refl hat) (λ_ _=>.refl) (λq _=>xB hcr rfl rfl rfl rfl rfl rfl (.inr rfl) (.inl rfl)) (λa q _ _ e=>by rcases e with e |e |e <;> first |omega |exact absurd rfl e) (λ_ _=>id) λv2 q2 hp=>?_
  .obtain⟨p1,p2,_⟩:=Ft hp;have hc0:=hat.c0 hcr;rw [p1,p2] at hc0;exact(stepG_load_atomic rfl (aj rfl _) (by exact λh=>nomatch h) rfl H.f_loadU64 (by kernel_rfl) (by kernel_rfl) (by kernel_rfl) .u64 (by kernel_rfl) (ad:=p.stA) (ha.ev rfl) hc0).trans rfl
  clear hp;refine qb ?_;refine Qt.ret hT (iT hT rfl H.f_uLoad rfl rfl (hk3 _ _ _ ?_));refine qb ?_;refine Qt.op hT rfl (bJ (k:=0) rfl (dj (n:=0) H.underlying_tWg rfl H.sizeOf_tAU) rfl) ?_;refine Qt.call (c9:=[.pointer (some p.stA),.int .u64 0]) hT rfl rfl H.f_uStore (by kernel_rfl) rfl rfl λc4 hk4=>?_;refine qb ?_;refine Qt.op hT rfl (bJ (k:=0) rfl (dj (n:=0) H.underlying_tAU rfl H.sizeOf_tU64) rfl) ?_;refine qb ?_;refine rK (d:=8) hok rfl (u:=λq=>.tuple #[]) (W:=λw q=>w.setCell p.stA (.int .u64 ((0 * 4294967296+0:Nat):Int))) (Q:=λq=>{ q with c:=0,wt:=0 }) (S:=λ_=>VO) (es:=λ_=> #[OF p.stA]) (λ_=>rfl) (λa ha w q hat hp=>?_) (λw q hat _=>Gp.Eff.st hok hcr hat) (λ_ hp=>(Ft hp).2.2) (λq _=>xB hcr rfl rfl rfl rfl rfl rfl (.inr rfl) (.inr (.inl rfl))) (λa q _ _ e=>by rcases e with e |e |e <;> first |exact absurd e (Nat.lt_irrefl _) |exact absurd rfl e) (λ_ _=>id) λv3 q3 hp3=>?_
  .exact(stepG_store_atomic rfl (aj rfl _) (by exact λh=>nomatch h) rfl H.f_storeU64 (by kernel_rfl) (by kernel_rfl) (by kernel_rfl) (by kernel_rfl) (ad:=p.stA) (k:=.u64) (v:=0) (ha.ev rfl) (ha.ev rfl) (hat.c0 hcr) (hat.f0 hcr)).trans rfl
  replace hT:Mv P p.Kf false (WV v0 P p T false VO):=bA rfl;refine qb ?_;refine Qt.fin hT (dS hT rfl H.f_uStore rfl (hk4 _ _ _ ?_));refine qb ?_;refine Qt.loop hT ?_;refine qb ?_;refine Qt.op hT rfl (bJ (k:=1) rfl (dj (n:=0) H.underlying_tWg rfl H.sizeOf_tU32) rfl) ?_;refine Lp (d:=116) hok rfl (u:=λq=>.tuple #[]) (W:=λw q=>w.setCell p.smA (.int .u32 ((q.sm+1:Nat):Int))) (Q:=λq=>{ q with sm:=q.sm+1 }) (S:=λ_=>.quit) (es:=λ_=>semEvents p.smA) (λa ha w q hat hp=>?_) (λw q hat _=>Gp.Eff.sm hok hcr hat) (λ_ _=>Nh) (λq _=>xB hcr rfl rfl rfl rfl rfl rfl (.inl rfl) (.inr (.inr (.inr rfl)))) (λa _ _ _ _=>P6 rfl rfl H.f_semrelease (by kernel_rfl) a) (λ_ _=>id) λv4 q4 hp4=>⟨λe=>(by cases e),λ_=>⟨rfl,?_⟩⟩
  .have p3:q.sm≤1:=by obtain⟨a,z,_,_,_,_,_,_,_,_,_,_,h⟩:=hp.get;exact h
   have hw:IntKind.u32.wrap ((q.sm:Int)+1)=((q.sm+1:Nat):Int):=by rw [IntKind.wrap_u32];omega
   refine(stepG_semrelease rfl (aj rfl _) (by exact λh=>nomatch h) rfl H.f_semrelease (by kernel_rfl) (by kernel_rfl) (by kernel_rfl) (by kernel_rfl) (ad:=p.smA) (by rw [Array.getElem?_map];exact congrArg some (ha.ev (x:=.tmp 115) rfl)) (hat.c1 hcr) (hat.f1 hcr)).trans ?_;rw [hw];rfl
  replace hT:Mv P (λ_=>True) false (TQ P 1):=zh;refine qb ?_;refine Qt.op hT rfl (bi (u:=.int .u32 0) rfl rfl rfl rfl) ?_;refine qb ?_;refine Qt.inLoop hT ?_;refine qb ?_;refine Qt.exit hT rfl ?_;exact Qt.fin hT (fin1 _ _)
end
end K
end Go.Proofs.YtcpbmhgakdeceaaGreat
set_option linter.unusedVariables false
set_option maxRecDepth 20000
set_option maxHeartbeats 4000000
namespace Go.Proofs.YtcpbmhgakdeceaaGreat
namespace K
open Go Go.Conc Go.Conc.Lib
@[reducible] def Ph.stt(s:Ph)(df pd:Nat)(rg:Bool)(cb:Option Nat)(al jn:Bool):Ph:={ s with df:=df,pd:=pd,rg:=rg,cb:=cb,al:=al,jn:=jn }
structure Ph.Stt(s:Ph):Prop where
 q:s.q=false
 nr:s.nr=true
 mx:s.mx=0
 dt:s.dt=0
 se:s.se=none
 nb:s.nb=0
section
variable {P:Program}{L:WgLink}{p:Gp}{T:Tq}{v0 v:VW}{s:Ph}
theorem tU{q q':eu}{df pd df' pd':Nat}{rg al jn rg' al' jn':Bool}{cb cb':Option Nat}(hs:s.Stt)
 (hsame:q'.L=q.L/\q'.W=q.W/\q'.S=q.S/\q'.N=q.N/\q'.T=q.T/\q'.f=q.f/\q'.h=q.h/\q'.cl=q.cl)
 (hA:∀a,Ar q a (s.stt df pd rg cb al jn)->q'.c=a.ac+pd'/\(rg'=false->q'.wt=0/\q'.sm=0/\a.w1=0/\a.w2=0)/\(rg'=true->pd'=0/\(0 < q'.c->q'.wt=1/\q'.sm=0/\a.w1=0/\a.w2=0)/\(q'.c=0->q'.wt=a.w1/\a.w1+a.w2+q'.sm=1))/\pd'≤1/\(rg'=true->q.cl=true)/\(∀B,cb'=some B->q'.c≤B)/\(al'=true->al=true\/(a.ac=0/\a.w1=0/\a.w2=0))):
 Sv p true (s.stt df pd rg cb al jn) q (s.stt df' pd' rg' cb' al' jn') q':=by
 obtain⟨e1,e2,e3,e4,e5,e6,e7,e8⟩:=hsame
 have hw:q'.word=q.word:=by simp_all [eu.word]
 refine Sv.mk (λa b z ha hp hb hz _ _ _ _=>?_) hs.q (.inr ⟨e6,hw⟩) (λow φ e=>by simp_all) (λx h1 h2 _=>by omega) (λ_ _ _ _ _=>by rw [show(s.stt df' pd' rg' cb' al' jn').nb=0 from hs.nb];omega) (λi hi ho=>⟨ho.one,λe=>⟨hs.mx,hi.1 rfl⟩,ho.lv,λe=>?_,ho.dt,ho.main,ho.work⟩) (λ_ e=>?_)
 .
  rw [if_pos rfl];have hz:=hz rfl;subst hz;obtain⟨k1,k2,k3,k4,k5,k6,k7⟩:=hA a ha;have r1:b.ac=a.ac:=Nat.add_right_cancel hb.ac;have r2:b.w1=a.w1:=Nat.add_right_cancel hb.w1;have r3:b.w2=a.w2:=Nat.add_right_cancel hb.w2;have r4:b.nw=a.nw:=Nat.add_right_cancel hb.nw;have r5:b.hd=a.hd:=Nat.add_right_cancel hb.hd;have r6:b.dt=a.dt:=Nat.add_right_cancel hb.dt;have r7:b.aw=a.aw:=Nat.add_right_cancel hb.aw;have r8:b.rn=a.rn:=Nat.add_right_cancel hb.rn;have r9:b.qu=a.qu:=Nat.add_right_cancel hb.qu;have r10:b.tk=a.tk:=Nat.add_right_cancel hb.tk;have r11:b.rh=a.rh:=Nat.add_right_cancel hb.rh;have r12:b.ty=a.ty:=Nat.add_right_cancel hb.ty;have r13:b.phi=a.phi:=Nat.add_right_cancel hb.phi;have r14:b.lv=a.lv:=Nat.add_right_cancel hb.lv;refine⟨by simp_all,by simp_all,by simp_all,k4,λe=>?_,by rw [e8];exact ha.op,by rw [e8,r4];exact ha.nw,by rw [e1,e2,e3];exact ha.le,by rw [e1,r5];exact ha.hd,by rw [e1,e2,e3,e4,e5,r7,r8,r9,r10,r11,r12];exact ha.s0,by rw [e1,e2,e3,e4,e5,r7,r8,r9,r10,r11];exact ha.s1,by rw [e7,r6];exact ha.h,by rw [e5,e6,r13];exact ha.f,by rw [r14];exact ha.lv,k6⟩;rw [e8];exact e.elim k5 λe=>ha.rgc (.inr e)
 .
  have e:s.q=true:=e;rw [hs.q] at e;cases e
 .
  by_cases h:al=true
  .exact .inl h
  simp_all
theorem lH{df pd df' pd':Nat}{rg al jn rg' al' jn':Bool}{cb cb':Option Nat}{es:Array Event}(hs:s.Stt)
 (sh:∀e∈es,(∃l wr,e=⟨l,wr,true⟩/\p.wc l)\/e=jK .disable\/e=jK .enable\/(∃a,e=jK (.acquire a))\/(∃a,e=jK (.releaseMerge a))\/(true=true/\∃a,(e=jK (.read a)\/e=jK (.write a))/\p.wc (.cell a)))
 (hdf:deafBehind df es=df') (hjn:jn'=true->al'=true/\(jn=true\/(es= #[jK (.acquire p.stA)]/\df=0/\al=true))):nV p true (s.stt df pd rg cb al jn) (s.stt df' pd' rg' cb' al' jn') es where
 sh:=sh
 df:=by rw [if_neg (by rw [show(s.stt df' pd' rg' cb' al' jn').q=s.q from rfl,hs.q];simp)];exact hdf
 deaf e:=by cases e
 acq e:=absurd rfl e
 rel e:=absurd rfl e
 dt:=by show s.dt≤1;rw [hs.dt];omega
 nr _ e:=by simp_all
 nr' h:=h
 jn:=hjn
 bw e:=by cases e
theorem lW{q:eu}{df pd df':Nat}{rg al jn:Bool}{cb:Option Nat}{a:Su}(ha:Ar q a (s.stt df pd rg cb al jn)):q.c=a.ac+pd/\(rg=false->q.wt=0/\q.sm=0/\a.w1=0/\a.w2=0)/\(rg=true->pd=0/\(0 < q.c->q.wt=1/\q.sm=0/\a.w1=0/\a.w2=0)/\(q.c=0->q.wt=a.w1/\a.w1+a.w2+q.sm=1))/\pd≤1/\(rg=true->q.cl=true)/\(∀B,cb=some B->q.c≤B)/\(al=true->al=true\/(a.ac=0/\a.w1=0/\a.w2=0)):=
 ⟨ha.c,ha.un,ha.re,ha.pd,λe=>ha.rgc (.inl e),ha.cb,.inl⟩
variable {df pd:Nat}{rg al jn:Bool}{cb:Option Nat}
theorem Gt(hok:p.Ok)(hs:s.Stt)(hjn:jn=true->al=true):Wd P p.Kf true #[jK .disable] (WV v0 P p T true (s.stt df pd rg cb al jn)) (WV v0 P p T true (s.stt (df+1) pd rg cb al jn)):=
 vg hok hs.q hs.q rfl (λq _=>tU hs ⟨rfl,rfl,rfl,rfl,rfl,rfl,rfl,rfl⟩ λa ha=>lW (df':=0) ha) (lH hs (λe h=>by simp_all) rfl λe=>⟨hjn e,.inl e⟩)
theorem AK(hok:p.Ok)(hs:s.Stt)(hjn:jn=true->al=true):Wd P p.Kf true #[jK .enable] (WV v0 P p T true (s.stt (df+1) pd rg cb al jn)) (WV v0 P p T true (s.stt df pd rg cb al jn)):=
 vg hok hs.q hs.q rfl (λq _=>tU hs ⟨rfl,rfl,rfl,rfl,rfl,rfl,rfl,rfl⟩ λa ha=>lW (df':=0) ha) (lH hs (λe h=>by simp_all) rfl λe=>⟨hjn e,.inl e⟩)
theorem SQ(hok:p.Ok)(hcr:p.cr=true)(hs:s.Stt)(hjn:jn=true->al=true):Wd P p.Kf true #[jK (.read p.smA)] (WV v0 P p T true (s.stt df pd rg cb al jn)) (WV v0 P p T true (s.stt df pd rg cb al jn)):=
 vg hok hs.q hs.q rfl (λq _=>Sv.refl) (lH hs (λe h=>by grind [yq]) rfl λe=>⟨hjn e,.inl e⟩)
theorem SO(hok:p.Ok)(hcr:p.cr=true)(hs:s.Stt)(hjn:jn=true->al=true):Wd P p.Kf true #[jK (.write p.smA)] (WV v0 P p T true (s.stt df pd rg cb al jn)) (WV v0 P p T true (s.stt df pd rg cb al jn)):=
 vg hok hs.q hs.q rfl (λq _=>Sv.refl) (lH hs (λe h=>by grind [yq]) rfl λe=>⟨hjn e,.inl e⟩)
theorem Gu(hok:p.Ok)(hs:s.Stt):Wd P p.Kf true #[jK (.acquire p.stA)] (WV v0 P p T true (s.stt 0 pd rg cb true jn)) (WV v0 P p T true (s.stt 0 pd rg cb true true)):=
 vg hok hs.q hs.q rfl (λq _=>tU hs ⟨rfl,rfl,rfl,rfl,rfl,rfl,rfl,rfl⟩ λa ha=>lW (df':=0) ha) (lH hs (λe h=>by grind) rfl λe=>⟨rfl,.inr ⟨rfl,rfl,rfl⟩⟩)
end
section
variable {P:Program}{L:WgLink}{p:Gp}{T:Tq}{v0 v:VW}{s:Ph}{c:Frame}{cs:List Frame}{cb:Option Nat}{al jn:Bool}
theorem Pi(H:WgLib P L)(hok:p.Ok)(hcr:p.cr=true)(hs:s.Stt)(hjn:jn=true->al=true)(hk:∀v',WV v0 P p T true (s.stt 0 1 false none al jn) v' (c.finish (.tuple #[])) cs):
 Qt (WV v0 P p T true (s.stt 0 0 false none al jn)) v (base L.add) (c::cs) 117 [] [.code ((addFn L).body.getD .skip)] (ent 0 [.pointer (some p.stA),.int .i64 1]):=by
 have hT:Mv P p.Kf true (WV v0 P p T true (s.stt 0 0 false none al jn)):=bA hs.q
 refine qb ?_
 refine jk (Gt hok hs hjn) (J9 H) rfl rfl ?_
 replace hT:Mv P p.Kf true (WV v0 P p T true (s.stt 1 0 false none al jn)):=bA hs.q
 refine qb ?_
 refine Qt.defer (c9:=[]) hT rfl rfl rfl ?_
 refine qb ?_
 refine xo hT (Qg H) rfl rfl ?_
 refine qb ?_
 refine Qt.op hT rfl (bJ (k:=0) rfl (dj (n:=0) H.underlying_tWg rfl H.sizeOf_tAU) rfl) ?_
 refine qb ?_
 refine Qt.op hT rfl (gx (z:=1) rfl H.underlying_t3 H.underlying_tU64 rfl (by decide)) ?_
 refine Qt.op hT rfl (IH (z:=4294967296) rfl rfl rfl (by decide) (by decide)) ?_
 refine Qt.call (c9:=[.pointer (some p.stA),.int .u64 4294967296]) hT rfl rfl H.f_uAdd (by kernel_rfl) rfl rfl λc2 hk2=>?_
 refine qb ?_
 refine Qt.op hT rfl (bJ (k:=0) rfl (dj (n:=0) H.underlying_tAU rfl H.sizeOf_tU64) rfl) ?_
 refine qb ?_
 refine rK (d:=9) hok hs.q (u:=λq=>.int .u64 (((q.c+1) * 4294967296+0:Nat):Int)) (W:=λw q=>w.setCell p.stA (.int .u64 (((q.c+1) * 4294967296+0:Nat):Int))) (Q:=λq=>{ q with c:=q.c+1,wt:=0 }) (S:=λ_=>s.stt 1 1 false none al jn) (es:=λ_=> #[EM p.stA,OF p.stA]) (λ_=>hs.q)
  (λa ha w q hat hp=>?_) (λw q hat _=>Gp.Eff.st hok hcr hat) (λq hp=>?_) (λq _=>lH hs (λe h=>?_) rfl λe=>⟨hjn e,.inl e⟩) (λa q _ _ e=>by simp_all) (λ_ _=>id) λv' q hp=>?_
 .
  obtain⟨a',z,hA,_,hz,_,_,_,_,_,hc,_⟩:=hp.get;have hz:=hz rfl;subst hz;have hwt:=(hA.un rfl).1;have hw:IntKind.u64.wrap (((q.c * 4294967296+q.wt:Nat):Int)+4294967296)=(((q.c+1) * 4294967296+0:Nat):Int):=by rw [IntKind.wrap_u64];omega
  refine(stepG_add_atomic rfl (aj rfl _) (by exact λh=>nomatch h) rfl H.f_addU64 (by kernel_rfl) (by kernel_rfl) (by kernel_rfl) .u64 (by kernel_rfl) (ad:=p.stA) (ha.ev rfl) (ha.ev rfl) (hat.c0 hcr) (hat.f0 hcr)).trans ?_;rw [hw];rfl
 .
  refine tU hs ⟨rfl,rfl,rfl,rfl,rfl,rfl,rfl,rfl⟩ λa ha=>?_;obtain⟨k1,k2,k3,k4,k5,k6,k7⟩:=lW (df':=0) ha;simp_all
 .
  simp at h;rcases h with rfl |rfl <;> exact .inl ⟨_,_,rfl,yp hcr⟩
 have hlt:q.c+1 < 2147483648:=by obtain⟨_,_,_,_,_,_,_,_,_,_,hc,_⟩:=hp.get;omega
 have hpos:0 < q.c+1:=by omega
 replace hT:Mv P p.Kf true (WV v0 P p T true (s.stt 1 1 false none al jn)):=bA hs.q
 clear hp
 generalize q.c+1=cc at hlt hpos
 refine qb ?_
 refine Qt.ret hT (iT hT rfl H.f_uAdd rfl rfl (hk2 _ _ _ ?_))
 refine qb ?_
 refine Qt.op hT rfl (bi (u:=.int .u64 0) rfl rfl rfl (congrArg (λz=>some (Value.int .u64 z)) (yx hlt (by decide)))) ?_
 refine qb ?_
 refine Qt.op hT rfl (mi (z:=cc) rfl rfl rfl (by decide) (yw hlt (by decide))) ?_
 refine Qt.op hT rfl (gx (z:=cc) rfl H.underlying_tU64 H.underlying_t21 rfl (Be hlt)) ?_
 refine qa ?_
 refine Qt.op hT rfl (bi (u:=.int .u64 0) rfl rfl rfl (congrArg (λz=>some (Value.int .u64 z)) (yv hlt (by decide)))) ?_
 refine Qt.op hT rfl (gx (z:=0) rfl H.underlying_tU64 H.underlying_tU32 rfl rfl) ?_
 refine qb ?_
 refine cH hT rfl (gx (z:=1) rfl H.underlying_t3 H.underlying_t21 rfl (by decide)) ?_
 have hgt:jJ .gtr .i32 (cc:Int) 0=some (.bool true):=by simp [jJ];omega
 rcases Decidable.em (cc=1) with h1 |h1
 .
  refine cH hT rfl (bi (u:=.bool true) rfl rfl rfl (by simp [jJ];omega)) ?_;refine qb ?_;refine Qt.op hT rfl (bJ (k:=1) rfl (dj (n:=0) H.underlying_tWg rfl H.sizeOf_tU32) rfl) ?_;refine Qt.op hT rfl (kS rfl (nX hcr (off:=1) (n:=0) H.underlying_tPU32 H.underlying_tUP H.sizeOf_tU32 (by decide)) rfl) ?_;refine qK (SQ hok hcr hs hjn) (Wt H) rfl rfl rfl ?_;refine qb ?_;refine Qt.op hT rfl (bi (u:=.bool true) rfl rfl rfl hgt) ?_;refine qb ?_;exact Qt.ret hT (Qr.mark (AK hok hs hjn) (J8 H) (dS (bA hs.q) rfl H.f_add rfl (hk _)))
 .
  refine cH hT rfl (bi (u:=.bool false) rfl rfl rfl (by simp [jJ];omega)) ?_;refine qb ?_;refine Qt.op hT rfl (bi (u:=.bool true) rfl rfl rfl hgt) ?_;refine qb ?_;exact Qt.ret hT (Qr.mark (AK hok hs hjn) (J8 H) (dS (bA hs.q) rfl H.f_add rfl (hk _)))
end
end K
end Go.Proofs.YtcpbmhgakdeceaaGreat
set_option linter.unusedVariables false
set_option maxRecDepth 20000
set_option maxHeartbeats 4000000
namespace Go.Proofs.YtcpbmhgakdeceaaGreat
namespace K
open Go Go.Conc Go.Conc.Lib
def Bd(L:WgLink):Code:=match (waitFn L).body with
 |some (.seq _ (.block _ (.loop b)))=>b
 |_=>.skip
section
variable {P:Program}{L:WgLink}{p:Gp}{T:Tq}{v0 v:VW}{s:Ph}{c:Frame}{cs:List Frame}{cb:Option Nat}{N d i:Nat}{df:List Deferred}{Γ:Gv}{ops:Array Oper}{rest:List Nat}{k:List Item}{b:Frame}
theorem zy(hcr:p.cr=true):∀e∈ #[EM p.stA],(∃l wr,e=⟨l,wr,true⟩/\p.wc l)\/e=jK .disable\/e=jK .enable\/(∃a,e=jK (.acquire a))\/(∃a,e=jK (.releaseMerge a))\/(true=true/\∃a,(e=jK (.read a)\/e=jK (.write a))/\p.wc (.cell a)):=λe h=>by
 simp at h;subst h;exact .inl ⟨_,_,rfl,yp hcr⟩
theorem Px(H:WgLib P L)(hok:p.Ok)(hcr:p.cr=true)(hs:s.Stt){al:Bool}(hk:∀v' cc,(∀B,cb=some B->cc≤B)->cc < 2147483648->WV v0 P p T true (if cc=0 then s.stt 1 0 false (some 0) true false else s.stt 1 0 false (some cc) al false) v' (c.finish (.int .u64 ((cc * 4294967296+0:Nat):Int))) cs):
 Qt (WV v0 P p T true (s.stt 1 0 false cb al false)) v (base L.uLoad) (c::cs) 7 [] [.code ((uLoadFn L).body.getD .skip)] (ent 0 [.pointer (some p.stA)]):=by
 have hT:Mv P p.Kf true (WV v0 P p T true (s.stt 1 0 false cb al false)):=bA hs.q
 refine qb ?_
 refine Qt.op hT rfl (bJ (k:=0) rfl (dj (n:=0) H.underlying_tAU rfl H.sizeOf_tU64) rfl) ?_
 refine rK (d:=6) hok hs.q (u:=λq=>.int .u64 ((q.c * 4294967296+0:Nat):Int)) (W:=λw q=>w) (Q:=λq=>q) (S:=λq=>if q.c=0 then s.stt 1 0 false (some 0) true false else s.stt 1 0 false (some q.c) al false) (es:=λ_=> #[EM p.stA]) (λq=>by split <;> exact hs.q)
  (λa ha w q hat hp=>?_) (λw q hat _=>.refl hat) (λq hp=>?_) (λq _=>?_) (λa q _ _ e=>by simp_all) (λ_ _=>id) λv' q hp=>?_
 .
  obtain⟨a',z,hA,_,hz,_⟩:=hp.get;have hz:=hz rfl;subst hz;have hwt:=(hA.un rfl).1;have hc0:=hat.c0 hcr;rw [hwt] at hc0;exact(stepG_load_atomic rfl (aj rfl _) (by exact λh=>nomatch h) rfl H.f_loadU64 (by kernel_rfl) (by kernel_rfl) (by kernel_rfl) .u64 (by kernel_rfl) (ad:=p.stA) (ha.ev rfl) hc0).trans rfl
 .
  by_cases e:q.c=0
  .simp only [if_pos e];refine tU hs ⟨rfl,rfl,rfl,rfl,rfl,rfl,rfl,rfl⟩ λa ha=>?_;obtain⟨k1,k2,k3,k4,k5,k6,k7⟩:=lW (df':=0) ha;simp_all
  .simp only [if_neg e];refine tU hs ⟨rfl,rfl,rfl,rfl,rfl,rfl,rfl,rfl⟩ λa ha=>?_;obtain⟨k1,k2,k3,k4,k5,k6,k7⟩:=lW (df':=0) ha;simp_all
 .
  by_cases e:q.c=0
  .simp only [if_pos e];exact lH hs (zy hcr) rfl λe=>(by cases e)
  .simp only [if_neg e];exact lH hs (zy hcr) rfl λe=>(by cases e)
 have hb:(∀B,cb=some B->q.c≤B)/\q.c≤102:=by
  obtain⟨a',z,hA,_,hz,_,_,_,_,_,hc,_⟩:=hp.get;have hz:=hz rfl;subst hz;exact⟨hA.cb,hc⟩
 generalize q.c=cc at hb
 have hT:Mv P p.Kf true (WV v0 P p T true (if cc=0 then s.stt 1 0 false (some 0) true false else s.stt 1 0 false (some cc) al false)):=bA (by split <;> exact hs.q)
 refine qb ?_
 exact Qt.ret hT (iT hT rfl H.f_uLoad rfl rfl (hk _ _ hb.1 (by omega)))
theorem Lq(H:WgLib P L)(hok:p.Ok)(hcr:p.cr=true)(hs:s.Stt){al:Bool}(hk:∀v',WV v0 P p T true (s.stt 1 0 false (some 0) al false) v' (c.finish (.int .u64 0)) cs):
 Qt (WV v0 P p T true (s.stt 1 0 false (some 0) al false)) v (base L.uLoad) (c::cs) 7 [] [.code ((uLoadFn L).body.getD .skip)] (ent 0 [.pointer (some p.stA)]):=by
 have hT:Mv P p.Kf true (WV v0 P p T true (s.stt 1 0 false (some 0) al false)):=bA hs.q
 refine qb ?_
 refine Qt.op hT rfl (bJ (k:=0) rfl (dj (n:=0) H.underlying_tAU rfl H.sizeOf_tU64) rfl) ?_
 refine rK (d:=6) hok hs.q (u:=λq=>.int .u64 0) (W:=λw q=>w) (Q:=λq=>q) (S:=λq=>s.stt 1 0 false (some 0) al false) (es:=λ_=> #[EM p.stA]) (λq=>hs.q)
  (λa ha w q hat hp=>?_) (λw q hat _=>.refl hat) (λq hp=>Sv.refl) (λq _=>lH hs (zy hcr) rfl λe=>(by cases e)) (λa q _ _ e=>by simp_all) (λ_ _=>id) λv' q hp=>?_
 .
  obtain⟨a',z,hA,_,hz,_⟩:=hp.get;have hz:=hz rfl;subst hz;have hwt:=(hA.un rfl).1;have hc:q.c=0:=le_zero.1 (hA.cb 0 rfl);have hc0:=hat.c0 hcr;rw [hwt,hc] at hc0;exact(stepG_load_atomic rfl (aj rfl _) (by exact λh=>nomatch h) rfl H.f_loadU64 (by kernel_rfl) (by kernel_rfl) (by kernel_rfl) .u64 (by kernel_rfl) (ad:=p.stA) (ha.ev rfl) hc0).trans rfl
 refine qb ?_
 exact Qt.ret hT (iT hT rfl H.f_uLoad rfl rfl (hk _))
theorem SR(H:WgLib P L)(hok:p.Ok)(hcr:p.cr=true)(hs:s.Stt)(hcd:s.cd=true){cc:Nat}{al:Bool}(hcc:0 < cc)(hk1:∀v',WV v0 P p T true (s.stt 1 0 true (some cc) al false) v' (c.finish (.bool true)) cs)(hk2:∀v',WV v0 P p T true (s.stt 1 0 false (some (cc - 1)) al false) v' (c.finish (.bool false)) cs):
 Qt (WV v0 P p T true (s.stt 1 0 false (some cc) al false)) v (base L.uCas) (c::cs) 13 [] [.code ((uCasFn L).body.getD .skip)] (ent 0 [.pointer (some p.stA),.int .u64 ((cc * 4294967296+0:Nat):Int),.int .u64 ((cc * 4294967296+1:Nat):Int)]):=by
 have hT:Mv P p.Kf true (WV v0 P p T true (s.stt 1 0 false (some cc) al false)):=bA hs.q
 refine qb ?_
 refine Qt.op hT rfl (bJ (k:=0) rfl (dj (n:=0) H.underlying_tAU rfl H.sizeOf_tU64) rfl) ?_
 refine qb ?_
 refine rK (d:=12) hok hs.q (u:=λq=>.bool (decide (q.c=cc))) (W:=λw q=>if q.c=cc then w.setCell p.stA (.int .u64 ((cc * 4294967296+1:Nat):Int)) else w) (Q:=λq=>if q.c=cc then { q with c:=cc,wt:=1 } else q) (S:=λq=>if q.c=cc then s.stt 1 0 true (some cc) al false else s.stt 1 0 false (some (cc - 1)) al false) (es:=λq=>if q.c=cc then #[EM p.stA,OF p.stA] else #[EM p.stA]) (λq=>by split <;> exact hs.q)
  (λa ha w q hat hp=>?_) (λw q hat _=>?_) (λq hp=>?_) (λq _=>?_) (λa q _ _ e=>?_) (λq _ e=>?_) λv' q hp=>?_
 .
  obtain⟨a',z,hA,_,hz,_⟩:=hp.get;have hz:=hz rfl;subst hz;have hwt:=(hA.un rfl).1;have hc0:=hat.c0 hcr;rw [hwt] at hc0;by_cases e:q.c=cc
  .simp only [if_pos e,e,decide_true];rw [e] at hc0;exact(stepG_cas_hit rfl (aj rfl _) (by exact λh=>nomatch h) rfl H.f_casU64 (by kernel_rfl) (by kernel_rfl) (by kernel_rfl) .u64 (by kernel_rfl) (ad:=p.stA) (ha.ev rfl) (ha.ev rfl) (ha.ev rfl) hc0 (hat.f0 hcr)).trans rfl
  .simp only [if_neg e,decide_eq_false e];exact(stepG_cas_miss rfl (aj rfl _) (by exact λh=>nomatch h) rfl H.f_casU64 (by kernel_rfl) (by kernel_rfl) (by kernel_rfl) .u64 (by kernel_rfl) (ad:=p.stA) (ha.ev rfl) (ha.ev rfl) (ha.ev rfl) hc0 (hat.f0 hcr) (by omega)).trans rfl
 .
  split
  .exact Gp.Eff.st hok hcr hat
  .exact .refl hat
 .
  by_cases e:q.c=cc
  .simp only [if_pos e];refine tU hs ⟨rfl,rfl,rfl,rfl,rfl,rfl,rfl,rfl⟩ λa ha=>?_;have hcl:=ha.rgc (.inr hcd);obtain⟨k1,k2,k3,k4,k5,k6,k7⟩:=lW (df':=0) ha;grind
  .simp only [if_neg e];refine tU hs ⟨rfl,rfl,rfl,rfl,rfl,rfl,rfl,rfl⟩ λa ha=>?_;obtain⟨k1,k2,k3,k4,k5,k6,k7⟩:=lW (df':=0) ha;grind
 .
  by_cases e:q.c=cc
  .simp only [if_pos e];exact lH hs (λe h=>by simp at h;rcases h with rfl |rfl <;> exact .inl ⟨_,_,rfl,yp hcr⟩) rfl λe=>(by cases e)
  .simp only [if_neg e];exact lH hs (zy hcr) rfl λe=>(by cases e)
 .
  grind
 .
  grind
 by_cases e:q.c=cc
 .
  simp only [if_pos e,decide_eq_true e];replace hT:Mv P p.Kf true (WV v0 P p T true (s.stt 1 0 true (some cc) al false)):=bA hs.q;refine qb ?_;exact Qt.ret hT (iT hT rfl H.f_uCas rfl rfl (hk1 _))
 .
  simp only [if_neg e,decide_eq_false e];replace hT:Mv P p.Kf true (WV v0 P p T true (s.stt 1 0 false (some (cc - 1)) al false)):=bA hs.q;refine qb ?_;exact Qt.ret hT (iT hT rfl H.f_uCas rfl rfl (hk2 _))
theorem Py(hok:p.Ok)(hcr:p.cr=true)(hs:s.Stt){al:Bool}(h0:∀a,QS N df Γ a->∀w q,p.At w q->q.sm=0->stepG P true (G (b.at a (.inRegion ops (i::rest)::k)) cs) w= .go { G (b.at a (.inRegion ops (i::rest)::k)) cs with status:=.blocked } w #[])
 (h1:∀a,QS N df Γ a->∀w q,p.At w q->q.sm=1->stepG P true (G (b.at a (.inRegion ops (i::rest)::k)) cs) w= .go (G (b.at (a.put (some d) (.tuple #[])) (.inRegion ops rest::k)) cs) (w.setCell p.smA (.int .u32 ((0:Nat):Int))) (semEvents p.smA))
 (h2:∀v',Qt (WV v0 P p T true (s.stt 1 0 false (some 0) true false)) v' b cs N df (.inRegion ops rest::k) ((d,.tuple #[])::Γ)) (hN:blt d N=true:=by exact rfl):Qt (WV v0 P p T true (s.stt 1 0 true cb al false)) v b cs N df (.inRegion ops (i::rest)::k) Γ:=λa ha hv _=>by
 refine .of ⟨hs.q,.inr (.inr (.inl ⟨.inr rfl,λv1 q hr hat hp=>⟨λhb'=>?_,λhb'=>?_⟩⟩))⟩
 .
  have hT:q.sm=0:=hb'.elim (λe=>by
   have e1:s.qu=1:=e.1
   have:=hs.mx
   simp_all) And.right
  exact h0 a ha _ q hat hT
 .
  obtain⟨a',z,hA,_,hz,_,_,_,_,_,_,_,hsm⟩:=hp.get
  have hz:=hz rfl
  subst hz
  have hne:q.sm≠0:=λe=>hb' (.inr ⟨rfl,e⟩)
  have hre:=hA.re rfl
  have hc:q.c=0:=by
   omega
  have heff:p.Eff v1.toWorld (v1.toWorld.setCell p.smA (.int .u32 ((0:Nat):Int))) { q with sm:=0 }:=Gp.Eff.sm hok hcr hat;refine⟨s.stt 1 0 false (some 0) true false,{ q with sm:=0 },_,_,_,semEvents p.smA,h1 a ha _ q hat (by omega),heff,?_,lH hs (λe h=>?_) rfl λe=>(by cases e),λe=>?_,id,λ_=>⟨q,undef,true,h2 _ _ (ha.put hN) ((hv.rely hr).put hok heff) uc⟩,λe=>?_⟩
  .refine tU hs ⟨rfl,rfl,rfl,rfl,rfl,rfl,rfl,rfl⟩ λa ha=>?_;obtain⟨k1,k2,k3,k4,k5,k6,k7⟩:=lW (df':=0) ha;grind
  .simp [semEvents] at h;rcases h with rfl |rfl |rfl |rfl
   .exact .inr (.inl rfl)
   .simp_all [yq]
   .simp_all [yq]
   .exact .inr (.inr (.inl rfl))
  .rcases e with e |e |e
   .simp_all
   .simp_all
   simp_all
  .have e:s.q=true:=e;rw [hs.q] at e;cases e
end
section
variable {P:Program}{L:WgLink}{p:Gp}{T:Tq}{v0:VW}{s:Ph}{c:Frame}{cs:List Frame}
theorem G0(H:WgLib P L)(hok:p.Ok)(hcr:p.cr=true)(hs:s.Stt)(hcd:s.cd=true){al:Bool}(hk:∀v',WV v0 P p T true (s.stt 0 0 false (some 0) true true) v' (c.finish (.tuple #[])) cs):∀(B:Nat) v Γ,lv Γ 0=some (.pointer (some p.stA))->
 Qt (WV v0 P p T true (s.stt 1 0 false (some B) al false)) v (base L.wait) (c::cs) 84 [] [.code (Bd L),.inLoop (Bd L),.inBlock 0] Γ:=λB=>by
 induction B using Nat.strongRecOn with
 |_ B ih=>
 intro v Γ h0
 have hT:Mv P p.Kf true (WV v0 P p T true (s.stt 1 0 false (some B) al false)):=bA hs.q
 refine qa ?_
 refine Qt.op hT rfl (d5 rfl h0) ?_
 refine qb ?_
 refine Qt.op hT rfl (bJ (k:=0) rfl (dj (n:=0) H.underlying_tWg rfl H.sizeOf_tAU) rfl) ?_
 refine Qt.call (c9:=[.pointer (some p.stA)]) hT rfl rfl H.f_uLoad (by kernel_rfl) rfl rfl λc1 hk1=>?_
 refine Px H hok hcr hs λv' cc hB hlt=>?_
 have hB:=hB B rfl
 rcases eq_zero_or_pos cc with hz |hpos
 .
  subst hz
  rw [if_pos rfl]
  replace hT:Mv P p.Kf true (WV v0 P p T true (s.stt 1 0 false (some 0) true false)):=bA hs.q
  refine hk1 _ _ _ ?_
  refine qb ?_
  refine Qt.op hT rfl (mi (z:=(0:Nat)) rfl rfl rfl (by decide) (yw (by decide) (by decide))) ?_
  refine Qt.op hT rfl (gx (z:=(0:Nat)) rfl H.underlying_tU64 H.underlying_t21 rfl rfl) ?_
  refine qb ?_
  refine Qt.op hT rfl (bi (u:=.int .u64 0) rfl rfl rfl (congrArg (λz=>some (Value.int .u64 z)) (yv (by decide) (by decide)))) ?_
  refine Qt.op hT rfl (gx (z:=0) rfl H.underlying_tU64 H.underlying_tU32 rfl rfl) ?_
  refine qb ?_
  refine jk (AK hok hs (λe=>by cases e)) (J8 H) rfl rfl ?_
  replace hT:Mv P p.Kf true (WV v0 P p T true (s.stt 0 0 false (some 0) true false)):=bA hs.q
  refine qa ?_
  refine Qt.op hT rfl (d5 rfl h0) ?_
  refine Qt.op hT rfl (kS rfl (nX hcr (off:=0) (n:=1) H.underlying_tWgP H.underlying_tUP H.sizeOf_tWg (by decide)) rfl) ?_
  refine qK (Gu hok hs) (Qh H) rfl rfl rfl ?_
  replace hT:Mv P p.Kf true (WV v0 P p T true (s.stt 0 0 false (some 0) true true)):=bA hs.q
  refine qb ?_
  refine cH hT rfl (bi (u:=.int .u64 0) rfl rfl rfl (congrArg (λz=>some (Value.int .u64 z)) (yx (by decide) (by decide)))) ?_
  refine qb ?_
  exact Qt.ret hT (dS hT rfl H.f_wait rfl (hk _))
 .
  rw [if_neg (by omega)]
  replace hT:Mv P p.Kf true (WV v0 P p T true (s.stt 1 0 false (some cc) al false)):=bA hs.q
  refine hk1 _ _ _ ?_
  refine qb ?_
  refine Qt.op hT rfl (mi (z:=cc) rfl rfl rfl (by decide) (yw hlt (by decide))) ?_
  refine Qt.op hT rfl (gx (z:=cc) rfl H.underlying_tU64 H.underlying_t21 rfl (Be hlt)) ?_
  refine qa ?_
  refine Qt.op hT rfl (bi (u:=.int .u64 0) rfl rfl rfl (congrArg (λz=>some (Value.int .u64 z)) (yv hlt (by decide)))) ?_
  refine Qt.op hT rfl (gx (z:=0) rfl H.underlying_tU64 H.underlying_tU32 rfl rfl) ?_
  refine qa ?_
  refine Qt.op hT rfl (bi (u:=.bool false) rfl rfl rfl (by simp [jJ];omega)) ?_
  refine qb ?_
  refine Qt.op hT rfl (d5 rfl h0) ?_
  refine qb ?_
  refine Qt.op hT rfl (bJ (k:=0) rfl (dj (n:=0) H.underlying_tWg rfl H.sizeOf_tAU) rfl) ?_
  refine qa ?_
  refine Qt.op hT rfl (bi (u:=.int .u64 ((cc * 4294967296+1:Nat):Int)) rfl rfl rfl (by simp only [jJ,IntKind.wrap_u64];congr 2;omega)) ?_
  refine Qt.call (c9:=[.pointer (some p.stA),.int .u64 ((cc * 4294967296+0:Nat):Int),.int .u64 ((cc * 4294967296+1:Nat):Int)]) hT rfl rfl H.f_uCas (by kernel_rfl) rfl rfl λc2 hk2=>?_
  refine SR H hok hcr hs hcd hpos (λv'=>?_) (λv'=>?_)
  .
   replace hT:Mv P p.Kf true (WV v0 P p T true (s.stt 1 0 true (some cc) al false)):=bA hs.q
   refine hk2 _ _ _ ?_
   refine qb ?_
   refine Qt.op hT rfl (d5 rfl h0) ?_
   refine qb ?_
   refine Qt.op hT rfl (bJ (k:=1) rfl (dj (n:=0) H.underlying_tWg rfl H.sizeOf_tU32) rfl) ?_
   refine Qt.op hT rfl (kS rfl (nX hcr (off:=1) (n:=0) H.underlying_tPU32 H.underlying_tUP H.sizeOf_tU32 (by decide)) rfl) ?_
   refine qK (SO hok hcr hs (λe=>by cases e)) (Ws H) rfl rfl rfl ?_
   refine qb ?_
   refine Qt.op hT rfl (bi (u:=.int .u64 0) rfl rfl rfl (congrArg (λz=>some (Value.int .u64 z)) (yx hlt (by decide)))) ?_
   refine qb ?_
   refine Qt.op hT rfl (d5 rfl h0) ?_
   refine qb ?_
   refine Qt.op hT rfl (bJ (k:=1) rfl (dj (n:=0) H.underlying_tWg rfl H.sizeOf_tU32) rfl) ?_
   refine qa ?_
   refine Py (d:=72) hok hcr hs (λa ha w q hat hq=>?_) (λa ha w q hat hq=>?_) λv'=>?_
   .
    have h1:=hat.c1 hcr
    rw [hq] at h1
    exact(stepG_semacquire_wait rfl (aj rfl _) rfl H.f_semacquire (by kernel_rfl) (by kernel_rfl) (by kernel_rfl) (by kernel_rfl) (ad:=p.smA) (by rw [Array.getElem?_map];exact congrArg some (ha.ev (x:=.tmp 70) rfl)) h1).trans rfl
   .
    have h1:=hat.c1 hcr
    rw [hq] at h1
    exact(stepG_semacquire rfl (aj rfl _) (by exact λh=>nomatch h) rfl H.f_semacquire (by kernel_rfl) (by kernel_rfl) (by kernel_rfl) (by kernel_rfl) (ad:=p.smA) (by rw [Array.getElem?_map];exact congrArg some (ha.ev (x:=.tmp 70) rfl)) h1 (by decide) (hat.f1 hcr)).trans rfl
   replace hT:Mv P p.Kf true (WV v0 P p T true (s.stt 1 0 false (some 0) true false)):=bA hs.q
   refine qa ?_
   refine Qt.op hT rfl (d5 rfl h0) ?_
   refine qb ?_
   refine Qt.op hT rfl (bJ (k:=0) rfl (dj (n:=0) H.underlying_tWg rfl H.sizeOf_tAU) rfl) ?_
   refine Qt.call (c9:=[.pointer (some p.stA)]) hT rfl rfl H.f_uLoad (by kernel_rfl) rfl rfl λc3 hk3=>?_
   refine Lq H hok hcr hs λv3=>hk3 _ _ _ ?_
   refine qb ?_
   refine jk (AK hok hs (λe=>by cases e)) (J8 H) rfl rfl ?_
   replace hT:Mv P p.Kf true (WV v0 P p T true (s.stt 0 0 false (some 0) true false)):=bA hs.q
   refine qa ?_
   refine Qt.op hT rfl (d5 rfl h0) ?_
   refine Qt.op hT rfl (kS rfl (nX hcr (off:=0) (n:=1) H.underlying_tWgP H.underlying_tUP H.sizeOf_tWg (by decide)) rfl) ?_
   refine qK (Gu hok hs) (Qh H) rfl rfl rfl ?_
   replace hT:Mv P p.Kf true (WV v0 P p T true (s.stt 0 0 false (some 0) true true)):=bA hs.q
   refine qb ?_
   exact Qt.ret hT (dS hT rfl H.f_wait rfl (hk _))
  .
   refine hk2 _ _ _ ?_
   replace hT:Mv P p.Kf true (WV v0 P p T true (s.stt 1 0 false (some (cc - 1)) al false)):=bA hs.q
   refine qb ?_
   refine Qt.inLoop hT ?_
   exact ih (cc - 1) (by omega) _ _ h0
theorem IF(H:WgLib P L)(hok:p.Ok)(hcr:p.cr=true)(hs:s.Stt)(hcd:s.cd=true){v:VW}{al:Bool}(hk:∀v',WV v0 P p T true (s.stt 0 0 false (some 0) true true) v' (c.finish (.tuple #[])) cs):
 Qt (WV v0 P p T true (s.stt 0 0 false (some 102) al false)) v (base L.wait) (c::cs) 84 [] [.code ((waitFn L).body.getD .skip)] (ent 0 [.pointer (some p.stA)]):=by
 have hT:Mv P p.Kf true (WV v0 P p T true (s.stt 0 0 false (some 102) al false)):=bA hs.q
 refine qb ?_
 refine jk (Gt hok hs (λe=>by cases e)) (J9 H) rfl rfl ?_
 replace hT:Mv P p.Kf true (WV v0 P p T true (s.stt 1 0 false (some 102) al false)):=bA hs.q
 refine qb ?_
 refine Qt.loop hT ?_
 exact G0 H hok hcr hs hcd hk 102 _ _ rfl
end
end K
end Go.Proofs.YtcpbmhgakdeceaaGreat
set_option linter.unusedVariables false
namespace Go.Proofs.YtcpbmhgakdeceaaGreat
namespace K
open Go Go.Conc
theorem jj{b:Nat}{R:Obj->Prop}{Δ:List D}{x:Nat}:ay (.inv b R::Δ) x↔x=b\/ay Δ x:=by
 constructor
 .rintro⟨e,he,hx⟩;rcases mem_cons.1 he with rfl |he
  .exact .inl (Option.some.inj hx).symm
  .exact .inr ⟨e,he,hx⟩
 .rintro(rfl |⟨e,he,hx⟩)
  .exact⟨_,mem_cons_self,rfl⟩
  .exact⟨e,mem_cons_of_mem _ he,hx⟩
theorem kL{p:Gp}{v:VW}(h:v.A p.bk):v.ub p=v:=by
 have:(λb=>v.A b\/b=p.bk)=v.A:=by
  grind
 show(⟨v.toWorld,λb=>v.A b\/b=p.bk,v.Z⟩:VW)=v;rw [this]
section
variable {P:Program}{p:Gp}{T:Tq}{M M':Md P}{N:Nat}{S0:FS}{w0:VW}{X:Nat->Prop}{rd:Option Nat}{df df':List Deferred}{Γ Γ':Ga}{Δ Δ':List D}{a a':Act}{v v':VW}
structure Hd(p:Gp)(S0:FS)(w0:VW)(X:Nat->Prop)(Δ:List D)(S:FS)(v:VW):Prop where
 st:bI X S0 w0 S (v.ub p)
 ft:∀b,ay Δ b->X b\/w0.heap.size≤b
 lt:p.bk < v.heap.size
theorem GA(st:St ⟨P,N,S0,w0,X,rd,df,M⟩ Γ Δ a (v.ub p))(hA:¬v.A p.bk)(hR:∃o,v.heap[p.bk]? =some o/\p.R o)(hZ:¬v.Z p.bk):
 ∃S,Hd p S0 w0 X Δ S v/\St ⟨P,N,S,v,ay (.inv p.bk p.R::Δ),rd,df,M'⟩ Γ (.inv p.bk p.R::Δ) a v:=by
 obtain⟨h1,h2,S,h3,h4,h5,h6⟩:=st
 have hlt:p.bk < v.heap.size:=h5.domA _ (.inr rfl)
 have hS:¬S p.bk:=λh=>h5.sees _ h (.inr rfl)
 have hf:¬ay Δ p.bk:=λh=>(h5.far _ h).1 (.inr rfl)
 refine⟨S,⟨h3,h4,hlt⟩,h1,h2,S,bI.refl h3.dom,λb hb=>.inl hb,⟨λd hd=>?_,λb hb=>?_,pairwise_cons.2 ⟨λd hd b e e'=>?_,h5.apart⟩,λb hb=>?_,λb hb hA'=>h5.sees b hb (.inl hA'),λb hb=>h5.domA b (.inl hb),h5.domZ⟩,h6⟩
 .
  rcases mem_cons.1 hd with rfl |hd
  .exact hR
  .exact h5.holds d hd
 .
  rcases jj.1 hb with rfl |hb
  .simp_all
  .exact h5.own b hb
 .
  have:b=p.bk:=(Option.some.inj e).symm;subst this;exact hf ⟨d,hd,e'⟩
 .
  rcases jj.1 hb with rfl |hb
  .simp_all
  .exact⟨λh=>(h5.far b hb).1 (.inl h),(h5.far b hb).2⟩
theorem Dk{S:FS}(hd:Hd p S0 w0 X Δ S v)(hw:w0.A p.bk)(hsh:∀b,p.sh b->w0.A b)(hne:∀b,p.sh b->b≠p.bk)(st:St ⟨P,N,S,v,ay (.inv p.bk p.R::Δ),rd,df,M'⟩ Γ' (.inv p.bk p.R::Δ') a' v'):
 St ⟨P,N,S0,w0,X,rd,df,M⟩ Γ' Δ' a' (v'.ub p)/\¬v'.A p.bk/\(∃o,v'.heap[p.bk]? =some o/\p.R o)/\VR p v' v':=by
 obtain⟨h1,h2,S',h3,h4,h5,h6⟩:=st
 have k3:=hd.st
 have hbk':ay (.inv p.bk p.R::Δ') p.bk:=jj.2 (.inl rfl)
 have hS':¬S' p.bk:=(h5.own _ hbk').1
 have hlt':p.bk < v'.heap.size:=(h5.own _ hbk').2
 have hnf:∀b,ay Δ' b->b≠p.bk:=λb ⟨d,hd',e'⟩ e=>(pairwise_cons.1 h5.apart).1 d hd' p.bk rfl (e▸e')
 have hsz:w0.heap.size≤v'.heap.size:=Nat.le_trans k3.size h3.size
 have hA':¬v'.A p.bk:=(h5.far _ hbk').1
 refine⟨⟨h1,h2,S',⟨λb hb=>h3.sub b (k3.sub b hb),λb hb=>?_,h3.dom,hsz,λb hb ha hx=>?_,h3.os.trans k3.os,h3.tape.trans k3.tape,h3.output.trans k3.output,λb hb=>?_,λb hb=>?_,h3.Z.trans k3.Z⟩,λb hb=>?_,⟨λd hd=>h5.holds d (mem_cons_of_mem _ hd),λb hb=>h5.own b (jj.2 (.inr hb)),(pairwise_cons.1 h5.apart).2,λb hb=>⟨λh=>?_,(h5.far b (jj.2 (.inr hb))).2⟩,λb hb h=>?_,λb hb=>?_,h5.domZ⟩,h6⟩,hA',h5.holds _ mem_cons_self,VR.refl (λb hb=>?_) hlt'⟩
 .
  rcases h3.new b hb with h |h |h
  .exact k3.new b h
  .exact .inr (.inl (Nat.le_trans k3.size h))
  .rcases jj.1 h with rfl |h
   .simp_all
   .exact(hd.ft b h).elim (λh=>.inr (.inr h)) λh=>.inr (.inl h)
 .
  have e1:=k3.keep b hb ha hx
  have e2:=h3.keep b (Nat.lt_of_lt_of_le hb k3.size) (λh=>(k3.oldA b (.inl h)).elim ha λh=>absurd hb (Nat.not_lt.2 h)) λh=>by
   rcases jj.1 h with rfl |h
   .exact ha hw
   .exact(hd.ft b h).elim hx λh=>absurd hb (Nat.not_lt.2 h)
  simp_all
 .
  rcases k3.subA b hb with h |h
  .exact .inl (h3.subA b h)
  omega
 .
  rcases hb with h |h
  .rcases h3.oldA b h with h |h
   .exact k3.oldA b (.inl h)
   .exact .inr (Nat.le_trans k3.size h)
  simp_all
 .
  rcases h4 b (jj.2 (.inr hb)) with h |h
  .rcases jj.1 h with h |h
   .grind
   .exact hd.ft b h
  .exact .inr (Nat.le_trans k3.size h)
 .
  rcases h with h |h
  .exact(h5.far b (jj.2 (.inr hb))).1 h
  grind
 .
  rcases h with h |h
  .exact h5.sees b hb h
  simp_all
 .
  rcases hb with h |h
  .exact h5.domA b h
  simp_all
 .
  rcases k3.subA b (hsh b hb) with h |h
  .exact h3.subA b h
  grind
theorem St.vr(st:St ⟨P,N,S0,w0,X,rd,df,M⟩ Γ Δ a (v.ub p))(h:VR p v v'):St ⟨P,N,S0,w0,X,rd,df,M⟩ Γ Δ a (v'.ub p):=st.rely h.1
theorem Qv{c0 c1 c2 c3 c4 c5:Value}(hm:p.m0= #[c0,c1,c2,c3,c4,c5]):Kn (MW P p T) p.bm 0 [c0,c1,c2,c3,c4,c5]:=by
 refine⟨λw hw=>?_,λj hj=>?_⟩
 .obtain⟨x,y,h⟩:=(show p.Kf w from hw).mu;simp_all
 .have hj:j < 6:=hj;refine⟨j,by simp_all,?_,?_⟩ <;> rw [hm] <;> simp <;> omega
theorem SY{c0 c1 c2 c3 c4 c5:Value}(hm:p.m0= #[c0,c1,c2,c3,c4,c5]):Kn (MW P p T) p.bm 8 [.map (some p.bk)]:=by
 refine⟨λw hw=>?_,λj hj=>?_⟩
 .obtain⟨x,y,h⟩:=(show p.Kf w from hw).mu;simp_all
 .have hj:j < 1:=hj;refine⟨8+j,rfl,?_,?_⟩ <;> rw [hm] <;> simp <;> omega
end
end K
end Go.Proofs.YtcpbmhgakdeceaaGreat
set_option linter.unusedVariables false
set_option maxRecDepth 4000
set_option maxHeartbeats 1000000
namespace Go.Proofs.YtcpbmhgakdeceaaGreat
open K Go Go.Proofs
def nu(k:Nat)(a0:ab)(a1:Int):Option (List (List Int)):=(bO (0≤a1/\a1 < 256)).bind λ_=>kC k a0 a1
def HK(l:List (List Int)):Value:=.agg (l.flatMap λr=>r.map λn=>Value.int .i64 n).toArray
def j9(l:List (List Int)):Prop:=l.length=7/\∀r∈l,r.length=5
theorem zB{S:FS}{w:World}:∀{r:List Int} {cs:List Value},dy (rd S w (.int .i64)) r cs↔cs=r.map λn=>Value.int .i64 n
 |[],cs=>Iff.rfl
 |n::r,cs=>by
  constructor
  .
   rintro⟨c1,c2,rfl,h1,h2⟩
   have h1:c1=[.int .i64 n]:=h1
   rw [h1,zB.1 h2];rfl
  .
   rintro rfl
   exact⟨[.int .i64 n],_,rfl,rfl,zB.2 rfl⟩
theorem s8{S:FS}{w:World}:∀{l:List (List Int)} {cs:List Value},dy (rd S w (.arr 5 (.int .i64))) l cs↔(∀r∈l,r.length=5)/\cs=l.flatMap λr=>r.map λn=>Value.int .i64 n
 |[],cs=>⟨λh=>⟨λr hr=>by simp at hr,h⟩,λh=>h.2⟩
 |r::l,cs=>by
  constructor
  .
   rintro⟨c1,c2,rfl,⟨h0,h1⟩,h2⟩
   obtain⟨g1,g2⟩:=s8.1 h2
   grind [zB]
  .
   rintro⟨g1,rfl⟩
   exact⟨_,_,rfl,⟨g1 r mem_cons_self,zB.2 rfl⟩,s8.2 ⟨λx hx=>g1 x (mem_cons_of_mem _ hx),rfl⟩⟩
theorem HE{S:FS}{w:World}{l:List (List Int)}(h:j9 l):(A.rep (.arr 7 (.arr 5 (.int .i64))) l).holds S w (HK l):=⟨_,⟨h.1,s8.2 ⟨h.2,rfl⟩⟩,rfl⟩
theorem OM{S:FS}{w:World}{l:List (List Int)}{u:Value}(h:(A.rep (.arr 7 (.arr 5 (.int .i64))) l).holds S w u):u=HK l/\j9 l:=by
 obtain⟨cs,⟨h1,h2⟩,e⟩:=h;obtain⟨g1,rfl⟩:=s8.1 h2;exact⟨e,h1,g1⟩
def bR(k:Nat)(a0:ab):Obj->Prop:=xt Tryz.prog 67 HK λkv r=>j9 r/\∃s,kv= .int .u8 s/\nu k a0 s=some r
theorem OT{k:Nat}{a0:ab}{kv:Value}:∀n n':List (List Int),(j9 n/\∃s,kv= .int .u8 s/\nu k a0 s=some n)->(j9 n'/\∃s,kv= .int .u8 s/\nu k a0 s=some n')->n=n':=by
 simp_all
theorem Gf:Maps.Keyed Tryz.prog 67:=Maps.int_keyed Tryz.underlying67
theorem Ge{s:Int}(h:0≤s/\s < 256):∃lt,keyOf Tryz.prog 67 (.int .u8 s)=some lt:=by
 have hw:(Lit.int .u8 s).wf=true:=by grind [Lit.wf,IntKind.min,IntKind.max,IntKind.signed,IntKind.bits]
 simp_all [keyOf,mapKey,Tryz.underlying67]
theorem KX:∀w,(zeroValue 84).run Tryz.prog w= .ok (HK uI) w:=λw=>by kernel_rfl
theorem HJ:j9 uI:=⟨rfl,λr hr=>by simp_all⟩
end Go.Proofs.YtcpbmhgakdeceaaGreat
set_option linter.unusedVariables false
set_option maxRecDepth 4000
set_option maxHeartbeats 1000000
namespace Go.Proofs.YtcpbmhgakdeceaaGreat
open K Go Go.Proofs
theorem CX:∀w,(zeroValue 84).run Tryz.prog w= .ok (.agg #[(.int .i64 (0)),(.int .i64 (0)),(.int .i64 (0)),(.int .i64 (0)),(.int .i64 (0)),(.int .i64 (0)),(.int .i64 (0)),(.int .i64 (0)),(.int .i64 (0)),(.int .i64 (0)),(.int .i64 (0)),(.int .i64 (0)),(.int .i64 (0)),(.int .i64 (0)),(.int .i64 (0)),(.int .i64 (0)),(.int .i64 (0)),(.int .i64 (0)),(.int .i64 (0)),(.int .i64 (0)),(.int .i64 (0)),(.int .i64 (0)),(.int .i64 (0)),(.int .i64 (0)),(.int .i64 (0)),(.int .i64 (0)),(.int .i64 (0)),(.int .i64 (0)),(.int .i64 (0)),(.int .i64 (0)),(.int .i64 (0)),(.int .i64 (0)),(.int .i64 (0)),(.int .i64 (0)),(.int .i64 (0))]) w:=by simp_all
theorem CY:∀S w,(A.cells S w (.rep (.arr 7 (.arr 5 (.int .i64))) [[(0:Int),(0:Int),(0:Int),(0:Int),(0:Int)],[(0:Int),(0:Int),(0:Int),(0:Int),(0:Int)],[(0:Int),(0:Int),(0:Int),(0:Int),(0:Int)],[(0:Int),(0:Int),(0:Int),(0:Int),(0:Int)],[(0:Int),(0:Int),(0:Int),(0:Int),(0:Int)],[(0:Int),(0:Int),(0:Int),(0:Int),(0:Int)],[(0:Int),(0:Int),(0:Int),(0:Int),(0:Int)]]) (Value.cells (.agg #[(.int .i64 (0)),(.int .i64 (0)),(.int .i64 (0)),(.int .i64 (0)),(.int .i64 (0)),(.int .i64 (0)),(.int .i64 (0)),(.int .i64 (0)),(.int .i64 (0)),(.int .i64 (0)),(.int .i64 (0)),(.int .i64 (0)),(.int .i64 (0)),(.int .i64 (0)),(.int .i64 (0)),(.int .i64 (0)),(.int .i64 (0)),(.int .i64 (0)),(.int .i64 (0)),(.int .i64 (0)),(.int .i64 (0)),(.int .i64 (0)),(.int .i64 (0)),(.int .i64 (0)),(.int .i64 (0)),(.int .i64 (0)),(.int .i64 (0)),(.int .i64 (0)),(.int .i64 (0)),(.int .i64 (0)),(.int .i64 (0)),(.int .i64 (0)),(.int .i64 (0)),(.int .i64 (0)),(.int .i64 (0))])).toList):=λ_ _=>⟨rfl,⟨[_,_,_,_,_],_,rfl,⟨rfl,⟨[_],_,rfl,rfl,⟨[_],_,rfl,rfl,⟨[_],_,rfl,rfl,⟨[_],_,rfl,rfl,⟨[_],_,rfl,rfl,rfl⟩⟩⟩⟩⟩⟩,⟨[_,_,_,_,_],_,rfl,⟨rfl,⟨[_],_,rfl,rfl,⟨[_],_,rfl,rfl,⟨[_],_,rfl,rfl,⟨[_],_,rfl,rfl,⟨[_],_,rfl,rfl,rfl⟩⟩⟩⟩⟩⟩,⟨[_,_,_,_,_],_,rfl,⟨rfl,⟨[_],_,rfl,rfl,⟨[_],_,rfl,rfl,⟨[_],_,rfl,rfl,⟨[_],_,rfl,rfl,⟨[_],_,rfl,rfl,rfl⟩⟩⟩⟩⟩⟩,⟨[_,_,_,_,_],_,rfl,⟨rfl,⟨[_],_,rfl,rfl,⟨[_],_,rfl,rfl,⟨[_],_,rfl,rfl,⟨[_],_,rfl,rfl,⟨[_],_,rfl,rfl,rfl⟩⟩⟩⟩⟩⟩,⟨[_,_,_,_,_],_,rfl,⟨rfl,⟨[_],_,rfl,rfl,⟨[_],_,rfl,rfl,⟨[_],_,rfl,rfl,⟨[_],_,rfl,rfl,⟨[_],_,rfl,rfl,rfl⟩⟩⟩⟩⟩⟩,⟨[_,_,_,_,_],_,rfl,⟨rfl,⟨[_],_,rfl,rfl,⟨[_],_,rfl,rfl,⟨[_],_,rfl,rfl,⟨[_],_,rfl,rfl,⟨[_],_,rfl,rfl,rfl⟩⟩⟩⟩⟩⟩,⟨[_,_,_,_,_],_,rfl,⟨rfl,⟨[_],_,rfl,rfl,⟨[_],_,rfl,rfl,⟨[_],_,rfl,rfl,⟨[_],_,rfl,rfl,⟨[_],_,rfl,rfl,rfl⟩⟩⟩⟩⟩⟩,rfl⟩⟩⟩⟩⟩⟩⟩⟩
theorem mY:eE Tryz.prog 84 35 true:=⟨λw=>by kernel_rfl,λw=>by kernel_rfl⟩
theorem F8:bh Tryz.prog 122 2 8:=bh.of (by kernel_rfl)
theorem IO:eE Tryz.prog 120 1 false:=⟨λw=>by kernel_rfl,λw=>by kernel_rfl⟩
section
variable {M:Md Tryz.prog}{bm bk:Nat}{c0 c1 c2 c3 c4 c5:Value}{S:FS}{w0:VW}{X:Nat->Prop}{df:List Deferred}{b1 b2:Nat}{k:Nat}{a0:ab}{a1:Int}
@[reducible] noncomputable def K0 (bm:Nat) (c0 c1 c2 c3 c4 c5:Value) (a0:ab) (a1:Int) (b1:Nat):Ga:=[(0,.rep (.mo (.pointer (some ⟨bm,0,none⟩)) [c0,c1,c2,c3,c4,c5] ah) a0),(1,.eq (.int .u8 a1)),(4,.eq (.pointer (some ⟨b1,0,none⟩)))]
theorem SA:JC (pi M S w0 X df) (K1 0) (cD (λa w=>∃b1,St (pi M S w0 X df) (K0 bm c0 c1 c2 c3 c4 c5 a0 a1 b1) [.obj b1 84 (.rep (.arr 7 (.arr 5 (.int .i64))) uI)] a w) (λ_ _ _=>False)) (entry 0 [.rep (.mo (.pointer (some ⟨bm,0,none⟩)) [c0,c1,c2,c3,c4,c5] ah) a0,.eq (.int .u8 a1)]) []:=by
 refine ae ?_;refine aQ rfl rfl rfl (aV rfl CX CY) trivial λb1=>?_;refine bp (aH ?_);exact λa w st=>⟨b1,(kg (junk:=[]) (by repeat (first |exact trivial |refine⟨rfl,?_⟩)) (by simp)) a w st⟩
theorem Sr(hK:Kn M bm 8 [.map (some bk)])(hs:0≤a1/\a1 < 256):
 JC (pi M S w0 X df) (K1 2) (cD (λa w=>∃b2 y fd,(fd=true->nu k a0 a1=some y)/\(fd=false->y=uI)/\St (pi M S w0 X df) ((6,.eq (.bool fd))::uJ bm c0 c1 c2 c3 c4 c5 a0 a1 b1 b2) (.inv bk (bR k a0)::DD b1 b2 y) a w) (λ_ _ _=>False))
  (K0 bm c0 c1 c2 c3 c4 c5 a0 a1 b1) [.inv bk (bR k a0),.obj b1 84 (.rep (.arr 7 (.arr 5 (.int .i64))) uI)]:=by
 refine E7 λob hob=>?_
 obtain⟨y,fd,h1,h2,hlk⟩:=yh (z:=bk) Tryz.underlying120 uI KX Gf (Ge hs) OT hob
 have hy:j9 y:=by
  grind [HJ]
 have h1':fd=true->nu k a0 a1=some y:=λe=>by
  simp_all
 refine ae ?_
 refine bU rfl (yG rfl) ⟨rfl,trivial⟩ ?_
 refine bU rfl (cY rfl) ⟨rfl,trivial⟩ ?_
 refine bU rfl (av rfl F8) ⟨rfl,trivial⟩ ?_
 refine bU rfl (yI rfl IO hK) ⟨rfl,trivial⟩ ?_
 refine iY rfl rfl ?_
 refine nT rfl rfl rfl (Hf (V:=HK) (n:=y) (rk:=.eq (.int .u8 a1)) (kv:=.int .u8 a1) (λy=>.rep (.arr 7 (.arr 5 (.int .i64))) y) (λ_ _=>HE hy) rfl (xt.calm hob) rfl (λ_ _ _ hh=>hh) hlk) ⟨rfl,rfl,trivial⟩ ?_
 refine iY rfl rfl ?_
 refine bU rfl (iO rfl rfl) ⟨rfl,trivial⟩ ?_
 refine bU rfl (iO rfl rfl) ⟨rfl,trivial⟩ ?_
 refine aQ rfl rfl rfl (aV rfl CX CY) trivial λb2=>?_
 refine aI rfl rfl (aD rfl mY rfl rfl rfl) ⟨rfl,rfl,trivial⟩ ?_
 refine xz rfl rfl ?_
 refine lx 1 rfl ?_
 refine dQ (uP (bR k a0) hob) ?_
 refine bp (aH ?_)
 refine λa w st=>⟨b2,y,fd,h1',h2,(kg (junk:=[]) (by repeat (first |exact trivial |refine⟨rfl,?_⟩)) ?_) a w st⟩
 exact(List.Perm.refl _).cons _ |>.trans (by first |exact List.Perm.refl _ |exact .cons _ (.swap ..))
theorem OO(hK:Kn M bm 8 [.map (some bk)])(hs:0≤a1/\a1 < 256){y:List (List Int)}(hy:nu k a0 a1=some y)(hg:j9 y):
 JC (pi M S w0 X df) (K1 9) (cD (λa w=>St (pi M S w0 X df) (uJ bm c0 c1 c2 c3 c4 c5 a0 a1 b1 b2) (.inv bk (bR k a0)::DD b1 b2 y) a w) (λ_ _ _=>False))
  (uJ bm c0 c1 c2 c3 c4 c5 a0 a1 b1 b2) (.inv bk (bR k a0)::DD b1 b2 y):=by
 refine bD ?_
 refine ge rfl rfl rfl (yG rfl) ⟨rfl,trivial⟩ ?_
 refine ge rfl rfl rfl (cY rfl) ⟨rfl,trivial⟩ ?_
 refine ge rfl rfl rfl (av rfl F8) ⟨rfl,trivial⟩ ?_
 refine ge rfl rfl rfl (yI rfl IO hK) ⟨rfl,trivial⟩ ?_
 refine ge rfl rfl rfl (aP rfl) ⟨rfl,trivial⟩ ?_
 refine xC 2 rfl rfl rfl rfl (ak rfl mY (kB) rfl) ⟨rfl,trivial⟩ ?_
 refine E8 (by kernel_rfl) cy ?_
 refine aI rfl rfl (zU (V:=HK) (n:=y) (rk:=.eq (.int .u8 a1)) (kv:=.int .u8 a1) (R:=λkv r=>j9 r/\∃s,kv= .int .u8 s/\nu k a0 s=some r) (λ_ _ _ hh=>(OM hh).1) rfl rfl Tryz.underlying120 Gf (λ_ _ _ hh=>hh) (Ge hs) ⟨hg,a1,rfl,hy⟩) ⟨rfl,rfl,rfl,trivial⟩ ?_
 refine bp (aH ?_)
 exact kg (junk:=[]) (by repeat (first |exact trivial |refine⟨rfl,?_⟩)) (List.Perm.refl _)
theorem OU{y:List (List Int)}{Q:Exit->Act->VW->Prop}{Δ:List D}(h:∀a w,St (pi M S w0 X df) (uJ bm c0 c1 c2 c3 c4 c5 a0 a1 b1 b2) (Δ++[.obj b1 84 (.rep (.arr 7 (.arr 5 (.int .i64))) y),.obj b2 84 (.rep (.arr 7 (.arr 5 (.int .i64))) y)]) a w->Q .ret a w):
 JC (pi M S w0 X df) (K1 10) Q (uJ bm c0 c1 c2 c3 c4 c5 a0 a1 b1 b2) (DD b1 b2 y++Δ):=by
 refine bC ?_
 refine ae ?_
 refine lx 1 rfl ?_
 refine nT rfl rfl rfl (ak rfl mY (kB) rfl) ⟨rfl,trivial⟩ ?_
 refine lx 1 rfl ?_
 refine aI rfl rfl (aD rfl mY rfl rfl rfl) ⟨rfl,rfl,trivial⟩ ?_
 refine bp (aH ?_)
 refine cC ?_
 exact λa w st=>h a w ((kg (junk:=[]) (by repeat (first |exact trivial |refine⟨rfl,?_⟩)) (by grind [perm_append_comm])) a w st)
end
end Go.Proofs.YtcpbmhgakdeceaaGreat
set_option linter.unusedVariables false
namespace Go.Proofs.YtcpbmhgakdeceaaGreat
namespace K
open Go Go.Conc
def c9(Γ:Ga)(a:Act):Gv:=Γ.map λq=>(q.1,a.tmps.getD q.1 undef)
def xK(Γ:Ga)(a:Act)(Γq:Gv):Prop:=∀s r,lk Γ s=some r->lv Γq s=some (a.tmps.getD s undef)
theorem FR{a:Act}:∀{Γ:Ga} {s:Nat} {x:Value},lv (c9 Γ a) s=some x->a.tmps.getD s undef=x
 |[],_,_,h=>by cases h
 |(s0,r0)::l,s,x,h=>by
  simp only [c9,map_cons,lv] at h
  split at h
  .
   simp_all
  .
   exact FR (Γ:=l) h
theorem xK.base{a:Act}:∀{Γ:Ga},xK Γ a (c9 Γ a)
 |[],_,_,h=>by cases h
 |(s0,r0)::l,s,r,h=>by
  simp only [lk] at h
  simp only [c9,map_cons,lv]
  split at h
  .
   simp_all
  .
   rename_i e;rw [if_neg e];exact xK.base (Γ:=l) s r h
theorem xK.new{Γ:Ga}{a:Act}{Γq:Gv}{d:Nat}{u:Value}(h:xK Γ a Γq)(hd:lk Γ d=none:=by exact rfl):xK Γ a ((d,u)::Γq):=λs r hl=>by
 simp only [lv]
 split
 .
  simp_all
 .
  exact h s r hl
theorem xK.know{Γ:Ga}{a:Act}{Γq:Gv}{d:Nat}{u:Value}(h:xK Γ a Γq)(hd:a.tmps.getD d undef=u):xK Γ a ((d,u)::Γq):=λs r hl=>by
 simp only [lv]
 split
 .
  simp_all
 .
  exact h s r hl
theorem QS.know{N:Nat}{df:List Deferred}{Γq:Gv}{a:Act}{d:Nat}{u:Value}(h:QS N df Γq a)(hd:a.tmps.getD d undef=u):QS N df ((d,u)::Γq) a:=⟨h.size,h.defers,λs x hl=>by
 simp only [lv] at hl
 split at hl
 .
  simp_all
 .
  exact h.val s x hl⟩
theorem St.toQ{c:Cx}{Γ:Ga}{Δ:List D}{a:Act}{v:VW}(st:St c Γ Δ a v):QS c.N c.dfs (c9 Γ a) a:=⟨st.size,st.defers,λs x h=>FR h⟩
theorem nc{P:Program}{M:Md P}{N:Nat}{S0:FS}{w0:VW}{X:Nat->Prop}{rd:Option Nat}{df df':List Deferred}{Γ:Ga}{Δ:List D}{a a':Act}{v:VW}{Γq:Gv}(st:St ⟨P,N,S0,w0,X,rd,df,M⟩ Γ Δ a v)(hc:xK Γ a Γq)(q:QS N df' Γq a'):St ⟨P,N,S0,w0,X,rd,df',M⟩ Γ Δ a' v:=by
 obtain⟨h1,h2,S,h3,h4,h5,h6⟩:=st;refine⟨q.defers,q.size,S,h3,h4,h5,λs r hl=>?_⟩;rw [q.val s _ (hc s r hl)];simp_all
section
variable {P:Program}{main:Bool}{b:Frame}{a:Act}{k:List Item}{cs:List Frame}{ops:Array Oper}{i:Nat}{rest:List Nat}{o:Oper}{w:World}
def fa(P:Program)(d:Deferred):Frame:={ (default:Frame) with fn:=P.funcs.size,defers:=[d],mode:=.panicking [goexitEntry] }
theorem WJ{cl:Call}{s g:Nat}{cap:Array Value}{ts:Array TypeId}(ho:ops[i]? =some o)(hw:Region.wanted o (yielded ops a.tmps)=true)(hop:o.op= .go cl)(hcl:cl={ callee:=.value (.tmp s),args:= #[],argTypes:=ts })
 (hv:a.eval (.tmp s)= .func (.func g) #[] cap):
 stepG P main (Gr (b.atR a (.inRegion ops (i::rest)::k)) cs) w= .spawn (Gr (b.atR (a.put o.dst undef) (.inRegion ops rest::k)) cs) (Gr (fa P { target:=.fn (.func g) cap,args:= #[] }) []) w #[]:=by
 have he:execOp a.eval o=pure (.spawn { target:=.fn (.func g) cap,args:= #[] }):=by
  simp_all [execOp,resolve,Deferred.ofValue]
 have hT:(pure (Next.spawn { target:=.fn (.func g) cap,args:= #[] }):Sem Next).runT P w #[]=(.ok (.spawn { target:=.fn (.func g) cap,args:= #[] }) w, #[]):=rfl
 have hfin:(b.atR a (.inRegion ops (i::rest)::k)).finish undef=b.atR (a.put o.dst undef) (.inRegion ops rest::k):=by grind [Frame.finish_atR]
 rw [wX ho hw,Oper.semAt_eq _ _ _ (by simp [hop]),he]
 simp_all [stepG.apply,if_true,wV,mA,GStep.after,fa]
theorem Ak{g:Nat}{cap:Array Value}(hen:ag P g):stepG P main (Gr (fa P { target:=.fn (.func g) cap,args:= #[] }) []) w= .go (Gr (Frame.enter P g cap .deferred) [{ fa P { target:=.fn (.func g) cap,args:= #[] } with defers:=[] }]) w #[]:=by
 have hi:invoke (.fn (.func g) cap) #[]=callFunc g cap:=by simp [invoke]
 simp only [stepG,fa,unwind,callDeferred,hi,sN hen,GStep.after,append_empty,mA];rfl
theorem Ec{d:Deferred}:QuitsD P 1 0 (Gr { fa P d with defers:=[] } []):=by
 refine .ctl (g':={ Gr { fa P d with defers:=[] } [] with status:=.finished }) rfl (λw=>?_) ⟨rfl,rfl⟩
 have hc:({ fa P d with defers:=[] }:Frame).catches P=false:=by
  simp [Frame.catches,fa];rfl
 simp [stepG,unwind,fa,goexitEntry] at hc⊢;omega
theorem LE{d:Deferred}{fn:Func}{N:Nat}{Γ:Gv}{v:VW}(hb:b.kind= .deferred)(hf:P.funcs[b.fn]? =some fn)(hr:fn.results= #[]):Qr (TQ P 0) v b [{ fa P d with defers:=[] }] N [] Γ:=λa todo ha=>by
 refine⟨2,.ctl rfl (λw=>?_) (Ec (d:=d))⟩
 have hres:(results fn a.tmps).runT P w #[]=(.ok (.tuple #[]) w, #[]):=by
  simp [results,hr]
 simp only [stepG,Gr,Frame.at,unwind,ha.defers,hf,hres,doReturn,hb,GStep.after,append_empty,mA,fa,goexitEntry]
end
theorem AP{c:Cx}{C:Code}{Q:Exit->Act->VW->Prop}{Γ:Ga}{Δ:List D}{a:Act}{v:VW}{T:Tq}{b:Frame}{k:List Item}{cs:List Frame}(hT:c.M.ok T)(hb:b.roundOf=c.rd)(st:St c Γ Δ a v)(h:JC c C Q Γ Δ)(hc:∀e a' v',Q e a' v'->nm T b k cs e a' v'):
 T v (b.atR a (.code C::k)) cs:=h a v st T hT b k cs hb hc
theorem fe{c:Cx}{C:Code}{Q:Act->VW->Prop}{Γ:Ga}{Δ:List D}{a:Act}{v:VW}{T:Tq}{b:Frame}{k:List Item}{cs:List Frame}(hT:c.M.ok T)(hb:b.roundOf=c.rd)(st:St c Γ Δ a v)(h:JC c C (cD Q (λ_ _ _=>False)) Γ Δ)(hc:∀a' v',Q a' v'->T v' (b.atR a' k) cs):
 T v (b.atR a (.code C::k)) cs:=AP hT hb st h λe a' v' q=>by
 cases e with
 |normal=>exact hc a' v' q
 |_=>exact q.elim
theorem iw{c:Cx}{Γ:Ga}{Δ:List D}{a:Act}{v:VW}{s:Nat}{x:Value}(st:St c Γ Δ a v)(h:lk Γ s=some (.eq x)):a.eval (.tmp s)=x:=by
 obtain⟨_,_,S,_,_,_,h6⟩:=st;exact h6 s _ h
theorem qJ{c:Cx}{Γ:Ga}{Δ:List D}{a:Act}{v:VW}{s:Nat}{p:Value}{cs:List Value}{t:Ty}{d:t.den}(st:St c Γ Δ a v)(h:lk Γ s=some (.rep (.mo p cs t) d)):a.tmps.getD s undef=p:=by
 obtain⟨_,_,S,_,_,_,h6⟩:=st;exact(sE (h6 s _ h)).1
end K
end Go.Proofs.YtcpbmhgakdeceaaGreat
set_option linter.unusedVariables false
set_option maxRecDepth 20000
set_option maxHeartbeats 4000000
namespace Go.Proofs.YtcpbmhgakdeceaaGreat
open K Go Go.Proofs Go.Conc Go.Conc.Lib
theorem J5:zn Tryz.prog 102 .disable:=⟨⟨_,Tryz.func102,by kernel_rfl,by kernel_rfl,by kernel_rfl,by kernel_rfl⟩,λg h=>by cases h⟩
theorem J4:zn Tryz.prog 103 .enable:=⟨⟨_,Tryz.func103,by kernel_rfl,by kernel_rfl,by kernel_rfl,by kernel_rfl⟩,λg h=>by cases h⟩
theorem RD:tV Tryz.prog 101 .releaseMerge:=⟨⟨_,Tryz.func101,by kernel_rfl,by kernel_rfl,by kernel_rfl,by kernel_rfl⟩,λa g h=>by cases h⟩
theorem J6:tV Tryz.prog 114 .acquire:=⟨⟨_,Tryz.func114,by kernel_rfl,by kernel_rfl,by kernel_rfl,by kernel_rfl⟩,λa g h=>by cases h⟩
theorem NX:LF Tryz.prog 132 (.tuple #[]):=⟨_,Tryz.func132,by kernel_rfl,by kernel_rfl,by kernel_rfl,by kernel_rfl⟩
theorem FP:(Tryz.prog.funcs[122]?).any (·.norace)=true:=by rw [Tryz.func122];kernel_rfl
theorem NY:(Tryz.prog.funcs[124]?).any (·.norace)=true:=by rw [Tryz.func124];kernel_rfl
theorem NZ:(Tryz.prog.funcs[98]?).any (·.norace)=true:=by rw [Tryz.func98];kernel_rfl
theorem pz{b off:Nat}(w:World):(Instr.fieldAt 117 (.pointer (some ⟨b,off,none⟩)) 0).runT Tryz.prog w #[]=(.ok (.pointer (some ⟨b,off+0,none⟩)) w, #[]):=dj (n:=0) Tryz.underlying117 rfl Tryz.sizeOf21 w
theorem J3{b off:Nat}(w:World):(Instr.fieldAt 117 (.pointer (some ⟨b,off,none⟩)) 1).runT Tryz.prog w #[]=(.ok (.pointer (some ⟨b,off+1,none⟩)) w, #[]):=dj (n:=0) Tryz.underlying117 rfl Tryz.sizeOf115 w
theorem J2{b off:Nat}(w:World):(Instr.fieldAt 119 (.pointer (some ⟨b,off,none⟩)) 1).runT Tryz.prog w #[]=(.ok (.pointer (some ⟨b,off+0,none⟩)) w, #[]):=dj (n:=1) Tryz.underlying119 rfl Tryz.sizeOf117 w
noncomputable def jy:Code:=match Tryz.f122.body with
 |some (.seq _ (.seq _ (.seq _ (.seq _ (.seq _ (.seq (.block _ (.loop b)) _))))))=>b
 |_=>.skip
noncomputable def kE:Code:=match Tryz.f122.body with
 |some (.seq _ (.seq _ (.seq _ (.seq _ (.seq _ (.seq _ b))))) )=>b
 |_=>.skip
noncomputable def VU:Code:=match jy with
 | .block _ (.seq _ x)=>x
 |_=>.skip
noncomputable def X0:Code:=match jy with
 | .block _ (.seq (.seq _ (.cond _ (.seq _ s) _)) _)=>s
 |_=>.skip
noncomputable def VT:Code:=match VU with
 | .seq _ (.seq _ (.seq _ (.seq _ (.seq _ y))))=>y
 |_=>.skip
noncomputable def Wv:Code:=match VU with
 | .seq _ (.seq _ (.seq _ (.seq _ (.seq y _))))=>y
 |_=>.skip
noncomputable def Wu:Code:=match VT with
 | .seq _ (.cond _ (.seq _ z) _)=>z
 |_=>.skip
noncomputable def Uu:Code:=match Wu with
 | .seq _ (.seq _ z)=>z
 |_=>.skip
noncomputable def Ut:Code:=match Uu with
 | .seq _ (.seq _ z)=>z
 |_=>.skip
noncomputable def X1:Code:=match Ut with
 | .seq _ (.seq (.seq _ (.cond _ (.seq _ (.seq _ (.seq _ e))) _)) _)=>e
 |_=>.skip
@[reducible] def Ae(p:Gp)(W:Int)(st aw:Bool)(it:Int)(ow:Nat):Gv:=[(0,.pointer (some p.muA)),(2,.int .i64 W),(3,.bool st),(4,.bool aw),(5,.int .i64 it),(6,.int .i32 (ow:Int))]
section
variable {P:Program}{Wl:World->Prop}{main:Bool}{T':Tq}{v:VW}{b:Frame}{cs:List Frame}{N:Nat}{df:List Deferred}{Γ:Gv}{k:List Item}{x y:Code}
theorem xp(hT:Mv P Wl main T'){c:Operand}(t:Bool)(Γ':Gv)(hc:ev Γ c=some (.bool t))(h1:t=true->Qt T' v b cs N df k Γ'->Qt T' v b cs N df (.code x::k) Γ)(h0:t=false->Qt T' v b cs N df k Γ'->Qt T' v b cs N df (.code y::k) Γ)(h:Qt T' v b cs N df k Γ'):Qt T' v b cs N df (.code (.cond c x y)::k) Γ:=by
 grind [Qt.cond]
end
theorem qr{G G':Prop}(k:G')(h:G'->G:=by
 intro k;repeat (first |refine Qt.region hT ?_ |refine nM hT ?_ |refine Qt.op hT rfl (d5 rfl rfl) ?_ |refine Qt.op hT rfl (wa rfl rfl) ?_)
 exact k):G:=h k
section
variable {p:Gp}{T:Tq}{mn:Bool}{s:Ph}{v0 v:VW}{cs:List Frame}{N:Nat}
theorem lG{n m:Int}(h:n=m):some (Value.int .i32 n)=some (.int .i32 m):=by rw [h]
theorem RE(hs:s.Run){l:tZ}{W it:Int}{st aw:Bool}{ow:Nat}(ho:pI ow st aw)(v:VW){k:List Item}
 (h:Qt (WV v0 Tryz.prog p T mn (s.set l)) v (base 122) cs 139 [] (.code VT::k) ((7,.int .i32 (FH ow st aw:Nat))::Ae p W st aw it ow)):Qt (WV v0 Tryz.prog p T mn (s.set l)) v (base 122) cs 139 [] (.code VU::k) (Ae p W st aw it ow):=by
 have hT:Mv Tryz.prog p.Kf mn (WV v0 Tryz.prog p T mn (s.set l)):=bA hs.q
 have hlt:=ho.lt
 obtain⟨w5,w1,w2,w4,w3,w7,o1,o2,o4,n2,s3⟩:=ly ow (by omega)
 have b0:ow % 2=0\/ow % 2=1:=by omega
 have b2:ow / 4 % 2=0\/ow / 4 % 2=1:=by omega
 refine qa ?_
 refine Qt.op hT rfl (bi (u:=.int .i32 ((4 * (ow / 4 % 2):Nat):Int)) rfl rfl rfl (lG w4)) ?_
 refine Qt.op hT rfl (bi (u:=.bool (decide (ow / 4 % 2=0))) rfl rfl rfl (by simp only [jJ];congr 2;grind)) ?_
 refine qa ?_
 refine xp hT _ ((7,.int .i32 (DC ow:Nat))::Ae p W st aw it ow) rfl (λe hk=>?_) (λe hk=>?_) ?_
 .
  refine qr ?_;refine Qt.op hT rfl (bi (u:=.int .i32 (DC ow:Nat)) rfl rfl rfl (lG (o1.trans (by unfold DC;simp_all)))) ?_;refine qr ?_;exact Qt.base _ hk
 .
  rw [show DC ow=ow by unfold DC;simp_all] at hk;exact Qt.skip hT (Qt.base _ hk)
 refine qa ?_
 refine Qt.op hT rfl (bi (u:=.int .i32 ((ow % 2+4 * (ow / 4 % 2):Nat):Int)) rfl rfl rfl (lG w5)) ?_
 refine Qt.op hT rfl (bi (u:=.bool (decide (¬(ow % 2=0/\ow / 4 % 2=0)))) rfl rfl rfl (by simp only [jJ];congr 2;grind)) ?_
 refine qa ?_
 have hn1:DC ow < 830:=by grind [DC]
 refine xp hT _ ((7,.int .i32 (xF ow:Nat))::Ae p W st aw it ow) rfl (λe hk=>?_) (λe hk=>?_) ?_
 .
  refine qr ?_
  refine Qt.op hT rfl (bi (u:=.int .i32 (xF ow:Nat)) rfl rfl rfl (lG (by
   have:xF ow=DC ow+8:=by unfold xF;grind
   rw [this,wrap_i32_small _ (by omega) (by omega)];rfl))) ?_
  refine qr ?_;exact Qt.base _ hk
 .
  rw [show xF ow=DC ow by unfold xF;simp_all] at hk;exact Qt.skip hT (Qt.base _ hk)
 refine qa ?_
 have hn2:xF ow < 838:=by grind [xF]
 obtain⟨_,_,_,_,_,_,_,_,o42,_,_⟩:=ly (xF ow) (by omega)
 have hn3:Dz ow st < 842:=by grind [Dz]
 have stg:Qt (WV v0 Tryz.prog p T mn (s.set l)) v (base 122) cs 139 [] (.code (.seq Wv VT)::k) ((7,.int .i32 (Dz ow st:Nat))::Ae p W st aw it ow):=by
  have hm:ow % 2≤xF ow:=by grind [xF,DC]
  refine qa ?_;refine xp hT aw ((7,.int .i32 (FH ow st aw:Nat))::Ae p W st aw it ow) rfl (λe hk=>?_) (λe hk=>?_) h
  .subst e;obtain⟨a1,a2⟩:=ho.aw rfl
   have e2:Dz ow st / 2 % 2=1:=by
    unfold Dz xF DC;grind
   obtain⟨_,_,w2',_,_,_,_,_,_,n2',_⟩:=ly (Dz ow st) (by omega);refine Qt.seq hT (Qt.seq hT ?_);refine qr ?_;refine Qt.op hT rfl (bi (u:=.int .i32 2) rfl rfl rfl (lG (w2'.trans (by omega)))) ?_;refine Qt.op hT rfl (bi (u:=.bool false) rfl rfl rfl rfl) ?_;refine qr ?_;refine Qt.cond hT false (Qt.skip hT ?_);refine qr ?_;refine Qt.op hT rfl (bi (u:=.int .i32 (FH ow st true:Nat)) rfl rfl rfl (lG (n2'.trans (by unfold FH;simp_all)))) ?_;refine qr ?_;exact Qt.base _ hk
  .subst e;exact Qt.skip hT (Qt.base _ hk)
 cases st with
 |true=>
  have hj:Dz ow true=if ow % 2=1 then xF ow+4 else xF ow:=by grind [Dz]
  refine qr ?_;refine cH hT rfl (d5 rfl rfl) ?_;refine cH hT rfl (bi (u:=.int .i32 ((ow % 2:Nat):Int)) rfl rfl rfl (lG w1)) ?_;refine cH hT rfl (bi (u:=.bool (decide (ow % 2=1))) rfl rfl rfl (by simp only [jJ];congr 2;grind)) ?_;refine Qt.op hT rfl (eA rfl true rfl rfl) ?_;refine qr ?_;refine xp hT (decide (ow % 2=1)) _ rfl (λe hk=>?_) (λe hk=>?_) stg
  .have e:=of_decide_eq_true e;have:=(ho.aw (ho.st rfl)).2
   have e4:xF ow / 4 % 2=0:=by
    unfold xF DC;rw [if_pos this,if_neg (by omega)];omega
   refine qr ?_;refine Qt.op hT rfl (bi (u:=.int .i32 (Dz ow true:Nat)) rfl rfl rfl (lG (o42.trans (by simp_all)))) ?_;refine qr ?_;exact Qt.base _ hk
  .rw [hj,if_neg (of_decide_eq_false e)] at hk;exact Qt.skip hT (Qt.base _ hk)
 |false=>
  rw [show Dz ow false=xF ow by grind [Dz]] at stg;refine qr ?_;refine bW hT rfl ?_;refine bW hT rfl ?_;refine bW hT rfl ?_;refine Qt.op hT rfl (eA rfl false rfl rfl) ?_;refine qr ?_;exact Qt.cond hT false (Qt.skip hT (Qt.base _ stg))
end
end Go.Proofs.YtcpbmhgakdeceaaGreat
set_option linter.unusedVariables false
set_option maxRecDepth 20000
set_option maxHeartbeats 4000000
namespace Go.Proofs.YtcpbmhgakdeceaaGreat
open K Go Go.Proofs Go.Conc Go.Conc.Lib
section
variable {p:Gp}{T:Tq}{mn:Bool}{s:Ph}{v0:VW}{cs:List Frame}
theorem Ad(hok:p.Ok)(hs:s.Run){v:VW}{b:Frame}(hb:b.fn=122){c:Nat}{aw:Bool}{se0:Option (Nat×Nat)}{N d i:Nat}{Γ:Gv}{ops:Array Oper}{rest:List Nat}{k:List Item}{o:Oper}{x:Operand}{df:List Deferred}
 (ho:ops[i]? =some o) (hop:o.op= .load 21 x) (hx:ev Γ x=some (.pointer (some p.muA)))
 (h:∀v' ow φ,(∀ow0 φ0,se0=some (ow0,φ0)->φ≤φ0)->ow < 820->(aw=true->ow / 2 % 2=1/\ow / 4 % 2=0)->Qt (WV v0 Tryz.prog p T mn (s.set (sU c aw ow φ))) v' b cs N df (.inRegion ops rest::k) ((d,.int .i32 (ow:Int))::Γ))
 (hg:o.guard=none:=by exact rfl) (hd:o.dst=some d:=by exact rfl) (hN:blt d N=true:=by exact rfl) (hk:b.kind≠.early:=by exact λh=>nomatch h):
 Qt (WV v0 Tryz.prog p T mn (s.set { df:=1,aw:=cond aw 1 0,phi:=c+cond aw 5 6,se:=se0 })) v b cs N df (.inRegion ops (i::rest)::k) Γ:=by
 refine xk hok hs rfl (zero_le _) ho hop (by grind [FP]) Tryz.isAgg21 hx (λq=>sU c aw q.word q.f) (λq=>⟨rfl,rfl⟩) (λq hp=>?_) (λv' q hp=>?_) hg hd hN hk
 .
  exact QR hs (by grind) (Nat.le_refl _) rfl
 .
  obtain⟨h1,h2,h3⟩:=Ny hp;exact h v' _ _ h3 h1 h2
theorem Q6(hs:s.Run){v:VW}{b:Frame}{N d i:Nat}{Γ:Gv}{ops:Array Oper}{rest:List Nat}{k:List Item}{o:Oper}{x:Operand}{df:List Deferred}{ts:Array TypeId}{it:Int}{l:tZ}
 (hw:∀a,QS N df Γ a->Region.wanted o (yielded ops a.tmps)=true) (ho:ops[i]? =some o) (hop:o.op= .call { callee:=.value (.func 131),args:= #[x],argTypes:=ts }) (hx:ev Γ x=some (.int .i64 it))
 (h:∀v' u,(u=true->it < 4)->Qt (WV v0 Tryz.prog p T mn (s.set l)) v' b cs N df (.inRegion ops rest::k) ((d,.bool u)::Γ))
 (hd:o.dst=some d:=by exact rfl) (hN:blt d N=true:=by exact rfl) (hk:b.kind≠.early:=by exact λh=>nomatch h):
 Qt (WV v0 Tryz.prog p T mn (s.set l)) v b cs N df (.inRegion ops (i::rest)::k) Γ:=by
 refine Gx hs.q (Ok:=λu=>∃z:Bool,u= .bool z/\(z=true->it < 4)) (λa ha w=>?_) (λv' u ⟨z,e,hz⟩=>?_) hN
 .
  have hm:(#[x]:Array Operand).map a.eval= #[.int .i64 it]:=by simp [ha.ev hx]
  by_cases h4:it < 4
  .have:=stepG_canSpin_ask (P:=Tryz.prog) (main:=mn) (w:=w) (b:=b) (cs:=cs) (kk:=k) (rest:=rest) ho (hw a ha) hk hop Tryz.func131 (by kernel_rfl) (by kernel_rfl) (by kernel_rfl) (by kernel_rfl) hm h4;rw [hd] at this;exact⟨_,_,⟨_,rfl,λ_=>h4⟩,this,rfl,lu.refl _,rfl,rfl⟩
  .have:=stepG_canSpin_no (P:=Tryz.prog) (main:=mn) (w:=w) (b:=b) (cs:=cs) (kk:=k) (rest:=rest) ho (hw a ha) hk hop Tryz.func131 (by kernel_rfl) (by kernel_rfl) (by kernel_rfl) (by kernel_rfl) hm (by omega);simp_all [lu.refl]
 grind
theorem Ji(hs:s.Run){v:VW}{b:Frame}{N d i:Nat}{Γ:Gv}{ops:Array Oper}{rest:List Nat}{k:List Item}{o:Oper}{df:List Deferred}{ts:Array TypeId}{l:tZ}{xs:Array Operand}
 (hw:∀a,QS N df Γ a->Region.wanted o (yielded ops a.tmps)=true) (ho:ops[i]? =some o) (hop:o.op= .call { callee:=.value (.func 134),args:=xs,argTypes:=ts })
 (h:∀v' z,Qt (WV v0 Tryz.prog p T mn (s.set l)) v' b cs N df (.inRegion ops rest::k) ((d,.int .i64 z)::Γ))
 (hd:o.dst=some d:=by exact rfl) (hN:blt d N=true:=by exact rfl) (hk:b.kind≠.early:=by exact λh=>nomatch h):
 Qt (WV v0 Tryz.prog p T mn (s.set l)) v b cs N df (.inRegion ops (i::rest)::k) Γ:=by
 refine Gx hs.q (Ok:=λu=>∃z:Int,u= .int .i64 z) (λa ha w=>?_) (λv' u ⟨z,e⟩=>?_) hN
 .
  have:=stepG_nanotime (P:=Tryz.prog) (main:=mn) (w:=w) (b:=b) (cs:=cs) (kk:=k) (rest:=rest) ho (hw a ha) hk hop Tryz.func134 (by kernel_rfl) (by kernel_rfl) (by kernel_rfl) (by kernel_rfl) (by kernel_rfl);rw [hd] at this;exact⟨_,_,⟨_,rfl⟩,this,rfl,⟨_,rfl⟩,rfl,rfl⟩
 simp_all
noncomputable abbrev On:List Item:=[.inBlock 1,.inLoop jy,.inBlock 0,.code kE]
theorem Og(hok:p.Ok)(hs:s.Run){v:VW}{c φ:Nat}{ow:Nat}{st aw:Bool}{W it:Int}(ho:pI ow st aw)
 (hget:∀v',Qt (WV v0 Tryz.prog p T mn (s.set { df:=1,hd:=1,phi:=c+4 })) v' (base 122) cs 139 [] [.code kE] [(0,.pointer (some p.muA))])
 (hq:∀v' φ',φ' < φ->Qt (WV v0 Tryz.prog p T mn (s.set { df:=1,qu:=1,phi:=c+4,se:=some (FH ow st aw,φ') })) v' (base 122) cs 139 [] (.code Wu::On) (Ae p W st aw it ow))
 (hl:∀v' ow' φ',φ' < φ->pI ow' st aw->Qt (WV v0 Tryz.prog p T mn (s.set (sU c aw ow' φ'))) v' (base 122) cs 139 [] [.code jy,.inLoop jy,.inBlock 0,.code kE] (Ae p W st aw it ow')):
 Qt (WV v0 Tryz.prog p T mn (s.set (sU c aw ow φ))) v (base 122) cs 139 [] (.code VT::On) ((7,.int .i32 (FH ow st aw:Nat))::Ae p W st aw it ow):=by
 have hT:Mv Tryz.prog p.Kf mn (WV v0 Tryz.prog p T mn (s.set (sU c aw ow φ))):=bA hs.q
 have hlt:=ho.lt
 obtain⟨w5,_⟩:=ly ow (by omega)
 refine Qt.seq hT ?_
 refine qr ?_
 refine Qt.op hT rfl (gY rfl rfl) ?_
 refine Qt.op hT rfl (bJ (k:=0) rfl pz rfl) ?_
 refine qr ?_
 refine vT hok hs rfl rfl (by grind) rfl (ow:=ow) (nw:=FH ow st aw) rfl rfl (λa ha=>aj rfl _) Tryz.func121 (by kernel_rfl) (by kernel_rfl) (by kernel_rfl) (by kernel_rfl) rfl rfl rfl
  (λφ'=>if ow % 2=0/\ow / 4 % 2=0 then { df:=1,hd:=1,phi:=c+4 } else { df:=1,qu:=1,phi:=c+4,se:=some (FH ow st aw,φ') }) (λx=>by grind) (λq=>if ow % 2=0/\ow / 4 % 2=0 then Q8 aw q else Q7 st aw q) (λq hp e=>?_) (λv' φ' hφ=>?_) λv' ow' φ' hφ=>?_
 .
  have hf:=yC hp;have hf:0 < q.f:=by grind
  by_cases h0:ow % 2=0/\ow / 4 % 2=0
  .simp only [if_pos h0];exact⟨KC ho e (lC hp) h0.1 h0.2,(by simp),(by simp),(by omega),QW hs ho e (lC hp) h0.1 h0.2 hf⟩
  .simp only [if_neg h0];exact⟨BF ho e (lC hp) h0,(by simp),(by simp),(by omega),QV hs ho e (lC hp) h0 hf⟩
 .
  have hφ:=hφ φ rfl;by_cases h0:ow % 2=0/\ow / 4 % 2=0
  .simp only [if_pos h0];have hT:Mv Tryz.prog p.Kf mn (WV v0 Tryz.prog p T mn (s.set { df:=1,hd:=1,phi:=c+4 })):=bA hs.q;refine nM hT ?_;refine Qt.cond hT true ?_;refine Qt.seq hT (Qt.seq hT ?_);refine qr ?_;refine Qt.op hT rfl (bi (u:=.int .i32 0) rfl rfl rfl (lG (w5.trans (by omega)))) ?_;refine Qt.op hT rfl (bi (u:=.bool true) rfl rfl rfl rfl) ?_;refine qr ?_;refine Qt.cond hT true ?_;refine Qt.exit hT rfl ?_;exact Qt.base _ (hget v')
  .simp only [if_neg h0];have hT:Mv Tryz.prog p.Kf mn (WV v0 Tryz.prog p T mn (s.set { df:=1,qu:=1,phi:=c+4,se:=some (FH ow st aw,φ') })):=bA hs.q;refine nM hT ?_;refine Qt.cond hT true ?_;refine Qt.seq hT (Qt.seq hT ?_);refine qr ?_;refine Qt.op hT rfl (bi (u:=.int .i32 ((ow % 2+4 * (ow / 4 % 2):Nat):Int)) rfl rfl rfl (lG w5)) ?_;refine Qt.op hT rfl (bi (u:=.bool false) rfl rfl rfl (by grind [jJ,decide_eq_false])) ?_;refine qr ?_;refine Qt.cond hT false (Qt.skip hT ?_);exact Qt.base _ (hq v' φ' hφ)
 .
  have hφ:=hφ φ rfl;have hT:Mv Tryz.prog p.Kf mn (WV v0 Tryz.prog p T mn (s.set { sU c aw ow φ with se:=some (ow',φ') })):=bA hs.q;refine nM hT ?_;refine Qt.cond hT false ?_;refine qr ?_;refine Qt.op hT rfl (gY rfl rfl) ?_;refine Qt.op hT rfl (bJ (k:=0) rfl pz rfl) ?_;refine Ad hok hs rfl rfl rfl rfl λv2 ow2 φ2 g1 g2 g3=>?_;replace hT:Mv Tryz.prog p.Kf mn (WV v0 Tryz.prog p T mn (s.set (sU c aw ow2 φ2))):=bA hs.q;refine qr ?_;refine Qt.inBlock hT (Qt.inLoop hT ?_);exact Qt.base _ (hl v2 ow2 φ2 (Nat.lt_of_le_of_lt (g1 _ _ rfl) hφ) ⟨g2,ho.st,g3⟩)
end
end Go.Proofs.YtcpbmhgakdeceaaGreat
set_option linter.unusedVariables false
set_option maxRecDepth 20000
set_option maxHeartbeats 4000000
namespace Go.Proofs.YtcpbmhgakdeceaaGreat
open K Go Go.Proofs Go.Conc Go.Conc.Lib
section
variable {p:Gp}{T:Tq}{mn:Bool}{s:Ph}{v0:VW}{cs:List Frame}
theorem Q9{q:eu}{c:Nat}{se0:Option (Nat×Nat)}(hp:nN p mn (s.set { df:=1,tk:=1,phi:=c+5,se:=se0 }) q):(q.S=1/\q.L=0/\q.W=0/\1≤q.N)\/(q.S=0/\q.W=1):=by
 obtain⟨o,h1,⟨k1,k2,k3,k4,k5,k6⟩,hse,h2,h3,hN,hT⟩:=hp.mu;grind
theorem Om(hok:p.Ok)(hs:s.Run){v:VW}{c n0:Nat}{N d i:Nat}{Γ:Gv}{ops:Array Oper}{rest:List Nat}{k:List Item}{o:Oper}{x y:Operand}{df:List Deferred}{b:Frame}{ts:Array TypeId}(xx:Bool){dl:Int}(hdl:dl=cond xx (-11) (-7))(hn:0 < n0)(hx0:xx=false->2≤n0)
 (ho:ops[i]? =some o) (hop:o.op= .call { callee:=.value (.func 123),args:= #[x,y],argTypes:=ts }) (hx:ev Γ x=some (.pointer (some p.muA))) (hy:ev Γ y=some (.int .i32 dl))
 (h:∀v' u,Qt (WV v0 Tryz.prog p T mn (s.set { df:=1,hd:=1,phi:=c+4 })) v' b cs N df (.inRegion ops rest::k) ((d,u)::Γ))
 (hg:o.guard=none:=by exact rfl) (hd:o.dst=some d:=by exact rfl) (hN:blt d N=true:=by exact rfl) (hk:b.kind≠.early:=by exact λh=>nomatch h):
 Qt (WV v0 Tryz.prog p T mn (s.set { df:=1,tk:=1,phi:=c+5,nb:=n0 })) v b cs N df (.inRegion ops (i::rest)::k) Γ:=by
 refine Gy hok hs rfl rfl ho hop Tryz.func123 (by kernel_rfl) (by kernel_rfl) (by kernel_rfl) (by kernel_rfl) hx hy (λ_=>{ df:=1,hd:=1,phi:=c+4 }) (λ_=>⟨rfl,rfl⟩) (Ud xx) (λq hp=>?_) (λv' q hp=>h v' _) hg hd hN hk
 obtain⟨g1,g2,g3,g4⟩:=BG hn hp
 have hN:q.N≤101:=by obtain⟨_,_,_,_,_,_,h,_⟩:=hp.mu;exact h
 refine⟨?_,⟨rfl,rfl,rfl,rfl,rfl,rfl⟩,rfl,Nc hs hn hx0 hp⟩
 subst hdl
 simp only [eu.word]
 cases xx with
 |true=>dsimp only [cond];grind [wrap_i32_small]
 |false=>
  have:=hx0 rfl;dsimp only [cond];grind [wrap_i32_small]
theorem Cm(hok:p.Ok)(hs:s.Run){v:VW}{c φ φ' nw:Nat}{ow:Nat}{st aw:Bool}{W it:Int}(hφ:φ' < φ)
 (hget:∀v',Qt (WV v0 Tryz.prog p T mn (s.set { df:=1,hd:=1,phi:=c+4 })) v' (base 122) cs 139 [] [.code kE] [(0,.pointer (some p.muA))])
 (hl:∀v' ow' φ',φ' < φ->pI ow' st true->Qt (WV v0 Tryz.prog p T mn (s.set (sU c true ow' φ'))) v' (base 122) cs 139 [] [.code jy,.inLoop jy,.inBlock 0,.code kE] (Ae p W st true 0 ow')):
 Qt (WV v0 Tryz.prog p T mn (s.set { df:=1,tk:=1,phi:=c+5,se:=some (nw,φ') })) v (base 122) cs 139 [] (.code Ut::On) (Ae p W st aw it ow):=by
 have hT:Mv Tryz.prog p.Kf mn (WV v0 Tryz.prog p T mn (s.set { df:=1,tk:=1,phi:=c+5,se:=some (nw,φ') })):=bA hs.q
 refine Qt.seq hT ?_
 refine qr ?_
 refine Qt.op hT rfl (gY rfl rfl) ?_
 refine Qt.op hT rfl (bJ (k:=0) rfl pz rfl) ?_
 refine xk hok hs rfl (zero_le _) rfl rfl FP Tryz.isAgg21 rfl (TD c) (λq=>by grind) (λq hp=>IT hs (lC hp)) λv2 q hp=>?_
 have hle:=lC hp
 have htk:=Q9 hp
 have hqf:q.f≤φ':=by obtain⟨_,_,_,h,_⟩:=hp.mu;simp_all
 have hN:q.N≤101:=by obtain⟨_,_,_,_,_,_,h,_⟩:=hp.mu;exact h
 obtain⟨w1,w2,w3,w4⟩:=iN hle
 have hlt:q.word < 820:=by omega
 clear hT
 generalize hw:q.word=wd at w1 w2 w3 w4 hlt
 obtain⟨x5,x1,x2,x4,x3,x7,o1,o2,o4,n2,s3⟩:=ly wd (by omega)
 by_cases hS:q.S=1
 .
  rw [show TD c q={ df:=1,tk:=1,phi:=c+5,nb:=q.N } from if_pos hS];have hT:Mv Tryz.prog p.Kf mn (WV v0 Tryz.prog p T mn (s.set { df:=1,tk:=1,phi:=c+5,nb:=q.N })):=bA hs.q;have hn:0 < q.N:=by omega
  refine qr ?_;refine Qt.seq hT (Qt.seq hT ?_);refine qr ?_;refine Qt.op hT rfl (bi (u:=.int .i32 4) rfl rfl rfl (lG (x4.trans (by omega)))) ?_;refine Qt.op hT rfl (bi (u:=.bool true) rfl rfl rfl rfl) ?_;refine qr ?_;refine Qt.cond hT true ?_;refine Qt.seq hT (Qt.seq hT ?_);refine qr ?_;refine Qt.op hT rfl (bi (u:=.int .i32 0) rfl rfl rfl (lG (x3.trans (by omega)))) ?_;refine Qt.op hT rfl (bi (u:=.bool false) rfl rfl rfl rfl) ?_;refine qr ?_;refine cH hT rfl (d5 rfl rfl) ?_;refine cH hT rfl (mi (z:=(q.N:Nat)) rfl rfl rfl (by decide) (s3.trans (by rw [w4]))) ?_;refine cH hT rfl (bi (u:=.bool false) rfl rfl rfl (by grind [jJ,decide_eq_false])) ?_;refine Qt.op hT rfl (eA rfl false rfl rfl) ?_;refine qr ?_;refine Qt.cond hT false (Qt.skip hT ?_);refine Qt.seq hT ?_;refine qr ?_;refine Qt.seq hT (Qt.seq hT ?_);refine qr ?_;refine Qt.op hT rfl (P7 rfl rfl) ?_;refine qr ?_
  have last:∀(xx:Bool) (z4:Code),(xx=false->2≤q.N)->Qt (WV v0 Tryz.prog p T mn (s.set { df:=1,tk:=1,phi:=c+5,nb:=q.N })) v2 (base 122) cs 139 [] (.code X1:: .code z4::On) [(0,.pointer (some p.muA)),(9,.int .i32 (cond xx (-11) (-7)))]:=λxx z4 hx=>by
   refine Qt.seq hT ?_;refine qr ?_;refine Qt.op hT rfl (gY rfl rfl) ?_;refine Qt.op hT rfl (bJ (k:=0) rfl pz rfl) ?_;refine qr ?_;refine Om hok hs xx rfl hn hx rfl rfl rfl rfl λv3 u=>?_;replace hT:Mv Tryz.prog p.Kf mn (WV v0 Tryz.prog p T mn (s.set { df:=1,hd:=1,phi:=c+4 })):=bA hs.q;refine qr ?_;refine Qt.exit hT rfl ?_;exact Qt.base _ (hget v3)
  cases st with
  |true=>
   refine cH hT rfl (d5 rfl rfl) ?_;refine cH hT rfl (mi (z:=(q.N:Nat)) rfl rfl rfl (by decide) (s3.trans (by rw [w4]))) ?_;refine cH hT rfl (bi (u:=.bool (decide (q.N=1))) rfl rfl rfl (by simp only [jJ];congr 2;grind)) ?_;refine Qt.op hT rfl (eA rfl false rfl rfl) ?_;refine qr ?_;refine xp hT (decide (q.N=1)) [(0,.pointer (some p.muA)),(9,.int .i32 (cond (decide (q.N=1)) (-11) (-7)))] rfl (λe hk=>?_) (λe hk=>?_) ?_
   .rw [e] at hk;refine qr ?_;refine Qt.op hT rfl (bi (u:=.int .i32 (-11)) rfl rfl rfl rfl) ?_;refine qr ?_;exact Qt.base _ hk
   .rw [e] at hk;exact Qt.skip hT (Qt.base _ hk)
   exact last _ _ λe=>by grind
  |false=>
   refine bW hT rfl ?_;refine bW hT rfl ?_;refine bW hT rfl ?_;refine Qt.op hT rfl (eA rfl true rfl rfl) ?_;refine qr ?_;refine Qt.cond hT true ?_;refine qr ?_;refine Qt.op hT rfl (bi (u:=.int .i32 (-11)) rfl rfl rfl rfl) ?_;refine qr ?_;exact Qt.base _ (last true _ λe=>by cases e)
 .
  rw [show TD c q=sU c true q.word q.f from if_neg hS,hw];have hT:Mv Tryz.prog p.Kf mn (WV v0 Tryz.prog p T mn (s.set (sU c true wd q.f))):=bA hs.q;refine qr ?_;refine Qt.seq hT (Qt.seq hT ?_);refine qr ?_;refine Qt.op hT rfl (bi (u:=.int .i32 0) rfl rfl rfl (lG (x4.trans (by omega)))) ?_;refine Qt.op hT rfl (bi (u:=.bool false) rfl rfl rfl rfl) ?_;refine qr ?_;refine Qt.cond hT false (Qt.skip hT ?_);refine Qt.seq hT ?_;refine qr ?_;refine Qt.inBlock hT (Qt.inLoop hT ?_);exact Qt.base _ (hl v2 wd q.f (by omega) ⟨hlt,λ_=>rfl,λ_=>by omega⟩)
theorem CB(hok:p.Ok)(hs:s.Run){v:VW}{c φ φ' nw:Nat}{ow:Nat}{st aw z:Bool}{W it:Int}(hφ:φ' < φ)
 (hget:∀v',Qt (WV v0 Tryz.prog p T mn (s.set { df:=1,hd:=1,phi:=c+4 })) v' (base 122) cs 139 [] [.code kE] [(0,.pointer (some p.muA))])
 (hl:∀v' st' ow' φ',φ' < φ->pI ow' st' true->Qt (WV v0 Tryz.prog p T mn (s.set (sU c true ow' φ'))) v' (base 122) cs 139 [] [.code jy,.inLoop jy,.inBlock 0,.code kE] (Ae p W st' true 0 ow')):
 Qt (WV v0 Tryz.prog p T mn (s.set { df:=1,qu:=1,phi:=c+4,se:=some (nw,φ') })) v (base 122) cs 139 [] (.code Uu::On) ((8,.bool z)::Ae p W st aw it ow):=by
 have hT:Mv Tryz.prog p.Kf mn (WV v0 Tryz.prog p T mn (s.set { df:=1,qu:=1,phi:=c+4,se:=some (nw,φ') })):=bA hs.q
 refine Qt.seq hT ?_
 refine qr ?_
 refine Qt.op hT rfl (gY rfl rfl) ?_
 refine Qt.op hT rfl (bJ (k:=1) rfl J3 rfl) ?_
 refine qr ?_
 refine Po hok hs rfl rfl rfl rfl rfl Tryz.func135 (by kernel_rfl) (by kernel_rfl) (by kernel_rfl) (by kernel_rfl) rfl { df:=1,tk:=1,phi:=c+5,se:=some (nw,φ') } ⟨rfl,rfl⟩ (λq hp hq=>QQ hs hq) λv1=>?_
 replace hT:Mv Tryz.prog p.Kf mn (WV v0 Tryz.prog p T mn (s.set { df:=1,tk:=1,phi:=c+5,se:=some (nw,φ') })):=bA hs.q
 refine qr ?_
 refine Qt.seq hT ?_
 refine qr ?_
 cases st with
 |true=>
  refine bW hT rfl ?_;refine bW hT rfl ?_;refine bW hT rfl ?_;refine bW hT rfl ?_;refine Qt.op hT rfl (eA rfl true rfl rfl) ?_;refine qr ?_;exact Qt.base _ (Cm (st:=true) hok hs hφ hget λv' ow' φ'=>hl v' true ow' φ')
 |false=>
  refine Ji hs (λa ha=>IE ha rfl rfl rfl rfl) rfl rfl λv2 n=>?_;refine cH hT rfl (d5 rfl rfl) ?_;refine cH hT rfl (bi rfl rfl rfl rfl) ?_;refine cH hT rfl (bi rfl rfl rfl rfl) ?_;refine Qt.op hT rfl (eA rfl false rfl rfl) ?_;refine qr ?_;exact Qt.base _ (Cm (st:=_) hok hs hφ hget λv' ow' φ'=>hl v' _ ow' φ')
theorem Oh(hok:p.Ok)(hs:s.Run){v:VW}{c φ φ' nw:Nat}{ow:Nat}{st aw:Bool}{W it:Int}(hφ:φ' < φ)
 (hget:∀v',Qt (WV v0 Tryz.prog p T mn (s.set { df:=1,hd:=1,phi:=c+4 })) v' (base 122) cs 139 [] [.code kE] [(0,.pointer (some p.muA))])
 (hl:∀v' W' st' ow' φ',φ' < φ->pI ow' st' true->Qt (WV v0 Tryz.prog p T mn (s.set (sU c true ow' φ'))) v' (base 122) cs 139 [] [.code jy,.inLoop jy,.inBlock 0,.code kE] (Ae p W' st' true 0 ow')):
 Qt (WV v0 Tryz.prog p T mn (s.set { df:=1,qu:=1,phi:=c+4,se:=some (nw,φ') })) v (base 122) cs 139 [] (.code Wu::On) (Ae p W st aw it ow):=by
 have hT:Mv Tryz.prog p.Kf mn (WV v0 Tryz.prog p T mn (s.set { df:=1,qu:=1,phi:=c+4,se:=some (nw,φ') })):=bA hs.q
 refine Qt.seq hT ?_
 refine qr ?_
 refine Qt.op hT rfl (bi rfl rfl rfl rfl) ?_
 refine qr ?_
 refine Qt.seq hT (Qt.seq hT ?_)
 refine qr ?_
 refine Qt.op hT rfl (bi rfl rfl rfl rfl) ?_
 refine qr ?_
 by_cases h0:W=0
 .
  refine Qt.cond hT true ?_ (congrArg (λz=>some (Value.bool z)) (decide_eq_true h0));refine qr ?_;refine Ji hs (λa ha=>aj rfl _) rfl rfl λv2 n=>?_;refine qr ?_;exact Qt.base _ (CB hok hs hφ hget λv' st' ow' φ'=>hl v' n st' ow' φ')
 .
  refine Qt.cond hT false ?_ (congrArg (λz=>some (Value.bool z)) (decide_eq_false h0));refine Qt.skip hT ?_;exact Qt.base _ (CB hok hs hφ hget λv' st' ow' φ'=>hl v' W st' ow' φ')
end
end Go.Proofs.YtcpbmhgakdeceaaGreat
set_option linter.unusedVariables false
set_option maxRecDepth 20000
set_option maxHeartbeats 4000000
namespace Go.Proofs.YtcpbmhgakdeceaaGreat
open K Go Go.Proofs Go.Conc Go.Conc.Lib
section
variable {p:Gp}{T:Tq}{mn:Bool}{s:Ph}{v0:VW}{cs:List Frame}
abbrev EC(v0:VW)(p:Gp)(T:Tq)(mn:Bool)(s:Ph)(cs:List Frame)(c:Nat)(v:VW)(W:Int)(st aw:Bool)(it:Int)(ow φ:Nat):Prop:=
 Qt (WV v0 Tryz.prog p T mn (s.set (sU c aw ow φ))) v (base 122) cs 139 [] [.code jy,.inLoop jy,.inBlock 0,.code kE] (Ae p W st aw it ow)
theorem tC(hok:p.Ok)(hs:s.Run){v:VW}{c ow1 φ1 ow:Nat}{st aw:Bool}{W it:Int}{X:Code}(h0:0≤it)(h4:it < 4)(hst:st=true->aw=true)
 (hl:∀v' ow' φ',φ'≤φ1->pI ow' st aw->EC v0 p T mn s cs c v' W st aw (it+1) ow' φ'):
 Qt (WV v0 Tryz.prog p T mn (s.set (sU c aw ow1 φ1))) v (base 122) cs 139 [] (.code X0:: .code X::On) (Ae p W st aw it ow):=by
 have hT:Mv Tryz.prog p.Kf mn (WV v0 Tryz.prog p T mn (s.set (sU c aw ow1 φ1))):=bA hs.q
 refine Qt.seq hT ?_
 refine qr ?_
 refine xo hT NX rfl rfl ?_
 refine qr ?_
 refine Qt.seq hT ?_
 refine qr ?_
 refine Qt.op hT rfl (bi (u:=.int .i64 (it+1)) rfl rfl rfl (by grind [jJ,IntKind.wrap_i64])) ?_
 refine qr ?_
 refine Qt.seq hT ?_
 refine qr ?_
 refine Qt.op hT rfl (gY rfl rfl) ?_
 refine Qt.op hT rfl (bJ (k:=0) rfl pz rfl) ?_
 refine Ad hok hs rfl rfl rfl rfl λv2 ow2 φ2 g1 g2 g3=>?_
 replace hT:Mv Tryz.prog p.Kf mn (WV v0 Tryz.prog p T mn (s.set (sU c aw ow2 φ2))):=bA hs.q
 refine qr ?_
 refine Qt.exit hT rfl (Qt.inLoop hT ?_)
 exact Qt.base _ (hl v2 ow2 φ2 (g1 _ _ rfl) ⟨g2,hst,g3⟩)
theorem Oj(hok:p.Ok)(hs:s.Run){v:VW}{c ow φ:Nat}{st aw:Bool}{W it:Int}{X:Code}(ho:pI ow st aw)(h0:0≤it)(h4:it < 4)(hL:ow % 2=1)(hS:ow / 4 % 2=0)
 (hl:∀v' aw' ow' φ',φ'≤φ->pI ow' st aw'->EC v0 p T mn s cs c v' W st aw' (it+1) ow' φ') {C1:Code} (hC:∃r5 C2,jy= .block 1 (.seq (.seq r5 (.cond (.tmp 20) C1 .skip)) C2)):
 Qt (WV v0 Tryz.prog p T mn (s.set (sU c aw ow φ))) v (base 122) cs 139 [] (.code C1:: .code X::On) (Ae p W st aw it ow):=by
 obtain⟨r5,C2,hC⟩:=hC
 have hC1:C1=match jy with
  | .block _ (.seq (.seq _ (.cond _ s _)) _)=>s
  |_=>.skip:=by rw [hC]
 subst hC1
 clear hC
 have hT:Mv Tryz.prog p.Kf mn (WV v0 Tryz.prog p T mn (s.set (sU c aw ow φ))):=bA hs.q
 have hlt:=ho.lt
 obtain⟨x5,x1,x2,x4,x3,x7,o1,o2,o4,n2,s3⟩:=ly ow (by omega)
 refine Qt.seq hT (Qt.seq hT ?_)
 refine qr ?_
 refine Qt.op hT rfl (P7 rfl rfl) ?_
 refine qr ?_
 cases aw with
 |true=>
  refine bW hT rfl ?_;refine bW hT rfl ?_;refine bW hT rfl ?_;refine Qt.op hT rfl (eA rfl false rfl rfl) ?_;refine qr ?_;refine bW hT rfl ?_;refine bW hT rfl ?_;refine bW hT rfl ?_;refine Qt.op hT rfl (eA rfl false rfl rfl) ?_;refine qr ?_;refine bW hT rfl ?_;refine bW hT rfl ?_;refine bW hT rfl ?_;refine bW hT rfl ?_;refine bW hT rfl ?_;refine bW hT rfl ?_;refine bW hT rfl ?_;refine Qt.op hT rfl (eA rfl false rfl rfl) ?_;refine qr ?_;refine Qt.cond hT false (Qt.skip hT ?_);exact Qt.base _ (tC hok hs h0 h4 ho.st λv' ow' φ' hφ hw=>hl v' true ow' φ' hφ hw)
 |false=>
  refine cH hT rfl (d5 rfl rfl) ?_;by_cases hW:ow / 2 % 2=0
  .refine cH hT rfl (bi (u:=.int .i32 0) rfl rfl rfl (lG (x2.trans (by omega)))) ?_;refine cH hT rfl (bi (u:=.bool true) rfl rfl rfl rfl) ?_;refine Qt.op hT rfl (eA rfl true rfl rfl) ?_;refine qr ?_;refine cH hT rfl (d5 rfl rfl) ?_;refine cH hT rfl (mi (z:=(ow / 8:Nat)) rfl rfl rfl (by decide) s3) ?_;by_cases hN:ow / 8=0
   .refine cH hT rfl (bi (u:=.bool false) rfl rfl rfl (by simp only [jJ];rw [decide_eq_true (by omega)];rfl)) ?_;refine Qt.op hT rfl (eA rfl true rfl rfl) ?_;refine qr ?_;refine bW hT rfl ?_;refine bW hT rfl ?_;refine bW hT rfl ?_;refine bW hT rfl ?_;refine bW hT rfl ?_;refine bW hT rfl ?_;refine bW hT rfl ?_;refine Qt.op hT rfl (eA rfl false rfl rfl) ?_;refine qr ?_;refine Qt.cond hT false (Qt.skip hT ?_);exact Qt.base _ (tC hok hs h0 h4 ho.st λv' ow' φ' hφ hw=>hl v' false ow' φ' hφ hw)
   .refine cH hT rfl (bi (u:=.bool true) rfl rfl rfl (by grind [jJ,decide_eq_false])) ?_;refine Qt.op hT rfl (eA rfl true rfl rfl) ?_;refine qr ?_;refine cH hT rfl (d5 rfl rfl) ?_;refine cH hT rfl (gY rfl rfl) ?_;refine cH hT rfl (bJ (k:=0) rfl pz rfl) ?_;refine cH hT rfl (d5 rfl rfl) ?_;refine cH hT rfl (d5 rfl rfl) ?_;refine cH hT rfl (bi (u:=.int .i32 ((ow+2:Nat):Int)) rfl rfl rfl (lG (o2.trans (by omega)))) ?_
    refine vT hok hs rfl rfl (le_of_ble_eq_true rfl) rfl (ow:=ow) (nw:=ow+2) rfl rfl (λa ha=>IE ha rfl rfl rfl rfl) Tryz.func121 (by kernel_rfl) (by kernel_rfl) (by kernel_rfl) (by kernel_rfl) rfl rfl rfl
     (λφ'=>sU c true (ow+2) φ') (λx=>⟨rfl,rfl⟩) (λq=>{ q with W:=1,f:=q.f - 1 }) (λq hp e=>?_) (λv' φ' hφ=>?_) λv' ow' φ' hφ=>?_
    .have hf:=yC hp;have hf:0 < q.f:=by grind
     have hle:=lC hp;obtain⟨w1,w2,w3,w4⟩:=iN hle;rw [e] at w1 w2 w3 w4;refine⟨?_,⟨rfl,rfl,rfl,rfl,rfl,rfl⟩,rfl,by grind,Nb hs e hL hW hS hle hf⟩;grind
    .have hφ:=hφ φ rfl;replace hT:Mv Tryz.prog p.Kf mn (WV v0 Tryz.prog p T mn (s.set (sU c true (ow+2) φ'))):=bA hs.q;refine Qt.op hT rfl (eA rfl true rfl rfl) ?_;refine qr ?_;refine Qt.cond hT true ?_;refine qr ?_;exact Qt.base _ (tC (aw:=true) hok hs h0 h4 (λ_=>rfl) λv' ow' φ2 hφ2 hw=>hl v' true ow' φ2 (by omega) hw)
    .have hφ:=hφ φ rfl;replace hT:Mv Tryz.prog p.Kf mn (WV v0 Tryz.prog p T mn (s.set (sU c false ow' φ'))):=bA hs.q;refine Qt.op hT rfl (eA rfl true rfl rfl) ?_;refine qr ?_;refine Qt.cond hT false (Qt.skip hT ?_);exact Qt.base _ (tC (aw:=false) hok hs h0 h4 ho.st λv' ow' φ2 hφ2 hw=>hl v' false ow' φ2 (by omega) hw)
  .refine cH hT rfl (bi (u:=.int .i32 2) rfl rfl rfl (lG (x2.trans (by omega)))) ?_;refine cH hT rfl (bi (u:=.bool false) rfl rfl rfl rfl) ?_;refine Qt.op hT rfl (eA rfl true rfl rfl) ?_;refine qr ?_;refine bW hT rfl ?_;refine bW hT rfl ?_;refine bW hT rfl ?_;refine Qt.op hT rfl (eA rfl false rfl rfl) ?_;refine qr ?_;refine bW hT rfl ?_;refine bW hT rfl ?_;refine bW hT rfl ?_;refine bW hT rfl ?_;refine bW hT rfl ?_;refine bW hT rfl ?_;refine bW hT rfl ?_;refine Qt.op hT rfl (eA rfl false rfl rfl) ?_;refine qr ?_;refine Qt.cond hT false (Qt.skip hT ?_);exact Qt.base _ (tC hok hs h0 h4 ho.st λv' ow' φ' hφ hw=>hl v' false ow' φ' hφ hw)
theorem FT(hok:p.Ok)(hs:s.Run){v:VW}{c ow φ:Nat}{st aw:Bool}{W it:Int}(hget:∀v',Qt (WV v0 Tryz.prog p T mn (s.set { df:=1,hd:=1,phi:=c+4 })) v' (base 122) cs 139 [] [.code kE] [(0,.pointer (some p.muA))])
 (ho:pI ow st aw) (h0:0≤it) (hsp:it < 4->∀v' aw' ow' φ',φ'≤φ->pI ow' st aw'->EC v0 p T mn s cs c v' W st aw' (it+1) ow' φ')
 (hlow:∀v' W' st' aw' it' ow' φ',φ' < φ->0≤it'->pI ow' st' aw'->EC v0 p T mn s cs c v' W' st' aw' it' ow' φ'):EC v0 p T mn s cs c v W st aw it ow φ:=by
 have hT:Mv Tryz.prog p.Kf mn (WV v0 Tryz.prog p T mn (s.set (sU c aw ow φ))):=bA hs.q
 have hlt:=ho.lt
 obtain⟨x5,x1,x2,x4,x3,x7,o1,o2,o4,n2,s3⟩:=ly ow (by omega)
 have on:∀v',Qt (WV v0 Tryz.prog p T mn (s.set (sU c aw ow φ))) v' (base 122) cs 139 [] (.code VU::On) (Ae p W st aw it ow):=λv'=>
  RE hs ho v' (Og hok hs ho hget (λv2 φ' hφ=>Oh hok hs hφ hget λv3 W' st' ow' φ2 h hw=>hlow v3 W' st' true 0 ow' φ2 h (Int.le_refl _) hw) λv2 ow' φ' hφ hw=>hlow v2 W st aw it ow' φ' hφ h0 hw)
 refine Qt.block hT (Qt.seq hT (Qt.seq hT ?_))
 refine qr ?_
 refine Qt.op hT rfl (bi (u:=.int .i32 ((ow % 2+4 * (ow / 4 % 2):Nat):Int)) rfl rfl rfl (lG x5)) ?_
 by_cases hc:ow % 2=1/\ow / 4 % 2=0
 .
  refine Qt.op hT rfl (bi (u:=.bool true) rfl rfl rfl (by simp only [jJ];simp_all)) ?_;refine qr ?_;refine cH hT rfl (d5 rfl rfl) ?_;refine Q6 hs (λa ha=>IE ha rfl rfl rfl rfl) rfl rfl rfl λv1 u hu=>?_;refine Qt.op hT rfl (eA rfl true rfl rfl) ?_;refine qr ?_;cases u with
  |true=>
   refine Qt.cond hT true ?_;exact Qt.base _ (Oj hok hs ho h0 (hu rfl) hc.1 hc.2 (hsp (hu rfl)) ⟨_,_,rfl⟩)
  |false=>
   refine Qt.cond hT false (Qt.skip hT ?_);exact Qt.base _ (on v1)
 .
  refine Qt.op hT rfl (bi (u:=.bool false) rfl rfl rfl (by grind [jJ,decide_eq_false])) ?_;refine qr ?_;refine bW hT rfl ?_;refine bW hT rfl ?_;refine Qt.op hT rfl (eA rfl false rfl rfl) ?_;refine qr ?_;refine Qt.cond hT false (Qt.skip hT ?_);exact Qt.base _ (on v)
theorem Ol(hok:p.Ok)(hs:s.Run){c:Nat}(hget:∀v',Qt (WV v0 Tryz.prog p T mn (s.set { df:=1,hd:=1,phi:=c+4 })) v' (base 122) cs 139 [] [.code kE] [(0,.pointer (some p.muA))]):
 ∀(φ n:Nat) (v:VW) (W:Int) (st aw:Bool) (it:Int) (ow:Nat),0≤it->4≤it+n->pI ow st aw->EC v0 p T mn s cs c v W st aw it ow φ:=by
 intro φ
 induction φ using Nat.strongRecOn with
 |_ φ ih=>
  have low:∀v' W' st' aw' it' ow' φ',φ' < φ->0≤it'->pI ow' st' aw'->EC v0 p T mn s cs c v' W' st' aw' it' ow' φ':=λv' W' st' aw' it' ow' φ' h h0 hw=>ih φ' h 4 v' W' st' aw' it' ow' h0 (by omega) hw;intro n
  induction n with
  |zero=>
   intro v W st aw it ow h0 hn ho;exact FT hok hs hget ho h0 (λh=>by omega) low
  |succ n ihn=>
   intro v W st aw it ow h0 hn ho;refine FT hok hs hget ho h0 (λh v' aw' ow' φ' hφ hw=>?_) low;grind
theorem Oi(hok:p.Ok)(hs:s.Run){c:Nat}{c1:Frame}{cs:List Frame}(hk:∀v',GV v0 Tryz.prog p T mn (s.set { hd:=1,dt:=1,phi:=c+4 }) v' (c1.finish (.tuple #[])) cs)(v:VW):
 Qt (WV v0 Tryz.prog p T mn (s.set { df:=1,hd:=1,phi:=c+4 })) v (base 122) (c1::cs) 139 [] [.code kE] [(0,.pointer (some p.muA))]:=by
 have hT:Mv Tryz.prog p.Kf mn (WV v0 Tryz.prog p T mn (s.set { df:=1,hd:=1,phi:=c+4 })):=bA hs.q
 refine Qt.cond hT true ?_
 refine Qt.seq hT ?_
 refine qr ?_
 refine jk (xl (l:={ df:=1,hd:=1,phi:=c+4 }) (l':={ hd:=1,phi:=c+4 }) hok hs (.inr rfl) rfl rfl) J4 rfl rfl ?_
 replace hT:Mv Tryz.prog p.Kf mn (WV v0 Tryz.prog p T mn (s.set { hd:=1,phi:=c+4 })):=bA hs.q
 refine qr ?_
 refine Qt.op hT rfl (kS rfl (t3 (n:=1) Tryz.underlying178 Tryz.underlying163 Tryz.sizeOf117) rfl) ?_
 refine Gz hok hs J6 rfl rfl rfl λv1=>?_
 replace hT:Mv Tryz.prog p.Kf mn (GV v0 Tryz.prog p T mn (s.set { hd:=1,dt:=1,phi:=c+4 })):=tX hs.q
 refine qr ?_
 exact Qt.fin hT (dS hT rfl Tryz.func122 rfl (hk v1))
end
section
variable {p:Gp}{T:Tq}{mn:Bool}{s:Ph}{v0:VW}{cs:List Frame}{c1:Frame}
theorem Cj(hok:p.Ok)(hs:s.Run){c:Nat}(hk:∀v',GV v0 Tryz.prog p T mn (s.set { hd:=1,dt:=1,phi:=c+4 }) v' (c1.finish (.tuple #[])) cs)(v:VW):
 Qt (WV v0 Tryz.prog p T mn (s.set { phi:=c+6 })) v (base 75) (c1::cs) 6 [] [.code (Tryz.f75.body.getD .skip)] (ent 0 [.pointer (some p.muA)]):=by
 have hT:Mv Tryz.prog p.Kf mn (WV v0 Tryz.prog p T mn (s.set { phi:=c+6 })):=bA hs.q
 refine qr ?_
 refine Qt.op hT rfl (gY rfl rfl) ?_
 refine Qt.op hT rfl (bJ (k:=0) rfl J2 rfl) ?_
 refine Qt.call (c9:=[.pointer (some p.muA)]) hT rfl rfl Tryz.func97 (by kernel_rfl) rfl rfl λc2 hk2=>?_
 have out:∀v'',GV v0 Tryz.prog p T mn (s.set { hd:=1,dt:=1,phi:=c+4 }) v'' (c2.finish (.tuple #[])) (c1::cs):=λv''=>by
  have hT:Mv Tryz.prog p.Kf mn (GV v0 Tryz.prog p T mn (s.set { hd:=1,dt:=1,phi:=c+4 })):=tX hs.q;exact hk2 _ v'' _ (qr (Qt.fin hT (dS hT rfl Tryz.func75 rfl (hk v''))))
 refine Qt.seq hT ?_
 refine qr ?_
 refine jk (xl (l:={ phi:=c+6 }) (l':={ df:=1,phi:=c+6 }) hok hs (.inl rfl) rfl rfl) J5 rfl rfl ?_
 replace hT:Mv Tryz.prog p.Kf mn (WV v0 Tryz.prog p T mn (s.set { df:=1,phi:=c+6 })):=bA hs.q
 refine qr ?_
 refine Qt.seq hT (Qt.seq hT ?_)
 refine qr ?_
 refine Qt.op hT rfl (gY rfl rfl) ?_
 refine Qt.op hT rfl (bJ (k:=0) rfl pz rfl) ?_
 refine vT hok hs rfl rfl (le_of_ble_eq_true rfl) rfl (ow:=0) (nw:=1) rfl rfl (λa ha=>aj rfl _) Tryz.func121 (by kernel_rfl) (by kernel_rfl) (by kernel_rfl) (by kernel_rfl) rfl rfl rfl
  (λφ'=>{ df:=1,hd:=1,phi:=c+4 }) (λx=>⟨rfl,rfl⟩) (λq=>{ q with L:=1,f:=q.f - 1 }) (λq hp e=>?_) (λv' φ' hφ=>?_) λv' ow' φ' hφ=>?_
 .
  have hf:=yC hp;have hf:0 < q.f:=by grind
  refine⟨?_,⟨rfl,rfl,rfl,rfl,rfl,rfl⟩,rfl,by grind,Nl (φ:=0) hs e hf⟩;grind
 .
  replace hT:Mv Tryz.prog p.Kf mn (WV v0 Tryz.prog p T mn (s.set { df:=1,hd:=1,phi:=c+4 })):=bA hs.q;refine qr ?_;refine Qt.cond hT true ?_;refine Qt.seq hT (Qt.cond hT true ?_);refine Qt.seq hT ?_;refine qr ?_;refine jk (xl (l:={ df:=1,hd:=1,phi:=c+4 }) (l':={ hd:=1,phi:=c+4 }) hok hs (.inr rfl) rfl rfl) J4 rfl rfl ?_;replace hT:Mv Tryz.prog p.Kf mn (WV v0 Tryz.prog p T mn (s.set { hd:=1,phi:=c+4 })):=bA hs.q;refine qr ?_;refine Qt.op hT rfl (kS rfl (t3 (n:=1) Tryz.underlying178 Tryz.underlying163 Tryz.sizeOf117) rfl) ?_;refine Gz hok hs J6 rfl rfl rfl λv1=>?_;replace hT:Mv Tryz.prog p.Kf mn (GV v0 Tryz.prog p T mn (s.set { hd:=1,dt:=1,phi:=c+4 })):=tX hs.q;refine qr ?_;exact Qt.ret hT (dS hT rfl Tryz.func97 rfl (out v1))
 .
  replace hT:Mv Tryz.prog p.Kf mn (WV v0 Tryz.prog p T mn (s.set { df:=1,phi:=c+6,se:=some (ow',φ') })):=bA hs.q;refine qr ?_;refine Qt.cond hT false (Qt.skip hT ?_);refine qr ?_;refine Qt.call (c9:=[.pointer (some p.muA)]) hT rfl rfl Tryz.func122 (by kernel_rfl) rfl rfl λc3 hk3=>?_
  have hget:=λv'=>Oi (v0:=v0) (p:=p) (T:=T) (mn:=mn) (c:=c) hok hs (c1:=c3) (cs:=c2::c1::cs) (λv''=>by
   have hT:Mv Tryz.prog p.Kf mn (GV v0 Tryz.prog p T mn (s.set { hd:=1,dt:=1,phi:=c+4 })):=tX hs.q;exact hk3 _ v'' _ (qr (Qt.fin hT (dS hT rfl Tryz.func97 rfl (out v''))))) v'
  refine Qt.seq hT ?_;refine qr ?_;refine Qt.seq hT ?_;refine qr ?_;refine Qt.seq hT ?_;refine qr ?_;refine Qt.seq hT ?_;refine qr ?_;refine Qt.seq hT ?_;refine qr ?_;refine Qt.op hT rfl (gY rfl rfl) ?_;refine Qt.op hT rfl (bJ (k:=0) rfl pz rfl) ?_;refine Ad (aw:=false) hok hs rfl rfl rfl rfl λv2 ow2 φ2 g1 g2 g3=>?_;replace hT:Mv Tryz.prog p.Kf mn (WV v0 Tryz.prog p T mn (s.set (sU c false ow2 φ2))):=bA hs.q;refine qr ?_;refine Qt.seq hT (Qt.block hT (Qt.loop hT ?_));exact Qt.base _ (Ol hok hs hget φ2 4 v2 0 false false 0 ow2 (Int.le_refl _) (by decide) ⟨g2,λe=>(by cases e),λe=>(by cases e)⟩)
end
