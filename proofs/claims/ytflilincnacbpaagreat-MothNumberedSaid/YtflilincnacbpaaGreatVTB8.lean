import Derived.Test.YtflilincnacbpaaGreatVTB7
import Derived.Test.YtflilincnacbpaaGreatChecked
open Nat
open List hiding mem_of_getElem?
open Array hiding mem_of_getElem? mk
set_option linter.unusedSimpArgs false
set_option linter.unusedVariables false
set_option maxRecDepth 20000
set_option maxHeartbeats 4000000
namespace Go.Proofs.YtflilincnacbpaaGreat
namespace K
open Go Go.Conc Go.Conc.Lib
section
variable {P:Program}{p:Gp}{T:Tq}{mn:Bool}{s s':Ph}{v0 v:VW}{b:Frame}{cs:List Frame}{N d i f:Nat}{df:List Deferred}{Γ:Gv}{ops:Array Oper}{rest:List Nat}{k:List Item}{o:Oper}
theorem Gp.Eff.st{w:World}{q:dV}(hok:p.Ok)(hcr:p.cr=true)(h:p.At w q){c wt:Nat}:p.Eff w (w.setCell p.stA (.int .u64 ((c * 4294967296+wt:Nat):Int))) { q with c:=c,wt:=wt }:=by
 have hlt:=(Array.getElem?_eq_some_iff.1 (h.wg hcr)).1;rw [show p.stA=⟨p.bw,0,none⟩ from rfl,K1 (h.wg hcr)];have g:∀x b,b≠p.bw->(w.heap.setIfInBounds p.bw x)[b]? =w.heap[b]? :=λx b hb=>getElem?_setIfInBounds_ne λe=>hb e.symm;refine⟨⟨λ_=>?_,λhc=>(g _ _ (hok.wm hc).2.2.symm).trans (h.ch hc),(g _ _ (hok.wm hcr).1.symm).trans h.mu,λe=>?_⟩,λb hb=>g _ _ λe=>hb (.inr ⟨hcr,.inl e⟩),by simp,rfl,rfl,rfl⟩
 .simp_all
 .obtain⟨o,ho,hr⟩:=h.mp e;exact⟨o,(g _ _ (hok.wm hcr).2.1.symm).trans ho,hr⟩
theorem Gp.Eff.sm{w:World}{q:dV}(hok:p.Ok)(hcr:p.cr=true)(h:p.At w q){s:Nat}:p.Eff w (w.setCell p.smA (.int .u32 (s:Int))) { q with sm:=s }:=by
 have hlt:=(Array.getElem?_eq_some_iff.1 (h.wg hcr)).1;rw [show p.smA=⟨p.bw,1,none⟩ from rfl,K1 (h.wg hcr)];have g:∀x b,b≠p.bw->(w.heap.setIfInBounds p.bw x)[b]? =w.heap[b]? :=λx b hb=>getElem?_setIfInBounds_ne λe=>hb e.symm;refine⟨⟨λ_=>?_,λhc=>(g _ _ (hok.wm hc).2.2.symm).trans (h.ch hc),(g _ _ (hok.wm hcr).1.symm).trans h.mu,λe=>?_⟩,λb hb=>g _ _ λe=>hb (.inr ⟨hcr,.inl e⟩),by simp,rfl,rfl,rfl⟩
 .simp_all
 .obtain⟨o,ho,hr⟩:=h.mp e;exact⟨o,(g _ _ (hok.wm hcr).2.1.symm).trans ho,hr⟩
theorem wB(hc:p.cr=true):p.wc (.cell p.stA):=.inr (.inr ⟨hc,.inl rfl⟩)
theorem wC(hc:p.cr=true):p.wc (.cell p.smA):=.inr (.inr ⟨hc,.inr (.inl rfl)⟩)
theorem Jy(hok:p.Ok)(hq:s.q=false){u:dV->Value}{W:World->dV->World}{Q:dV->dV}{S:dV->Ph}{es:dV->Array Event}
 (step:∀a,QS N df Γ a->∀w q,p.At w q->my p mn s q->stepG P mn (G (b.at a (.inRegion ops (i::rest)::k)) cs) w= .go (G (b.at (a.put (some d) (u q)) (.inRegion ops rest::k)) cs) (W w q) (es q))
 (eff:∀w q,p.At w q->my p mn s q->p.Eff w (W w q) (Q q)) (sv:∀q,my p mn s q->Sv p mn s q (S q) (Q q)) (ev:∀q,my p mn s q->mL p mn s (S q) (es q))
 (wk:∀a q,QS N df Γ a->my p mn s q->(q.T < (Q q).T\/q.sm < (Q q).sm\/q.cl≠(Q q).cl)->mayWake P (G (b.at a (.inRegion ops (i::rest)::k)) cs)=true) (hcl:∀q,my p mn s q->q.cl=true->(Q q).cl=true)
 (h:∀v' q,my p mn s q->((S q).q=false->Qt (WV v0 P p T mn (S q)) v' b cs N df (.inRegion ops rest::k) ((d,u q)::Γ))/\((S q).q=true->mn=false/\Qt (TQ P 1) v' b cs N df (.inRegion ops rest::k) ((d,u q)::Γ))) (hN:blt d N=true:=by exact rfl):
 Qt (WV v0 P p T mn s) v b cs N df (.inRegion ops (i::rest)::k) Γ:=λa ha hv _=>
 pG hq λv1 q hr hat hp=>⟨S q,Q q,_,_,W v1.toWorld q,es q,step a ha _ q hat hp,eff _ q hat hp,sv q hp,ev q hp,wk a q ha hp,hcl q hp,λe=>⟨q,undef,true,(h _ q hp).1 e _ (ha.put hN) ((hv.rely hr).put hok (eff _ q hat hp)) sF⟩,λe=>⟨((h v1 q hp).2 e).1,((h v1 q hp).2 e).2 _ (ha.put hN)⟩⟩
@[reducible] def KC(c:Nat):Ph:={ ac:=1,phi:=c }
@[reducible] def OD(c:Nat):Ph:={ ac:=1,nr:=false,phi:=c }
@[reducible] def QA(c:Nat):Ph:={ ac:=1,nr:=false,df:=1,phi:=c }
@[reducible] def J8:Ph:={ w1:=1,nr:=false,df:=1 }
@[reducible] def Tf:Ph:={ w2:=1,nr:=false,df:=1 }
theorem xz{p:Gp}{s s':Ph}{q q':dV}(hs:s.q=false)(hmx:s.hd=0/\s.dt=0/\s.aw=0/\s.rn=0/\s.qu=0/\s.tk=0/\s.rh=0/\s.ty=0)(hmx':s'.hd=0/\s'.dt=0/\s'.aw=0/\s'.rn=0/\s'.qu=0/\s'.tk=0/\s'.rh=0/\s'.ty=0)(hse:s'.se=none)(hnb:s'.nb=0)(hphi:s'.phi≤s.phi)(hnw:s'.nw=s.nw)(hlv:s'.lv≤s.lv)
 (hsame:q'.L=q.L/\q'.W=q.W/\q'.S=q.S/\q'.N=q.N/\q'.T=q.T/\q'.f=q.f/\q'.h=q.h/\q'.cl=q.cl) (hcc:q'.c≤q.c)
 (hA:∀a b z,Ar q a z->Nx a s->SV a b s s'->(q'.c=b.ac+z.pd)/\(z.rg=false->q'.wt=0/\q'.sm=0/\b.w1=0/\b.w2=0)/\(z.rg=true->z.pd=0/\(0 < q'.c->q'.wt=1/\q'.sm=0/\b.w1=0/\b.w2=0)/\(q'.c=0->q'.wt=b.w1/\b.w1+b.w2+q'.sm=1)))
 (hok:∀i,i≠0->s.Ok i->s'.Ok i):Sv p false s q s' q':=by
 obtain⟨e1,e2,e3,e4,e5,e6,e7,e8⟩:=hsame
 obtain⟨m1,m2,m3,m4,m5,m6,m7,m8⟩:=hmx
 obtain⟨n1,n2,n3,n4,n5,n6,n7,n8⟩:=hmx'
 refine Sv.mk (λa b z ha hp hb _ _ _ _ _=>?_) hs (.inr ⟨e6,by grind⟩) (λow φ e=>by simp_all) (λx h1 h2 _=>by omega) (λ_ _ _ _ _=>by omega) (λi hi ho=>hok i (λe=>by simp_all) ho) (λe=>by cases e)
 rw [if_neg (by simp)]
 obtain⟨k1,k2,k3⟩:=hA a b z ha hp hb
 have q5:=hb.hd;have q6:=hb.dt;have q7:=hb.aw;have q8:=hb.rn;have q9:=hb.qu;have q10:=hb.tk;have q11:=hb.rh;have q12:=hb.ty;have q13:=hb.phi;have q14:=hb.lv;have q15:=hb.nw
 rw [m1,n1] at q5;rw [m2,n2] at q6;rw [m3,n3] at q7;rw [m4,n4] at q8;rw [m5,n5] at q9;rw [m6,n6] at q10;rw [m7,n7] at q11;rw [m8,n8] at q12;rw [hnw] at q15
 have r5:b.hd=a.hd:=by omega
 have r6:b.dt=a.dt:=by omega
 have r7:b.aw=a.aw:=by omega
 have r8:b.rn=a.rn:=by omega
 have r9:b.qu=a.qu:=by omega
 have r10:b.tk=a.tk:=by omega
 have r11:b.rh=a.rh:=by omega
 have r12:b.ty=a.ty:=by omega
 have r15:b.nw=a.nw:=by omega
 refine⟨k1,k2,k3,ha.pd,by rw [e8];exact ha.rgc,by rw [e8];exact ha.op,by rw [e8,r15];exact ha.nw,by rw [e1,e2,e3];exact ha.le,by rw [e1,r5];exact ha.hd,by rw [e1,e2,e3,e4,e5,r7,r8,r9,r10,r11,r12];exact ha.s0,by rw [e1,e2,e3,e4,e5,r7,r8,r9,r10,r11];exact ha.s1,by rw [e7,r6];exact ha.h,?_,?_,λB e=>Nat.le_trans hcc (ha.cb B e)⟩
 .
  have:=ha.f;omega
 .
  have:=ha.lv;omega
theorem KU{q:dV}{c:Nat}:Sv p false (KC c) q (OD c) q:=
 xz rfl (by simp) (by simp) rfl rfl (Nat.le_refl _) rfl (Nat.le_refl _) ⟨rfl,rfl,rfl,rfl,rfl,rfl,rfl,rfl⟩ (Nat.le_refl _) (λa b z ha hp hb=>by
  have h1:=hb.ac;have h2:=hb.w1;have h3:=hb.w2
  simp only [KC,OD] at h1 h2 h3
  rw [show b.ac=a.ac by omega,show b.w1=a.w1 by omega,show b.w2=a.w2 by omega]
  exact⟨ha.c,ha.un,ha.re⟩) (λi hi ho=>⟨zero_le _,λe=>(by cases e),λ_=>rfl,λe=>(by cases e),Nat.le_refl _,λe=>absurd e hi,λ_ _=>⟨rfl,λe=>(by cases e)⟩⟩)
theorem KV{q:dV}{c:Nat}:Sv p false (OD c) q (QA c) q:=
 xz rfl (by simp) (by simp) rfl rfl (Nat.le_refl _) rfl (Nat.le_refl _) ⟨rfl,rfl,rfl,rfl,rfl,rfl,rfl,rfl⟩ (Nat.le_refl _) (λa b z ha hp hb=>by
  have h1:=hb.ac;have h2:=hb.w1;have h3:=hb.w2
  simp only [QA,OD] at h1 h2 h3
  rw [show b.ac=a.ac by omega,show b.w1=a.w1 by omega,show b.w2=a.w2 by omega]
  exact⟨ha.c,ha.un,ha.re⟩) (λi hi ho=>⟨zero_le _,λe=>(by cases e),λ_=>rfl,λe=>(by cases e),Nat.le_refl _,λe=>absurd e hi,λ_ _=>⟨rfl,λe=>(by cases e)⟩⟩)
@[reducible] def G5(q:dV):Ph:=if 2≤q.c\/q.wt=0 then .quit else J8
theorem DJ{i:Nat}(hi:i≠0):Ph.quit.Ok i:=⟨zero_le _,λe=>(by cases e),λe=>(by cases e),λ_=>rfl,Nat.le_refl _,λe=>absurd e hi,λ_ e=>(by cases e)⟩
theorem KW{q:dV}{c:Nat}:Sv p false (QA c) q (G5 q) { q with c:=q.c - 1,wt:=q.wt }:=by
 by_cases e:2≤q.c\/q.wt=0
 .rw [show G5 q= .quit from if_pos e];refine xz rfl (by simp) (by simp) rfl rfl (zero_le _) rfl (le_of_ble_eq_true rfl) ⟨rfl,rfl,rfl,rfl,rfl,rfl,rfl,rfl⟩ (sub_le _ _) (λa b z ha hp hb=>?_) λi hi _=>DJ hi;have h1:=hb.ac;have h2:=hb.w1;have h3:=hb.w2;have h4:=hp.ac;have h5:=ha.c;have h6:=ha.un;have h7:=ha.re;grind
 .rw [show G5 q=J8 from if_neg e];refine xz rfl (by simp) (by simp) rfl rfl (zero_le _) rfl (Nat.le_refl _) ⟨rfl,rfl,rfl,rfl,rfl,rfl,rfl,rfl⟩ (sub_le _ _) (λa b z ha hp hb=>?_) λi hi _=>⟨zero_le _,λe=>(by cases e),λ_=>rfl,λe=>(by cases e),Nat.le_refl _,λe=>absurd e hi,λ_ _=>⟨rfl,λe=>(by cases e)⟩⟩;have h1:=hb.ac;have h2:=hb.w1;have h3:=hb.w2;have h4:=hp.ac;have h5:=ha.c;have h6:=ha.un;have h7:=ha.re;grind
theorem DF{q:dV}(hp:my p false J8 q):q.c=0/\q.wt=1/\Sv p false J8 q Tf { q with c:=0,wt:=0 }:=by
 obtain⟨a,z,ha,hpt,_⟩:=hp.get;have h1:=hpt.w1;have h6:=ha.un;have h7:=ha.re;simp only [J8] at h1
 have hz:z.rg=true:=by
  grind
 have h7:=h7 hz;have hc:q.c=0:=by omega
 refine⟨hc,by omega,?_⟩;refine xz rfl (by simp) (by simp) rfl rfl (Nat.le_refl _) rfl (Nat.le_refl _) ⟨rfl,rfl,rfl,rfl,rfl,rfl,rfl,rfl⟩ (zero_le _) (λa b z ha hp hb=>?_) λi hi _=>⟨zero_le _,λe=>(by cases e),λ_=>rfl,λe=>(by cases e),Nat.le_refl _,λe=>absurd e hi,λ_ _=>⟨rfl,λe=>(by cases e)⟩⟩;have h1:=hb.ac;have h2:=hb.w1;have h3:=hb.w2;have h4:=hp.w1;have h5:=ha.c;have h6:=ha.un;have h7:=ha.re;grind
theorem KT{q:dV}:Sv p false Tf q .quit { q with sm:=q.sm+1 }:=by
 refine xz rfl (by simp) (by simp) rfl rfl (Nat.le_refl _) rfl (le_of_ble_eq_true rfl) ⟨rfl,rfl,rfl,rfl,rfl,rfl,rfl,rfl⟩ (Nat.le_refl _) (λa b z ha hp hb=>?_) λi hi _=>DJ hi;have h1:=hb.ac;have h2:=hb.w1;have h3:=hb.w2;have h4:=hp.w2;have h5:=ha.c;have h6:=ha.un;have h7:=ha.re;grind
end
end K
end Go.Proofs.YtflilincnacbpaaGreat
set_option linter.unusedVariables false
set_option maxRecDepth 20000
set_option maxHeartbeats 4000000
namespace Go.Proofs.YtflilincnacbpaaGreat
namespace K
open Go Go.Conc Go.Conc.Lib
section
variable {P:Program}{L:WgLink}{p:Gp}{T:Tq}{v0 v:VW}{b:Frame}{cs:List Frame}{N d:Nat}{df:List Deferred}{Γ:Gv}
theorem vD{s s':Ph}{es:Array Event}(hcr:p.cr=true)(h1:s.df=1)(hn:s.nr=false)(hd:s.dt=0)(hd':s'.dt=0)(hn':s'.nr=false)(hj:s'.jn=false)(hdf:s'.q=true\/s'.df=1)(he:es= #[CS p.stA]\/es= #[MB p.stA]\/es= #[CS p.stA,MB p.stA]\/es=semEvents p.smA):mL p false s s' es where
 sh e hm:=by
  rcases he with rfl |rfl |rfl |rfl
  .simp at hm;subst hm;exact .inl ⟨_,_,rfl,wB hcr⟩
  .simp at hm;subst hm;exact .inl ⟨_,_,rfl,wB hcr⟩
  .simp at hm;rcases hm with rfl |rfl <;> exact .inl ⟨_,_,rfl,wB hcr⟩
  .simp [semEvents] at hm;rcases hm with rfl |rfl |rfl |rfl
   .exact .inr (.inl rfl)
   .simp_all [wC]
   .simp_all [wC]
   .exact .inr (.inr (.inl rfl))
 df:=by
  have:deafBehind s.df es=1:=by rw [h1];rcases he with rfl |rfl |rfl |rfl <;> rfl
  grind
 deaf _ j hj e hx _:=by
  rw [h1];rcases he with rfl |rfl |rfl |rfl
  .have:j=0:=by simp_all
   subst this;exact Nat.one_pos
  .have:j=0:=by simp_all
   subst this;exact Nat.one_pos
  .have:j=0\/j=1:=by grind
   rcases this with rfl |rfl <;> exact Nat.one_pos
  .have:j=0\/j=1\/j=2\/j=3:=by grind [semEvents]
   rcases this with rfl |rfl |rfl |rfl <;> exact le_of_ble_eq_true rfl
 acq e:=absurd (hd'.trans hd.symm) e
 rel e:=absurd (hd'.trans hd.symm) e
 dt:=by omega
 nr e:=by simp_all
 nr' e:=by simp_all
 jn e:=by simp_all
 bw _ _:=⟨hcr,λe hm b hb=>by
  rcases he with rfl |rfl |rfl |rfl
  .simp at hm;subst hm;cases hb;rfl
  .simp at hm;subst hm;cases hb;rfl
  .simp at hm;rcases hm with rfl |rfl <;> (cases hb;rfl)
  .simp [semEvents] at hm;rcases hm with rfl |rfl |rfl |rfl <;> cases hb <;> rfl⟩
theorem Np(hok:p.Ok){c:Nat}:Wd P p.Kf false #[iR (.releaseMerge p.stA)] (WV v0 P p T false (KC c)) (WV v0 P p T false (OD c)):=
 tV hok rfl rfl rfl (λq _=>KU) ⟨λe h=>(by grind),rfl,λ_ j hj e he ht=>(by
  have:j=0:=by simp_all
  subst this;simp at he;subst he;exact absurd rfl ht),λe=>absurd rfl e,λe=>absurd rfl e,zero_le _,λ_ _=>⟨rfl,rfl⟩,λe=>(by cases e),λe=>(by cases e),λ_ e=>(by cases e)⟩
theorem Nq(hok:p.Ok)(hcr:p.cr=true){c:Nat}:Wd P p.Kf false #[iR .disable] (WV v0 P p T false (OD c)) (WV v0 P p T false (QA c)):=
 tV hok rfl rfl rfl (λq _=>KV) ⟨λe h=>(by simp_all),rfl,λ_ j hj e he ht=>(by
  have:j=0:=by simp_all
  subst this;simp at he;subst he;exact absurd rfl ht),λe=>absurd rfl e,λe=>absurd rfl e,zero_le _,λe=>(by cases e),λe=>(by cases e),λe=>(by cases e),λ_ _=>⟨hcr,λe h b hb=>(by simp at h;subst h;cases hb)⟩⟩
theorem HN{q:dV}{c:Nat}(hp:my p false (QA c) q):1≤q.c/\q.c≤102/\q.wt≤1:=by
 obtain⟨a,z,ha,hpt,_,_,_,_,_,_,h1,h2,_⟩:=hp.get;have h3:=hpt.ac;have h4:=ha.c;grind
theorem FP{q:dV}{cc:Nat}{its:List Item}(hcc:q.c - 1=cc)(p1:1≤q.c)(p3:q.wt≤1)(v':VW)
 (h1:∀(g:Bool),iQ .gtr .i32 (cc:Int) 0=some (.bool g)->(g=true\/q.wt=0)->∀hT:Mv P (λ_=>True) false (TQ P 1),Qt (TQ P 1) v' b cs N df its Γ)
 (h2:iQ .gtr .i32 (cc:Int) 0=some (.bool false)->q.wt=1->∀hT:Mv P p.Kf false (WV v0 P p T false J8),Qt (WV v0 P p T false J8) v' b cs N df its Γ):
 ((G5 q).q=false->Qt (WV v0 P p T false (G5 q)) v' b cs N df its Γ)/\((G5 q).q=true->false=false/\Qt (TQ P 1) v' b cs N df its Γ):=by
 by_cases hd:2≤q.c\/q.wt=0
 .
  rw [show G5 q= .quit from if_pos hd];grind [iQ,xy]
 .
  rw [show G5 q=J8 from if_neg hd];grind [iQ,bq]
theorem AB(H:WgLib P L)(hok:p.Ok)(hcr:p.cr=true){c0:Nat}(hq:∀v',Qr (TQ P 0) v' b cs N [] Γ):Qr (WV v0 P p T false (KC c0)) v b cs N [dcall L.done #[.pointer (some p.stA)]] Γ:=by
 have hT:Mv P p.Kf false (WV v0 P p T false (KC c0)):=bq rfl;refine Qr.enter (cZ:=[.pointer (some p.stA)]) hT H.f_done (by kernel_rfl) rfl rfl λc hc hk=>?_;refine qa ?_;refine Qt.call (cZ:=[.pointer (some p.stA),.int .i64 (-1)]) hT rfl rfl H.f_add (by kernel_rfl) rfl rfl λc1 hk1=>?_
 have fin1:∀v' Γ',Qr (TQ P 1) v' (base L.add) (c1::c::cs) 117 [dcall L.enable #[]] Γ':=λv' Γ'=>
  Qr.mark SS (IH H) (dF xy rfl H.f_add rfl (hk1 (TQ P 0) v' _ (mr xy (Qt.fin xy (xE xy rfl H.f_done rfl hc (hk (TQ P 0) v' (hq v')))))))
 refine qa ?_;refine Qt.cond hT true ?_;refine qa ?_;refine Qt.op hT rfl (aY (u:=.bool true) rfl rfl rfl rfl) ?_;refine qa ?_;refine Qt.cond hT true ?_;refine qa ?_;refine Qt.op hT rfl (jK rfl (mN hcr (off:=0) (n:=1) H.underlying_tWgP H.underlying_tUP H.sizeOf_tWg (by decide)) rfl) ?_;refine oZ (Np hok) (Rh H) rfl rfl rfl ?_;replace hT:Mv P p.Kf false (WV v0 P p T false (OD c0)):=bq rfl;refine qa ?_;refine iy (Nq hok hcr) (II H) rfl rfl ?_;replace hT:Mv P p.Kf false (WV v0 P p T false (QA c0)):=bq rfl;refine qa ?_;refine Qt.defer (cZ:=[]) hT rfl rfl rfl ?_;refine qa ?_;refine vy hT (N6 H) rfl rfl ?_;refine qa ?_;refine Qt.cond hT false ?_;refine qa ?_;refine Qt.op hT rfl (gi rfl rfl) ?_;refine Qt.op hT rfl (bF (k:=0) rfl (c9 (n:=0) H.underlying_tWg rfl H.sizeOf_tAU) rfl) ?_;refine qa ?_;refine Qt.op hT rfl (fS (z:=18446744073709551615) rfl H.underlying_t3 H.underlying_tU64 rfl (by decide)) ?_;refine Qt.op hT rfl (Hf (z:=18446744069414584320) rfl rfl rfl (by decide) (by decide)) ?_;refine Qt.call (cZ:=[.pointer (some p.stA),.int .u64 18446744069414584320]) hT rfl rfl H.f_uAdd (by kernel_rfl) rfl rfl λc2 hk2=>?_;refine qa ?_;refine Qt.op hT rfl (gi rfl rfl) ?_;refine Qt.op hT rfl (bF (k:=0) rfl (c9 (n:=0) H.underlying_tAU rfl H.sizeOf_tU64) rfl) ?_;refine qa ?_;refine Jy (d:=9) hok rfl (u:=λq=>.int .u64 (((q.c - 1) * 4294967296+q.wt:Nat):Int)) (W:=λw q=>w.setCell p.stA (.int .u64 (((q.c - 1) * 4294967296+q.wt:Nat):Int))) (Q:=λq=>{ q with c:=q.c - 1,wt:=q.wt }) (S:=G5) (es:=λq=> #[CS p.stA,MB p.stA]) (λa ha w q hat hp=>?_) (λw q hat _=>Gp.Eff.st hok hcr hat) (λq _=>KW) (λq _=>?_) (λa q _ _ e=>by rcases e with e |e |e <;> first |exact absurd e (Nat.lt_irrefl _) |exact absurd rfl e) (λ_ _=>id) λv' q hp=>?_
 .obtain⟨p1,p2,p3⟩:=HN hp;have hw:IntKind.u64.wrap (((q.c * 4294967296+q.wt:Nat):Int)+18446744069414584320)=(((q.c - 1) * 4294967296+q.wt:Nat):Int):=by rw [IntKind.wrap_u64];omega
  refine(stepG_add_atomic rfl (ag rfl _) (by exact λh=>nomatch h) rfl H.f_addU64 (by kernel_rfl) (by kernel_rfl) (by kernel_rfl) .u64 (by kernel_rfl) (ad:=p.stA) (ha.ev rfl) (ha.ev rfl) (hat.c0 hcr) (hat.f0 hcr)).trans ?_;rw [hw];rfl
 .by_cases e:2≤q.c\/q.wt=0
  .rw [show G5 q= .quit from if_pos e];exact vD hcr rfl rfl rfl rfl rfl rfl (.inl rfl) (.inr (.inr (.inl rfl)))
  .rw [show G5 q=J8 from if_neg e];exact vD hcr rfl rfl rfl rfl rfl rfl (.inr rfl) (.inr (.inr (.inl rfl)))
 obtain⟨p1,p2,p3⟩:=HN hp;generalize hcc:q.c - 1=cc;have hlt:cc < 2147483648:=by omega
 refine FP hcc p1 p3 v' (λg hg hw hT=>?_) (λhg hw hT=>?_)
 .rcases(show q.wt=0\/q.wt=1 by omega) with hw0 |hw0
  .rw [hw0];refine qa ?_;refine Qt.ret hT (ic hT rfl H.f_uAdd rfl rfl (hk2 _ _ _ ?_));refine qa ?_;refine Qt.op hT rfl (aY (u:=.int .u64 0) rfl rfl rfl (congrArg (λz=>some (Value.int .u64 z)) (wJ hlt (by decide)))) ?_;refine qb ?_;refine Qt.op hT rfl (kY (z:=cc) rfl rfl rfl (by decide) (wI hlt (by decide))) ?_;refine Qt.op hT rfl (fS (z:=cc) rfl H.underlying_tU64 H.underlying_t21 rfl (zr hlt)) ?_;refine qa ?_;refine Qt.op hT rfl (aY (u:=.int .u64 0) rfl rfl rfl (congrArg (λz=>some (Value.int .u64 z)) (wH hlt (by decide)))) ?_;refine Qt.op hT rfl (fS (z:=0) rfl H.underlying_tU64 H.underlying_tU32 rfl rfl) ?_;refine qb ?_;refine Qt.op hT rfl (aY (u:=.bool g) rfl rfl rfl hg) ?_;cases g
   .refine qb ?_;exact Qt.ret hT (fin1 _ _)
   .refine qb ?_;exact Qt.ret hT (fin1 _ _)
  .rw [hw0];have hgt:g=true:=hw.elim id λe=>by omega
   subst hgt;refine qa ?_;refine Qt.ret hT (ic hT rfl H.f_uAdd rfl rfl (hk2 _ _ _ ?_));refine qa ?_;refine Qt.op hT rfl (aY (u:=.int .u64 0) rfl rfl rfl (congrArg (λz=>some (Value.int .u64 z)) (wJ hlt (by decide)))) ?_;refine qb ?_;refine Qt.op hT rfl (kY (z:=cc) rfl rfl rfl (by decide) (wI hlt (by decide))) ?_;refine Qt.op hT rfl (fS (z:=cc) rfl H.underlying_tU64 H.underlying_t21 rfl (zr hlt)) ?_;refine qa ?_;refine Qt.op hT rfl (aY (u:=.int .u64 1) rfl rfl rfl (congrArg (λz=>some (Value.int .u64 z)) (wH hlt (by decide)))) ?_;refine Qt.op hT rfl (fS (z:=1) rfl H.underlying_tU64 H.underlying_tU32 rfl rfl) ?_;refine qb ?_;refine Qt.op hT rfl (aY (u:=.bool true) rfl rfl rfl hg) ?_;refine qb ?_;exact Qt.ret hT (fin1 _ _)
 .rw [hw];have hcc0:cc=0:=by simp [iQ] at hg;omega
  subst hcc0;refine qa ?_;refine Qt.ret hT (ic hT rfl H.f_uAdd rfl rfl (hk2 _ _ _ ?_));refine qa ?_;refine Qt.op hT rfl (aY (u:=.int .u64 0) rfl rfl rfl (congrArg (λz=>some (Value.int .u64 z)) (wJ hlt (by decide)))) ?_;refine qb ?_;refine Qt.op hT rfl (kY (z:=(0:Nat)) rfl rfl rfl (by decide) (wI hlt (by decide))) ?_;refine Qt.op hT rfl (fS (z:=(0:Nat)) rfl H.underlying_tU64 H.underlying_t21 rfl (zr hlt)) ?_;refine qa ?_;refine Qt.op hT rfl (aY (u:=.int .u64 1) rfl rfl rfl (congrArg (λz=>some (Value.int .u64 z)) (wH hlt (by decide)))) ?_;refine Qt.op hT rfl (fS (z:=1) rfl H.underlying_tU64 H.underlying_tU32 rfl rfl) ?_;refine qb ?_;refine Qt.op hT rfl (bF (k:=0) rfl (c9 (n:=0) H.underlying_tWg rfl H.sizeOf_tAU) rfl) ?_;refine Qt.call (cZ:=[.pointer (some p.stA)]) hT rfl rfl H.f_uLoad (by kernel_rfl) rfl rfl λc3 hk3=>?_;refine qb ?_;refine Qt.op hT rfl (bF (k:=0) rfl (c9 (n:=0) H.underlying_tAU rfl H.sizeOf_tU64) rfl) ?_;refine pW (d:=6) hok rfl (u:=λq=>.int .u64 1) (W:=λw q=>w) (Q:=λq=>q) (S:=λ_=>J8) (es:=λ_=> #[CS p.stA]) (λ_=>rfl) (λa ha w q hat hp=>?_) (λw q hat _=>.refl hat) (λ_ _=>.refl) (λq _=>vD hcr rfl rfl rfl rfl rfl rfl (.inr rfl) (.inl rfl)) (λa q _ _ e=>by rcases e with e |e |e <;> first |omega |exact absurd rfl e) (λ_ _=>id) λv2 q2 hp=>?_
  .obtain⟨p1,p2,_⟩:=DF hp;have hc0:=hat.c0 hcr;rw [p1,p2] at hc0;exact(stepG_load_atomic rfl (ag rfl _) (by exact λh=>nomatch h) rfl H.f_loadU64 (by kernel_rfl) (by kernel_rfl) (by kernel_rfl) .u64 (by kernel_rfl) (ad:=p.stA) (ha.ev rfl) hc0).trans rfl
  clear hp;refine qb ?_;refine Qt.ret hT (ic hT rfl H.f_uLoad rfl rfl (hk3 _ _ _ ?_));refine qb ?_;refine Qt.op hT rfl (bF (k:=0) rfl (c9 (n:=0) H.underlying_tWg rfl H.sizeOf_tAU) rfl) ?_;refine Qt.call (cZ:=[.pointer (some p.stA),.int .u64 0]) hT rfl rfl H.f_uStore (by kernel_rfl) rfl rfl λc4 hk4=>?_;refine qb ?_;refine Qt.op hT rfl (bF (k:=0) rfl (c9 (n:=0) H.underlying_tAU rfl H.sizeOf_tU64) rfl) ?_;refine qb ?_;refine pW (d:=8) hok rfl (u:=λq=>.tuple #[]) (W:=λw q=>w.setCell p.stA (.int .u64 ((0 * 4294967296+0:Nat):Int))) (Q:=λq=>{ q with c:=0,wt:=0 }) (S:=λ_=>Tf) (es:=λ_=> #[MB p.stA]) (λ_=>rfl) (λa ha w q hat hp=>?_) (λw q hat _=>Gp.Eff.st hok hcr hat) (λ_ hp=>(DF hp).2.2) (λq _=>vD hcr rfl rfl rfl rfl rfl rfl (.inr rfl) (.inr (.inl rfl))) (λa q _ _ e=>by rcases e with e |e |e <;> first |exact absurd e (Nat.lt_irrefl _) |exact absurd rfl e) (λ_ _=>id) λv3 q3 hp3=>?_
  .exact(stepG_store_atomic rfl (ag rfl _) (by exact λh=>nomatch h) rfl H.f_storeU64 (by kernel_rfl) (by kernel_rfl) (by kernel_rfl) (by kernel_rfl) (ad:=p.stA) (k:=.u64) (v:=0) (ha.ev rfl) (ha.ev rfl) (hat.c0 hcr) (hat.f0 hcr)).trans rfl
  replace hT:Mv P p.Kf false (WV v0 P p T false Tf):=bq rfl;refine qb ?_;refine Qt.fin hT (dF hT rfl H.f_uStore rfl (hk4 _ _ _ ?_));refine qb ?_;refine Qt.loop hT ?_;refine qb ?_;refine Qt.op hT rfl (bF (k:=1) rfl (c9 (n:=0) H.underlying_tWg rfl H.sizeOf_tU32) rfl) ?_;refine Jy (d:=116) hok rfl (u:=λq=>.tuple #[]) (W:=λw q=>w.setCell p.smA (.int .u32 ((q.sm+1:Nat):Int))) (Q:=λq=>{ q with sm:=q.sm+1 }) (S:=λ_=>.quit) (es:=λ_=>semEvents p.smA) (λa ha w q hat hp=>?_) (λw q hat _=>Gp.Eff.sm hok hcr hat) (λ_ _=>KT) (λq _=>vD hcr rfl rfl rfl rfl rfl rfl (.inl rfl) (.inr (.inr (.inr rfl)))) (λa _ _ _ _=>NT rfl rfl H.f_semrelease (by kernel_rfl) a) (λ_ _=>id) λv4 q4 hp4=>⟨λe=>(by cases e),λ_=>⟨rfl,?_⟩⟩
  .have p3:q.sm≤1:=by obtain⟨a,z,_,_,_,_,_,_,_,_,_,_,h⟩:=hp.get;exact h
   have hw:IntKind.u32.wrap ((q.sm:Int)+1)=((q.sm+1:Nat):Int):=by rw [IntKind.wrap_u32];omega
   refine(stepG_semrelease rfl (ag rfl _) (by exact λh=>nomatch h) rfl H.f_semrelease (by kernel_rfl) (by kernel_rfl) (by kernel_rfl) (by kernel_rfl) (ad:=p.smA) (by rw [Array.getElem?_map];exact congrArg some (ha.ev (x:=.tmp 115) rfl)) (hat.c1 hcr) (hat.f1 hcr)).trans ?_;rw [hw];rfl
  replace hT:Mv P (λ_=>True) false (TQ P 1):=xy;refine qb ?_;refine Qt.op hT rfl (aY (u:=.int .u32 0) rfl rfl rfl rfl) ?_;refine qb ?_;refine Qt.inLoop hT ?_;refine qb ?_;refine Qt.exit hT rfl ?_;exact Qt.fin hT (fin1 _ _)
end
end K
end Go.Proofs.YtflilincnacbpaaGreat
set_option linter.unusedVariables false
set_option maxRecDepth 20000
set_option maxHeartbeats 4000000
namespace Go.Proofs.YtflilincnacbpaaGreat
namespace K
open Go Go.Conc Go.Conc.Lib
@[reducible] def Ph.stt(s:Ph)(df pd:Nat)(rg:Bool)(cb:Option Nat)(al jn:Bool):Ph:={ s with df:=df,pd:=pd,rg:=rg,cb:=cb,al:=al,jn:=jn }
structure Ph.Stt(s:Ph):Prop where
 q:s.q=false
 nr:s.nr=true
 mx:s.mx=0
 dt:s.dt=0
 se:s.se=none
 nb:s.nb=0
section
variable {P:Program}{L:WgLink}{p:Gp}{T:Tq}{v0 v:VW}{s:Ph}
theorem rV{q q':dV}{df pd df' pd':Nat}{rg al jn rg' al' jn':Bool}{cb cb':Option Nat}(hs:s.Stt)
 (hsame:q'.L=q.L/\q'.W=q.W/\q'.S=q.S/\q'.N=q.N/\q'.T=q.T/\q'.f=q.f/\q'.h=q.h/\q'.cl=q.cl)
 (hA:∀a,Ar q a (s.stt df pd rg cb al jn)->q'.c=a.ac+pd'/\(rg'=false->q'.wt=0/\q'.sm=0/\a.w1=0/\a.w2=0)/\(rg'=true->pd'=0/\(0 < q'.c->q'.wt=1/\q'.sm=0/\a.w1=0/\a.w2=0)/\(q'.c=0->q'.wt=a.w1/\a.w1+a.w2+q'.sm=1))/\pd'≤1/\(rg'=true->q.cl=true)/\(∀B,cb'=some B->q'.c≤B)/\(al'=true->al=true\/(a.ac=0/\a.w1=0/\a.w2=0))):
 Sv p true (s.stt df pd rg cb al jn) q (s.stt df' pd' rg' cb' al' jn') q':=by
 obtain⟨e1,e2,e3,e4,e5,e6,e7,e8⟩:=hsame
 have hw:q'.word=q.word:=by simp_all [dV.word]
 refine Sv.mk (λa b z ha hp hb hz _ _ _ _=>?_) hs.q (.inr ⟨e6,hw⟩) (λow φ e=>by simp_all) (λx h1 h2 _=>by omega) (λ_ _ _ _ _=>by rw [show(s.stt df' pd' rg' cb' al' jn').nb=0 from hs.nb];omega) (λi hi ho=>⟨ho.one,λe=>⟨hs.mx,hi.1 rfl⟩,ho.lv,λe=>?_,ho.dt,ho.main,ho.work⟩) (λ_ e=>?_)
 .
  rw [if_pos rfl];have hz:=hz rfl;subst hz;obtain⟨k1,k2,k3,k4,k5,k6,k7⟩:=hA a ha;have r1:b.ac=a.ac:=Nat.add_right_cancel hb.ac;have r2:b.w1=a.w1:=Nat.add_right_cancel hb.w1;have r3:b.w2=a.w2:=Nat.add_right_cancel hb.w2;have r4:b.nw=a.nw:=Nat.add_right_cancel hb.nw;have r5:b.hd=a.hd:=Nat.add_right_cancel hb.hd;have r6:b.dt=a.dt:=Nat.add_right_cancel hb.dt;have r7:b.aw=a.aw:=Nat.add_right_cancel hb.aw;have r8:b.rn=a.rn:=Nat.add_right_cancel hb.rn;have r9:b.qu=a.qu:=Nat.add_right_cancel hb.qu;have r10:b.tk=a.tk:=Nat.add_right_cancel hb.tk;have r11:b.rh=a.rh:=Nat.add_right_cancel hb.rh;have r12:b.ty=a.ty:=Nat.add_right_cancel hb.ty;have r13:b.phi=a.phi:=Nat.add_right_cancel hb.phi;have r14:b.lv=a.lv:=Nat.add_right_cancel hb.lv;refine⟨by simp_all,by simp_all,by simp_all,k4,λe=>?_,by rw [e8];exact ha.op,by rw [e8,r4];exact ha.nw,by rw [e1,e2,e3];exact ha.le,by rw [e1,r5];exact ha.hd,by rw [e1,e2,e3,e4,e5,r7,r8,r9,r10,r11,r12];exact ha.s0,by rw [e1,e2,e3,e4,e5,r7,r8,r9,r10,r11];exact ha.s1,by rw [e7,r6];exact ha.h,by rw [e5,e6,r13];exact ha.f,by rw [r14];exact ha.lv,k6⟩;rw [e8];exact e.elim k5 λe=>ha.rgc (.inr e)
 .
  have e:s.q=true:=e;rw [hs.q] at e;cases e
 .
  by_cases h:al=true
  .exact .inl h
  simp_all
theorem kA{df pd df' pd':Nat}{rg al jn rg' al' jn':Bool}{cb cb':Option Nat}{es:Array Event}(hs:s.Stt)
 (sh:∀e∈es,(∃l wr,e=⟨l,wr,true⟩/\p.wc l)\/e=iR .disable\/e=iR .enable\/(∃a,e=iR (.acquire a))\/(∃a,e=iR (.releaseMerge a))\/(true=true/\∃a,(e=iR (.read a)\/e=iR (.write a))/\p.wc (.cell a)))
 (hdf:deafBehind df es=df') (hjn:jn'=true->al'=true/\(jn=true\/(es= #[iR (.acquire p.stA)]/\df=0/\al=true))):mL p true (s.stt df pd rg cb al jn) (s.stt df' pd' rg' cb' al' jn') es where
 sh:=sh
 df:=by rw [if_neg (by rw [show(s.stt df' pd' rg' cb' al' jn').q=s.q from rfl,hs.q];simp)];exact hdf
 deaf e:=by cases e
 acq e:=absurd rfl e
 rel e:=absurd rfl e
 dt:=by show s.dt≤1;rw [hs.dt];omega
 nr _ e:=by simp_all
 nr' h:=h
 jn:=hjn
 bw e:=by cases e
theorem kO{q:dV}{df pd df':Nat}{rg al jn:Bool}{cb:Option Nat}{a:Su}(ha:Ar q a (s.stt df pd rg cb al jn)):q.c=a.ac+pd/\(rg=false->q.wt=0/\q.sm=0/\a.w1=0/\a.w2=0)/\(rg=true->pd=0/\(0 < q.c->q.wt=1/\q.sm=0/\a.w1=0/\a.w2=0)/\(q.c=0->q.wt=a.w1/\a.w1+a.w2+q.sm=1))/\pd≤1/\(rg=true->q.cl=true)/\(∀B,cb=some B->q.c≤B)/\(al=true->al=true\/(a.ac=0/\a.w1=0/\a.w2=0)):=
 ⟨ha.c,ha.un,ha.re,ha.pd,λe=>ha.rgc (.inl e),ha.cb,.inl⟩
variable {df pd:Nat}{rg al jn:Bool}{cb:Option Nat}
theorem EF(hok:p.Ok)(hs:s.Stt)(hjn:jn=true->al=true):Wd P p.Kf true #[iR .disable] (WV v0 P p T true (s.stt df pd rg cb al jn)) (WV v0 P p T true (s.stt (df+1) pd rg cb al jn)):=
 tV hok hs.q hs.q rfl (λq _=>rV hs ⟨rfl,rfl,rfl,rfl,rfl,rfl,rfl,rfl⟩ λa ha=>kO (df':=0) ha) (kA hs (λe h=>by simp_all) rfl λe=>⟨hjn e,.inl e⟩)
theorem yO(hok:p.Ok)(hs:s.Stt)(hjn:jn=true->al=true):Wd P p.Kf true #[iR .enable] (WV v0 P p T true (s.stt (df+1) pd rg cb al jn)) (WV v0 P p T true (s.stt df pd rg cb al jn)):=
 tV hok hs.q hs.q rfl (λq _=>rV hs ⟨rfl,rfl,rfl,rfl,rfl,rfl,rfl,rfl⟩ λa ha=>kO (df':=0) ha) (kA hs (λe h=>by simp_all) rfl λe=>⟨hjn e,.inl e⟩)
theorem Qj(hok:p.Ok)(hcr:p.cr=true)(hs:s.Stt)(hjn:jn=true->al=true):Wd P p.Kf true #[iR (.read p.smA)] (WV v0 P p T true (s.stt df pd rg cb al jn)) (WV v0 P p T true (s.stt df pd rg cb al jn)):=
 tV hok hs.q hs.q rfl (λq _=>Sv.refl) (kA hs (λe h=>by grind [wC]) rfl λe=>⟨hjn e,.inl e⟩)
theorem Qi(hok:p.Ok)(hcr:p.cr=true)(hs:s.Stt)(hjn:jn=true->al=true):Wd P p.Kf true #[iR (.write p.smA)] (WV v0 P p T true (s.stt df pd rg cb al jn)) (WV v0 P p T true (s.stt df pd rg cb al jn)):=
 tV hok hs.q hs.q rfl (λq _=>Sv.refl) (kA hs (λe h=>by grind [wC]) rfl λe=>⟨hjn e,.inl e⟩)
theorem EG(hok:p.Ok)(hs:s.Stt):Wd P p.Kf true #[iR (.acquire p.stA)] (WV v0 P p T true (s.stt 0 pd rg cb true jn)) (WV v0 P p T true (s.stt 0 pd rg cb true true)):=
 tV hok hs.q hs.q rfl (λq _=>rV hs ⟨rfl,rfl,rfl,rfl,rfl,rfl,rfl,rfl⟩ λa ha=>kO (df':=0) ha) (kA hs (λe h=>by grind) rfl λe=>⟨rfl,.inr ⟨rfl,rfl,rfl⟩⟩)
end
section
variable {P:Program}{L:WgLink}{p:Gp}{T:Tq}{v0 v:VW}{s:Ph}{c:Frame}{cs:List Frame}{cb:Option Nat}{al jn:Bool}
theorem Nc(H:WgLib P L)(hok:p.Ok)(hcr:p.cr=true)(hs:s.Stt)(hjn:jn=true->al=true)(hk:∀v',WV v0 P p T true (s.stt 0 1 false none al jn) v' (c.finish (.tuple #[])) cs):
 Qt (WV v0 P p T true (s.stt 0 0 false none al jn)) v (base L.add) (c::cs) 117 [] [.code ((addFn L).body.getD .skip)] (ent 0 [.pointer (some p.stA),.int .i64 1]):=by
 have hT:Mv P p.Kf true (WV v0 P p T true (s.stt 0 0 false none al jn)):=bq hs.q
 refine qb ?_
 refine iy (EF hok hs hjn) (II H) rfl rfl ?_
 replace hT:Mv P p.Kf true (WV v0 P p T true (s.stt 1 0 false none al jn)):=bq hs.q
 refine qb ?_
 refine Qt.defer (cZ:=[]) hT rfl rfl rfl ?_
 refine qb ?_
 refine vy hT (N6 H) rfl rfl ?_
 refine qb ?_
 refine Qt.op hT rfl (bF (k:=0) rfl (c9 (n:=0) H.underlying_tWg rfl H.sizeOf_tAU) rfl) ?_
 refine qb ?_
 refine Qt.op hT rfl (fS (z:=1) rfl H.underlying_t3 H.underlying_tU64 rfl (by decide)) ?_
 refine Qt.op hT rfl (Hf (z:=4294967296) rfl rfl rfl (by decide) (by decide)) ?_
 refine Qt.call (cZ:=[.pointer (some p.stA),.int .u64 4294967296]) hT rfl rfl H.f_uAdd (by kernel_rfl) rfl rfl λc2 hk2=>?_
 refine qb ?_
 refine Qt.op hT rfl (bF (k:=0) rfl (c9 (n:=0) H.underlying_tAU rfl H.sizeOf_tU64) rfl) ?_
 refine qb ?_
 refine pW (d:=9) hok hs.q (u:=λq=>.int .u64 (((q.c+1) * 4294967296+0:Nat):Int)) (W:=λw q=>w.setCell p.stA (.int .u64 (((q.c+1) * 4294967296+0:Nat):Int))) (Q:=λq=>{ q with c:=q.c+1,wt:=0 }) (S:=λ_=>s.stt 1 1 false none al jn) (es:=λ_=> #[CS p.stA,MB p.stA]) (λ_=>hs.q)
  (λa ha w q hat hp=>?_) (λw q hat _=>Gp.Eff.st hok hcr hat) (λq hp=>?_) (λq _=>kA hs (λe h=>?_) rfl λe=>⟨hjn e,.inl e⟩) (λa q _ _ e=>by simp_all) (λ_ _=>id) λv' q hp=>?_
 .
  obtain⟨a',z,hA,_,hz,_,_,_,_,_,hc,_⟩:=hp.get;have hz:=hz rfl;subst hz;have hwt:=(hA.un rfl).1;have hw:IntKind.u64.wrap (((q.c * 4294967296+q.wt:Nat):Int)+4294967296)=(((q.c+1) * 4294967296+0:Nat):Int):=by rw [IntKind.wrap_u64];omega
  refine(stepG_add_atomic rfl (ag rfl _) (by exact λh=>nomatch h) rfl H.f_addU64 (by kernel_rfl) (by kernel_rfl) (by kernel_rfl) .u64 (by kernel_rfl) (ad:=p.stA) (ha.ev rfl) (ha.ev rfl) (hat.c0 hcr) (hat.f0 hcr)).trans ?_;rw [hw];rfl
 .
  refine rV hs ⟨rfl,rfl,rfl,rfl,rfl,rfl,rfl,rfl⟩ λa ha=>?_;obtain⟨k1,k2,k3,k4,k5,k6,k7⟩:=kO (df':=0) ha;simp_all
 .
  simp at h;rcases h with rfl |rfl <;> exact .inl ⟨_,_,rfl,wB hcr⟩
 have hlt:q.c+1 < 2147483648:=by obtain⟨_,_,_,_,_,_,_,_,_,_,hc,_⟩:=hp.get;omega
 have hpos:0 < q.c+1:=by omega
 replace hT:Mv P p.Kf true (WV v0 P p T true (s.stt 1 1 false none al jn)):=bq hs.q
 clear hp
 generalize q.c+1=cc at hlt hpos
 refine qb ?_
 refine Qt.ret hT (ic hT rfl H.f_uAdd rfl rfl (hk2 _ _ _ ?_))
 refine qb ?_
 refine Qt.op hT rfl (aY (u:=.int .u64 0) rfl rfl rfl (congrArg (λz=>some (Value.int .u64 z)) (wJ hlt (by decide)))) ?_
 refine qb ?_
 refine Qt.op hT rfl (kY (z:=cc) rfl rfl rfl (by decide) (wI hlt (by decide))) ?_
 refine Qt.op hT rfl (fS (z:=cc) rfl H.underlying_tU64 H.underlying_t21 rfl (zr hlt)) ?_
 refine qa ?_
 refine Qt.op hT rfl (aY (u:=.int .u64 0) rfl rfl rfl (congrArg (λz=>some (Value.int .u64 z)) (wH hlt (by decide)))) ?_
 refine Qt.op hT rfl (fS (z:=0) rfl H.underlying_tU64 H.underlying_tU32 rfl rfl) ?_
 refine qb ?_
 refine cy hT rfl (fS (z:=1) rfl H.underlying_t3 H.underlying_t21 rfl (by decide)) ?_
 have hgt:iQ .gtr .i32 (cc:Int) 0=some (.bool true):=by simp [iQ];omega
 rcases Decidable.em (cc=1) with h1 |h1
 .
  refine cy hT rfl (aY (u:=.bool true) rfl rfl rfl (by simp [iQ];omega)) ?_;refine qb ?_;refine Qt.op hT rfl (bF (k:=1) rfl (c9 (n:=0) H.underlying_tWg rfl H.sizeOf_tU32) rfl) ?_;refine Qt.op hT rfl (jK rfl (mN hcr (off:=1) (n:=0) H.underlying_tPU32 H.underlying_tUP H.sizeOf_tU32 (by decide)) rfl) ?_;refine oZ (Qj hok hcr hs hjn) (T8 H) rfl rfl rfl ?_;refine qb ?_;refine Qt.op hT rfl (aY (u:=.bool true) rfl rfl rfl hgt) ?_;refine qb ?_;exact Qt.ret hT (Qr.mark (yO hok hs hjn) (IH H) (dF (bq hs.q) rfl H.f_add rfl (hk _)))
 .
  refine cy hT rfl (aY (u:=.bool false) rfl rfl rfl (by simp [iQ];omega)) ?_;refine qb ?_;refine Qt.op hT rfl (aY (u:=.bool true) rfl rfl rfl hgt) ?_;refine qb ?_;exact Qt.ret hT (Qr.mark (yO hok hs hjn) (IH H) (dF (bq hs.q) rfl H.f_add rfl (hk _)))
end
end K
end Go.Proofs.YtflilincnacbpaaGreat
set_option linter.unusedVariables false
set_option maxRecDepth 20000
set_option maxHeartbeats 4000000
namespace Go.Proofs.YtflilincnacbpaaGreat
namespace K
open Go Go.Conc Go.Conc.Lib
def zq(L:WgLink):Code:=match (waitFn L).body with
 |some (.seq _ (.block _ (.loop b)))=>b
 |_=>.skip
section
variable {P:Program}{L:WgLink}{p:Gp}{T:Tq}{v0 v:VW}{s:Ph}{c:Frame}{cs:List Frame}{cb:Option Nat}{N d i:Nat}{df:List Deferred}{Γ:Gv}{ops:Array Oper}{rest:List Nat}{k:List Item}{b:Frame}
theorem xQ(hcr:p.cr=true):∀e∈ #[CS p.stA],(∃l wr,e=⟨l,wr,true⟩/\p.wc l)\/e=iR .disable\/e=iR .enable\/(∃a,e=iR (.acquire a))\/(∃a,e=iR (.releaseMerge a))\/(true=true/\∃a,(e=iR (.read a)\/e=iR (.write a))/\p.wc (.cell a)):=λe h=>by
 simp at h;subst h;exact .inl ⟨_,_,rfl,wB hcr⟩
theorem Nl(H:WgLib P L)(hok:p.Ok)(hcr:p.cr=true)(hs:s.Stt){al:Bool}(hk:∀v' cc,(∀B,cb=some B->cc≤B)->cc < 2147483648->WV v0 P p T true (if cc=0 then s.stt 1 0 false (some 0) true false else s.stt 1 0 false (some cc) al false) v' (c.finish (.int .u64 ((cc * 4294967296+0:Nat):Int))) cs):
 Qt (WV v0 P p T true (s.stt 1 0 false cb al false)) v (base L.uLoad) (c::cs) 7 [] [.code ((uLoadFn L).body.getD .skip)] (ent 0 [.pointer (some p.stA)]):=by
 have hT:Mv P p.Kf true (WV v0 P p T true (s.stt 1 0 false cb al false)):=bq hs.q
 refine qb ?_
 refine Qt.op hT rfl (bF (k:=0) rfl (c9 (n:=0) H.underlying_tAU rfl H.sizeOf_tU64) rfl) ?_
 refine pW (d:=6) hok hs.q (u:=λq=>.int .u64 ((q.c * 4294967296+0:Nat):Int)) (W:=λw q=>w) (Q:=λq=>q) (S:=λq=>if q.c=0 then s.stt 1 0 false (some 0) true false else s.stt 1 0 false (some q.c) al false) (es:=λ_=> #[CS p.stA]) (λq=>by split <;> exact hs.q)
  (λa ha w q hat hp=>?_) (λw q hat _=>.refl hat) (λq hp=>?_) (λq _=>?_) (λa q _ _ e=>by simp_all) (λ_ _=>id) λv' q hp=>?_
 .
  obtain⟨a',z,hA,_,hz,_⟩:=hp.get;have hz:=hz rfl;subst hz;have hwt:=(hA.un rfl).1;have hc0:=hat.c0 hcr;rw [hwt] at hc0;exact(stepG_load_atomic rfl (ag rfl _) (by exact λh=>nomatch h) rfl H.f_loadU64 (by kernel_rfl) (by kernel_rfl) (by kernel_rfl) .u64 (by kernel_rfl) (ad:=p.stA) (ha.ev rfl) hc0).trans rfl
 .
  by_cases e:q.c=0
  .simp only [if_pos e];refine rV hs ⟨rfl,rfl,rfl,rfl,rfl,rfl,rfl,rfl⟩ λa ha=>?_;obtain⟨k1,k2,k3,k4,k5,k6,k7⟩:=kO (df':=0) ha;simp_all
  .simp only [if_neg e];refine rV hs ⟨rfl,rfl,rfl,rfl,rfl,rfl,rfl,rfl⟩ λa ha=>?_;obtain⟨k1,k2,k3,k4,k5,k6,k7⟩:=kO (df':=0) ha;simp_all
 .
  by_cases e:q.c=0
  .simp only [if_pos e];exact kA hs (xQ hcr) rfl λe=>(by cases e)
  .simp only [if_neg e];exact kA hs (xQ hcr) rfl λe=>(by cases e)
 have hb:(∀B,cb=some B->q.c≤B)/\q.c≤102:=by
  obtain⟨a',z,hA,_,hz,_,_,_,_,_,hc,_⟩:=hp.get;have hz:=hz rfl;subst hz;exact⟨hA.cb,hc⟩
 generalize q.c=cc at hb
 have hT:Mv P p.Kf true (WV v0 P p T true (if cc=0 then s.stt 1 0 false (some 0) true false else s.stt 1 0 false (some cc) al false)):=bq (by split <;> exact hs.q)
 refine qb ?_
 exact Qt.ret hT (ic hT rfl H.f_uLoad rfl rfl (hk _ _ hb.1 (by omega)))
theorem Jz(H:WgLib P L)(hok:p.Ok)(hcr:p.cr=true)(hs:s.Stt){al:Bool}(hk:∀v',WV v0 P p T true (s.stt 1 0 false (some 0) al false) v' (c.finish (.int .u64 0)) cs):
 Qt (WV v0 P p T true (s.stt 1 0 false (some 0) al false)) v (base L.uLoad) (c::cs) 7 [] [.code ((uLoadFn L).body.getD .skip)] (ent 0 [.pointer (some p.stA)]):=by
 have hT:Mv P p.Kf true (WV v0 P p T true (s.stt 1 0 false (some 0) al false)):=bq hs.q
 refine qb ?_
 refine Qt.op hT rfl (bF (k:=0) rfl (c9 (n:=0) H.underlying_tAU rfl H.sizeOf_tU64) rfl) ?_
 refine pW (d:=6) hok hs.q (u:=λq=>.int .u64 0) (W:=λw q=>w) (Q:=λq=>q) (S:=λq=>s.stt 1 0 false (some 0) al false) (es:=λ_=> #[CS p.stA]) (λq=>hs.q)
  (λa ha w q hat hp=>?_) (λw q hat _=>.refl hat) (λq hp=>Sv.refl) (λq _=>kA hs (xQ hcr) rfl λe=>(by cases e)) (λa q _ _ e=>by simp_all) (λ_ _=>id) λv' q hp=>?_
 .
  obtain⟨a',z,hA,_,hz,_⟩:=hp.get;have hz:=hz rfl;subst hz;have hwt:=(hA.un rfl).1;have hc:q.c=0:=le_zero.1 (hA.cb 0 rfl);have hc0:=hat.c0 hcr;rw [hwt,hc] at hc0;exact(stepG_load_atomic rfl (ag rfl _) (by exact λh=>nomatch h) rfl H.f_loadU64 (by kernel_rfl) (by kernel_rfl) (by kernel_rfl) .u64 (by kernel_rfl) (ad:=p.stA) (ha.ev rfl) hc0).trans rfl
 refine qb ?_
 exact Qt.ret hT (ic hT rfl H.f_uLoad rfl rfl (hk _))
theorem Qk(H:WgLib P L)(hok:p.Ok)(hcr:p.cr=true)(hs:s.Stt)(hcd:s.cd=true){cc:Nat}{al:Bool}(hcc:0 < cc)(hk1:∀v',WV v0 P p T true (s.stt 1 0 true (some cc) al false) v' (c.finish (.bool true)) cs)(hk2:∀v',WV v0 P p T true (s.stt 1 0 false (some (cc - 1)) al false) v' (c.finish (.bool false)) cs):
 Qt (WV v0 P p T true (s.stt 1 0 false (some cc) al false)) v (base L.uCas) (c::cs) 13 [] [.code ((uCasFn L).body.getD .skip)] (ent 0 [.pointer (some p.stA),.int .u64 ((cc * 4294967296+0:Nat):Int),.int .u64 ((cc * 4294967296+1:Nat):Int)]):=by
 have hT:Mv P p.Kf true (WV v0 P p T true (s.stt 1 0 false (some cc) al false)):=bq hs.q
 refine qb ?_
 refine Qt.op hT rfl (bF (k:=0) rfl (c9 (n:=0) H.underlying_tAU rfl H.sizeOf_tU64) rfl) ?_
 refine qb ?_
 refine pW (d:=12) hok hs.q (u:=λq=>.bool (decide (q.c=cc))) (W:=λw q=>if q.c=cc then w.setCell p.stA (.int .u64 ((cc * 4294967296+1:Nat):Int)) else w) (Q:=λq=>if q.c=cc then { q with c:=cc,wt:=1 } else q) (S:=λq=>if q.c=cc then s.stt 1 0 true (some cc) al false else s.stt 1 0 false (some (cc - 1)) al false) (es:=λq=>if q.c=cc then #[CS p.stA,MB p.stA] else #[CS p.stA]) (λq=>by split <;> exact hs.q)
  (λa ha w q hat hp=>?_) (λw q hat _=>?_) (λq hp=>?_) (λq _=>?_) (λa q _ _ e=>?_) (λq _ e=>?_) λv' q hp=>?_
 .
  obtain⟨a',z,hA,_,hz,_⟩:=hp.get;have hz:=hz rfl;subst hz;have hwt:=(hA.un rfl).1;have hc0:=hat.c0 hcr;rw [hwt] at hc0;by_cases e:q.c=cc
  .simp only [if_pos e,e,decide_true];rw [e] at hc0;exact(stepG_cas_hit rfl (ag rfl _) (by exact λh=>nomatch h) rfl H.f_casU64 (by kernel_rfl) (by kernel_rfl) (by kernel_rfl) .u64 (by kernel_rfl) (ad:=p.stA) (ha.ev rfl) (ha.ev rfl) (ha.ev rfl) hc0 (hat.f0 hcr)).trans rfl
  .simp only [if_neg e,decide_eq_false e];exact(stepG_cas_miss rfl (ag rfl _) (by exact λh=>nomatch h) rfl H.f_casU64 (by kernel_rfl) (by kernel_rfl) (by kernel_rfl) .u64 (by kernel_rfl) (ad:=p.stA) (ha.ev rfl) (ha.ev rfl) (ha.ev rfl) hc0 (hat.f0 hcr) (by omega)).trans rfl
 .
  split
  .exact Gp.Eff.st hok hcr hat
  .exact .refl hat
 .
  by_cases e:q.c=cc
  .simp only [if_pos e];refine rV hs ⟨rfl,rfl,rfl,rfl,rfl,rfl,rfl,rfl⟩ λa ha=>?_;have hcl:=ha.rgc (.inr hcd);obtain⟨k1,k2,k3,k4,k5,k6,k7⟩:=kO (df':=0) ha;grind
  .simp only [if_neg e];refine rV hs ⟨rfl,rfl,rfl,rfl,rfl,rfl,rfl,rfl⟩ λa ha=>?_;obtain⟨k1,k2,k3,k4,k5,k6,k7⟩:=kO (df':=0) ha;grind
 .
  by_cases e:q.c=cc
  .simp only [if_pos e];exact kA hs (λe h=>by simp at h;rcases h with rfl |rfl <;> exact .inl ⟨_,_,rfl,wB hcr⟩) rfl λe=>(by cases e)
  .simp only [if_neg e];exact kA hs (xQ hcr) rfl λe=>(by cases e)
 .
  grind
 .
  grind
 by_cases e:q.c=cc
 .
  simp only [if_pos e,decide_eq_true e];replace hT:Mv P p.Kf true (WV v0 P p T true (s.stt 1 0 true (some cc) al false)):=bq hs.q;refine qb ?_;exact Qt.ret hT (ic hT rfl H.f_uCas rfl rfl (hk1 _))
 .
  simp only [if_neg e,decide_eq_false e];replace hT:Mv P p.Kf true (WV v0 P p T true (s.stt 1 0 false (some (cc - 1)) al false)):=bq hs.q;refine qb ?_;exact Qt.ret hT (ic hT rfl H.f_uCas rfl rfl (hk2 _))
theorem Nn(hok:p.Ok)(hcr:p.cr=true)(hs:s.Stt){al:Bool}(h0:∀a,QS N df Γ a->∀w q,p.At w q->q.sm=0->stepG P true (G (b.at a (.inRegion ops (i::rest)::k)) cs) w= .go { G (b.at a (.inRegion ops (i::rest)::k)) cs with status:=.blocked } w #[])
 (h1:∀a,QS N df Γ a->∀w q,p.At w q->q.sm=1->stepG P true (G (b.at a (.inRegion ops (i::rest)::k)) cs) w= .go (G (b.at (a.put (some d) (.tuple #[])) (.inRegion ops rest::k)) cs) (w.setCell p.smA (.int .u32 ((0:Nat):Int))) (semEvents p.smA))
 (h2:∀v',Qt (WV v0 P p T true (s.stt 1 0 false (some 0) true false)) v' b cs N df (.inRegion ops rest::k) ((d,.tuple #[])::Γ)) (hN:blt d N=true:=by exact rfl):Qt (WV v0 P p T true (s.stt 1 0 true cb al false)) v b cs N df (.inRegion ops (i::rest)::k) Γ:=λa ha hv _=>by
 refine .of ⟨hs.q,.inr (.inr (.inl ⟨.inr rfl,λv1 q hr hat hp=>⟨λhb'=>?_,λhb'=>?_⟩⟩))⟩
 .
  have hT:q.sm=0:=hb'.elim (λe=>by
   have e1:s.qu=1:=e.1
   have:=hs.mx
   simp_all) And.right
  exact h0 a ha _ q hat hT
 .
  obtain⟨a',z,hA,_,hz,_,_,_,_,_,_,_,hsm⟩:=hp.get
  have hz:=hz rfl
  subst hz
  have hne:q.sm≠0:=λe=>hb' (.inr ⟨rfl,e⟩)
  have hre:=hA.re rfl
  have hc:q.c=0:=by
   omega
  have heff:p.Eff v1.toWorld (v1.toWorld.setCell p.smA (.int .u32 ((0:Nat):Int))) { q with sm:=0 }:=Gp.Eff.sm hok hcr hat;refine⟨s.stt 1 0 false (some 0) true false,{ q with sm:=0 },_,_,_,semEvents p.smA,h1 a ha _ q hat (by omega),heff,?_,kA hs (λe h=>?_) rfl λe=>(by cases e),λe=>?_,id,λ_=>⟨q,undef,true,h2 _ _ (ha.put hN) ((hv.rely hr).put hok heff) sF⟩,λe=>?_⟩
  .refine rV hs ⟨rfl,rfl,rfl,rfl,rfl,rfl,rfl,rfl⟩ λa ha=>?_;obtain⟨k1,k2,k3,k4,k5,k6,k7⟩:=kO (df':=0) ha;grind
  .simp [semEvents] at h;rcases h with rfl |rfl |rfl |rfl
   .exact .inr (.inl rfl)
   .simp_all [wC]
   .simp_all [wC]
   .exact .inr (.inr (.inl rfl))
  .rcases e with e |e |e
   .simp_all
   .simp_all
   simp_all
  .have e:s.q=true:=e;rw [hs.q] at e;cases e
end
section
variable {P:Program}{L:WgLink}{p:Gp}{T:Tq}{v0:VW}{s:Ph}{c:Frame}{cs:List Frame}
theorem E4(H:WgLib P L)(hok:p.Ok)(hcr:p.cr=true)(hs:s.Stt)(hcd:s.cd=true){al:Bool}(hk:∀v',WV v0 P p T true (s.stt 0 0 false (some 0) true true) v' (c.finish (.tuple #[])) cs):∀(B:Nat) v Γ,lv Γ 0=some (.pointer (some p.stA))->
 Qt (WV v0 P p T true (s.stt 1 0 false (some B) al false)) v (base L.wait) (c::cs) 84 [] [.code (zq L),.inLoop (zq L),.inBlock 0] Γ:=λB=>by
 induction B using Nat.strongRecOn with
 |_ B ih=>
 intro v Γ h0
 have hT:Mv P p.Kf true (WV v0 P p T true (s.stt 1 0 false (some B) al false)):=bq hs.q
 refine qa ?_
 refine Qt.op hT rfl (dO rfl h0) ?_
 refine qb ?_
 refine Qt.op hT rfl (bF (k:=0) rfl (c9 (n:=0) H.underlying_tWg rfl H.sizeOf_tAU) rfl) ?_
 refine Qt.call (cZ:=[.pointer (some p.stA)]) hT rfl rfl H.f_uLoad (by kernel_rfl) rfl rfl λc1 hk1=>?_
 refine Nl H hok hcr hs λv' cc hB hlt=>?_
 have hB:=hB B rfl
 rcases eq_zero_or_pos cc with hz |hpos
 .
  subst hz
  rw [if_pos rfl]
  replace hT:Mv P p.Kf true (WV v0 P p T true (s.stt 1 0 false (some 0) true false)):=bq hs.q
  refine hk1 _ _ _ ?_
  refine qb ?_
  refine Qt.op hT rfl (kY (z:=(0:Nat)) rfl rfl rfl (by decide) (wI (by decide) (by decide))) ?_
  refine Qt.op hT rfl (fS (z:=(0:Nat)) rfl H.underlying_tU64 H.underlying_t21 rfl rfl) ?_
  refine qb ?_
  refine Qt.op hT rfl (aY (u:=.int .u64 0) rfl rfl rfl (congrArg (λz=>some (Value.int .u64 z)) (wH (by decide) (by decide)))) ?_
  refine Qt.op hT rfl (fS (z:=0) rfl H.underlying_tU64 H.underlying_tU32 rfl rfl) ?_
  refine qb ?_
  refine iy (yO hok hs (λe=>by cases e)) (IH H) rfl rfl ?_
  replace hT:Mv P p.Kf true (WV v0 P p T true (s.stt 0 0 false (some 0) true false)):=bq hs.q
  refine qa ?_
  refine Qt.op hT rfl (dO rfl h0) ?_
  refine Qt.op hT rfl (jK rfl (mN hcr (off:=0) (n:=1) H.underlying_tWgP H.underlying_tUP H.sizeOf_tWg (by decide)) rfl) ?_
  refine oZ (EG hok hs) (N7 H) rfl rfl rfl ?_
  replace hT:Mv P p.Kf true (WV v0 P p T true (s.stt 0 0 false (some 0) true true)):=bq hs.q
  refine qb ?_
  refine cy hT rfl (aY (u:=.int .u64 0) rfl rfl rfl (congrArg (λz=>some (Value.int .u64 z)) (wJ (by decide) (by decide)))) ?_
  refine qb ?_
  exact Qt.ret hT (dF hT rfl H.f_wait rfl (hk _))
 .
  rw [if_neg (by omega)]
  replace hT:Mv P p.Kf true (WV v0 P p T true (s.stt 1 0 false (some cc) al false)):=bq hs.q
  refine hk1 _ _ _ ?_
  refine qb ?_
  refine Qt.op hT rfl (kY (z:=cc) rfl rfl rfl (by decide) (wI hlt (by decide))) ?_
  refine Qt.op hT rfl (fS (z:=cc) rfl H.underlying_tU64 H.underlying_t21 rfl (zr hlt)) ?_
  refine qa ?_
  refine Qt.op hT rfl (aY (u:=.int .u64 0) rfl rfl rfl (congrArg (λz=>some (Value.int .u64 z)) (wH hlt (by decide)))) ?_
  refine Qt.op hT rfl (fS (z:=0) rfl H.underlying_tU64 H.underlying_tU32 rfl rfl) ?_
  refine qa ?_
  refine Qt.op hT rfl (aY (u:=.bool false) rfl rfl rfl (by simp [iQ];omega)) ?_
  refine qb ?_
  refine Qt.op hT rfl (dO rfl h0) ?_
  refine qb ?_
  refine Qt.op hT rfl (bF (k:=0) rfl (c9 (n:=0) H.underlying_tWg rfl H.sizeOf_tAU) rfl) ?_
  refine qa ?_
  refine Qt.op hT rfl (aY (u:=.int .u64 ((cc * 4294967296+1:Nat):Int)) rfl rfl rfl (by simp only [iQ,IntKind.wrap_u64];congr 2;omega)) ?_
  refine Qt.call (cZ:=[.pointer (some p.stA),.int .u64 ((cc * 4294967296+0:Nat):Int),.int .u64 ((cc * 4294967296+1:Nat):Int)]) hT rfl rfl H.f_uCas (by kernel_rfl) rfl rfl λc2 hk2=>?_
  refine Qk H hok hcr hs hcd hpos (λv'=>?_) (λv'=>?_)
  .
   replace hT:Mv P p.Kf true (WV v0 P p T true (s.stt 1 0 true (some cc) al false)):=bq hs.q
   refine hk2 _ _ _ ?_
   refine qb ?_
   refine Qt.op hT rfl (dO rfl h0) ?_
   refine qb ?_
   refine Qt.op hT rfl (bF (k:=1) rfl (c9 (n:=0) H.underlying_tWg rfl H.sizeOf_tU32) rfl) ?_
   refine Qt.op hT rfl (jK rfl (mN hcr (off:=1) (n:=0) H.underlying_tPU32 H.underlying_tUP H.sizeOf_tU32 (by decide)) rfl) ?_
   refine oZ (Qi hok hcr hs (λe=>by cases e)) (TZ H) rfl rfl rfl ?_
   refine qb ?_
   refine Qt.op hT rfl (aY (u:=.int .u64 0) rfl rfl rfl (congrArg (λz=>some (Value.int .u64 z)) (wJ hlt (by decide)))) ?_
   refine qb ?_
   refine Qt.op hT rfl (dO rfl h0) ?_
   refine qb ?_
   refine Qt.op hT rfl (bF (k:=1) rfl (c9 (n:=0) H.underlying_tWg rfl H.sizeOf_tU32) rfl) ?_
   refine qa ?_
   refine Nn (d:=72) hok hcr hs (λa ha w q hat hq=>?_) (λa ha w q hat hq=>?_) λv'=>?_
   .
    have h1:=hat.c1 hcr
    rw [hq] at h1
    exact(stepG_semacquire_wait rfl (ag rfl _) rfl H.f_semacquire (by kernel_rfl) (by kernel_rfl) (by kernel_rfl) (by kernel_rfl) (ad:=p.smA) (by rw [Array.getElem?_map];exact congrArg some (ha.ev (x:=.tmp 70) rfl)) h1).trans rfl
   .
    have h1:=hat.c1 hcr
    rw [hq] at h1
    exact(stepG_semacquire rfl (ag rfl _) (by exact λh=>nomatch h) rfl H.f_semacquire (by kernel_rfl) (by kernel_rfl) (by kernel_rfl) (by kernel_rfl) (ad:=p.smA) (by rw [Array.getElem?_map];exact congrArg some (ha.ev (x:=.tmp 70) rfl)) h1 (by decide) (hat.f1 hcr)).trans rfl
   replace hT:Mv P p.Kf true (WV v0 P p T true (s.stt 1 0 false (some 0) true false)):=bq hs.q
   refine qa ?_
   refine Qt.op hT rfl (dO rfl h0) ?_
   refine qb ?_
   refine Qt.op hT rfl (bF (k:=0) rfl (c9 (n:=0) H.underlying_tWg rfl H.sizeOf_tAU) rfl) ?_
   refine Qt.call (cZ:=[.pointer (some p.stA)]) hT rfl rfl H.f_uLoad (by kernel_rfl) rfl rfl λc3 hk3=>?_
   refine Jz H hok hcr hs λv3=>hk3 _ _ _ ?_
   refine qb ?_
   refine iy (yO hok hs (λe=>by cases e)) (IH H) rfl rfl ?_
   replace hT:Mv P p.Kf true (WV v0 P p T true (s.stt 0 0 false (some 0) true false)):=bq hs.q
   refine qa ?_
   refine Qt.op hT rfl (dO rfl h0) ?_
   refine Qt.op hT rfl (jK rfl (mN hcr (off:=0) (n:=1) H.underlying_tWgP H.underlying_tUP H.sizeOf_tWg (by decide)) rfl) ?_
   refine oZ (EG hok hs) (N7 H) rfl rfl rfl ?_
   replace hT:Mv P p.Kf true (WV v0 P p T true (s.stt 0 0 false (some 0) true true)):=bq hs.q
   refine qb ?_
   exact Qt.ret hT (dF hT rfl H.f_wait rfl (hk _))
  .
   refine hk2 _ _ _ ?_
   replace hT:Mv P p.Kf true (WV v0 P p T true (s.stt 1 0 false (some (cc - 1)) al false)):=bq hs.q
   refine qb ?_
   refine Qt.inLoop hT ?_
   exact ih (cc - 1) (by omega) _ _ h0
theorem G7(H:WgLib P L)(hok:p.Ok)(hcr:p.cr=true)(hs:s.Stt)(hcd:s.cd=true){v:VW}{al:Bool}(hk:∀v',WV v0 P p T true (s.stt 0 0 false (some 0) true true) v' (c.finish (.tuple #[])) cs):
 Qt (WV v0 P p T true (s.stt 0 0 false (some 102) al false)) v (base L.wait) (c::cs) 84 [] [.code ((waitFn L).body.getD .skip)] (ent 0 [.pointer (some p.stA)]):=by
 have hT:Mv P p.Kf true (WV v0 P p T true (s.stt 0 0 false (some 102) al false)):=bq hs.q
 refine qb ?_
 refine iy (EF hok hs (λe=>by cases e)) (II H) rfl rfl ?_
 replace hT:Mv P p.Kf true (WV v0 P p T true (s.stt 1 0 false (some 102) al false)):=bq hs.q
 refine qb ?_
 refine Qt.loop hT ?_
 exact E4 H hok hcr hs hcd hk 102 _ _ rfl
end
end K
end Go.Proofs.YtflilincnacbpaaGreat
set_option linter.unusedVariables false
namespace Go.Proofs.YtflilincnacbpaaGreat
namespace K
open Go Go.Conc
theorem iw{b:Nat}{R:Obj->Prop}{Δ:List D}{x:Nat}:av (.inv b R::Δ) x↔x=b\/av Δ x:=by
 constructor
 .rintro⟨e,he,hx⟩;rcases mem_cons.1 he with rfl |he
  .exact .inl (Option.some.inj hx).symm
  .exact .inr ⟨e,he,hx⟩
 .rintro(rfl |⟨e,he,hx⟩)
  .exact⟨_,mem_cons_self,rfl⟩
  .exact⟨e,mem_cons_of_mem _ he,hx⟩
theorem jE{p:Gp}{v:VW}(h:v.A p.bk):v.ub p=v:=by
 have:(λb=>v.A b\/b=p.bk)=v.A:=by
  grind
 show(⟨v.toWorld,λb=>v.A b\/b=p.bk,v.Z⟩:VW)=v;rw [this]
section
variable {P:Program}{p:Gp}{T:Tq}{M M':Md P}{N:Nat}{S0:FS}{w0:VW}{X:Nat->Prop}{rd:Option Nat}{df df':List Deferred}{Γ Γ':Ga}{Δ Δ':List D}{a a':Act}{v v':VW}
structure Hd(p:Gp)(S0:FS)(w0:VW)(X:Nat->Prop)(Δ:List D)(S:FS)(v:VW):Prop where
 st:bD X S0 w0 S (v.ub p)
 ft:∀b,av Δ b->X b\/w0.heap.size≤b
 lt:p.bk < v.heap.size
theorem EL(st:St ⟨P,N,S0,w0,X,rd,df,M⟩ Γ Δ a (v.ub p))(hA:¬v.A p.bk)(hR:∃o,v.heap[p.bk]? =some o/\p.R o)(hZ:¬v.Z p.bk):
 ∃S,Hd p S0 w0 X Δ S v/\St ⟨P,N,S,v,av (.inv p.bk p.R::Δ),rd,df,M'⟩ Γ (.inv p.bk p.R::Δ) a v:=by
 obtain⟨h1,h2,S,h3,h4,h5,h6⟩:=st
 have hlt:p.bk < v.heap.size:=h5.domA _ (.inr rfl)
 have hS:¬S p.bk:=λh=>h5.sees _ h (.inr rfl)
 have hf:¬av Δ p.bk:=λh=>(h5.far _ h).1 (.inr rfl)
 refine⟨S,⟨h3,h4,hlt⟩,h1,h2,S,bD.refl h3.dom,λb hb=>.inl hb,⟨λd hd=>?_,λb hb=>?_,pairwise_cons.2 ⟨λd hd b e e'=>?_,h5.apart⟩,λb hb=>?_,λb hb hA'=>h5.sees b hb (.inl hA'),λb hb=>h5.domA b (.inl hb),h5.domZ⟩,h6⟩
 .
  rcases mem_cons.1 hd with rfl |hd
  .exact hR
  .exact h5.holds d hd
 .
  rcases iw.1 hb with rfl |hb
  .simp_all
  .exact h5.own b hb
 .
  have:b=p.bk:=(Option.some.inj e).symm;subst this;exact hf ⟨d,hd,e'⟩
 .
  rcases iw.1 hb with rfl |hb
  .simp_all
  .exact⟨λh=>(h5.far b hb).1 (.inl h),(h5.far b hb).2⟩
theorem A2{S:FS}(hd:Hd p S0 w0 X Δ S v)(hw:w0.A p.bk)(hsh:∀b,p.sh b->w0.A b)(hne:∀b,p.sh b->b≠p.bk)(st:St ⟨P,N,S,v,av (.inv p.bk p.R::Δ),rd,df,M'⟩ Γ' (.inv p.bk p.R::Δ') a' v'):
 St ⟨P,N,S0,w0,X,rd,df,M⟩ Γ' Δ' a' (v'.ub p)/\¬v'.A p.bk/\(∃o,v'.heap[p.bk]? =some o/\p.R o)/\VR p v' v':=by
 obtain⟨h1,h2,S',h3,h4,h5,h6⟩:=st
 have k3:=hd.st
 have hbk':av (.inv p.bk p.R::Δ') p.bk:=iw.2 (.inl rfl)
 have hS':¬S' p.bk:=(h5.own _ hbk').1
 have hlt':p.bk < v'.heap.size:=(h5.own _ hbk').2
 have hnf:∀b,av Δ' b->b≠p.bk:=λb ⟨d,hd',e'⟩ e=>(pairwise_cons.1 h5.apart).1 d hd' p.bk rfl (e▸e')
 have hsz:w0.heap.size≤v'.heap.size:=Nat.le_trans k3.size h3.size
 have hA':¬v'.A p.bk:=(h5.far _ hbk').1
 refine⟨⟨h1,h2,S',⟨λb hb=>h3.sub b (k3.sub b hb),λb hb=>?_,h3.dom,hsz,λb hb ha hx=>?_,h3.os.trans k3.os,h3.tape.trans k3.tape,h3.output.trans k3.output,λb hb=>?_,λb hb=>?_,h3.Z.trans k3.Z⟩,λb hb=>?_,⟨λd hd=>h5.holds d (mem_cons_of_mem _ hd),λb hb=>h5.own b (iw.2 (.inr hb)),(pairwise_cons.1 h5.apart).2,λb hb=>⟨λh=>?_,(h5.far b (iw.2 (.inr hb))).2⟩,λb hb h=>?_,λb hb=>?_,h5.domZ⟩,h6⟩,hA',h5.holds _ mem_cons_self,VR.refl (λb hb=>?_) hlt'⟩
 .
  rcases h3.new b hb with h |h |h
  .exact k3.new b h
  .exact .inr (.inl (Nat.le_trans k3.size h))
  .rcases iw.1 h with rfl |h
   .simp_all
   .exact(hd.ft b h).elim (λh=>.inr (.inr h)) λh=>.inr (.inl h)
 .
  have e1:=k3.keep b hb ha hx
  have e2:=h3.keep b (Nat.lt_of_lt_of_le hb k3.size) (λh=>(k3.oldA b (.inl h)).elim ha λh=>absurd hb (Nat.not_lt.2 h)) λh=>by
   rcases iw.1 h with rfl |h
   .exact ha hw
   .exact(hd.ft b h).elim hx λh=>absurd hb (Nat.not_lt.2 h)
  simp_all
 .
  rcases k3.subA b hb with h |h
  .exact .inl (h3.subA b h)
  omega
 .
  rcases hb with h |h
  .rcases h3.oldA b h with h |h
   .exact k3.oldA b (.inl h)
   .exact .inr (Nat.le_trans k3.size h)
  simp_all
 .
  rcases h4 b (iw.2 (.inr hb)) with h |h
  .rcases iw.1 h with h |h
   .grind
   .exact hd.ft b h
  .exact .inr (Nat.le_trans k3.size h)
 .
  rcases h with h |h
  .exact(h5.far b (iw.2 (.inr hb))).1 h
  grind
 .
  rcases h with h |h
  .exact h5.sees b hb h
  simp_all
 .
  rcases hb with h |h
  .exact h5.domA b h
  simp_all
 .
  rcases k3.subA b (hsh b hb) with h |h
  .exact h3.subA b h
  grind
theorem St.vr(st:St ⟨P,N,S0,w0,X,rd,df,M⟩ Γ Δ a (v.ub p))(h:VR p v v'):St ⟨P,N,S0,w0,X,rd,df,M⟩ Γ Δ a (v'.ub p):=st.rely h.1
theorem Om{c0 c1 c2 c3 c4 c5:Value}(hm:p.m0= #[c0,c1,c2,c3,c4,c5]):Kn (MW P p T) p.bm 0 [c0,c1,c2,c3,c4,c5]:=by
 refine⟨λw hw=>?_,λj hj=>?_⟩
 .obtain⟨x,y,h⟩:=(show p.Kf w from hw).mu;simp_all
 .have hj:j < 6:=hj;refine⟨j,by simp_all,?_,?_⟩ <;> rw [hm] <;> simp <;> omega
theorem Qn{c0 c1 c2 c3 c4 c5:Value}(hm:p.m0= #[c0,c1,c2,c3,c4,c5]):Kn (MW P p T) p.bm 8 [.map (some p.bk)]:=by
 refine⟨λw hw=>?_,λj hj=>?_⟩
 .obtain⟨x,y,h⟩:=(show p.Kf w from hw).mu;simp_all
 .have hj:j < 1:=hj;refine⟨8+j,rfl,?_,?_⟩ <;> rw [hm] <;> simp <;> omega
end
end K
end Go.Proofs.YtflilincnacbpaaGreat
set_option linter.unusedVariables false
set_option maxRecDepth 4000
set_option maxHeartbeats 1000000
namespace Go.Proofs.YtflilincnacbpaaGreat
open K Go Go.Proofs
def lQ(k:Nat)(a0:ae)(a1:Int):Option (List (List Int)):=(cM (0≤a1/\a1 < 256)).bind λ_=>jt k a0 a1
def FZ(l:List (List Int)):Value:=.agg (l.flatMap λr=>r.map λn=>Value.int .i64 n).toArray
def ji(l:List (List Int)):Prop:=l.length=7/\∀r∈l,r.length=5
theorem xT{S:FS}{w:World}:∀{r:List Int} {cs:List Value},dA (rd S w (.int .i64)) r cs↔cs=r.map λn=>Value.int .i64 n
 |[],cs=>Iff.rfl
 |n::r,cs=>by
  constructor
  .
   rintro⟨c1,c2,rfl,h1,h2⟩
   have h1:c1=[.int .i64 n]:=h1
   rw [h1,xT.1 h2];rfl
  .
   rintro rfl
   exact⟨[.int .i64 n],_,rfl,rfl,xT.2 rfl⟩
theorem rf{S:FS}{w:World}:∀{l:List (List Int)} {cs:List Value},dA (rd S w (.arr 5 (.int .i64))) l cs↔(∀r∈l,r.length=5)/\cs=l.flatMap λr=>r.map λn=>Value.int .i64 n
 |[],cs=>⟨λh=>⟨λr hr=>by simp at hr,h⟩,λh=>h.2⟩
 |r::l,cs=>by
  constructor
  .
   rintro⟨c1,c2,rfl,⟨h0,h1⟩,h2⟩
   obtain⟨g1,g2⟩:=rf.1 h2
   grind [xT]
  .
   rintro⟨g1,rfl⟩
   exact⟨_,_,rfl,⟨g1 r mem_cons_self,xT.2 rfl⟩,rf.2 ⟨λx hx=>g1 x (mem_cons_of_mem _ hx),rfl⟩⟩
theorem FT{S:FS}{w:World}{l:List (List Int)}(h:ji l):(A.rep (.arr 7 (.arr 5 (.int .i64))) l).holds S w (FZ l):=⟨_,⟨h.1,rf.2 ⟨h.2,rfl⟩⟩,rfl⟩
theorem MK{S:FS}{w:World}{l:List (List Int)}{u:Value}(h:(A.rep (.arr 7 (.arr 5 (.int .i64))) l).holds S w u):u=FZ l/\ji l:=by
 obtain⟨cs,⟨h1,h2⟩,e⟩:=h;obtain⟨g1,rfl⟩:=rf.1 h2;exact⟨e,h1,g1⟩
def cj(k:Nat)(a0:ae):Obj->Prop:=vB Tryz.prog 52 FZ λkv r=>ji r/\∃s,kv= .int .u8 s/\lQ k a0 s=some r
theorem MS{k:Nat}{a0:ae}{kv:Value}:∀n n':List (List Int),(ji n/\∃s,kv= .int .u8 s/\lQ k a0 s=some n)->(ji n'/\∃s,kv= .int .u8 s/\lQ k a0 s=some n')->n=n':=by
 simp_all
theorem Ek:Maps.Keyed Tryz.prog 52:=Maps.int_keyed Tryz.underlying52
theorem Ej{s:Int}(h:0≤s/\s < 256):∃lt,keyOf Tryz.prog 52 (.int .u8 s)=some lt:=by
 have hw:(Lit.int .u8 s).wf=true:=by grind [Lit.wf,IntKind.min,IntKind.max,IntKind.signed,IntKind.bits]
 simp_all [keyOf,mapKey,Tryz.underlying52]
theorem Jj:∀w,(zeroValue 58).run Tryz.prog w= .ok (FZ tq) w:=λw=>by kernel_rfl
theorem FY:ji tq:=⟨rfl,λr hr=>by simp_all⟩
end Go.Proofs.YtflilincnacbpaaGreat
set_option linter.unusedVariables false
set_option maxRecDepth 4000
set_option maxHeartbeats 1000000
namespace Go.Proofs.YtflilincnacbpaaGreat
open K Go Go.Proofs
theorem AC:∀w,(zeroValue 58).run Tryz.prog w= .ok (.agg #[(.int .i64 (0)),(.int .i64 (0)),(.int .i64 (0)),(.int .i64 (0)),(.int .i64 (0)),(.int .i64 (0)),(.int .i64 (0)),(.int .i64 (0)),(.int .i64 (0)),(.int .i64 (0)),(.int .i64 (0)),(.int .i64 (0)),(.int .i64 (0)),(.int .i64 (0)),(.int .i64 (0)),(.int .i64 (0)),(.int .i64 (0)),(.int .i64 (0)),(.int .i64 (0)),(.int .i64 (0)),(.int .i64 (0)),(.int .i64 (0)),(.int .i64 (0)),(.int .i64 (0)),(.int .i64 (0)),(.int .i64 (0)),(.int .i64 (0)),(.int .i64 (0)),(.int .i64 (0)),(.int .i64 (0)),(.int .i64 (0)),(.int .i64 (0)),(.int .i64 (0)),(.int .i64 (0)),(.int .i64 (0))]) w:=by simp_all
theorem AD:∀S w,(A.cells S w (.rep (.arr 7 (.arr 5 (.int .i64))) [[(0:Int),(0:Int),(0:Int),(0:Int),(0:Int)],[(0:Int),(0:Int),(0:Int),(0:Int),(0:Int)],[(0:Int),(0:Int),(0:Int),(0:Int),(0:Int)],[(0:Int),(0:Int),(0:Int),(0:Int),(0:Int)],[(0:Int),(0:Int),(0:Int),(0:Int),(0:Int)],[(0:Int),(0:Int),(0:Int),(0:Int),(0:Int)],[(0:Int),(0:Int),(0:Int),(0:Int),(0:Int)]]) (Value.cells (.agg #[(.int .i64 (0)),(.int .i64 (0)),(.int .i64 (0)),(.int .i64 (0)),(.int .i64 (0)),(.int .i64 (0)),(.int .i64 (0)),(.int .i64 (0)),(.int .i64 (0)),(.int .i64 (0)),(.int .i64 (0)),(.int .i64 (0)),(.int .i64 (0)),(.int .i64 (0)),(.int .i64 (0)),(.int .i64 (0)),(.int .i64 (0)),(.int .i64 (0)),(.int .i64 (0)),(.int .i64 (0)),(.int .i64 (0)),(.int .i64 (0)),(.int .i64 (0)),(.int .i64 (0)),(.int .i64 (0)),(.int .i64 (0)),(.int .i64 (0)),(.int .i64 (0)),(.int .i64 (0)),(.int .i64 (0)),(.int .i64 (0)),(.int .i64 (0)),(.int .i64 (0)),(.int .i64 (0)),(.int .i64 (0))])).toList):=λ_ _=>⟨rfl,⟨[_,_,_,_,_],_,rfl,⟨rfl,⟨[_],_,rfl,rfl,⟨[_],_,rfl,rfl,⟨[_],_,rfl,rfl,⟨[_],_,rfl,rfl,⟨[_],_,rfl,rfl,rfl⟩⟩⟩⟩⟩⟩,⟨[_,_,_,_,_],_,rfl,⟨rfl,⟨[_],_,rfl,rfl,⟨[_],_,rfl,rfl,⟨[_],_,rfl,rfl,⟨[_],_,rfl,rfl,⟨[_],_,rfl,rfl,rfl⟩⟩⟩⟩⟩⟩,⟨[_,_,_,_,_],_,rfl,⟨rfl,⟨[_],_,rfl,rfl,⟨[_],_,rfl,rfl,⟨[_],_,rfl,rfl,⟨[_],_,rfl,rfl,⟨[_],_,rfl,rfl,rfl⟩⟩⟩⟩⟩⟩,⟨[_,_,_,_,_],_,rfl,⟨rfl,⟨[_],_,rfl,rfl,⟨[_],_,rfl,rfl,⟨[_],_,rfl,rfl,⟨[_],_,rfl,rfl,⟨[_],_,rfl,rfl,rfl⟩⟩⟩⟩⟩⟩,⟨[_,_,_,_,_],_,rfl,⟨rfl,⟨[_],_,rfl,rfl,⟨[_],_,rfl,rfl,⟨[_],_,rfl,rfl,⟨[_],_,rfl,rfl,⟨[_],_,rfl,rfl,rfl⟩⟩⟩⟩⟩⟩,⟨[_,_,_,_,_],_,rfl,⟨rfl,⟨[_],_,rfl,rfl,⟨[_],_,rfl,rfl,⟨[_],_,rfl,rfl,⟨[_],_,rfl,rfl,⟨[_],_,rfl,rfl,rfl⟩⟩⟩⟩⟩⟩,⟨[_,_,_,_,_],_,rfl,⟨rfl,⟨[_],_,rfl,rfl,⟨[_],_,rfl,rfl,⟨[_],_,rfl,rfl,⟨[_],_,rfl,rfl,⟨[_],_,rfl,rfl,rfl⟩⟩⟩⟩⟩⟩,rfl⟩⟩⟩⟩⟩⟩⟩⟩
theorem lF:eu Tryz.prog 58 35 true:=⟨λw=>by kernel_rfl,λw=>by kernel_rfl⟩
theorem I3:aV Tryz.prog 94 2 8:=aV.of (by kernel_rfl)
theorem Hn:eu Tryz.prog 92 1 false:=⟨λw=>by kernel_rfl,λw=>by kernel_rfl⟩
section
variable {M:Md Tryz.prog}{bm bk:Nat}{c0 c1 c2 c3 c4 c5:Value}{S:FS}{w0:VW}{X:Nat->Prop}{df:List Deferred}{b1 b2:Nat}{k:Nat}{a0:ae}{a1:Int}
@[reducible] noncomputable def Jl (bm:Nat) (c0 c1 c2 c3 c4 c5:Value) (a0:ae) (a1:Int) (b1:Nat):Ga:=[(0,.rep (.mo (.pointer (some ⟨bm,0,none⟩)) [c0,c1,c2,c3,c4,c5] ap) a0),(1,.eq (.int .u8 a1)),(4,.eq (.pointer (some ⟨b1,0,none⟩)))]
theorem P9:JC (nI M S w0 X df) (Jm 0) (bQ (λa w=>∃b1,St (nI M S w0 X df) (Jl bm c0 c1 c2 c3 c4 c5 a0 a1 b1) [.obj b1 58 (.rep (.arr 7 (.arr 5 (.int .i64))) tq)] a w) (λ_ _ _=>False)) (entry 0 [.rep (.mo (.pointer (some ⟨bm,0,none⟩)) [c0,c1,c2,c3,c4,c5] ap) a0,.eq (.int .u8 a1)]) []:=by
 refine ab ?_;refine aX rfl rfl rfl (bo rfl AC AD) trivial λb1=>?_;refine aD (ao ?_);exact λa w st=>⟨b1,(jj (junk:=[]) (by repeat (first |exact trivial |refine⟨rfl,?_⟩)) (by simp)) a w st⟩
theorem P7(hK:Kn M bm 8 [.map (some bk)])(hs:0≤a1/\a1 < 256):
 JC (nI M S w0 X df) (Jm 2) (bQ (λa w=>∃b2 y fd,(fd=true->lQ k a0 a1=some y)/\(fd=false->y=tq)/\St (nI M S w0 X df) ((6,.eq (.bool fd))::tu bm c0 c1 c2 c3 c4 c5 a0 a1 b1 b2) (.inv bk (cj k a0)::Bn b1 b2 y) a w) (λ_ _ _=>False))
  (Jl bm c0 c1 c2 c3 c4 c5 a0 a1 b1) [.inv bk (cj k a0),.obj b1 58 (.rep (.arr 7 (.arr 5 (.int .i64))) tq)]:=by
 refine Dq λob hob=>?_
 obtain⟨y,fd,h1,h2,hlk⟩:=wn (z:=bk) Tryz.underlying92 tq Jj Ek (Ej hs) MS hob
 have hy:ji y:=by
  grind [FY]
 have h1':fd=true->lQ k a0 a1=some y:=λe=>by
  simp_all
 refine ab ?_
 refine bh rfl (wQ rfl) ⟨rfl,trivial⟩ ?_
 refine bh rfl (cV rfl) ⟨rfl,trivial⟩ ?_
 refine bh rfl (aA rfl I3) ⟨rfl,trivial⟩ ?_
 refine bh rfl (wS rfl Hn hK) ⟨rfl,trivial⟩ ?_
 refine dh rfl rfl ?_
 refine fu rfl rfl rfl (Fo (V:=FZ) (n:=y) (rk:=.eq (.int .u8 a1)) (kv:=.int .u8 a1) (λy=>.rep (.arr 7 (.arr 5 (.int .i64))) y) (λ_ _=>FT hy) rfl (vB.calm hob) rfl (λ_ _ _ hh=>hh) hlk) ⟨rfl,rfl,trivial⟩ ?_
 refine dh rfl rfl ?_
 refine bh rfl (mV rfl rfl) ⟨rfl,trivial⟩ ?_
 refine bh rfl (mV rfl rfl) ⟨rfl,trivial⟩ ?_
 refine aX rfl rfl rfl (bo rfl AC AD) trivial λb2=>?_
 refine aP rfl rfl (aM rfl lF rfl rfl rfl) ⟨rfl,rfl,trivial⟩ ?_
 refine nU rfl rfl ?_
 refine dN 1 rfl ?_
 refine dM (tG (cj k a0) hob) ?_
 refine aD (ao ?_)
 refine λa w st=>⟨b2,y,fd,h1',h2,(jj (junk:=[]) (by repeat (first |exact trivial |refine⟨rfl,?_⟩)) ?_) a w st⟩
 exact(List.Perm.refl _).cons _ |>.trans (by first |exact List.Perm.refl _ |exact .cons _ (.swap ..))
theorem MN(hK:Kn M bm 8 [.map (some bk)])(hs:0≤a1/\a1 < 256){y:List (List Int)}(hy:lQ k a0 a1=some y)(hg:ji y):
 JC (nI M S w0 X df) (Jm 9) (bQ (λa w=>St (nI M S w0 X df) (tu bm c0 c1 c2 c3 c4 c5 a0 a1 b1 b2) (.inv bk (cj k a0)::Bn b1 b2 y) a w) (λ_ _ _=>False))
  (tu bm c0 c1 c2 c3 c4 c5 a0 a1 b1 b2) (.inv bk (cj k a0)::Bn b1 b2 y):=by
 refine cN ?_
 refine gh rfl rfl rfl (wQ rfl) ⟨rfl,trivial⟩ ?_
 refine gh rfl rfl rfl (cV rfl) ⟨rfl,trivial⟩ ?_
 refine gh rfl rfl rfl (aA rfl I3) ⟨rfl,trivial⟩ ?_
 refine gh rfl rfl rfl (wS rfl Hn hK) ⟨rfl,trivial⟩ ?_
 refine gh rfl rfl rfl (bL rfl) ⟨rfl,trivial⟩ ?_
 refine yV 2 rfl rfl rfl rfl (ax rfl lF (tP) rfl) ⟨rfl,trivial⟩ ?_
 refine Ds (by kernel_rfl) d4 ?_
 refine aP rfl rfl (ye (V:=FZ) (n:=y) (rk:=.eq (.int .u8 a1)) (kv:=.int .u8 a1) (R:=λkv r=>ji r/\∃s,kv= .int .u8 s/\lQ k a0 s=some r) (λ_ _ _ hh=>(MK hh).1) rfl rfl Tryz.underlying92 Ek (λ_ _ _ hh=>hh) (Ej hs) ⟨hg,a1,rfl,hy⟩) ⟨rfl,rfl,rfl,trivial⟩ ?_
 refine aD (ao ?_)
 exact jj (junk:=[]) (by repeat (first |exact trivial |refine⟨rfl,?_⟩)) (List.Perm.refl _)
theorem MU{y:List (List Int)}{Q:Exit->Act->VW->Prop}{Δ:List D}(h:∀a w,St (nI M S w0 X df) (tu bm c0 c1 c2 c3 c4 c5 a0 a1 b1 b2) (Δ++[.obj b1 58 (.rep (.arr 7 (.arr 5 (.int .i64))) y),.obj b2 58 (.rep (.arr 7 (.arr 5 (.int .i64))) y)]) a w->Q .ret a w):
 JC (nI M S w0 X df) (Jm 10) Q (tu bm c0 c1 c2 c3 c4 c5 a0 a1 b1 b2) (Bn b1 b2 y++Δ):=by
 refine am ?_
 refine ab ?_
 refine dN 1 rfl ?_
 refine fu rfl rfl rfl (ax rfl lF (tP) rfl) ⟨rfl,trivial⟩ ?_
 refine dN 1 rfl ?_
 refine aP rfl rfl (aM rfl lF rfl rfl rfl) ⟨rfl,rfl,trivial⟩ ?_
 refine aD (ao ?_)
 refine aF ?_
 exact λa w st=>h a w ((jj (junk:=[]) (by repeat (first |exact trivial |refine⟨rfl,?_⟩)) (by grind [perm_append_comm])) a w st)
end
end Go.Proofs.YtflilincnacbpaaGreat
set_option linter.unusedVariables false
namespace Go.Proofs.YtflilincnacbpaaGreat
namespace K
open Go Go.Conc
def cZ(Γ:Ga)(a:Act):Gv:=Γ.map λq=>(q.1,a.tmps.getD q.1 undef)
def vR(Γ:Ga)(a:Act)(Γq:Gv):Prop:=∀s r,lk Γ s=some r->lv Γq s=some (a.tmps.getD s undef)
theorem D5{a:Act}:∀{Γ:Ga} {s:Nat} {x:Value},lv (cZ Γ a) s=some x->a.tmps.getD s undef=x
 |[],_,_,h=>by cases h
 |(s0,r0)::l,s,x,h=>by
  simp only [cZ,map_cons,lv] at h
  split at h
  .
   simp_all
  .
   exact D5 (Γ:=l) h
theorem vR.base{a:Act}:∀{Γ:Ga},vR Γ a (cZ Γ a)
 |[],_,_,h=>by cases h
 |(s0,r0)::l,s,r,h=>by
  simp only [lk] at h
  simp only [cZ,map_cons,lv]
  split at h
  .
   simp_all
  .
   rename_i e;rw [if_neg e];exact vR.base (Γ:=l) s r h
theorem vR.new{Γ:Ga}{a:Act}{Γq:Gv}{d:Nat}{u:Value}(h:vR Γ a Γq)(hd:lk Γ d=none:=by exact rfl):vR Γ a ((d,u)::Γq):=λs r hl=>by
 simp only [lv]
 split
 .
  simp_all
 .
  exact h s r hl
theorem vR.know{Γ:Ga}{a:Act}{Γq:Gv}{d:Nat}{u:Value}(h:vR Γ a Γq)(hd:a.tmps.getD d undef=u):vR Γ a ((d,u)::Γq):=λs r hl=>by
 simp only [lv]
 split
 .
  simp_all
 .
  exact h s r hl
theorem QS.know{N:Nat}{df:List Deferred}{Γq:Gv}{a:Act}{d:Nat}{u:Value}(h:QS N df Γq a)(hd:a.tmps.getD d undef=u):QS N df ((d,u)::Γq) a:=⟨h.size,h.defers,λs x hl=>by
 simp only [lv] at hl
 split at hl
 .
  simp_all
 .
  exact h.val s x hl⟩
theorem St.toQ{c:Cx}{Γ:Ga}{Δ:List D}{a:Act}{v:VW}(st:St c Γ Δ a v):QS c.N c.dfs (cZ Γ a) a:=⟨st.size,st.defers,λs x h=>D5 h⟩
theorem lI{P:Program}{M:Md P}{N:Nat}{S0:FS}{w0:VW}{X:Nat->Prop}{rd:Option Nat}{df df':List Deferred}{Γ:Ga}{Δ:List D}{a a':Act}{v:VW}{Γq:Gv}(st:St ⟨P,N,S0,w0,X,rd,df,M⟩ Γ Δ a v)(hc:vR Γ a Γq)(q:QS N df' Γq a'):St ⟨P,N,S0,w0,X,rd,df',M⟩ Γ Δ a' v:=by
 obtain⟨h1,h2,S,h3,h4,h5,h6⟩:=st;refine⟨q.defers,q.size,S,h3,h4,h5,λs r hl=>?_⟩;rw [q.val s _ (hc s r hl)];simp_all
section
variable {P:Program}{main:Bool}{b:Frame}{a:Act}{k:List Item}{cs:List Frame}{ops:Array Oper}{i:Nat}{rest:List Nat}{o:Oper}{w:World}
def eM(P:Program)(d:Deferred):Frame:={ (default:Frame) with fn:=P.funcs.size,defers:=[d],mode:=.panicking [goexitEntry] }
theorem Um{cl:Call}{s g:Nat}{cap:Array Value}{ts:Array TypeId}(ho:ops[i]? =some o)(hw:Region.wanted o (yielded ops a.tmps)=true)(hop:o.op= .go cl)(hcl:cl={ callee:=.value (.tmp s),args:= #[],argTypes:=ts })
 (hv:a.eval (.tmp s)= .func (.func g) #[] cap):
 stepG P main (Gr (b.atR a (.inRegion ops (i::rest)::k)) cs) w= .spawn (Gr (b.atR (a.put o.dst undef) (.inRegion ops rest::k)) cs) (Gr (eM P { target:=.fn (.func g) cap,args:= #[] }) []) w #[]:=by
 have he:execOp a.eval o=pure (.spawn { target:=.fn (.func g) cap,args:= #[] }):=by
  simp_all [execOp,resolve,Deferred.ofValue]
 have hT:(pure (Next.spawn { target:=.fn (.func g) cap,args:= #[] }):Sem Next).runT P w #[]=(.ok (.spawn { target:=.fn (.func g) cap,args:= #[] }) w, #[]):=rfl
 have hfin:(b.atR a (.inRegion ops (i::rest)::k)).finish undef=b.atR (a.put o.dst undef) (.inRegion ops rest::k):=by grind [Frame.finish_atR]
 rw [vg ho hw,Oper.semAt_eq _ _ _ (by simp [hop]),he]
 simp_all [stepG.apply,if_true,vf,lj,GStep.after,eM]
theorem yu{g:Nat}{cap:Array Value}(hen:ai P g):stepG P main (Gr (eM P { target:=.fn (.func g) cap,args:= #[] }) []) w= .go (Gr (Frame.enter P g cap .deferred) [{ eM P { target:=.fn (.func g) cap,args:= #[] } with defers:=[] }]) w #[]:=by
 have hi:invoke (.fn (.func g) cap) #[]=callFunc g cap:=by simp [invoke]
 simp only [stepG,eM,unwind,callDeferred,hi,qI hen,GStep.after,append_empty,lj];rfl
theorem BQ{d:Deferred}:QuitsD P 1 0 (Gr { eM P d with defers:=[] } []):=by
 refine .ctl (g':={ Gr { eM P d with defers:=[] } [] with status:=.finished }) rfl (λw=>?_) ⟨rfl,rfl⟩
 have hc:({ eM P d with defers:=[] }:Frame).catches P=false:=by
  simp [Frame.catches,eM];rfl
 simp [stepG,unwind,eM,goexitEntry] at hc⊢;omega
theorem JK{d:Deferred}{fn:Func}{N:Nat}{Γ:Gv}{v:VW}(hb:b.kind= .deferred)(hf:P.funcs[b.fn]? =some fn)(hr:fn.results= #[]):Qr (TQ P 0) v b [{ eM P d with defers:=[] }] N [] Γ:=λa todo ha=>by
 refine⟨2,.ctl rfl (λw=>?_) (BQ (d:=d))⟩
 have hres:(results fn a.tmps).runT P w #[]=(.ok (.tuple #[]) w, #[]):=by
  simp [results,hr]
 simp only [stepG,Gr,Frame.at,unwind,ha.defers,hf,hres,doReturn,hb,GStep.after,append_empty,lj,eM,goexitEntry]
end
theorem yS{c:Cx}{C:Code}{Q:Exit->Act->VW->Prop}{Γ:Ga}{Δ:List D}{a:Act}{v:VW}{T:Tq}{b:Frame}{k:List Item}{cs:List Frame}(hT:c.M.ok T)(hb:b.roundOf=c.rd)(st:St c Γ Δ a v)(h:JC c C Q Γ Δ)(hc:∀e a' v',Q e a' v'->nh T b k cs e a' v'):
 T v (b.atR a (.code C::k)) cs:=h a v st T hT b k cs hb hc
theorem eN{c:Cx}{C:Code}{Q:Act->VW->Prop}{Γ:Ga}{Δ:List D}{a:Act}{v:VW}{T:Tq}{b:Frame}{k:List Item}{cs:List Frame}(hT:c.M.ok T)(hb:b.roundOf=c.rd)(st:St c Γ Δ a v)(h:JC c C (bQ Q (λ_ _ _=>False)) Γ Δ)(hc:∀a' v',Q a' v'->T v' (b.atR a' k) cs):
 T v (b.atR a (.code C::k)) cs:=yS hT hb st h λe a' v' q=>by
 cases e with
 |normal=>exact hc a' v' q
 |_=>exact q.elim
theorem gQ{c:Cx}{Γ:Ga}{Δ:List D}{a:Act}{v:VW}{s:Nat}{x:Value}(st:St c Γ Δ a v)(h:lk Γ s=some (.eq x)):a.eval (.tmp s)=x:=by
 obtain⟨_,_,S,_,_,_,h6⟩:=st;exact h6 s _ h
theorem oY{c:Cx}{Γ:Ga}{Δ:List D}{a:Act}{v:VW}{s:Nat}{p:Value}{cs:List Value}{t:Ty}{d:t.den}(st:St c Γ Δ a v)(h:lk Γ s=some (.rep (.mo p cs t) d)):a.tmps.getD s undef=p:=by
 obtain⟨_,_,S,_,_,_,h6⟩:=st;exact(qA (h6 s _ h)).1
end K
end Go.Proofs.YtflilincnacbpaaGreat
set_option linter.unusedVariables false
set_option maxRecDepth 20000
set_option maxHeartbeats 4000000
namespace Go.Proofs.YtflilincnacbpaaGreat
open K Go Go.Proofs Go.Conc Go.Conc.Lib
theorem IF:xG Tryz.prog 80 .disable:=⟨⟨_,Tryz.func80,by kernel_rfl,by kernel_rfl,by kernel_rfl,by kernel_rfl⟩,λg h=>by cases h⟩
theorem IE:xG Tryz.prog 81 .enable:=⟨⟨_,Tryz.func81,by kernel_rfl,by kernel_rfl,by kernel_rfl,by kernel_rfl⟩,λg h=>by cases h⟩
theorem PK:rW Tryz.prog 79 .releaseMerge:=⟨⟨_,Tryz.func79,by kernel_rfl,by kernel_rfl,by kernel_rfl,by kernel_rfl⟩,λa g h=>by cases h⟩
theorem IG:rW Tryz.prog 92 .acquire:=⟨⟨_,Tryz.func92,by kernel_rfl,by kernel_rfl,by kernel_rfl,by kernel_rfl⟩,λa g h=>by cases h⟩
theorem Ly:JL Tryz.prog 108 (.tuple #[]):=⟨_,Tryz.func108,by kernel_rfl,by kernel_rfl,by kernel_rfl,by kernel_rfl⟩
theorem D3:(Tryz.prog.funcs[98]?).any (·.norace)=true:=by rw [Tryz.func98];kernel_rfl
theorem LA:(Tryz.prog.funcs[100]?).any (·.norace)=true:=by rw [Tryz.func100];kernel_rfl
theorem LC:(Tryz.prog.funcs[69]?).any (·.norace)=true:=by rw [Tryz.func69];kernel_rfl
theorem nQ{b off:Nat}(w:World):(Instr.fieldAt 89 (.pointer (some ⟨b,off,none⟩)) 0).runT Tryz.prog w #[]=(.ok (.pointer (some ⟨b,off+0,none⟩)) w, #[]):=c9 (n:=0) Tryz.underlying89 rfl Tryz.sizeOf21 w
theorem ID{b off:Nat}(w:World):(Instr.fieldAt 89 (.pointer (some ⟨b,off,none⟩)) 1).runT Tryz.prog w #[]=(.ok (.pointer (some ⟨b,off+1,none⟩)) w, #[]):=c9 (n:=0) Tryz.underlying89 rfl Tryz.sizeOf87 w
theorem IC{b off:Nat}(w:World):(Instr.fieldAt 91 (.pointer (some ⟨b,off,none⟩)) 1).runT Tryz.prog w #[]=(.ok (.pointer (some ⟨b,off+0,none⟩)) w, #[]):=c9 (n:=1) Tryz.underlying91 rfl Tryz.sizeOf89 w
noncomputable def iJ:Code:=match Tryz.f98.body with
 |some (.seq _ (.seq _ (.seq _ (.seq _ (.seq _ (.seq (.block _ (.loop b)) _))))))=>b
 |_=>.skip
noncomputable def jv:Code:=match Tryz.f98.body with
 |some (.seq _ (.seq _ (.seq _ (.seq _ (.seq _ (.seq _ b))))) )=>b
 |_=>.skip
noncomputable def Tt:Code:=match iJ with
 | .block _ (.seq _ x)=>x
 |_=>.skip
noncomputable def Vs:Code:=match iJ with
 | .block _ (.seq (.seq _ (.cond _ (.seq _ s) _)) _)=>s
 |_=>.skip
noncomputable def To:Code:=match Tt with
 | .seq _ (.seq _ (.seq _ (.seq _ (.seq _ y))))=>y
 |_=>.skip
noncomputable def Ua:Code:=match Tt with
 | .seq _ (.seq _ (.seq _ (.seq _ (.seq y _))))=>y
 |_=>.skip
noncomputable def T9:Code:=match To with
 | .seq _ (.cond _ (.seq _ z) _)=>z
 |_=>.skip
noncomputable def Rj:Code:=match T9 with
 | .seq _ (.seq _ z)=>z
 |_=>.skip
noncomputable def Ri:Code:=match Rj with
 | .seq _ (.seq _ z)=>z
 |_=>.skip
noncomputable def Vt:Code:=match Ri with
 | .seq _ (.seq (.seq _ (.cond _ (.seq _ (.seq _ (.seq _ e))) _)) _)=>e
 |_=>.skip
@[reducible] def yn(p:Gp)(W:Int)(st aw:Bool)(it:Int)(ow:Nat):Gv:=[(0,.pointer (some p.muA)),(2,.int .i64 W),(3,.bool st),(4,.bool aw),(5,.int .i64 it),(6,.int .i32 (ow:Int))]
section
variable {P:Program}{Wl:World->Prop}{main:Bool}{T':Tq}{v:VW}{b:Frame}{cs:List Frame}{N:Nat}{df:List Deferred}{Γ:Gv}{k:List Item}{x y:Code}
theorem vz(hT:Mv P Wl main T'){c:Operand}(t:Bool)(Γ':Gv)(hc:ev Γ c=some (.bool t))(h1:t=true->Qt T' v b cs N df k Γ'->Qt T' v b cs N df (.code x::k) Γ)(h0:t=false->Qt T' v b cs N df k Γ'->Qt T' v b cs N df (.code y::k) Γ)(h:Qt T' v b cs N df k Γ'):Qt T' v b cs N df (.code (.cond c x y)::k) Γ:=by
 grind [Qt.cond]
end
theorem qr{G G':Prop}(k:G')(h:G'->G:=by
 intro k;repeat (first |refine Qt.region hT ?_ |refine mr hT ?_ |refine Qt.op hT rfl (dO rfl rfl) ?_ |refine Qt.op hT rfl (uu rfl rfl) ?_)
 exact k):G:=h k
section
variable {p:Gp}{T:Tq}{mn:Bool}{s:Ph}{v0 v:VW}{cs:List Frame}{N:Nat}
theorem kz{n m:Int}(h:n=m):some (Value.int .i32 n)=some (.int .i32 m):=by rw [h]
theorem PM(hs:s.Run){l:sf}{W it:Int}{st aw:Bool}{ow:Nat}(ho:od ow st aw)(v:VW){k:List Item}
 (h:Qt (WV v0 Tryz.prog p T mn (s.set l)) v (base 98) cs 139 [] (.code To::k) ((7,.int .i32 (DU ow st aw:Nat))::yn p W st aw it ow)):Qt (WV v0 Tryz.prog p T mn (s.set l)) v (base 98) cs 139 [] (.code Tt::k) (yn p W st aw it ow):=by
 have hT:Mv Tryz.prog p.Kf mn (WV v0 Tryz.prog p T mn (s.set l)):=bq hs.q
 have hlt:=ho.lt
 obtain⟨w5,w1,w2,w4,w3,w7,o1,o2,o4,n2,s3⟩:=kh ow (by omega)
 have b0:ow % 2=0\/ow % 2=1:=by omega
 have b2:ow / 4 % 2=0\/ow / 4 % 2=1:=by omega
 refine qa ?_
 refine Qt.op hT rfl (aY (u:=.int .i32 ((4 * (ow / 4 % 2):Nat):Int)) rfl rfl rfl (kz w4)) ?_
 refine Qt.op hT rfl (aY (u:=.bool (decide (ow / 4 % 2=0))) rfl rfl rfl (by simp only [iQ];congr 2;grind)) ?_
 refine qa ?_
 refine vz hT _ ((7,.int .i32 (Bm ow:Nat))::yn p W st aw it ow) rfl (λe hk=>?_) (λe hk=>?_) ?_
 .
  refine qr ?_;refine Qt.op hT rfl (aY (u:=.int .i32 (Bm ow:Nat)) rfl rfl rfl (kz (o1.trans (by unfold Bm;simp_all)))) ?_;refine qr ?_;exact Qt.base _ hk
 .
  rw [show Bm ow=ow by unfold Bm;simp_all] at hk;exact Qt.skip hT (Qt.base _ hk)
 refine qa ?_
 refine Qt.op hT rfl (aY (u:=.int .i32 ((ow % 2+4 * (ow / 4 % 2):Nat):Int)) rfl rfl rfl (kz w5)) ?_
 refine Qt.op hT rfl (aY (u:=.bool (decide (¬(ow % 2=0/\ow / 4 % 2=0)))) rfl rfl rfl (by simp only [iQ];congr 2;grind)) ?_
 refine qa ?_
 have hn1:Bm ow < 830:=by grind [Bm]
 refine vz hT _ ((7,.int .i32 (vH ow:Nat))::yn p W st aw it ow) rfl (λe hk=>?_) (λe hk=>?_) ?_
 .
  refine qr ?_
  refine Qt.op hT rfl (aY (u:=.int .i32 (vH ow:Nat)) rfl rfl rfl (kz (by
   have:vH ow=Bm ow+8:=by unfold vH;grind
   rw [this,wrap_i32_small _ (by omega) (by omega)];rfl))) ?_
  refine qr ?_;exact Qt.base _ hk
 .
  rw [show vH ow=Bm ow by unfold vH;simp_all] at hk;exact Qt.skip hT (Qt.base _ hk)
 refine qa ?_
 have hn2:vH ow < 838:=by grind [vH]
 obtain⟨_,_,_,_,_,_,_,_,o42,_,_⟩:=kh (vH ow) (by omega)
 have hn3:Bl ow st < 842:=by grind [Bl]
 have stg:Qt (WV v0 Tryz.prog p T mn (s.set l)) v (base 98) cs 139 [] (.code (.seq Ua To)::k) ((7,.int .i32 (Bl ow st:Nat))::yn p W st aw it ow):=by
  have hm:ow % 2≤vH ow:=by grind [vH,Bm]
  refine qa ?_;refine vz hT aw ((7,.int .i32 (DU ow st aw:Nat))::yn p W st aw it ow) rfl (λe hk=>?_) (λe hk=>?_) h
  .subst e;obtain⟨a1,a2⟩:=ho.aw rfl
   have e2:Bl ow st / 2 % 2=1:=by
    unfold Bl vH Bm;grind
   obtain⟨_,_,w2',_,_,_,_,_,_,n2',_⟩:=kh (Bl ow st) (by omega);refine Qt.seq hT (Qt.seq hT ?_);refine qr ?_;refine Qt.op hT rfl (aY (u:=.int .i32 2) rfl rfl rfl (kz (w2'.trans (by omega)))) ?_;refine Qt.op hT rfl (aY (u:=.bool false) rfl rfl rfl rfl) ?_;refine qr ?_;refine Qt.cond hT false (Qt.skip hT ?_);refine qr ?_;refine Qt.op hT rfl (aY (u:=.int .i32 (DU ow st true:Nat)) rfl rfl rfl (kz (n2'.trans (by unfold DU;simp_all)))) ?_;refine qr ?_;exact Qt.base _ hk
  .subst e;exact Qt.skip hT (Qt.base _ hk)
 cases st with
 |true=>
  have hj:Bl ow true=if ow % 2=1 then vH ow+4 else vH ow:=by grind [Bl]
  refine qr ?_;refine cy hT rfl (dO rfl rfl) ?_;refine cy hT rfl (aY (u:=.int .i32 ((ow % 2:Nat):Int)) rfl rfl rfl (kz w1)) ?_;refine cy hT rfl (aY (u:=.bool (decide (ow % 2=1))) rfl rfl rfl (by simp only [iQ];congr 2;grind)) ?_;refine Qt.op hT rfl (dW rfl true rfl rfl) ?_;refine qr ?_;refine vz hT (decide (ow % 2=1)) _ rfl (λe hk=>?_) (λe hk=>?_) stg
  .have e:=of_decide_eq_true e;have:=(ho.aw (ho.st rfl)).2
   have e4:vH ow / 4 % 2=0:=by
    unfold vH Bm;rw [if_pos this,if_neg (by omega)];omega
   refine qr ?_;refine Qt.op hT rfl (aY (u:=.int .i32 (Bl ow true:Nat)) rfl rfl rfl (kz (o42.trans (by simp_all)))) ?_;refine qr ?_;exact Qt.base _ hk
  .rw [hj,if_neg (of_decide_eq_false e)] at hk;exact Qt.skip hT (Qt.base _ hk)
 |false=>
  rw [show Bl ow false=vH ow by grind [Bl]] at stg;refine qr ?_;refine bR hT rfl ?_;refine bR hT rfl ?_;refine bR hT rfl ?_;refine Qt.op hT rfl (dW rfl false rfl rfl) ?_;refine qr ?_;exact Qt.cond hT false (Qt.skip hT (Qt.base _ stg))
end
end Go.Proofs.YtflilincnacbpaaGreat
set_option linter.unusedVariables false
set_option maxRecDepth 20000
set_option maxHeartbeats 4000000
namespace Go.Proofs.YtflilincnacbpaaGreat
open K Go Go.Proofs Go.Conc Go.Conc.Lib
section
variable {p:Gp}{T:Tq}{mn:Bool}{s:Ph}{v0:VW}{cs:List Frame}
theorem ym(hok:p.Ok)(hs:s.Run){v:VW}{b:Frame}(hb:b.fn=98){c:Nat}{aw:Bool}{se0:Option (Nat×Nat)}{N d i:Nat}{Γ:Gv}{ops:Array Oper}{rest:List Nat}{k:List Item}{o:Oper}{x:Operand}{df:List Deferred}
 (ho:ops[i]? =some o) (hop:o.op= .load 21 x) (hx:ev Γ x=some (.pointer (some p.muA)))
 (h:∀v' ow φ,(∀ow0 φ0,se0=some (ow0,φ0)->φ≤φ0)->ow < 820->(aw=true->ow / 2 % 2=1/\ow / 4 % 2=0)->Qt (WV v0 Tryz.prog p T mn (s.set (qO c aw ow φ))) v' b cs N df (.inRegion ops rest::k) ((d,.int .i32 (ow:Int))::Γ))
 (hg:o.guard=none:=by exact rfl) (hd:o.dst=some d:=by exact rfl) (hN:blt d N=true:=by exact rfl) (hk:b.kind≠.early:=by exact λh=>nomatch h):
 Qt (WV v0 Tryz.prog p T mn (s.set { df:=1,aw:=cond aw 1 0,phi:=c+cond aw 5 6,se:=se0 })) v b cs N df (.inRegion ops (i::rest)::k) Γ:=by
 refine vt hok hs rfl (zero_le _) ho hop (by grind [D3]) Tryz.isAgg21 hx (λq=>qO c aw q.word q.f) (λq=>⟨rfl,rfl⟩) (λq hp=>?_) (λv' q hp=>?_) hg hd hN hk
 .
  exact OO hs (by grind) (Nat.le_refl _) rfl
 .
  obtain⟨h1,h2,h3⟩:=K5 hp;exact h v' _ _ h3 h1 h2
theorem O1(hs:s.Run){v:VW}{b:Frame}{N d i:Nat}{Γ:Gv}{ops:Array Oper}{rest:List Nat}{k:List Item}{o:Oper}{x:Operand}{df:List Deferred}{ts:Array TypeId}{it:Int}{l:sf}
 (hw:∀a,QS N df Γ a->Region.wanted o (yielded ops a.tmps)=true) (ho:ops[i]? =some o) (hop:o.op= .call { callee:=.value (.func 107),args:= #[x],argTypes:=ts }) (hx:ev Γ x=some (.int .i64 it))
 (h:∀v' u,(u=true->it < 4)->Qt (WV v0 Tryz.prog p T mn (s.set l)) v' b cs N df (.inRegion ops rest::k) ((d,.bool u)::Γ))
 (hd:o.dst=some d:=by exact rfl) (hN:blt d N=true:=by exact rfl) (hk:b.kind≠.early:=by exact λh=>nomatch h):
 Qt (WV v0 Tryz.prog p T mn (s.set l)) v b cs N df (.inRegion ops (i::rest)::k) Γ:=by
 refine EI hs.q (Ok:=λu=>∃z:Bool,u= .bool z/\(z=true->it < 4)) (λa ha w=>?_) (λv' u ⟨z,e,hz⟩=>?_) hN
 .
  have hm:(#[x]:Array Operand).map a.eval= #[.int .i64 it]:=by simp [ha.ev hx]
  by_cases h4:it < 4
  .have:=stepG_canSpin_ask (P:=Tryz.prog) (main:=mn) (w:=w) (b:=b) (cs:=cs) (kk:=k) (rest:=rest) ho (hw a ha) hk hop Tryz.func107 (by kernel_rfl) (by kernel_rfl) (by kernel_rfl) (by kernel_rfl) hm h4;rw [hd] at this;exact⟨_,_,⟨_,rfl,λ_=>h4⟩,this,rfl,j7.refl _,rfl,rfl⟩
  .have:=stepG_canSpin_no (P:=Tryz.prog) (main:=mn) (w:=w) (b:=b) (cs:=cs) (kk:=k) (rest:=rest) ho (hw a ha) hk hop Tryz.func107 (by kernel_rfl) (by kernel_rfl) (by kernel_rfl) (by kernel_rfl) hm (by omega);simp_all [j7.refl]
 grind
theorem HL(hs:s.Run){v:VW}{b:Frame}{N d i:Nat}{Γ:Gv}{ops:Array Oper}{rest:List Nat}{k:List Item}{o:Oper}{df:List Deferred}{ts:Array TypeId}{l:sf}{xs:Array Operand}
 (hw:∀a,QS N df Γ a->Region.wanted o (yielded ops a.tmps)=true) (ho:ops[i]? =some o) (hop:o.op= .call { callee:=.value (.func 110),args:=xs,argTypes:=ts })
 (h:∀v' z,Qt (WV v0 Tryz.prog p T mn (s.set l)) v' b cs N df (.inRegion ops rest::k) ((d,.int .i64 z)::Γ))
 (hd:o.dst=some d:=by exact rfl) (hN:blt d N=true:=by exact rfl) (hk:b.kind≠.early:=by exact λh=>nomatch h):
 Qt (WV v0 Tryz.prog p T mn (s.set l)) v b cs N df (.inRegion ops (i::rest)::k) Γ:=by
 refine EI hs.q (Ok:=λu=>∃z:Int,u= .int .i64 z) (λa ha w=>?_) (λv' u ⟨z,e⟩=>?_) hN
 .
  have:=stepG_nanotime (P:=Tryz.prog) (main:=mn) (w:=w) (b:=b) (cs:=cs) (kk:=k) (rest:=rest) ho (hw a ha) hk hop Tryz.func110 (by kernel_rfl) (by kernel_rfl) (by kernel_rfl) (by kernel_rfl) (by kernel_rfl);rw [hd] at this;exact⟨_,_,⟨_,rfl⟩,this,rfl,⟨_,rfl⟩,rfl,rfl⟩
 simp_all
noncomputable abbrev LU:List Item:=[.inBlock 1,.inLoop iJ,.inBlock 0,.code jv]
theorem LN(hok:p.Ok)(hs:s.Run){v:VW}{c φ:Nat}{ow:Nat}{st aw:Bool}{W it:Int}(ho:od ow st aw)
 (hget:∀v',Qt (WV v0 Tryz.prog p T mn (s.set { df:=1,hd:=1,phi:=c+4 })) v' (base 98) cs 139 [] [.code jv] [(0,.pointer (some p.muA))])
 (hq:∀v' φ',φ' < φ->Qt (WV v0 Tryz.prog p T mn (s.set { df:=1,qu:=1,phi:=c+4,se:=some (DU ow st aw,φ') })) v' (base 98) cs 139 [] (.code T9::LU) (yn p W st aw it ow))
 (hl:∀v' ow' φ',φ' < φ->od ow' st aw->Qt (WV v0 Tryz.prog p T mn (s.set (qO c aw ow' φ'))) v' (base 98) cs 139 [] [.code iJ,.inLoop iJ,.inBlock 0,.code jv] (yn p W st aw it ow')):
 Qt (WV v0 Tryz.prog p T mn (s.set (qO c aw ow φ))) v (base 98) cs 139 [] (.code To::LU) ((7,.int .i32 (DU ow st aw:Nat))::yn p W st aw it ow):=by
 have hT:Mv Tryz.prog p.Kf mn (WV v0 Tryz.prog p T mn (s.set (qO c aw ow φ))):=bq hs.q
 have hlt:=ho.lt
 obtain⟨w5,_⟩:=kh ow (by omega)
 refine Qt.seq hT ?_
 refine qr ?_
 refine Qt.op hT rfl (gi rfl rfl) ?_
 refine Qt.op hT rfl (bF (k:=0) rfl nQ rfl) ?_
 refine qr ?_
 refine ul hok hs rfl rfl (by grind) rfl (ow:=ow) (nw:=DU ow st aw) rfl rfl (λa ha=>ag rfl _) Tryz.func97 (by kernel_rfl) (by kernel_rfl) (by kernel_rfl) (by kernel_rfl) rfl rfl rfl
  (λφ'=>if ow % 2=0/\ow / 4 % 2=0 then { df:=1,hd:=1,phi:=c+4 } else { df:=1,qu:=1,phi:=c+4,se:=some (DU ow st aw,φ') }) (λx=>by grind) (λq=>if ow % 2=0/\ow / 4 % 2=0 then O3 aw q else O2 st aw q) (λq hp e=>?_) (λv' φ' hφ=>?_) λv' ow' φ' hφ=>?_
 .
  have hf:=wO hp;have hf:0 < q.f:=by grind
  by_cases h0:ow % 2=0/\ow / 4 % 2=0
  .simp only [if_pos h0];exact⟨IY ho e (kp hp) h0.1 h0.2,(by simp),(by simp),(by omega),OS hs ho e (kp hp) h0.1 h0.2 hf⟩
  .simp only [if_neg h0];exact⟨zI ho e (kp hp) h0,(by simp),(by simp),(by omega),OR hs ho e (kp hp) h0 hf⟩
 .
  have hφ:=hφ φ rfl;by_cases h0:ow % 2=0/\ow / 4 % 2=0
  .simp only [if_pos h0];have hT:Mv Tryz.prog p.Kf mn (WV v0 Tryz.prog p T mn (s.set { df:=1,hd:=1,phi:=c+4 })):=bq hs.q;refine mr hT ?_;refine Qt.cond hT true ?_;refine Qt.seq hT (Qt.seq hT ?_);refine qr ?_;refine Qt.op hT rfl (aY (u:=.int .i32 0) rfl rfl rfl (kz (w5.trans (by omega)))) ?_;refine Qt.op hT rfl (aY (u:=.bool true) rfl rfl rfl rfl) ?_;refine qr ?_;refine Qt.cond hT true ?_;refine Qt.exit hT rfl ?_;exact Qt.base _ (hget v')
  .simp only [if_neg h0];have hT:Mv Tryz.prog p.Kf mn (WV v0 Tryz.prog p T mn (s.set { df:=1,qu:=1,phi:=c+4,se:=some (DU ow st aw,φ') })):=bq hs.q;refine mr hT ?_;refine Qt.cond hT true ?_;refine Qt.seq hT (Qt.seq hT ?_);refine qr ?_;refine Qt.op hT rfl (aY (u:=.int .i32 ((ow % 2+4 * (ow / 4 % 2):Nat):Int)) rfl rfl rfl (kz w5)) ?_;refine Qt.op hT rfl (aY (u:=.bool false) rfl rfl rfl (by grind [iQ,decide_eq_false])) ?_;refine qr ?_;refine Qt.cond hT false (Qt.skip hT ?_);exact Qt.base _ (hq v' φ' hφ)
 .
  have hφ:=hφ φ rfl;have hT:Mv Tryz.prog p.Kf mn (WV v0 Tryz.prog p T mn (s.set { qO c aw ow φ with se:=some (ow',φ') })):=bq hs.q;refine mr hT ?_;refine Qt.cond hT false ?_;refine qr ?_;refine Qt.op hT rfl (gi rfl rfl) ?_;refine Qt.op hT rfl (bF (k:=0) rfl nQ rfl) ?_;refine ym hok hs rfl rfl rfl rfl λv2 ow2 φ2 g1 g2 g3=>?_;replace hT:Mv Tryz.prog p.Kf mn (WV v0 Tryz.prog p T mn (s.set (qO c aw ow2 φ2))):=bq hs.q;refine qr ?_;refine Qt.inBlock hT (Qt.inLoop hT ?_);exact Qt.base _ (hl v2 ow2 φ2 (Nat.lt_of_le_of_lt (g1 _ _ rfl) hφ) ⟨g2,ho.st,g3⟩)
end
end Go.Proofs.YtflilincnacbpaaGreat
set_option linter.unusedVariables false
set_option maxRecDepth 20000
set_option maxHeartbeats 4000000
namespace Go.Proofs.YtflilincnacbpaaGreat
open K Go Go.Proofs Go.Conc Go.Conc.Lib
section
variable {p:Gp}{T:Tq}{mn:Bool}{s:Ph}{v0:VW}{cs:List Frame}
theorem O6{q:dV}{c:Nat}{se0:Option (Nat×Nat)}(hp:my p mn (s.set { df:=1,tk:=1,phi:=c+5,se:=se0 }) q):(q.S=1/\q.L=0/\q.W=0/\1≤q.N)\/(q.S=0/\q.W=1):=by
 obtain⟨o,h1,⟨k1,k2,k3,k4,k5,k6⟩,hse,h2,h3,hN,hT⟩:=hp.mu;grind
theorem LS(hok:p.Ok)(hs:s.Run){v:VW}{c n0:Nat}{N d i:Nat}{Γ:Gv}{ops:Array Oper}{rest:List Nat}{k:List Item}{o:Oper}{x y:Operand}{df:List Deferred}{b:Frame}{ts:Array TypeId}(xx:Bool){dl:Int}(hdl:dl=cond xx (-11) (-7))(hn:0 < n0)(hx0:xx=false->2≤n0)
 (ho:ops[i]? =some o) (hop:o.op= .call { callee:=.value (.func 99),args:= #[x,y],argTypes:=ts }) (hx:ev Γ x=some (.pointer (some p.muA))) (hy:ev Γ y=some (.int .i32 dl))
 (h:∀v' u,Qt (WV v0 Tryz.prog p T mn (s.set { df:=1,hd:=1,phi:=c+4 })) v' b cs N df (.inRegion ops rest::k) ((d,u)::Γ))
 (hg:o.guard=none:=by exact rfl) (hd:o.dst=some d:=by exact rfl) (hN:blt d N=true:=by exact rfl) (hk:b.kind≠.early:=by exact λh=>nomatch h):
 Qt (WV v0 Tryz.prog p T mn (s.set { df:=1,tk:=1,phi:=c+5,nb:=n0 })) v b cs N df (.inRegion ops (i::rest)::k) Γ:=by
 refine EJ hok hs rfl rfl ho hop Tryz.func99 (by kernel_rfl) (by kernel_rfl) (by kernel_rfl) (by kernel_rfl) hx hy (λ_=>{ df:=1,hd:=1,phi:=c+4 }) (λ_=>⟨rfl,rfl⟩) (Q1 xx) (λq hp=>?_) (λv' q hp=>h v' _) hg hd hN hk
 obtain⟨g1,g2,g3,g4⟩:=zJ hn hp
 have hN:q.N≤101:=by obtain⟨_,_,_,_,_,_,h,_⟩:=hp.mu;exact h
 refine⟨?_,⟨rfl,rfl,rfl,rfl,rfl,rfl⟩,rfl,KR hs hn hx0 hp⟩
 subst hdl
 simp only [dV.word]
 cases xx with
 |true=>dsimp only [cond];grind [wrap_i32_small]
 |false=>
  have:=hx0 rfl;dsimp only [cond];grind [wrap_i32_small]
theorem Aj(hok:p.Ok)(hs:s.Run){v:VW}{c φ φ' nw:Nat}{ow:Nat}{st aw:Bool}{W it:Int}(hφ:φ' < φ)
 (hget:∀v',Qt (WV v0 Tryz.prog p T mn (s.set { df:=1,hd:=1,phi:=c+4 })) v' (base 98) cs 139 [] [.code jv] [(0,.pointer (some p.muA))])
 (hl:∀v' ow' φ',φ' < φ->od ow' st true->Qt (WV v0 Tryz.prog p T mn (s.set (qO c true ow' φ'))) v' (base 98) cs 139 [] [.code iJ,.inLoop iJ,.inBlock 0,.code jv] (yn p W st true 0 ow')):
 Qt (WV v0 Tryz.prog p T mn (s.set { df:=1,tk:=1,phi:=c+5,se:=some (nw,φ') })) v (base 98) cs 139 [] (.code Ri::LU) (yn p W st aw it ow):=by
 have hT:Mv Tryz.prog p.Kf mn (WV v0 Tryz.prog p T mn (s.set { df:=1,tk:=1,phi:=c+5,se:=some (nw,φ') })):=bq hs.q
 refine Qt.seq hT ?_
 refine qr ?_
 refine Qt.op hT rfl (gi rfl rfl) ?_
 refine Qt.op hT rfl (bF (k:=0) rfl nQ rfl) ?_
 refine vt hok hs rfl (zero_le _) rfl rfl D3 Tryz.isAgg21 rfl (QG c) (λq=>by grind) (λq hp=>Hr hs (kp hp)) λv2 q hp=>?_
 have hle:=kp hp
 have htk:=O6 hp
 have hqf:q.f≤φ':=by obtain⟨_,_,_,h,_⟩:=hp.mu;simp_all
 have hN:q.N≤101:=by obtain⟨_,_,_,_,_,_,h,_⟩:=hp.mu;exact h
 obtain⟨w1,w2,w3,w4⟩:=g7 hle
 have hlt:q.word < 820:=by omega
 clear hT
 generalize hw:q.word=wd at w1 w2 w3 w4 hlt
 obtain⟨x5,x1,x2,x4,x3,x7,o1,o2,o4,n2,s3⟩:=kh wd (by omega)
 by_cases hS:q.S=1
 .
  rw [show QG c q={ df:=1,tk:=1,phi:=c+5,nb:=q.N } from if_pos hS];have hT:Mv Tryz.prog p.Kf mn (WV v0 Tryz.prog p T mn (s.set { df:=1,tk:=1,phi:=c+5,nb:=q.N })):=bq hs.q;have hn:0 < q.N:=by omega
  refine qr ?_;refine Qt.seq hT (Qt.seq hT ?_);refine qr ?_;refine Qt.op hT rfl (aY (u:=.int .i32 4) rfl rfl rfl (kz (x4.trans (by omega)))) ?_;refine Qt.op hT rfl (aY (u:=.bool true) rfl rfl rfl rfl) ?_;refine qr ?_;refine Qt.cond hT true ?_;refine Qt.seq hT (Qt.seq hT ?_);refine qr ?_;refine Qt.op hT rfl (aY (u:=.int .i32 0) rfl rfl rfl (kz (x3.trans (by omega)))) ?_;refine Qt.op hT rfl (aY (u:=.bool false) rfl rfl rfl rfl) ?_;refine qr ?_;refine cy hT rfl (dO rfl rfl) ?_;refine cy hT rfl (kY (z:=(q.N:Nat)) rfl rfl rfl (by decide) (s3.trans (by rw [w4]))) ?_;refine cy hT rfl (aY (u:=.bool false) rfl rfl rfl (by grind [iQ,decide_eq_false])) ?_;refine Qt.op hT rfl (dW rfl false rfl rfl) ?_;refine qr ?_;refine Qt.cond hT false (Qt.skip hT ?_);refine Qt.seq hT ?_;refine qr ?_;refine Qt.seq hT (Qt.seq hT ?_);refine qr ?_;refine Qt.op hT rfl (NU rfl rfl) ?_;refine qr ?_
  have last:∀(xx:Bool) (z4:Code),(xx=false->2≤q.N)->Qt (WV v0 Tryz.prog p T mn (s.set { df:=1,tk:=1,phi:=c+5,nb:=q.N })) v2 (base 98) cs 139 [] (.code Vt:: .code z4::LU) [(0,.pointer (some p.muA)),(9,.int .i32 (cond xx (-11) (-7)))]:=λxx z4 hx=>by
   refine Qt.seq hT ?_;refine qr ?_;refine Qt.op hT rfl (gi rfl rfl) ?_;refine Qt.op hT rfl (bF (k:=0) rfl nQ rfl) ?_;refine qr ?_;refine LS hok hs xx rfl hn hx rfl rfl rfl rfl λv3 u=>?_;replace hT:Mv Tryz.prog p.Kf mn (WV v0 Tryz.prog p T mn (s.set { df:=1,hd:=1,phi:=c+4 })):=bq hs.q;refine qr ?_;refine Qt.exit hT rfl ?_;exact Qt.base _ (hget v3)
  cases st with
  |true=>
   refine cy hT rfl (dO rfl rfl) ?_;refine cy hT rfl (kY (z:=(q.N:Nat)) rfl rfl rfl (by decide) (s3.trans (by rw [w4]))) ?_;refine cy hT rfl (aY (u:=.bool (decide (q.N=1))) rfl rfl rfl (by simp only [iQ];congr 2;grind)) ?_;refine Qt.op hT rfl (dW rfl false rfl rfl) ?_;refine qr ?_;refine vz hT (decide (q.N=1)) [(0,.pointer (some p.muA)),(9,.int .i32 (cond (decide (q.N=1)) (-11) (-7)))] rfl (λe hk=>?_) (λe hk=>?_) ?_
   .rw [e] at hk;refine qr ?_;refine Qt.op hT rfl (aY (u:=.int .i32 (-11)) rfl rfl rfl rfl) ?_;refine qr ?_;exact Qt.base _ hk
   .rw [e] at hk;exact Qt.skip hT (Qt.base _ hk)
   exact last _ _ λe=>by grind
  |false=>
   refine bR hT rfl ?_;refine bR hT rfl ?_;refine bR hT rfl ?_;refine Qt.op hT rfl (dW rfl true rfl rfl) ?_;refine qr ?_;refine Qt.cond hT true ?_;refine qr ?_;refine Qt.op hT rfl (aY (u:=.int .i32 (-11)) rfl rfl rfl rfl) ?_;refine qr ?_;exact Qt.base _ (last true _ λe=>by cases e)
 .
  rw [show QG c q=qO c true q.word q.f from if_neg hS,hw];have hT:Mv Tryz.prog p.Kf mn (WV v0 Tryz.prog p T mn (s.set (qO c true wd q.f))):=bq hs.q;refine qr ?_;refine Qt.seq hT (Qt.seq hT ?_);refine qr ?_;refine Qt.op hT rfl (aY (u:=.int .i32 0) rfl rfl rfl (kz (x4.trans (by omega)))) ?_;refine Qt.op hT rfl (aY (u:=.bool false) rfl rfl rfl rfl) ?_;refine qr ?_;refine Qt.cond hT false (Qt.skip hT ?_);refine Qt.seq hT ?_;refine qr ?_;refine Qt.inBlock hT (Qt.inLoop hT ?_);exact Qt.base _ (hl v2 wd q.f (by omega) ⟨hlt,λ_=>rfl,λ_=>by omega⟩)
theorem Ak(hok:p.Ok)(hs:s.Run){v:VW}{c φ φ' nw:Nat}{ow:Nat}{st aw z:Bool}{W it:Int}(hφ:φ' < φ)
 (hget:∀v',Qt (WV v0 Tryz.prog p T mn (s.set { df:=1,hd:=1,phi:=c+4 })) v' (base 98) cs 139 [] [.code jv] [(0,.pointer (some p.muA))])
 (hl:∀v' st' ow' φ',φ' < φ->od ow' st' true->Qt (WV v0 Tryz.prog p T mn (s.set (qO c true ow' φ'))) v' (base 98) cs 139 [] [.code iJ,.inLoop iJ,.inBlock 0,.code jv] (yn p W st' true 0 ow')):
 Qt (WV v0 Tryz.prog p T mn (s.set { df:=1,qu:=1,phi:=c+4,se:=some (nw,φ') })) v (base 98) cs 139 [] (.code Rj::LU) ((8,.bool z)::yn p W st aw it ow):=by
 have hT:Mv Tryz.prog p.Kf mn (WV v0 Tryz.prog p T mn (s.set { df:=1,qu:=1,phi:=c+4,se:=some (nw,φ') })):=bq hs.q
 refine Qt.seq hT ?_
 refine qr ?_
 refine Qt.op hT rfl (gi rfl rfl) ?_
 refine Qt.op hT rfl (bF (k:=1) rfl ID rfl) ?_
 refine qr ?_
 refine Nk hok hs rfl rfl rfl rfl rfl Tryz.func111 (by kernel_rfl) (by kernel_rfl) (by kernel_rfl) (by kernel_rfl) rfl { df:=1,tk:=1,phi:=c+5,se:=some (nw,φ') } ⟨rfl,rfl⟩ (λq hp hq=>ON hs hq) λv1=>?_
 replace hT:Mv Tryz.prog p.Kf mn (WV v0 Tryz.prog p T mn (s.set { df:=1,tk:=1,phi:=c+5,se:=some (nw,φ') })):=bq hs.q
 refine qr ?_
 refine Qt.seq hT ?_
 refine qr ?_
 cases st with
 |true=>
  refine bR hT rfl ?_;refine bR hT rfl ?_;refine bR hT rfl ?_;refine bR hT rfl ?_;refine Qt.op hT rfl (dW rfl true rfl rfl) ?_;refine qr ?_;exact Qt.base _ (Aj (st:=true) hok hs hφ hget λv' ow' φ'=>hl v' true ow' φ')
 |false=>
  refine HL hs (λa ha=>G6 ha rfl rfl rfl rfl) rfl rfl λv2 n=>?_;refine cy hT rfl (dO rfl rfl) ?_;refine cy hT rfl (aY rfl rfl rfl rfl) ?_;refine cy hT rfl (aY rfl rfl rfl rfl) ?_;refine Qt.op hT rfl (dW rfl false rfl rfl) ?_;refine qr ?_;exact Qt.base _ (Aj (st:=_) hok hs hφ hget λv' ow' φ'=>hl v' _ ow' φ')
theorem LO(hok:p.Ok)(hs:s.Run){v:VW}{c φ φ' nw:Nat}{ow:Nat}{st aw:Bool}{W it:Int}(hφ:φ' < φ)
 (hget:∀v',Qt (WV v0 Tryz.prog p T mn (s.set { df:=1,hd:=1,phi:=c+4 })) v' (base 98) cs 139 [] [.code jv] [(0,.pointer (some p.muA))])
 (hl:∀v' W' st' ow' φ',φ' < φ->od ow' st' true->Qt (WV v0 Tryz.prog p T mn (s.set (qO c true ow' φ'))) v' (base 98) cs 139 [] [.code iJ,.inLoop iJ,.inBlock 0,.code jv] (yn p W' st' true 0 ow')):
 Qt (WV v0 Tryz.prog p T mn (s.set { df:=1,qu:=1,phi:=c+4,se:=some (nw,φ') })) v (base 98) cs 139 [] (.code T9::LU) (yn p W st aw it ow):=by
 have hT:Mv Tryz.prog p.Kf mn (WV v0 Tryz.prog p T mn (s.set { df:=1,qu:=1,phi:=c+4,se:=some (nw,φ') })):=bq hs.q
 refine Qt.seq hT ?_
 refine qr ?_
 refine Qt.op hT rfl (aY rfl rfl rfl rfl) ?_
 refine qr ?_
 refine Qt.seq hT (Qt.seq hT ?_)
 refine qr ?_
 refine Qt.op hT rfl (aY rfl rfl rfl rfl) ?_
 refine qr ?_
 by_cases h0:W=0
 .
  refine Qt.cond hT true ?_ (congrArg (λz=>some (Value.bool z)) (decide_eq_true h0));refine qr ?_;refine HL hs (λa ha=>ag rfl _) rfl rfl λv2 n=>?_;refine qr ?_;exact Qt.base _ (Ak hok hs hφ hget λv' st' ow' φ'=>hl v' n st' ow' φ')
 .
  refine Qt.cond hT false ?_ (congrArg (λz=>some (Value.bool z)) (decide_eq_false h0));refine Qt.skip hT ?_;exact Qt.base _ (Ak hok hs hφ hget λv' st' ow' φ'=>hl v' W st' ow' φ')
end
end Go.Proofs.YtflilincnacbpaaGreat
set_option linter.unusedVariables false
set_option maxRecDepth 20000
set_option maxHeartbeats 4000000
namespace Go.Proofs.YtflilincnacbpaaGreat
open K Go Go.Proofs Go.Conc Go.Conc.Lib
section
variable {p:Gp}{T:Tq}{mn:Bool}{s:Ph}{v0:VW}{cs:List Frame}
abbrev CG(v0:VW)(p:Gp)(T:Tq)(mn:Bool)(s:Ph)(cs:List Frame)(c:Nat)(v:VW)(W:Int)(st aw:Bool)(it:Int)(ow φ:Nat):Prop:=
 Qt (WV v0 Tryz.prog p T mn (s.set (qO c aw ow φ))) v (base 98) cs 139 [] [.code iJ,.inLoop iJ,.inBlock 0,.code jv] (yn p W st aw it ow)
theorem rH(hok:p.Ok)(hs:s.Run){v:VW}{c ow1 φ1 ow:Nat}{st aw:Bool}{W it:Int}{X:Code}(h0:0≤it)(h4:it < 4)(hst:st=true->aw=true)
 (hl:∀v' ow' φ',φ'≤φ1->od ow' st aw->CG v0 p T mn s cs c v' W st aw (it+1) ow' φ'):
 Qt (WV v0 Tryz.prog p T mn (s.set (qO c aw ow1 φ1))) v (base 98) cs 139 [] (.code Vs:: .code X::LU) (yn p W st aw it ow):=by
 have hT:Mv Tryz.prog p.Kf mn (WV v0 Tryz.prog p T mn (s.set (qO c aw ow1 φ1))):=bq hs.q
 refine Qt.seq hT ?_
 refine qr ?_
 refine vy hT Ly rfl rfl ?_
 refine qr ?_
 refine Qt.seq hT ?_
 refine qr ?_
 refine Qt.op hT rfl (aY (u:=.int .i64 (it+1)) rfl rfl rfl (by grind [iQ,IntKind.wrap_i64])) ?_
 refine qr ?_
 refine Qt.seq hT ?_
 refine qr ?_
 refine Qt.op hT rfl (gi rfl rfl) ?_
 refine Qt.op hT rfl (bF (k:=0) rfl nQ rfl) ?_
 refine ym hok hs rfl rfl rfl rfl λv2 ow2 φ2 g1 g2 g3=>?_
 replace hT:Mv Tryz.prog p.Kf mn (WV v0 Tryz.prog p T mn (s.set (qO c aw ow2 φ2))):=bq hs.q
 refine qr ?_
 refine Qt.exit hT rfl (Qt.inLoop hT ?_)
 exact Qt.base _ (hl v2 ow2 φ2 (g1 _ _ rfl) ⟨g2,hst,g3⟩)
theorem LQ(hok:p.Ok)(hs:s.Run){v:VW}{c ow φ:Nat}{st aw:Bool}{W it:Int}{X:Code}(ho:od ow st aw)(h0:0≤it)(h4:it < 4)(hL:ow % 2=1)(hS:ow / 4 % 2=0)
 (hl:∀v' aw' ow' φ',φ'≤φ->od ow' st aw'->CG v0 p T mn s cs c v' W st aw' (it+1) ow' φ') {C1:Code} (hC:∃r5 C2,iJ= .block 1 (.seq (.seq r5 (.cond (.tmp 20) C1 .skip)) C2)):
 Qt (WV v0 Tryz.prog p T mn (s.set (qO c aw ow φ))) v (base 98) cs 139 [] (.code C1:: .code X::LU) (yn p W st aw it ow):=by
 obtain⟨r5,C2,hC⟩:=hC
 have hC1:C1=match iJ with
  | .block _ (.seq (.seq _ (.cond _ s _)) _)=>s
  |_=>.skip:=by rw [hC]
 subst hC1
 clear hC
 have hT:Mv Tryz.prog p.Kf mn (WV v0 Tryz.prog p T mn (s.set (qO c aw ow φ))):=bq hs.q
 have hlt:=ho.lt
 obtain⟨x5,x1,x2,x4,x3,x7,o1,o2,o4,n2,s3⟩:=kh ow (by omega)
 refine Qt.seq hT (Qt.seq hT ?_)
 refine qr ?_
 refine Qt.op hT rfl (NU rfl rfl) ?_
 refine qr ?_
 cases aw with
 |true=>
  refine bR hT rfl ?_;refine bR hT rfl ?_;refine bR hT rfl ?_;refine Qt.op hT rfl (dW rfl false rfl rfl) ?_;refine qr ?_;refine bR hT rfl ?_;refine bR hT rfl ?_;refine bR hT rfl ?_;refine Qt.op hT rfl (dW rfl false rfl rfl) ?_;refine qr ?_;refine bR hT rfl ?_;refine bR hT rfl ?_;refine bR hT rfl ?_;refine bR hT rfl ?_;refine bR hT rfl ?_;refine bR hT rfl ?_;refine bR hT rfl ?_;refine Qt.op hT rfl (dW rfl false rfl rfl) ?_;refine qr ?_;refine Qt.cond hT false (Qt.skip hT ?_);exact Qt.base _ (rH hok hs h0 h4 ho.st λv' ow' φ' hφ hw=>hl v' true ow' φ' hφ hw)
 |false=>
  refine cy hT rfl (dO rfl rfl) ?_;by_cases hW:ow / 2 % 2=0
  .refine cy hT rfl (aY (u:=.int .i32 0) rfl rfl rfl (kz (x2.trans (by omega)))) ?_;refine cy hT rfl (aY (u:=.bool true) rfl rfl rfl rfl) ?_;refine Qt.op hT rfl (dW rfl true rfl rfl) ?_;refine qr ?_;refine cy hT rfl (dO rfl rfl) ?_;refine cy hT rfl (kY (z:=(ow / 8:Nat)) rfl rfl rfl (by decide) s3) ?_;by_cases hN:ow / 8=0
   .refine cy hT rfl (aY (u:=.bool false) rfl rfl rfl (by simp only [iQ];rw [decide_eq_true (by omega)];rfl)) ?_;refine Qt.op hT rfl (dW rfl true rfl rfl) ?_;refine qr ?_;refine bR hT rfl ?_;refine bR hT rfl ?_;refine bR hT rfl ?_;refine bR hT rfl ?_;refine bR hT rfl ?_;refine bR hT rfl ?_;refine bR hT rfl ?_;refine Qt.op hT rfl (dW rfl false rfl rfl) ?_;refine qr ?_;refine Qt.cond hT false (Qt.skip hT ?_);exact Qt.base _ (rH hok hs h0 h4 ho.st λv' ow' φ' hφ hw=>hl v' false ow' φ' hφ hw)
   .refine cy hT rfl (aY (u:=.bool true) rfl rfl rfl (by grind [iQ,decide_eq_false])) ?_;refine Qt.op hT rfl (dW rfl true rfl rfl) ?_;refine qr ?_;refine cy hT rfl (dO rfl rfl) ?_;refine cy hT rfl (gi rfl rfl) ?_;refine cy hT rfl (bF (k:=0) rfl nQ rfl) ?_;refine cy hT rfl (dO rfl rfl) ?_;refine cy hT rfl (dO rfl rfl) ?_;refine cy hT rfl (aY (u:=.int .i32 ((ow+2:Nat):Int)) rfl rfl rfl (kz (o2.trans (by omega)))) ?_
    refine ul hok hs rfl rfl (le_of_ble_eq_true rfl) rfl (ow:=ow) (nw:=ow+2) rfl rfl (λa ha=>G6 ha rfl rfl rfl rfl) Tryz.func97 (by kernel_rfl) (by kernel_rfl) (by kernel_rfl) (by kernel_rfl) rfl rfl rfl
     (λφ'=>qO c true (ow+2) φ') (λx=>⟨rfl,rfl⟩) (λq=>{ q with W:=1,f:=q.f - 1 }) (λq hp e=>?_) (λv' φ' hφ=>?_) λv' ow' φ' hφ=>?_
    .have hf:=wO hp;have hf:0 < q.f:=by grind
     have hle:=kp hp;obtain⟨w1,w2,w3,w4⟩:=g7 hle;rw [e] at w1 w2 w3 w4;refine⟨?_,⟨rfl,rfl,rfl,rfl,rfl,rfl⟩,rfl,by grind,KQ hs e hL hW hS hle hf⟩;grind
    .have hφ:=hφ φ rfl;replace hT:Mv Tryz.prog p.Kf mn (WV v0 Tryz.prog p T mn (s.set (qO c true (ow+2) φ'))):=bq hs.q;refine Qt.op hT rfl (dW rfl true rfl rfl) ?_;refine qr ?_;refine Qt.cond hT true ?_;refine qr ?_;exact Qt.base _ (rH (aw:=true) hok hs h0 h4 (λ_=>rfl) λv' ow' φ2 hφ2 hw=>hl v' true ow' φ2 (by omega) hw)
    .have hφ:=hφ φ rfl;replace hT:Mv Tryz.prog p.Kf mn (WV v0 Tryz.prog p T mn (s.set (qO c false ow' φ'))):=bq hs.q;refine Qt.op hT rfl (dW rfl true rfl rfl) ?_;refine qr ?_;refine Qt.cond hT false (Qt.skip hT ?_);exact Qt.base _ (rH (aw:=false) hok hs h0 h4 ho.st λv' ow' φ2 hφ2 hw=>hl v' false ow' φ2 (by omega) hw)
  .refine cy hT rfl (aY (u:=.int .i32 2) rfl rfl rfl (kz (x2.trans (by omega)))) ?_;refine cy hT rfl (aY (u:=.bool false) rfl rfl rfl rfl) ?_;refine Qt.op hT rfl (dW rfl true rfl rfl) ?_;refine qr ?_;refine bR hT rfl ?_;refine bR hT rfl ?_;refine bR hT rfl ?_;refine Qt.op hT rfl (dW rfl false rfl rfl) ?_;refine qr ?_;refine bR hT rfl ?_;refine bR hT rfl ?_;refine bR hT rfl ?_;refine bR hT rfl ?_;refine bR hT rfl ?_;refine bR hT rfl ?_;refine bR hT rfl ?_;refine Qt.op hT rfl (dW rfl false rfl rfl) ?_;refine qr ?_;refine Qt.cond hT false (Qt.skip hT ?_);exact Qt.base _ (rH hok hs h0 h4 ho.st λv' ow' φ' hφ hw=>hl v' false ow' φ' hφ hw)
theorem D6(hok:p.Ok)(hs:s.Run){v:VW}{c ow φ:Nat}{st aw:Bool}{W it:Int}(hget:∀v',Qt (WV v0 Tryz.prog p T mn (s.set { df:=1,hd:=1,phi:=c+4 })) v' (base 98) cs 139 [] [.code jv] [(0,.pointer (some p.muA))])
 (ho:od ow st aw) (h0:0≤it) (hsp:it < 4->∀v' aw' ow' φ',φ'≤φ->od ow' st aw'->CG v0 p T mn s cs c v' W st aw' (it+1) ow' φ')
 (hlow:∀v' W' st' aw' it' ow' φ',φ' < φ->0≤it'->od ow' st' aw'->CG v0 p T mn s cs c v' W' st' aw' it' ow' φ'):CG v0 p T mn s cs c v W st aw it ow φ:=by
 have hT:Mv Tryz.prog p.Kf mn (WV v0 Tryz.prog p T mn (s.set (qO c aw ow φ))):=bq hs.q
 have hlt:=ho.lt
 obtain⟨x5,x1,x2,x4,x3,x7,o1,o2,o4,n2,s3⟩:=kh ow (by omega)
 have on:∀v',Qt (WV v0 Tryz.prog p T mn (s.set (qO c aw ow φ))) v' (base 98) cs 139 [] (.code Tt::LU) (yn p W st aw it ow):=λv'=>
  PM hs ho v' (LN hok hs ho hget (λv2 φ' hφ=>LO hok hs hφ hget λv3 W' st' ow' φ2 h hw=>hlow v3 W' st' true 0 ow' φ2 h (Int.le_refl _) hw) λv2 ow' φ' hφ hw=>hlow v2 W st aw it ow' φ' hφ h0 hw)
 refine Qt.block hT (Qt.seq hT (Qt.seq hT ?_))
 refine qr ?_
 refine Qt.op hT rfl (aY (u:=.int .i32 ((ow % 2+4 * (ow / 4 % 2):Nat):Int)) rfl rfl rfl (kz x5)) ?_
 by_cases hc:ow % 2=1/\ow / 4 % 2=0
 .
  refine Qt.op hT rfl (aY (u:=.bool true) rfl rfl rfl (by simp only [iQ];simp_all)) ?_;refine qr ?_;refine cy hT rfl (dO rfl rfl) ?_;refine O1 hs (λa ha=>G6 ha rfl rfl rfl rfl) rfl rfl rfl λv1 u hu=>?_;refine Qt.op hT rfl (dW rfl true rfl rfl) ?_;refine qr ?_;cases u with
  |true=>
   refine Qt.cond hT true ?_;exact Qt.base _ (LQ hok hs ho h0 (hu rfl) hc.1 hc.2 (hsp (hu rfl)) ⟨_,_,rfl⟩)
  |false=>
   refine Qt.cond hT false (Qt.skip hT ?_);exact Qt.base _ (on v1)
 .
  refine Qt.op hT rfl (aY (u:=.bool false) rfl rfl rfl (by grind [iQ,decide_eq_false])) ?_;refine qr ?_;refine bR hT rfl ?_;refine bR hT rfl ?_;refine Qt.op hT rfl (dW rfl false rfl rfl) ?_;refine qr ?_;refine Qt.cond hT false (Qt.skip hT ?_);exact Qt.base _ (on v)
theorem LR(hok:p.Ok)(hs:s.Run){c:Nat}(hget:∀v',Qt (WV v0 Tryz.prog p T mn (s.set { df:=1,hd:=1,phi:=c+4 })) v' (base 98) cs 139 [] [.code jv] [(0,.pointer (some p.muA))]):
 ∀(φ n:Nat) (v:VW) (W:Int) (st aw:Bool) (it:Int) (ow:Nat),0≤it->4≤it+n->od ow st aw->CG v0 p T mn s cs c v W st aw it ow φ:=by
 intro φ
 induction φ using Nat.strongRecOn with
 |_ φ ih=>
  have low:∀v' W' st' aw' it' ow' φ',φ' < φ->0≤it'->od ow' st' aw'->CG v0 p T mn s cs c v' W' st' aw' it' ow' φ':=λv' W' st' aw' it' ow' φ' h h0 hw=>ih φ' h 4 v' W' st' aw' it' ow' h0 (by omega) hw;intro n
  induction n with
  |zero=>
   intro v W st aw it ow h0 hn ho;exact D6 hok hs hget ho h0 (λh=>by omega) low
  |succ n ihn=>
   intro v W st aw it ow h0 hn ho;refine D6 hok hs hget ho h0 (λh v' aw' ow' φ' hφ hw=>?_) low;grind
theorem LP(hok:p.Ok)(hs:s.Run){c:Nat}{c1:Frame}{cs:List Frame}(hk:∀v',GV v0 Tryz.prog p T mn (s.set { hd:=1,dt:=1,phi:=c+4 }) v' (c1.finish (.tuple #[])) cs)(v:VW):
 Qt (WV v0 Tryz.prog p T mn (s.set { df:=1,hd:=1,phi:=c+4 })) v (base 98) (c1::cs) 139 [] [.code jv] [(0,.pointer (some p.muA))]:=by
 have hT:Mv Tryz.prog p.Kf mn (WV v0 Tryz.prog p T mn (s.set { df:=1,hd:=1,phi:=c+4 })):=bq hs.q
 refine Qt.cond hT true ?_
 refine Qt.seq hT ?_
 refine qr ?_
 refine iy (vu (l:={ df:=1,hd:=1,phi:=c+4 }) (l':={ hd:=1,phi:=c+4 }) hok hs (.inr rfl) rfl rfl) IE rfl rfl ?_
 replace hT:Mv Tryz.prog p.Kf mn (WV v0 Tryz.prog p T mn (s.set { hd:=1,phi:=c+4 })):=bq hs.q
 refine qr ?_
 refine Qt.op hT rfl (jK rfl (so (n:=1) Tryz.underlying159 Tryz.underlying147 Tryz.sizeOf89) rfl) ?_
 refine EK hok hs IG rfl rfl rfl λv1=>?_
 replace hT:Mv Tryz.prog p.Kf mn (GV v0 Tryz.prog p T mn (s.set { hd:=1,dt:=1,phi:=c+4 })):=sb hs.q
 refine qr ?_
 exact Qt.fin hT (dF hT rfl Tryz.func98 rfl (hk v1))
end
section
variable {p:Gp}{T:Tq}{mn:Bool}{s:Ph}{v0:VW}{cs:List Frame}{c1:Frame}
theorem Ai(hok:p.Ok)(hs:s.Run){c:Nat}(hk:∀v',GV v0 Tryz.prog p T mn (s.set { hd:=1,dt:=1,phi:=c+4 }) v' (c1.finish (.tuple #[])) cs)(v:VW):
 Qt (WV v0 Tryz.prog p T mn (s.set { phi:=c+6 })) v (base 41) (c1::cs) 6 [] [.code (Tryz.f41.body.getD .skip)] (ent 0 [.pointer (some p.muA)]):=by
 have hT:Mv Tryz.prog p.Kf mn (WV v0 Tryz.prog p T mn (s.set { phi:=c+6 })):=bq hs.q
 refine qr ?_
 refine Qt.op hT rfl (gi rfl rfl) ?_
 refine Qt.op hT rfl (bF (k:=0) rfl IC rfl) ?_
 refine Qt.call (cZ:=[.pointer (some p.muA)]) hT rfl rfl Tryz.func68 (by kernel_rfl) rfl rfl λc2 hk2=>?_
 have out:∀v'',GV v0 Tryz.prog p T mn (s.set { hd:=1,dt:=1,phi:=c+4 }) v'' (c2.finish (.tuple #[])) (c1::cs):=λv''=>by
  have hT:Mv Tryz.prog p.Kf mn (GV v0 Tryz.prog p T mn (s.set { hd:=1,dt:=1,phi:=c+4 })):=sb hs.q;exact hk2 _ v'' _ (qr (Qt.fin hT (dF hT rfl Tryz.func41 rfl (hk v''))))
 refine Qt.seq hT ?_
 refine qr ?_
 refine iy (vu (l:={ phi:=c+6 }) (l':={ df:=1,phi:=c+6 }) hok hs (.inl rfl) rfl rfl) IF rfl rfl ?_
 replace hT:Mv Tryz.prog p.Kf mn (WV v0 Tryz.prog p T mn (s.set { df:=1,phi:=c+6 })):=bq hs.q
 refine qr ?_
 refine Qt.seq hT (Qt.seq hT ?_)
 refine qr ?_
 refine Qt.op hT rfl (gi rfl rfl) ?_
 refine Qt.op hT rfl (bF (k:=0) rfl nQ rfl) ?_
 refine ul hok hs rfl rfl (le_of_ble_eq_true rfl) rfl (ow:=0) (nw:=1) rfl rfl (λa ha=>ag rfl _) Tryz.func97 (by kernel_rfl) (by kernel_rfl) (by kernel_rfl) (by kernel_rfl) rfl rfl rfl
  (λφ'=>{ df:=1,hd:=1,phi:=c+4 }) (λx=>⟨rfl,rfl⟩) (λq=>{ q with L:=1,f:=q.f - 1 }) (λq hp e=>?_) (λv' φ' hφ=>?_) λv' ow' φ' hφ=>?_
 .
  have hf:=wO hp;have hf:0 < q.f:=by grind
  refine⟨?_,⟨rfl,rfl,rfl,rfl,rfl,rfl⟩,rfl,by grind,KX (φ:=0) hs e hf⟩;grind
 .
  replace hT:Mv Tryz.prog p.Kf mn (WV v0 Tryz.prog p T mn (s.set { df:=1,hd:=1,phi:=c+4 })):=bq hs.q;refine qr ?_;refine Qt.cond hT true ?_;refine Qt.seq hT (Qt.cond hT true ?_);refine Qt.seq hT ?_;refine qr ?_;refine iy (vu (l:={ df:=1,hd:=1,phi:=c+4 }) (l':={ hd:=1,phi:=c+4 }) hok hs (.inr rfl) rfl rfl) IE rfl rfl ?_;replace hT:Mv Tryz.prog p.Kf mn (WV v0 Tryz.prog p T mn (s.set { hd:=1,phi:=c+4 })):=bq hs.q;refine qr ?_;refine Qt.op hT rfl (jK rfl (so (n:=1) Tryz.underlying159 Tryz.underlying147 Tryz.sizeOf89) rfl) ?_;refine EK hok hs IG rfl rfl rfl λv1=>?_;replace hT:Mv Tryz.prog p.Kf mn (GV v0 Tryz.prog p T mn (s.set { hd:=1,dt:=1,phi:=c+4 })):=sb hs.q;refine qr ?_;exact Qt.ret hT (dF hT rfl Tryz.func68 rfl (out v1))
 .
  replace hT:Mv Tryz.prog p.Kf mn (WV v0 Tryz.prog p T mn (s.set { df:=1,phi:=c+6,se:=some (ow',φ') })):=bq hs.q;refine qr ?_;refine Qt.cond hT false (Qt.skip hT ?_);refine qr ?_;refine Qt.call (cZ:=[.pointer (some p.muA)]) hT rfl rfl Tryz.func98 (by kernel_rfl) rfl rfl λc3 hk3=>?_
  have hget:=λv'=>LP (v0:=v0) (p:=p) (T:=T) (mn:=mn) (c:=c) hok hs (c1:=c3) (cs:=c2::c1::cs) (λv''=>by
   have hT:Mv Tryz.prog p.Kf mn (GV v0 Tryz.prog p T mn (s.set { hd:=1,dt:=1,phi:=c+4 })):=sb hs.q;exact hk3 _ v'' _ (qr (Qt.fin hT (dF hT rfl Tryz.func68 rfl (out v''))))) v'
  refine Qt.seq hT ?_;refine qr ?_;refine Qt.seq hT ?_;refine qr ?_;refine Qt.seq hT ?_;refine qr ?_;refine Qt.seq hT ?_;refine qr ?_;refine Qt.seq hT ?_;refine qr ?_;refine Qt.op hT rfl (gi rfl rfl) ?_;refine Qt.op hT rfl (bF (k:=0) rfl nQ rfl) ?_;refine ym (aw:=false) hok hs rfl rfl rfl rfl λv2 ow2 φ2 g1 g2 g3=>?_;replace hT:Mv Tryz.prog p.Kf mn (WV v0 Tryz.prog p T mn (s.set (qO c false ow2 φ2))):=bq hs.q;refine qr ?_;refine Qt.seq hT (Qt.block hT (Qt.loop hT ?_));exact Qt.base _ (LR hok hs hget φ2 4 v2 0 false false 0 ow2 (Int.le_refl _) (by decide) ⟨g2,λe=>(by cases e),λe=>(by cases e)⟩)
end
