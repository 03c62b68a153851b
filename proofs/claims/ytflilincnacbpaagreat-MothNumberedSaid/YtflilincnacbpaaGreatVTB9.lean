import Derived.Test.YtflilincnacbpaaGreatVTB8
open Nat
open List hiding mem_of_getElem?
open Array hiding mem_of_getElem? mk
set_option linter.unusedSimpArgs false
set_option linter.unusedVariables false
set_option maxRecDepth 20000
set_option maxHeartbeats 4000000
namespace Go.Proofs.YtflilincnacbpaaGreat
open K Go Go.Proofs Go.Conc Go.Conc.Lib
noncomputable def xM:Code:=match Tryz.f100.body with
 |some (.seq _ (.seq _ (.cond _ (.seq _ (.block _ (.loop b))) _)))=>b
 |_=>.skip
@[reducible] def U6(p:Gp)(ow:Nat):Gv:=[(0,.pointer (some p.muA)),(4,.int .i32 (ow:Int))]
section
variable {p:Gp}{T:Tq}{mn:Bool}{s:Ph}{v0:VW}{cs:List Frame}{c1:Frame}
theorem J1(hs:s.Run){v:VW}{b:Frame}(hb:(Tryz.prog.funcs[b.fn]?).any (·.norace)=true){l:sf}{N d i:Nat}{Γ:Gv}{ops:Array Oper}{rest:List Nat}{k:List Item}{o:Oper}{x:Operand}{df:List Deferred}
 (ho:ops[i]? =some o) (hop:o.op= .load 21 x) (hx:ev Γ x=some (.pointer (some p.muA)))
 (h:∀v' u,Qt (GV v0 Tryz.prog p T mn (s.set l)) v' b cs N df (.inRegion ops rest::k) ((d,u)::Γ))
 (hg:o.guard=none:=by exact rfl) (hd:o.dst=some d:=by exact rfl) (hN:blt d N=true:=by exact rfl) (hk:b.kind≠.early:=by exact λh=>nomatch h):
 Qt (GV v0 Tryz.prog p T mn (s.set l)) v b cs N df (.inRegion ops (i::rest)::k) Γ:=λa ha hv hA hR=>
 Ww.own hs.q λv1 hr hkf=>by
  obtain⟨u,y,hm⟩:=hkf.mu
  have hc:v1.toWorld.cell? p.muA=some u:=by simp [World.cell?,Gp.muA,hm]
  have:=Ed (P:=Tryz.prog) (main:=mn) (w:=v1.toWorld) (b:=b) (cs:=cs) (k:=k) (rest:=rest) ho (ag hg _) hk hop hb Tryz.isAgg21 (ha.ev hx) hc
  rw [hd] at this
  refine⟨_,_,v1.toWorld, #[],this,(eP.refl v1).k,λ_=>rfl,h v1 u _ (ha.put hN) (hv.rely hr) (λe=>hA ((hr.old _ e).elim id λx=>by simp_all)) ?_⟩
  obtain⟨o,ho,hro⟩:=hR
  exact⟨o,(hr.keep _ hv.2.2 hA).trans ho,hro⟩
theorem Hh(hs:s.Run){c ow:Nat}(hlt:ow < 820)(h:ow / 8=0\/ow % 8≠0)(hk:∀v',WV v0 Tryz.prog p T mn (s.set { df:=1,phi:=c }) v' (c1.finish (.tuple #[])) cs)(v:VW):
 Qt (WV v0 Tryz.prog p T mn (s.set { df:=1,phi:=c })) v (base 100) (c1::cs) 43 [] [.code xM,.inLoop xM,.inBlock 0] (U6 p ow):=by
 have hT:Mv Tryz.prog p.Kf mn (WV v0 Tryz.prog p T mn (s.set { df:=1,phi:=c })):=bq hs.q
 obtain⟨x5,x1,x2,x4,x3,x7,o1,o2,o4,n2,s3⟩:=kh ow (by omega)
 refine Qt.block hT (Qt.seq hT (Qt.seq hT ?_))
 refine qr ?_
 refine Qt.op hT rfl (kY (z:=(ow / 8:Nat)) rfl rfl rfl (by decide) s3) ?_
 by_cases h0:ow / 8=0
 .
  refine Qt.op hT rfl (aY (u:=.bool true) rfl rfl rfl (by simp only [iQ];rw [decide_eq_true (by omega)])) ?_;refine qr ?_;refine bR hT rfl ?_;refine bR hT rfl ?_;refine bR hT rfl ?_;refine Qt.op hT rfl (dW rfl true rfl rfl) ?_;refine qr ?_;refine Qt.cond hT true ?_;exact Qt.ret hT (dF hT rfl Tryz.func100 rfl (hk v))
 .
  refine Qt.op hT rfl (aY (u:=.bool false) rfl rfl rfl (by grind [iQ,decide_eq_false])) ?_;refine qr ?_;refine cy hT rfl (dO rfl rfl) ?_;refine cy hT rfl (aY (u:=.int .i32 ((ow % 8:Nat):Int)) rfl rfl rfl (kz x7)) ?_;refine cy hT rfl (aY (u:=.bool true) rfl rfl rfl (by grind [iQ,decide_eq_false])) ?_;refine Qt.op hT rfl (dW rfl false rfl rfl) ?_;refine qr ?_;refine Qt.cond hT true ?_;exact Qt.ret hT (dF hT rfl Tryz.func100 rfl (hk v))
theorem KH(hok:p.Ok)(hs:s.Run){c:Nat}(hk:∀v',WV v0 Tryz.prog p T mn (s.set { df:=1,phi:=c }) v' (c1.finish (.tuple #[])) cs):∀(φ:Nat) (v:VW) (ow:Nat),ow < 820->ow % 8=0->0 < ow->
 Qt (WV v0 Tryz.prog p T mn (s.set { df:=1,ty:=1,phi:=c+3,se:=some (ow,φ) })) v (base 100) (c1::cs) 43 [] [.code xM,.inLoop xM,.inBlock 0] (U6 p ow):=by
 intro φ
 induction φ using Nat.strongRecOn with
 |_ φ ih=>
  intro v ow hlt h8 hp0;have hT:Mv Tryz.prog p.Kf mn (WV v0 Tryz.prog p T mn (s.set { df:=1,ty:=1,phi:=c+3,se:=some (ow,φ) })):=bq hs.q;obtain⟨x5,x1,x2,x4,x3,x7,o1,o2,o4,n2,s3⟩:=kh ow (by omega);obtain⟨_,_,_,_,_,_,_,o2',_,_,_⟩:=kh (ow - 8) (by omega);refine Qt.block hT (Qt.seq hT (Qt.seq hT ?_));refine qr ?_;refine Qt.op hT rfl (kY (z:=(ow / 8:Nat)) rfl rfl rfl (by decide) s3) ?_;refine Qt.op hT rfl (aY (u:=.bool false) rfl rfl rfl (by grind [iQ,decide_eq_false])) ?_;refine qr ?_;refine cy hT rfl (dO rfl rfl) ?_;refine cy hT rfl (aY (u:=.int .i32 0) rfl rfl rfl (kz (x7.trans (by omega)))) ?_;refine cy hT rfl (aY (u:=.bool false) rfl rfl rfl rfl) ?_;refine Qt.op hT rfl (dW rfl false rfl rfl) ?_;refine qr ?_;refine Qt.cond hT false (Qt.skip hT ?_);refine Qt.seq hT ?_;refine qr ?_;refine Qt.op hT rfl (aY (u:=.int .i32 ((ow - 8:Nat):Int)) rfl rfl rfl (kz (by grind [wrap_i32_small]))) ?_;refine Qt.op hT rfl (aY (u:=.int .i32 ((ow - 8+2:Nat):Int)) rfl rfl rfl (kz (o2'.trans (by omega)))) ?_;refine qr ?_;refine Qt.seq hT (Qt.seq hT ?_);refine qr ?_;refine Qt.op hT rfl (gi rfl rfl) ?_;refine Qt.op hT rfl (bF (k:=0) rfl nQ rfl) ?_;refine qr ?_
  refine ul hok hs rfl rfl (le_of_ble_eq_true rfl) rfl (ow:=ow) (nw:=ow - 8+2) rfl rfl (λa ha=>ag rfl _) Tryz.func97 (by kernel_rfl) (by kernel_rfl) (by kernel_rfl) (by kernel_rfl) rfl rfl rfl
   (λφ'=>{ df:=1,rn:=1,phi:=c+2 }) (λx=>⟨rfl,rfl⟩) TR (λq hp e=>?_) (λv' φ' hφ=>?_) λv' ow' φ' hφ=>?_
  .have hf:=wO hp;have hf:0 < q.f:=by grind
   obtain⟨g1,g2⟩:=KP (p:=p) (mn:=mn) (c:=c) (φ:=φ) hs e h8 hp0 (kp hp) hf;grind
  .replace hT:Mv Tryz.prog p.Kf mn (WV v0 Tryz.prog p T mn (s.set { df:=1,rn:=1,phi:=c+2 })):=bq hs.q;refine qr ?_;refine Qt.cond hT true ?_;refine Qt.seq hT ?_;refine qr ?_;refine Qt.op hT rfl (gi rfl rfl) ?_;refine Qt.op hT rfl (bF (k:=1) rfl ID rfl) ?_;refine EH hok hs rfl rfl rfl rfl Tryz.func113 (by kernel_rfl) (by kernel_rfl) (by kernel_rfl) (by kernel_rfl) rfl { df:=1,phi:=c } ⟨rfl,rfl⟩ (λq hp=>OP hs) λv2=>?_;replace hT:Mv Tryz.prog p.Kf mn (WV v0 Tryz.prog p T mn (s.set { df:=1,phi:=c })):=bq hs.q;refine qr ?_;exact Qt.ret hT (dF hT rfl Tryz.func100 rfl (hk v2))
  .have hφ:=hφ φ rfl;replace hT:Mv Tryz.prog p.Kf mn (WV v0 Tryz.prog p T mn (s.set { df:=1,ty:=1,phi:=c+3,se:=some (ow',φ') })):=bq hs.q;refine qr ?_;refine Qt.cond hT false (Qt.skip hT ?_);refine qr ?_;refine Qt.op hT rfl (gi rfl rfl) ?_;refine Qt.op hT rfl (bF (k:=0) rfl nQ rfl) ?_;refine vt hok hs rfl (zero_le _) rfl rfl LA Tryz.isAgg21 rfl (QF c) (λq=>by grind) (λq hp=>OM hs (kp hp)) λv2 q hp=>?_;have hle:=kp hp;have hqf:q.f≤φ':=by obtain⟨_,_,_,h,_⟩:=hp.mu;simp_all
   have hN:q.N≤101:=by obtain⟨_,_,_,_,_,_,h,_⟩:=hp.mu;exact h
   have hlt2:q.word < 820:=by grind
   have hN2:q.word / 8=q.N:=(g7 hle).2.2.2;by_cases e:q.word % 8=0/\0 < q.N
   .rw [show QF c q={ df:=1,ty:=1,phi:=c+3,se:=some (q.word,q.f) } from if_pos e];replace hT:Mv Tryz.prog p.Kf mn (WV v0 Tryz.prog p T mn (s.set { df:=1,ty:=1,phi:=c+3,se:=some (q.word,q.f) })):=bq hs.q;refine qr ?_;refine Qt.inBlock hT (Qt.inLoop hT ?_);exact Qt.base _ (ih q.f (by omega) v2 q.word hlt2 e.1 (by omega))
   .rw [show QF c q={ df:=1,phi:=c } from if_neg e];replace hT:Mv Tryz.prog p.Kf mn (WV v0 Tryz.prog p T mn (s.set { df:=1,phi:=c })):=bq hs.q;refine qr ?_;refine Qt.inBlock hT (Qt.inLoop hT ?_);exact Qt.base _ (Hh hs hlt2 (by omega) hk v2)
theorem wG(hok:p.Ok)(hs:s.Run){c:Nat}{c2:Frame}(hk:∀v',WV v0 Tryz.prog p T mn (s.set { phi:=c }) v' (c2.finish (.tuple #[])) cs)(v:VW):
 Qt (GV v0 Tryz.prog p T mn (s.set { hd:=1,dt:=1,phi:=c+4 })) v (base 69) (c2::cs) 21 [] [.code (Tryz.f69.body.getD .skip)] (ent 0 [.pointer (some p.muA)]):=by
 have hT:Mv Tryz.prog p.Kf mn (GV v0 Tryz.prog p T mn (s.set { hd:=1,dt:=1,phi:=c+4 })):=sb hs.q
 have lst:∀v'' Γ',Qt (WV v0 Tryz.prog p T mn (s.set { df:=1,phi:=c })) v'' (base 69) (c2::cs) 21 [] [.code (match Tryz.f69.body with |some (.seq _ (.seq _ (.seq _ x)))=>x |_=>.skip)] Γ':=λv'' Γ'=>by
  have hT:Mv Tryz.prog p.Kf mn (WV v0 Tryz.prog p T mn (s.set { df:=1,phi:=c })):=bq hs.q;refine qr ?_;refine iy (vu (l:={ df:=1,phi:=c }) (l':={ phi:=c }) hok hs (.inr rfl) rfl rfl) IE rfl rfl ?_;replace hT:Mv Tryz.prog p.Kf mn (WV v0 Tryz.prog p T mn (s.set { phi:=c })):=bq hs.q;refine qr ?_;exact Qt.fin hT (dF hT rfl Tryz.func69 rfl (hk v''))
 refine Qt.seq hT ?_
 refine Qt.cond hT true ?_
 refine Qt.seq hT ?_
 refine qr ?_
 refine Qt.op hT rfl (gi rfl rfl) ?_
 refine Qt.op hT rfl (bF (k:=0) rfl nQ rfl) ?_
 refine J1 hs LC rfl rfl rfl λv1 u=>?_
 refine qr ?_
 refine Qt.seq hT ?_
 refine qr ?_
 refine Qt.op hT rfl (jK rfl (so (n:=1) Tryz.underlying159 Tryz.underlying147 Tryz.sizeOf89) rfl) ?_
 refine NC hok hs PK rfl rfl rfl λv2=>?_
 replace hT:Mv Tryz.prog p.Kf mn (WV v0 Tryz.prog p T mn (s.set { hd:=1,phi:=c+4 })):=bq hs.q
 refine qr ?_
 refine iy (vu (l:={ hd:=1,phi:=c+4 }) (l':={ df:=1,hd:=1,phi:=c+4 }) hok hs (.inl rfl) rfl rfl) IF rfl rfl ?_
 replace hT:Mv Tryz.prog p.Kf mn (WV v0 Tryz.prog p T mn (s.set { df:=1,hd:=1,phi:=c+4 })):=bq hs.q
 refine qr ?_
 refine Qt.seq hT ?_
 refine qr ?_
 refine Qt.op hT rfl (gi rfl rfl) ?_
 refine Qt.op hT rfl (bF (k:=0) rfl nQ rfl) ?_
 refine EJ hok hs rfl rfl rfl rfl Tryz.func99 (by kernel_rfl) (by kernel_rfl) (by kernel_rfl) (by kernel_rfl) rfl rfl (J9 c) (λq=>by grind) (λq=>{ q with L:=0,f:=q.f - 1 }) (λq hp=>?_) λv3 q hp=>?_
 .
  obtain⟨g1,g2⟩:=OT hs hp;have hle:=kp hp;have hN:q.N≤101:=by obtain⟨_,_,_,_,_,_,h,_⟩:=hp.mu;exact h
  refine⟨?_,⟨rfl,rfl,rfl,rfl,rfl,rfl⟩,rfl,g2⟩;simp only [dV.word];grind [wrap_i32_small]
 have hle:=kp hp
 have hN:q.N≤101:=by obtain⟨_,_,_,_,_,_,h,_⟩:=hp.mu;exact h
 have hs1:q.S=1->q.W=0/\1≤q.N:=by
  obtain⟨o,h1,⟨k1,k2,k3,k4,k5,k6⟩,hse,_⟩:=hp.mu;omega
 generalize hw:({ q with L:=0,f:=q.f - 1 }:dV).word=nw
 have hw:2 * q.W+4 * q.S+8 * q.N=nw:=by grind
 obtain⟨x5,x1,x2,x4,x3,x7,o1,o2,o4,n2,s3⟩:=kh nw (by omega)
 obtain⟨_,y1,_⟩:=kh (nw+1) (by omega)
 have hrun:∀l:sf,Mv Tryz.prog p.Kf mn (WV v0 Tryz.prog p T mn (s.set l)):=λl=>bq hs.q
 have hT:=hrun (J9 c q)
 refine qr ?_
 refine Qt.seq hT (Qt.seq hT ?_)
 refine qr ?_
 by_cases h0:nw=0
 .
  have:J9 c q={ df:=1,phi:=c }:=by grind
  rw [this] at hT⊢;refine Qt.op hT rfl (aY (u:=.bool false) rfl rfl rfl (by simp only [iQ];simp_all)) ?_;refine qr ?_;refine Qt.cond hT false (Qt.skip hT ?_);exact lst v3 _
 refine Qt.op hT rfl (aY (u:=.bool true) rfl rfl rfl (by simp only [iQ];simp_all)) ?_
 refine qr ?_
 refine Qt.cond hT true ?_
 refine qr ?_
 refine Qt.call (cZ:=[.pointer (some p.muA),.int .i32 (nw:Int)]) hT rfl rfl Tryz.func100 (by kernel_rfl) rfl rfl λc3 hk3=>?_
 have back:∀v',WV v0 Tryz.prog p T mn (s.set { df:=1,phi:=c }) v' (c3.finish (.tuple #[])) (c2::cs):=λv'=>by
  have hT:=hrun { df:=1,phi:=c };exact hk3 _ v' _ (mr hT (lst v' _))
 refine Qt.seq hT (Qt.seq hT ?_)
 refine qr ?_
 refine Qt.op hT rfl (aY (u:=.int .i32 ((nw+1:Nat):Int)) rfl rfl rfl (kz (by grind [wrap_i32_small]))) ?_
 refine Qt.op hT rfl (aY (u:=.int .i32 1) rfl rfl rfl (kz (y1.trans (by omega)))) ?_
 refine Qt.op hT rfl (aY (u:=.bool false) rfl rfl rfl rfl) ?_
 refine qr ?_
 refine Qt.cond hT false (Qt.skip hT ?_)
 refine Qt.seq hT ?_
 refine qr ?_
 by_cases hS:q.S=1
 .
  rw [show J9 c q={ df:=1,rh:=1,phi:=c+2 } from if_pos hS] at hT⊢;refine Qt.op hT rfl (aY (u:=.int .i32 4) rfl rfl rfl (kz (x4.trans (by omega)))) ?_;refine Qt.op hT rfl (aY (u:=.bool false) rfl rfl rfl rfl) ?_;refine qr ?_;refine Qt.cond hT false ?_;refine qr ?_;refine Qt.op hT rfl (gi rfl rfl) ?_;refine Qt.op hT rfl (bF (k:=1) rfl ID rfl) ?_;refine EH hok hs rfl rfl rfl rfl Tryz.func113 (by kernel_rfl) (by kernel_rfl) (by kernel_rfl) (by kernel_rfl) rfl { df:=1,phi:=c } ⟨rfl,rfl⟩ (λq hp=>OQ hs) λv4=>?_;replace hT:=hrun { df:=1,phi:=c };refine qr ?_;exact Qt.fin hT (dF hT rfl Tryz.func100 rfl (back v4))
 .
  refine Qt.op hT rfl (aY (u:=.int .i32 0) rfl rfl rfl (kz (x4.trans (by omega)))) ?_;refine Qt.op hT rfl (aY (u:=.bool true) rfl rfl rfl rfl) ?_;refine qr ?_;refine Qt.cond hT true ?_;refine Qt.seq hT ?_;refine qr ?_;refine Qt.block hT (Qt.loop hT ?_);by_cases e2:0 < q.N/\q.W=0
  .rw [show J9 c q={ df:=1,ty:=1,phi:=c+3,se:=some (8 * q.N,q.f - 1) } from(if_neg hS).trans (if_pos e2),show 8 * q.N=nw by omega];exact Qt.base _ (KH hok hs back (q.f - 1) v3 nw (by omega) (by omega) (by omega))
  .rw [show J9 c q={ df:=1,phi:=c } from(if_neg hS).trans (if_neg e2)];exact Qt.base _ (Hh (ow:=nw) hs (by omega) (by omega) back v3)
theorem BD(hok:p.Ok)(hs:s.Run){c:Nat}(hk:∀v',WV v0 Tryz.prog p T mn (s.set { phi:=c }) v' (c1.finish (.tuple #[])) cs)(v:VW):
 Qt (GV v0 Tryz.prog p T mn (s.set { hd:=1,dt:=1,phi:=c+4 })) v (base 42) (c1::cs) 6 [] [.code (Tryz.f42.body.getD .skip)] (ent 0 [.pointer (some p.muA)]):=by
 have hT:Mv Tryz.prog p.Kf mn (GV v0 Tryz.prog p T mn (s.set { hd:=1,dt:=1,phi:=c+4 })):=sb hs.q
 refine qr ?_
 refine Qt.op hT rfl (gi rfl rfl) ?_
 refine Qt.op hT rfl (bF (k:=0) rfl IC rfl) ?_
 refine Qt.call (cZ:=[.pointer (some p.muA)]) hT rfl rfl Tryz.func69 (by kernel_rfl) rfl rfl λc2 hk2=>?_
 refine wG hok hs (λv''=>?_) v
 have hT:Mv Tryz.prog p.Kf mn (WV v0 Tryz.prog p T mn (s.set { phi:=c })):=bq hs.q
 exact hk2 _ v'' _ (qr (Qt.fin hT (dF hT rfl Tryz.func42 rfl (hk v''))))
theorem BB(hok:p.Ok)(hs:s.Run){c:Nat}(hm:c1.mode= .returning)(hk:∀v',WV v0 Tryz.prog p T mn (s.set { phi:=c }) v' c1 cs)(v:VW):
 Qt (GV v0 Tryz.prog p T mn (s.set { hd:=1,dt:=1,phi:=c+4 })) v (baseD 42) (c1::cs) 6 [] [.code (Tryz.f42.body.getD .skip)] (ent 0 [.pointer (some p.muA)]):=by
 have hT:Mv Tryz.prog p.Kf mn (GV v0 Tryz.prog p T mn (s.set { hd:=1,dt:=1,phi:=c+4 })):=sb hs.q
 refine qr ?_
 refine Qt.op hT rfl (gi rfl rfl) ?_
 refine Qt.op hT rfl (bF (k:=0) rfl IC rfl) ?_
 refine Qt.call (cZ:=[.pointer (some p.muA)]) hT rfl rfl Tryz.func69 (by kernel_rfl) rfl rfl λc2 hk2=>?_
 refine wG hok hs (λv''=>?_) v
 have hT:Mv Tryz.prog p.Kf mn (WV v0 Tryz.prog p T mn (s.set { phi:=c })):=bq hs.q
 exact hk2 _ v'' _ (qr (Qt.fin hT (xE hT rfl Tryz.func42 rfl hm (hk v''))))
end
end Go.Proofs.YtflilincnacbpaaGreat
set_option linter.unusedVariables false
set_option maxRecDepth 20000
set_option maxHeartbeats 4000000
namespace Go.Proofs.YtflilincnacbpaaGreat
open K Go Go.Proofs Go.Conc
theorem gf{b:Frame}{a:Act}{k:List Item}(hb:b.roundOf=none):b.atR a k=b.at a k:=by
 simp_all [Frame.atR,Frame.at]
theorem D4{b off:Nat}(w:World):(Instr.fieldAt 94 (.pointer (some ⟨b,off,none⟩)) 1).runT Tryz.prog w #[]=(.ok (.pointer (some ⟨b,off+6,none⟩)) w, #[]):=c9 (n:=1) Tryz.underlying94 rfl Tryz.sizeOf91 w
section
variable {p:Gp}{T:Tq}{mn:Bool}{s:Ph}{c0 c1 c2 c3 c4 c5:Value}{S:FS}{w0:VW}{X:Nat->Prop}{b1 b2:Nat}{k:Nat}{a0:ae}{a1:Int}{Γ:Ga}{Δ:List D}{a:Act}{v:VW}{M:Md Tryz.prog}{kd:CallKind}{cs:List Frame}{kk:List Item}
abbrev zb(kd:CallKind):Frame:={ (default:Frame) with fn:=20,kind:=kd }
theorem P8(hok:p.Ok)(hs:s.Run)(hm:p.m0= #[c0,c1,c2,c3,c4,c5])(hkd:kd≠.early){c:Nat}(st:St (nI M S w0 X []) (Jl p.bm c0 c1 c2 c3 c4 c5 a0 a1 b1) Δ a (v.ub p))(hsh:∀b,p.sh b->v.A b)(hA:v.A p.bk)(hlt:p.bk < v.heap.size)
 (next:∀a' v',St (nI M S w0 X []) (Jl p.bm c0 c1 c2 c3 c4 c5 a0 a1 b1) Δ a' (v'.ub p)->VR p v v'->¬v'.A p.bk->(∃o,v'.heap[p.bk]? =some o/\p.R o)->Ww Tryz.prog p T mn (s.set { hd:=1,dt:=1,phi:=c+4 }) v' ((zb kd).atR a' kk) cs):
 Ww Tryz.prog p T mn (s.set { phi:=c+6 }) v ((zb kd).atR a (.code (Jm 1)::kk)) cs:=by
 have bc:BC Tryz.prog (Ww Tryz.prog p T mn (s.set { phi:=c+6 })):=Ww.bc hs.q hs.nr
 have h0:a.tmps.getD 0 undef= .pointer (some ⟨p.bm,0,none⟩):=oY st (s:=0) rfl
 have emu:p.muA=⟨p.bm,6,none⟩:=by simp_all
 have hla:=λc1=>Ai (p:=p) (T:=T) (mn:=mn) (s:=s) (v0:=v) (cs:=cs) (c1:=c1) hok hs (c:=c)
 rw [emu] at hla
 refine bc.move (λ_ _=>fi) ?_
 rw [gf rfl]
 refine(?_:Qt (WV v Tryz.prog p T mn (s.set { phi:=c+6 })) v (zb kd) cs 64 [] _ ((0,.pointer (some ⟨p.bm,0,none⟩))::cZ (Jl p.bm c0 c1 c2 c3 c4 c5 a0 a1 b1) a)) a (st.toQ.know h0) (VR.refl hsh hlt) ⟨λ_=>rfl,λ_=>hA⟩
 have hT:Mv Tryz.prog p.Kf mn (WV v Tryz.prog p T mn (s.set { phi:=c+6 })):=bq hs.q
 refine Qt.op hT rfl (dO rfl rfl) ?_ (hk:=hkd)
 refine Qt.op hT rfl (gi rfl rfl) ?_ (hk:=hkd)
 refine Qt.op hT rfl (bF (k:=6) rfl D4 rfl) ?_ (hk:=hkd)
 refine Qt.call (cZ:=[.pointer (some ⟨p.bm,6,none⟩)]) hT rfl rfl Tryz.func41 (by kernel_rfl) rfl rfl (λcc hk2=>?_) (hk:=hkd)
 refine hla _ (λv'=>?_) v
 refine hk2 _ v' _ λa2 q2 hv hA' hR=>?_
 have bc2:BC Tryz.prog (Ww Tryz.prog p T mn (s.set { hd:=1,dt:=1,phi:=c+4 })):=Ww.bc hs.q hs.nr
 rw [<-gf rfl]
 refine bc2.move (λ_ _=>c8) ?_
 exact next a2 v' (lI (st.vr hv) ((((vR.base.know h0).new).new).new.new) q2) hv hA' hR
end
end Go.Proofs.YtflilincnacbpaaGreat
set_option linter.unusedVariables false
set_option maxRecDepth 20000
set_option maxHeartbeats 4000000
namespace Go.Proofs.YtflilincnacbpaaGreat
open K Go Go.Proofs Go.Conc
section
variable {p:Gp}{T:Tq}{mn:Bool}{s:Ph}{c0 c1 c2 c3 c4 c5:Value}{S:FS}{w0:VW}{X:Nat->Prop}{b1 b2:Nat}{k:Nat}{a0:ae}{a1:Int}{Γ:Ga}{Δ:List D}{a:Act}{v:VW}{M:Md Tryz.prog}{kd:CallKind}{cs:List Frame}{kk:List Item}
theorem Di{P:Program}{s:Ph}(hq:s.q=false):Mv P p.Kf mn (Ww P p T mn s):=λv fr fr' cs cs' h1 h=>Ww.move hq (λw hl=>h1 w hl) h
theorem P6(hok:p.Ok)(hs:s.Run)(hm:p.m0= #[c0,c1,c2,c3,c4,c5])(hkd:kd≠.early){c:Nat}{fd:Bool}(st:St (nI M S w0 X []) ((6,.eq (.bool fd))::tu p.bm c0 c1 c2 c3 c4 c5 a0 a1 b1 b2) Δ a (v.ub p))(hsh:∀b,p.sh b->v.A b)(hA:¬v.A p.bk)(hR:∃o,v.heap[p.bk]? =some o/\p.R o)(hlt:p.bk < v.heap.size)
 (next:∀a' v',St (nI M S w0 X []) ((6,.eq (.bool fd))::tu p.bm c0 c1 c2 c3 c4 c5 a0 a1 b1 b2) Δ a' (v'.ub p)->VR p v v'->v'.A p.bk->Ww Tryz.prog p T mn (s.set { phi:=c }) v' ((zb kd).atR a' kk) cs):
 Ww Tryz.prog p T mn (s.set { hd:=1,dt:=1,phi:=c+4 }) v ((zb kd).atR a (.code (Jm 3)::kk)) cs:=by
 have bc:BC Tryz.prog (Ww Tryz.prog p T mn (s.set { hd:=1,dt:=1,phi:=c+4 })):=Ww.bc hs.q hs.nr
 have h0:a.tmps.getD 0 undef= .pointer (some ⟨p.bm,0,none⟩):=oY st (s:=0) rfl
 have emu:p.muA=⟨p.bm,6,none⟩:=by simp_all
 have hla:=λc1=>BD (p:=p) (T:=T) (mn:=mn) (s:=s) (v0:=v) (cs:=cs) (c1:=c1) hok hs (c:=c)
 rw [emu] at hla
 refine bc.move (λ_ _=>fi) ?_
 rw [gf rfl]
 refine(?_:Qt (GV v Tryz.prog p T mn (s.set { hd:=1,dt:=1,phi:=c+4 })) v (zb kd) cs 64 [] _ ((0,.pointer (some ⟨p.bm,0,none⟩))::cZ ((6,.eq (.bool fd))::tu p.bm c0 c1 c2 c3 c4 c5 a0 a1 b1 b2) a)) a (st.toQ.know h0) (VR.refl hsh hlt) hA hR
 have hT:Mv Tryz.prog p.Kf mn (GV v Tryz.prog p T mn (s.set { hd:=1,dt:=1,phi:=c+4 })):=sb hs.q
 refine Qt.op hT rfl (dO rfl rfl) ?_ (hk:=hkd)
 refine Qt.op hT rfl (gi rfl rfl) ?_ (hk:=hkd)
 refine Qt.op hT rfl (bF (k:=6) rfl D4 rfl) ?_ (hk:=hkd)
 refine Qt.call (cZ:=[.pointer (some ⟨p.bm,6,none⟩)]) hT rfl rfl Tryz.func42 (by kernel_rfl) rfl rfl (λcc hk2=>?_) (hk:=hkd)
 refine hla _ (λv'=>?_) v
 refine hk2 _ v' _ λa2 q2 hv hA'=>?_
 have bc2:BC Tryz.prog (Ww Tryz.prog p T mn (s.set { phi:=c })):=Ww.bc hs.q hs.nr
 rw [<-gf rfl]
 refine bc2.move (λ_ _=>c8) ?_
 exact next a2 v' (lI (st.vr hv) ((((vR.base.know h0).new).new).new.new) q2) hv (hA'.2 rfl)
theorem MP(hok:p.Ok)(hs:s.Run)(hm:p.m0= #[c0,c1,c2,c3,c4,c5])(hkd:kd≠.early){c:Nat}(st:St (nI M S w0 X []) (tu p.bm c0 c1 c2 c3 c4 c5 a0 a1 b1 b2) Δ a (v.ub p))(hsh:∀b,p.sh b->v.A b)(hA:v.A p.bk)(hlt:p.bk < v.heap.size)
 (next:∀a' v',St (nI M S w0 X []) (tu p.bm c0 c1 c2 c3 c4 c5 a0 a1 b1 b2) Δ a' (v'.ub p)->VR p v v'->¬v'.A p.bk->(∃o,v'.heap[p.bk]? =some o/\p.R o)->Ww Tryz.prog p T mn (s.set { hd:=1,dt:=1,phi:=c+4 }) v' ((zb kd).atR a' kk) cs):
 Ww Tryz.prog p T mn (s.set { phi:=c+6 }) v ((zb kd).atR a (.code (Jm 7)::kk)) cs:=by
 have bc:BC Tryz.prog (Ww Tryz.prog p T mn (s.set { phi:=c+6 })):=Ww.bc hs.q hs.nr
 have h0:a.tmps.getD 0 undef= .pointer (some ⟨p.bm,0,none⟩):=oY st (s:=0) rfl
 have emu:p.muA=⟨p.bm,6,none⟩:=by simp_all
 have hla:=λc1=>Ai (p:=p) (T:=T) (mn:=mn) (s:=s) (v0:=v) (cs:=cs) (c1:=c1) hok hs (c:=c)
 rw [emu] at hla
 refine bc.move (λ_ _=>fi) ?_
 rw [gf rfl]
 refine(?_:Qt (WV v Tryz.prog p T mn (s.set { phi:=c+6 })) v (zb kd) cs 64 [] _ ((0,.pointer (some ⟨p.bm,0,none⟩))::cZ (tu p.bm c0 c1 c2 c3 c4 c5 a0 a1 b1 b2) a)) a (st.toQ.know h0) (VR.refl hsh hlt) ⟨λ_=>rfl,λ_=>hA⟩
 have hT:Mv Tryz.prog p.Kf mn (WV v Tryz.prog p T mn (s.set { phi:=c+6 })):=bq hs.q
 refine Qt.op hT rfl (dO rfl rfl) ?_ (hk:=hkd)
 refine Qt.op hT rfl (gi rfl rfl) ?_ (hk:=hkd)
 refine Qt.op hT rfl (bF (k:=6) rfl D4 rfl) ?_ (hk:=hkd)
 refine Qt.call (cZ:=[.pointer (some ⟨p.bm,6,none⟩)]) hT rfl rfl Tryz.func41 (by kernel_rfl) rfl rfl (λcc hk2=>?_) (hk:=hkd)
 refine hla _ (λv'=>?_) v
 refine hk2 _ v' _ λa2 q2 hv hA' hR=>?_
 have bc2:BC Tryz.prog (Ww Tryz.prog p T mn (s.set { hd:=1,dt:=1,phi:=c+4 })):=Ww.bc hs.q hs.nr
 rw [<-gf rfl]
 refine bc2.move (λ_ _=>c8) ?_
 exact next a2 v' (lI (st.vr hv) ((((vR.base.know h0).new).new).new.new) q2) hv hA' hR
theorem MO(hs:s.Run)(hkd:kd≠.early){l:sf}(st:St (nI M S w0 X []) (tu p.bm c0 c1 c2 c3 c4 c5 a0 a1 b1 b2) Δ a v)
 (next:∀a',St (nI M S w0 X [dcall 42 #[.pointer (some ⟨p.bm,6,none⟩)]]) (tu p.bm c0 c1 c2 c3 c4 c5 a0 a1 b1 b2) Δ a' v->Ww Tryz.prog p T mn (s.set l) v ((zb kd).atR a' kk) cs):
 Ww Tryz.prog p T mn (s.set l) v ((zb kd).atR a (.code (Jm 8)::kk)) cs:=by
 have bc:BC Tryz.prog (Ww Tryz.prog p T mn (s.set l)):=Ww.bc hs.q hs.nr
 have h0:a.tmps.getD 0 undef= .pointer (some ⟨p.bm,0,none⟩):=oY st (s:=0) rfl
 refine bc.move (λ_ _=>fi) ?_
 rw [gf rfl]
 refine(?_:Qt (Ww Tryz.prog p T mn (s.set l)) v (zb kd) cs 64 [] _ ((0,.pointer (some ⟨p.bm,0,none⟩))::cZ (tu p.bm c0 c1 c2 c3 c4 c5 a0 a1 b1 b2) a)) a (st.toQ.know h0)
 have hT:Mv Tryz.prog p.Kf mn (Ww Tryz.prog p T mn (s.set l)):=Di hs.q
 refine Qt.op hT rfl (dO rfl rfl) ?_ (hk:=hkd)
 refine Qt.op hT rfl (gi rfl rfl) ?_ (hk:=hkd)
 refine Qt.op hT rfl (bF (k:=6) rfl D4 rfl) ?_ (hk:=hkd)
 refine Qt.defer (cZ:=[.pointer (some ⟨p.bm,6,none⟩)]) hT rfl rfl rfl (λa2 q2=>?_) (hk:=hkd)
 rw [<-gf rfl]
 refine bc.move (λ_ _=>c8) ?_
 exact next a2 (lI st (((vR.base.know h0).new).new.new) q2)
theorem MQ(hok:p.Ok)(hs:s.Run)(hm:p.m0= #[c0,c1,c2,c3,c4,c5]){c:Nat}{todo:List Item}(st:St (nI M S w0 X [dcall 42 #[.pointer (some ⟨p.bm,6,none⟩)]]) Γ Δ a (v.ub p))(hsh:∀b,p.sh b->v.A b)(hA:¬v.A p.bk)(hR:∃o,v.heap[p.bk]? =some o/\p.R o)(hlt:p.bk < v.heap.size)
 (next:∀a' todo v',St (nI M S w0 X []) Γ Δ a' (v'.ub p)->VR p v v'->v'.A p.bk->Ww Tryz.prog p T mn (s.set { phi:=c }) v' { (zb kd).atR a' todo with mode:=.returning } cs):
 Ww Tryz.prog p T mn (s.set { hd:=1,dt:=1,phi:=c+4 }) v { (zb kd).atR a todo with mode:=.returning } cs:=by
 have emu:p.muA=⟨p.bm,6,none⟩:=by simp_all
 have hla:=λc1=>BB (p:=p) (T:=T) (mn:=mn) (s:=s) (v0:=v) (cs:=cs) (c1:=c1) hok hs (c:=c)
 rw [emu] at hla
 rw [gf rfl]
 refine(?_:Qr (GV v Tryz.prog p T mn (s.set { hd:=1,dt:=1,phi:=c+4 })) v (zb kd) cs 64 [dcall 42 #[.pointer (some ⟨p.bm,6,none⟩)]] (cZ Γ a)) a todo st.toQ (VR.refl hsh hlt) hA hR
 have hT:Mv Tryz.prog p.Kf mn (GV v Tryz.prog p T mn (s.set { hd:=1,dt:=1,phi:=c+4 })):=sb hs.q
 refine Qr.enter (cZ:=[.pointer (some ⟨p.bm,6,none⟩)]) hT Tryz.func42 (by kernel_rfl) rfl rfl λcc hmo hk=>?_
 refine hla _ hmo (λv'=>?_) v
 refine hk _ v' λa2 todo2 q2 hv hA'=>?_
 rw [<-gf rfl]
 exact next a2 todo2 v' (lI (st.vr hv) vR.base q2) hv (hA'.2 rfl)
end
end Go.Proofs.YtflilincnacbpaaGreat
set_option linter.unusedVariables false
set_option maxRecDepth 20000
set_option maxHeartbeats 4000000
namespace Go.Proofs.YtflilincnacbpaaGreat
open K Go Go.Proofs Go.Conc
section
variable {p:Gp}{T:Tq}{mn:Bool}{s:Ph}{c0 c1 c2 c3 c4 c5:Value}{S:FS}{w0:VW}{X:Nat->Prop}{df:List Deferred}{b1 b2:Nat}{k:Nat}{a0:ae}{a1:Int}{Γ:Ga}{Δ:List D}{a:Act}{v:VW}{M:Md Tryz.prog}{kd:CallKind}{cs:List Frame}{kk:List Item}
def Vi(M:Md Tryz.prog)(S:FS)(w0:VW)(X:Nat->Prop)(Γ:Ga)(b1 b2:Nat)(y:List (List Int))(fd:Bool):Exit->Act->VW->Prop
 | .normal,a,w=>fd=false/\St (nI M S w0 X []) Γ (Bn b1 b2 y) a w
 | .ret,a,w=>fd=true/\St (nI M S w0 X []) Γ [.obj b1 58 (.rep (.arr 7 (.arr 5 (.int .i64))) y),.obj b2 58 (.rep (.arr 7 (.arr 5 (.int .i64))) y)] a w
 |_,_,_=>False
theorem P5{y:List (List Int)}{fd:Bool}{bm:Nat}:JC (nI M S w0 X []) (Jm 4) (Vi M S w0 X (tu bm c0 c1 c2 c3 c4 c5 a0 a1 b1 b2) b1 b2 y fd) ((6,.eq (.bool fd))::tu bm c0 c1 c2 c3 c4 c5 a0 a1 b1 b2) (Bn b1 b2 y):=by
 refine am ?_;refine ab ?_;refine dh rfl rfl ?_;refine aD (ao ?_);show JC _ _ _ _ _;refine ie rfl (λhb=>?_) (λhb=>?_)
 .refine am ?_;refine ab ?_;refine dN 1 rfl ?_;refine fu rfl rfl rfl (ax rfl lF (tP) rfl) ⟨rfl,trivial⟩ ?_;refine dN 1 rfl ?_;refine aP rfl rfl (aM rfl lF rfl rfl rfl) ⟨rfl,rfl,trivial⟩ ?_;refine aD (ao ?_);refine aF ?_;exact λa w st=>⟨hb,(jj (junk:=[]) (by repeat (first |exact trivial |refine⟨rfl,?_⟩)) (List.Perm.refl _)) a w st⟩
 .refine bj ?_;exact λa w st=>⟨hb,(jj (junk:=[]) (by repeat (first |exact trivial |refine⟨rfl,?_⟩)) (List.Perm.refl _)) a w st⟩
theorem St.subA{c:Cx}(st:St c Γ Δ a v){b:Nat}(h:c.w0.A b):v.A b:=by
 obtain⟨_,_,S,h3,_⟩:=st;exact h3.subA b h
theorem JE{c:Cx}(st:St c Γ Δ a v):v.Z=c.w0.Z:=by
 obtain⟨_,_,S,h3,_⟩:=st;exact h3.Z
theorem tD{c:Cx}(st:St c Γ Δ a v){b:Nat}(h:v.A b):b < v.heap.size:=by
 obtain⟨_,_,S,_,_,h5,_⟩:=st;exact h5.domA b h
theorem Nu{c:Cx}{y:List (List Int)}(st:St c Γ Δ a v)(h:D.obj b2 58 (.rep (.arr 7 (.arr 5 (.int .i64))) y)∈Δ):ji y:=by
 obtain⟨_,_,S,_,_,h5,_⟩:=st;obtain⟨cs,_,h1,h2⟩:=h5.holds _ h;exact⟨h1,(rf.1 h2).1⟩
@[reducible] noncomputable def CY (S:FS) (w:VW) (r:List (List Int)):Ending->VW->Prop:=dK S w [] (λ_:Unit=>(bO [.rep (.arr 7 (.arr 5 (.int .i64))) r],[]))
theorem MM{bm:Nat}{r:List (List Int)}{w:VW}(st:St (nI M S w (av []) []) (tu bm c0 c1 c2 c3 c4 c5 a0 a1 b1 b2) [.obj b1 58 (.rep (.arr 7 (.arr 5 (.int .i64))) r),.obj b2 58 (.rep (.arr 7 (.arr 5 (.int .i64))) r)] a v):K.cg Tryz.prog Tryz.f20 (CY S w r) .ret a v:=
 by
 refine(?_:JN (nI M S w (av []) []) (K.cg Tryz.prog Tryz.f20 (CY S w r) .ret) (tu bm c0 c1 c2 c3 c4 c5 a0 a1 b1 b2) [.obj b1 58 (.rep (.arr 7 (.arr 5 (.int .i64))) r),.obj b2 58 (.rep (.arr 7 (.arr 5 (.int .i64))) r)]) a v st
 exact aQ () [.rep (.arr 7 (.arr 5 (.int .i64))) r] 0 ⟨⟨_,_,_,_,_,rfl,(.head _),lF,(tP),rfl⟩,trivial⟩ rfl
theorem AG(hok:p.Ok)(hs:s.Run)(hm:p.m0= #[c0,c1,c2,c3,c4,c5])(hR:p.R=cj k a0)(hkd:kd≠.early){c:Nat}{r:List (List Int)}(h:lQ k a0 a1=some r){w:VW}{vs:List Value}(hd:∀b,S b->b < w.heap.size)
 (hall:fM S w [.rep (.mo (.pointer (some ⟨p.bm,0,none⟩)) [c0,c1,c2,c3,c4,c5] ap) a0,.eq (.int .u8 a1)] vs) (hO:aS [] S w) (hsh:∀b,p.sh b->w.A b) (hA:w.A p.bk) (hZ:¬w.Z p.bk)
 (hc:∀c' v' fr u,c≤c'->CY S w r (.returned u) v'->fr.fn=20->fr.kind=kd->Lv Tryz.prog fr v' (.returned u)->v'.A p.bk->Ww Tryz.prog p T mn (s.set { phi:=c' }) v' fr cs):
 Ww Tryz.prog p T mn (s.set { phi:=c+12 }) w (Frame.enter Tryz.prog 20 vs.toArray kd) cs:=by
 have bc:∀l,BC Tryz.prog (Ww Tryz.prog p T mn (s.set l)):=λl=>Ww.bc hs.q hs.nr
 have hok':∀l,(MW Tryz.prog p T).ok (Ww Tryz.prog p T mn (s.set l)):=λl=>⟨mn,s.set l,hs.q,hs.nr,rfl⟩
 have hne:∀b,p.sh b->b≠p.bk:=λb hb=>by
  rcases hb with e |⟨hc,e |e⟩
  .rw [e];exact hok.mb
  .rw [e];exact(hok.wm hc).2.1
  .rw [e];exact(hok.cm hc).2
 have hK:Kn (MW Tryz.prog p T) p.bm 0 [c0,c1,c2,c3,c4,c5]:=Om hm
 have hK8:Kn (MW Tryz.prog p T) p.bm 8 [.map (some p.bk)]:=Qn hm
 obtain⟨u0,e0,h'⟩:=Option.bind_eq_some_iff.1 h
 have hs1:0≤a1/\a1 < 256:=au e0
 unfold jt at h'
 obtain⟨r3,e3,h'⟩:=Option.bind_eq_some_iff.1 h'
 obtain⟨u1,_,h'⟩:=Option.bind_eq_some_iff.1 h'
 obtain⟨r5,e5,h'⟩:=Option.bind_eq_some_iff.1 h'
 obtain rfl:r5=r:=Option.some.inj h'
 have retn:∀c' b1 b2 a todo v',c≤c'->St (nI (MW Tryz.prog p T) S w (av []) []) (tu p.bm c0 c1 c2 c3 c4 c5 a0 a1 b1 b2) [.obj b1 58 (.rep (.arr 7 (.arr 5 (.int .i64))) r5),.obj b2 58 (.rep (.arr 7 (.arr 5 (.int .i64))) r5)] a v'->v'.A p.bk->Ww Tryz.prog p T mn (s.set { phi:=c' }) v' { (zb kd).atR a todo with mode:=.returning } cs:=λc' b1 b2 a todo v' hle st hA'=>by
  obtain⟨q1,x,q2,q3⟩:=MM st;exact hc c' v' _ x hle q3 rfl rfl ⟨rfl,q1,_,Tryz.func20,q2⟩ hA'
 have st0:St (nI (MW Tryz.prog p T) S w (av []) []) (entry 0 [.rep (.mo (.pointer (some ⟨p.bm,0,none⟩)) [c0,c1,c2,c3,c4,c5] ap) a0,.eq (.int .u8 a1)]) [] { tmps:=vs.toArray++Array.replicate (64 - vs.toArray.size) undef,defers:=[] } w:=St.entry rfl hd hall hO
 rw [show Frame.enter Tryz.prog 20 vs.toArray kd=Frame.atR (zb kd) { tmps:=vs.toArray++Array.replicate (64 - vs.toArray.size) undef,defers:=[] } [.code (Tryz.f20.body.getD .skip)] from enter_at Tryz.func20 rfl]
 refine(bc _).move (λ_ _=>dR) ?_
 refine eN (c:=nI (MW Tryz.prog p T) S w (av []) []) (hok' _) rfl st0 P9 λa1' v1 ⟨b1,st1⟩=>?_
 have hA1:v1.A p.bk:=St.subA st1 hA
 have st1':=st1
 rw [<-jE hA1] at st1'
 refine(bc _).move (λ_ _=>dR) ?_
 refine P8 (c:=c+6) hok hs hm hkd st1' (λb hb=>St.subA st1 (hsh b hb)) hA1 (tD st1 hA1) λa2 v2 st2 hv2 hA2 hR2=>?_
 have hZ2:¬v2.Z p.bk:=by
  have e1:v2.Z=v1.Z:=hv2.1.Z;rw [e1,JE st1];exact hZ
 obtain⟨S2,hd2,st2'⟩:=EL (M':=MW Tryz.prog p T) st2 hA2 hR2 hZ2
 rw [hR] at st2'
 refine(bc _).move (λ_ _=>dR) ?_
 refine eN (c:=nI (MW Tryz.prog p T) S2 v2 _ []) (hok' _) rfl st2' (P7 hK8 hs1) λa3 v3 ⟨b2,y,fd,hy1,hy2,st3⟩=>?_
 rw [<-hR] at st3
 obtain⟨st3f,hA3,hR3,hv3⟩:=A2 (M:=MW Tryz.prog p T) hd2 hA hsh hne st3
 refine(bc _).move (λ_ _=>dR) ?_
 refine P6 (c:=c+6) hok hs hm hkd st3f hv3.2.1 hA3 hR3 hv3.2.2 λa4 v4 st4 hv4 hA4=>?_
 rw [jE hA4] at st4
 refine(bc _).move (λ_ _=>dR) ?_
 refine yS (c:=nI (MW Tryz.prog p T) S w (av []) []) (Q:=Vi (MW Tryz.prog p T) S w (av []) (tu p.bm c0 c1 c2 c3 c4 c5 a0 a1 b1 b2) b1 b2 y fd) (hok' _) rfl st4 P5 λe a5 v5 q5=>?_
 cases e with
 |ret=>
  obtain⟨hf,st5⟩:=q5;obtain rfl:y=r5:=Option.some.inj ((hy1 hf).symm.trans h);exact⟨λ_ todo=>retn (c+6) b1 b2 a5 todo v5 (le_add_right _ _) st5 (St.subA st5 hA),λe=>(by cases e)⟩
 |normal=>
  obtain⟨hf,st5⟩:=q5;obtain rfl:=hy2 hf;show Ww Tryz.prog p T mn (s.set { phi:=c+6 }) v5 ((zb kd).atR a5 _) cs;refine(bc _).move (λ_ _=>dR) ?_;refine eN (c:=nI (MW Tryz.prog p T) S w (av []) []) (hok' _) rfl st5 (FU hK e3) λa6 v6 st6=>?_;refine(bc _).move (λ_ _=>dR) ?_;refine eN (c:=nI (MW Tryz.prog p T) S w (av []) []) (hok' _) rfl st6 (Jk hK e5) λa7 v7 st7=>?_;have hA7:v7.A p.bk:=St.subA st7 hA;have st7':=st7;rw [<-jE hA7] at st7';refine(bc _).move (λ_ _=>dR) ?_;refine MP (c:=c) hok hs hm hkd st7' (λb hb=>St.subA st7 (hsh b hb)) hA7 (tD st7 hA7) λa8 v8 st8 hv8 hA8 hR8=>?_;have hg:ji r5:=Nu (b2:=b2) st8 (by simp [Bn])
  have hZ8:¬v8.Z p.bk:=by
   have e1:v8.Z=v7.Z:=hv8.1.Z;rw [e1,JE st7];exact hZ
  obtain⟨S8,hd8,st8'⟩:=EL (M':=MW Tryz.prog p T) st8 hA8 hR8 hZ8;refine(bc _).move (λ_ _=>dR) ?_;refine MO hs hkd st8' λa9 st9=>?_;rw [hR] at st9;refine(bc _).move (λ_ _=>dR) ?_;refine eN (c:=nI (MW Tryz.prog p T) S8 v8 _ _) (hok' _) rfl st9 (MN hK8 hs1 h hg) λa10 v10 st10=>?_;rw [<-hR] at st10;have st10':St (nI (MW Tryz.prog p T) S8 v8 (av (.inv p.bk p.R::Bn b1 b2 r5)) [dcall 42 #[.pointer (some ⟨p.bm,6,none⟩)]]) (tu p.bm c0 c1 c2 c3 c4 c5 a0 a1 b1 b2) (Bn b1 b2 r5++[.inv p.bk p.R]) a10 v10:=(jj (junk:=[]) (by repeat (first |exact trivial |refine⟨rfl,?_⟩)) (by rw [append_nil];exact perm_append_comm (l₁:=[.inv p.bk p.R]) (l₂:=Bn b1 b2 r5))) a10 v10 st10
  refine yS (c:=nI (MW Tryz.prog p T) S8 v8 _ _) (Q:=λe a v=>match e with
   | .ret=>St (nI (MW Tryz.prog p T) S8 v8 (av (.inv p.bk p.R::Bn b1 b2 r5)) [dcall 42 #[.pointer (some ⟨p.bm,6,none⟩)]]) (tu p.bm c0 c1 c2 c3 c4 c5 a0 a1 b1 b2) ([.inv p.bk p.R]++[.obj b1 58 (.rep (.arr 7 (.arr 5 (.int .i64))) r5),.obj b2 58 (.rep (.arr 7 (.arr 5 (.int .i64))) r5)]) a v
   |_=>False) (hok' _) rfl st10' (MU λa w st=>st) λe a11 v11 q11=>?_
  cases e with
  |ret=>
   refine⟨λ_ todo=>?_,λe=>(by cases e)⟩;have q11:St (nI (MW Tryz.prog p T) S8 v8 (av (.inv p.bk p.R::Bn b1 b2 r5)) [dcall 42 #[.pointer (some ⟨p.bm,6,none⟩)]]) (tu p.bm c0 c1 c2 c3 c4 c5 a0 a1 b1 b2) (.inv p.bk p.R::[.obj b1 58 (.rep (.arr 7 (.arr 5 (.int .i64))) r5),.obj b2 58 (.rep (.arr 7 (.arr 5 (.int .i64))) r5)]) a11 v11:=q11;obtain⟨stf,hAf,hRf,hvf⟩:=A2 (M:=MW Tryz.prog p T) hd8 hA hsh hne q11;refine MQ (c:=c) hok hs hm stf hvf.2.1 hAf hRf hvf.2.2 λa12 todo2 v12 st12 hv12 hA12=>?_;rw [jE hA12] at st12;grind
  |_=>simp_all
 |_=>exact q5.elim
end
end Go.Proofs.YtflilincnacbpaaGreat
set_option linter.unusedVariables false
namespace Go.Proofs.YtflilincnacbpaaGreat
namespace K
open Go Go.Conc
section
variable {P:Program}{p:Gp}{T:Tq}{s:Ph}{q:dV}
theorem zK(hp:my p true s q)(hal:s.al=true)(h:s.hd=0/\s.dt=0/\s.aw=0/\s.rn=0/\s.qu=0/\s.tk=0/\s.rh=0):q.word=0/\q.T=0/\q.h=0:=by
 obtain⟨n,sg,i,hi,hm,e,hb⟩:=hp;have hi0:i=0:=hm.1 rfl;subst hi0;have hg:=hb.gone (by simp_all)
 have hz:∀f:Ph->Nat,f .quit=0->f s=0->al n sg f=0:=λf hf h0=>by
  refine te λj hj=>?_;rcases eq_zero_or_pos j with ej |ej
  .simp_all
  .rw [(hb.ok j hj).quit (hg j ej hj)];exact hf
 obtain⟨h1,h2,h3,h4,h5,h6,h7⟩:=h;have a1:=hb.hd;rw [hz Ph.hd rfl h1] at a1;have a2:=hb.h;rw [hz Ph.dt rfl h2] at a2;have a3:=hb.s0;rw [hz Ph.aw rfl h3,hz Ph.rn rfl h4,hz Ph.tk rfl h6,hz Ph.qu rfl h5,hz Ph.rh rfl h7] at a3;have a4:=hb.s1;rw [hz Ph.aw rfl h3,hz Ph.rn rfl h4,hz Ph.tk rfl h6,hz Ph.qu rfl h5,hz Ph.rh rfl h7] at a4;have a5:=hb.le;grind
theorem Ww.fin{v:VW}{fr:Frame}{cs:List Frame}(hq:s.q=false)(h:Vn p T true s v fr cs):Ww P p T true s v fr cs:=.of ⟨hq,.inr (.inr (.inr (.inr (.inr (.inr h)))))⟩
end
end K
end Go.Proofs.YtflilincnacbpaaGreat
set_option linter.unusedVariables false
set_option maxRecDepth 20000
set_option maxHeartbeats 4000000
namespace Go.Proofs.YtflilincnacbpaaGreat
open K Go Go.Proofs Go.Conc
@[reducible] def aW(a0:ae)(bk:Nat):A:=.pair (.rep ap a0) (.pair (.eq (.int .i32 0)) (.pair (.eq (.int .u32 0)) (.eq (.map (some bk)))))
section
variable {S:FS}{bm bk:Nat}{k:Nat}{a0:ae}{a1:Int}
theorem oJ{w:World}{cs:List Value}(h:(aW a0 bk).cells S w cs):∃c0 c1 c2 c3 c4 c5,cs=[c0,c1,c2,c3,c4,c5,.int .i32 0,.int .u32 0,.map (some bk)]/\rd S w ap a0 [c0,c1,c2,c3,c4,c5]:=by
 obtain⟨m,x1,rfl,h1,y1,x2,rfl,⟨rfl,_⟩,y2,x3,rfl,⟨rfl,_⟩,⟨rfl,_⟩⟩:=h;have hl:=aN ap h1;have hl:m.length=6:=hl;match m,hl with
 |[c0,c1,c2,c3,c4,c5],_=>exact⟨c0,c1,c2,c3,c4,c5,rfl,h1⟩
@[reducible] def tQ(bm bk:Nat)(m:Array Value)(R:Obj->Prop):Gp:=⟨false,0,0,0,bm,94,m,bk,R,λ_=>False,λ_ _ _ _ _=>False⟩
theorem LM{f:Nat}{uz:List A}{RA:A}(hw:∀(c0 c1 c2 c3 c4 c5:Value) (T:Tq) (S:FS) (w:VW) (vs:List Value) (kd:CallKind) (cs:List Frame),kd≠.early->(∀b,S b->b < w.heap.size)->fM S w (.rep (.mo (.pointer (some ⟨bm,0,none⟩)) [c0,c1,c2,c3,c4,c5] ap) a0::uz) vs->aS [] S w->
 (tQ bm bk #[c0,c1,c2,c3,c4,c5] (cj k a0)).Ok->(∀b,(tQ bm bk #[c0,c1,c2,c3,c4,c5] (cj k a0)).sh b->w.A b)->w.A bk->¬w.Z bk->
 (∀c' v' fr u,dK S w [] (λ_:Unit=>(RA,[])) (.returned u) v'->fr.fn=f->fr.kind=kd->Lv Tryz.prog fr v' (.returned u)->v'.A bk->Ww Tryz.prog (tQ bm bk #[c0,c1,c2,c3,c4,c5] (cj k a0)) T true (Ph.set { al:=true,jn:=true } { phi:=c' }) v' fr cs)->
 Ww Tryz.prog (tQ bm bk #[c0,c1,c2,c3,c4,c5] (cj k a0)) T true (Ph.set { al:=true,jn:=true } { phi:=12 }) w (Frame.enter Tryz.prog f vs.toArray kd) cs):
 cz (ec Tryz.prog) f (.eq (.pointer (some ⟨bm,0,none⟩))::uz) [.obj bm 94 (aW a0 bk),.inv bk (cj k a0)] (λ_:Unit=>(RA,[.obj bm 94 (aW a0 bk),.inv bk (cj k a0)])):=by
 intro kd hkd S w vs hd hall hO T hT cs hc
 refine hT.2 _ _ _ λGd hG v1 hr gs sl t kq hL=>?_
 have hO1:aS [.obj bm 94 (aW a0 bk),.inv bk (cj k a0)] S v1:=hO.rely hd hr
 have hd1:∀b,S b->b < v1.heap.size:=λb hb=>Nat.lt_of_lt_of_le (hd b hb) hr.size
 have fm:av [D.obj bm 94 (aW a0 bk),.inv bk (cj k a0)] bm:=⟨_,mem_cons_self,rfl⟩
 have fk:av [D.obj bm 94 (aW a0 bk),.inv bk (cj k a0)] bk:=⟨_,mem_cons_of_mem _ mem_cons_self,rfl⟩
 have hne:bm≠bk:=λe=>(pairwise_cons.1 hO1.apart).1 _ mem_cons_self bm rfl (by rw [e];rfl)
 obtain⟨cells,hcl,hce⟩:=hO1.holds _ mem_cons_self
 obtain⟨c0,c1,c2,c3,c4,c5,rfl,hrd⟩:=oJ hce
 have hall1:fM S v1 (.eq (.pointer (some ⟨bm,0,none⟩))::uz) vs:=fM.rely (fG hd hO.sees hr) hall
 have hat:(tQ bm bk #[c0,c1,c2,c3,c4,c5] (cj k a0)).At v1.toWorld { f:=12 }:=⟨λe=>(by cases e),λe=>(by cases e),hcl,λ_=>hO1.holds _ (mem_cons_of_mem _ mem_cons_self)⟩
 have hpok:(tQ bm bk #[c0,c1,c2,c3,c4,c5] (cj k a0)).Ok:=⟨hne,λe=>(by cases e),λe=>(by cases e)⟩
 have hsh:∀b,(tQ bm bk #[c0,c1,c2,c3,c4,c5] (cj k a0)).sh b->b=bm:=λb hb=>hb.elim id λe=>by cases e.1
 refine AZ hG (λ_ _ _ _ _ h=>h.elim) (p:=tQ bm bk #[c0,c1,c2,c3,c4,c5] (cj k a0)) (T:=T) (q:={ f:=12 }) (s:={ phi:=12,al:=true,jn:=true }) hpok hL hO1.domA hO1.domZ (hO1.far _ fk).2 hat (λb hb=>?_) rfl rfl (λe=>by cases e) rfl ?_
 .
  rcases hb with hb |hb
  .rw [hsh b hb];exact(hO1.far _ fm).1
  .rw [hb];exact(hO1.far _ fk).1
 refine hw c0 c1 c2 c3 c4 c5 T S _ vs kd cs hkd hd1 ?_ ⟨λd hd=>by simp at hd,λb hb=>(cx hb).elim,Pairwise.nil,λb hb=>(cx hb).elim,λb hb hA=>?_,λb hb=>?_,hO1.domZ⟩ hpok (λb hb=>.inr (.inl hb)) (.inr (.inr rfl)) (hO1.far _ fk).2 λc' v' fr u hpo hf1 hf2 hlv hA'=>?_
 .
  obtain⟨x,vs',e,hx,hx2⟩:=hall1;have hx:x= .pointer (some ⟨bm,0,none⟩):=hx;subst hx;exact⟨_,vs',e,uY hrd,hx2⟩
 .
  rcases hA with hA |hA |hA
  .exact hO1.sees b hb hA
  .rw [hsh b hA] at hb;exact(hO1.own _ fm).1 hb
  .rw [hA] at hb;exact(hO1.own _ fk).1 hb
 .
  rcases hb with hb |hb |hb
  .exact hO1.domA b hb
  .grind
  .rw [hb];exact(hO1.own _ fk).2
 .
  obtain⟨x,S',u',e,hcs,hres,hOw,_⟩:=hpo;cases e;have hAm:v'.A bm:=hcs.subA bm (.inr (.inl (.inl rfl)));have hAk:v'.A bk:=hA';refine Ww.fin rfl ⟨rfl,rfl,rfl,rfl,rfl,w.Z,λv2 q hr2 hat2 hpre2=>?_⟩;obtain⟨g1,g2,g3⟩:=zK hpre2 rfl ⟨rfl,rfl,rfl,rfl,rfl,rfl,rfl⟩
  have hmu:v2.heap[bm]? =some (.cells #[c0,c1,c2,c3,c4,c5,.int .i32 0,.int .u32 0,.map (some bk)] 94):=by
   have:=hat2.mu;grind
  have hmp:∃o,v2.heap[bk]? =some o/\cj k a0 o:=hat2.mp g3;have hZ2:v2.Z=w.Z:=by rw [hr2.Z,hcs.Z];exact hr.Z
  have old2:∀b,v2.A b->v'.A b\/v'.heap.size≤b:=hr2.old
  have oldw:∀b,v'.A b->b≠bm->b≠bk->w.A b\/w.heap.size≤b:=λb hb h1 h2=>by
   rcases hcs.oldA b hb with(hb |hb |hb) |hb
   .exact hr.old b hb
   .grind
   .grind
   .exact .inr (Nat.le_trans hr.size hb)
  have keepv:∀b,b < v1.heap.size->¬v1.A b->b≠bm->b≠bk->v2.heap[b]? =v1.heap[b]? :=λb hb ha h1 h2=>by
   have e1:=hcs.keep b hb (by
    rintro(h |h |h)
    .exact ha h
    .grind
    grind) (λh=>(cx h).elim)
   have e2:=hr2.keep b (Nat.lt_of_lt_of_le hb hcs.size) (λh=>by
    rcases hcs.oldA b h with(h |h |h) |h
    .exact ha h
    .grind
    .exact h2 h
    grind)
   grind
  have hsz:w.heap.size≤v2.heap.size:=Nat.le_trans hr.size (Nat.le_trans hcs.size hr2.size);have hKs:gr S v1 v2:=λb hb=>keepv b (hd1 b hb) (hO1.sees b hb) (λe=>(hO1.own _ fm).1 (e▸hb)) (λe=>(hO1.own _ fk).1 (e▸hb))
  have hfe:∀b,av [D.obj bm 94 (aW a0 bk),.inv bk (cj k a0)] b->b=bm\/b=bk:=λb ⟨d,hd',e⟩=>by
   rcases mem_cons.1 hd' with rfl |hd'
   .exact .inl (Option.some.inj e).symm
   .rw [List.mem_singleton.1 hd'] at e;exact .inr (Option.some.inj e).symm
  refine hc (.returned u) _ fr ⟨(),S',u,rfl,⟨λb hb=>hcs.sub b hb,λb hb=>?_,λb hb=>Nat.lt_of_lt_of_le (hcs.dom b hb) hr2.size,hsz,λb hb ha hx=>?_,(hr2.os.trans hcs.os).trans hr.os,(hr2.tape.trans hcs.tape).trans hr.tape,(hr2.output.trans hcs.output).trans hr.output,λb hb=>?_,λb hb=>?_,rfl⟩,A.mono (λ_ h=>h) (fG hcs.dom hOw.sees hr2) _ hres,⟨λd hd'=>?_,λb hb=>?_,hO.apart,λb hb=>⟨λh=>?_,(hO.far b hb).2⟩,λb hb h=>?_,λb h=>hr2.dom hOw.domA b h.1,λb h=>Nat.lt_of_lt_of_le (hO.domZ b h) hsz⟩,λb hb=>.inl hb⟩ hf1 hf2 ?_
  .rcases hcs.new b hb with h |h |h
   .grind
   .exact .inr (.inl (Nat.le_trans hr.size h))
   grind [cx]
  .have e1:=hr.keep b hb ha;have e2:=keepv b (Nat.lt_of_lt_of_le hb hr.size) (λh=>(hr.old b h).elim ha λh=>absurd hb (Nat.not_lt.2 h)) (λe=>hx (e▸fm)) (λe=>hx (e▸fk));grind
  .refine⟨hr2.sub b (hcs.subA b (.inl (hr.sub b hb))),λe=>?_,λe=>?_⟩
   .have e:b=bm:=e;rw [e] at hb;exact(hO.far _ fm).1 hb
   .have e:b=bk:=e;rw [e] at hb;exact(hO.far _ fk).1 hb
  .obtain⟨h1,h2,h3⟩:=hb;rcases old2 b h1 with h |h
   .grind
   .exact .inr (Nat.le_trans (Nat.le_trans hr.size hcs.size) h)
  .rcases mem_cons.1 hd' with rfl |hd'
   .exact⟨_,hmu,[c0,c1,c2,c3,c4,c5],_,rfl,dS (λb hb=>hcs.sub b hb) hKs ap hrd,[_],_,rfl,⟨rfl,rfl⟩,[_],_,rfl,⟨rfl,rfl⟩,⟨rfl,rfl⟩⟩
   .rw [List.mem_singleton.1 hd'];exact hmp
  .rcases hfe b hb with rfl |rfl
   .exact⟨λh=>hOw.sees _ h hAm,(Array.getElem?_eq_some_iff.1 hmu).1⟩
   .obtain⟨o,ho,_⟩:=hmp;exact⟨λh=>hOw.sees _ h hAk,(Array.getElem?_eq_some_iff.1 ho).1⟩
  .grind
  .rcases old2 b h.1 with h' |h'
   .exact hOw.sees b hb h'
   .exact absurd (hcs.dom b hb) (Nat.not_lt.2 h')
  .obtain⟨l1,l2,fn,l3,l4⟩:=hlv;refine⟨l1,l2,fn,l3,λv3 hr3=>?_⟩
   have hrel:bu v' ⟨v3.toWorld,λb=>v3.A b\/b=bm\/b=bk,v'.Z⟩:=by
    refine⟨λb hb ha=>?_,Nat.le_trans hr2.size hr3.size,λb hb=>?_,λb hb=>?_,λhdm b hb=>?_,rfl,hr3.os.trans hr2.os,hr3.tape.trans hr2.tape,hr3.output.trans hr2.output⟩
    .have e1:=hr2.keep b hb ha;have e2:=hr3.keep b (Nat.lt_of_lt_of_le hb hr2.size) (λh=>(old2 b h.1).elim ha λh=>absurd hb (Nat.not_lt.2 h));grind
    .by_cases e1:b=bm
     .omega
     .by_cases e2:b=bk
      .omega
      .exact .inl (hr3.sub b ⟨hr2.sub b hb,e1,e2⟩)
    .rcases hb with hb |rfl |rfl
     .rcases hr3.old b hb with h |h
      .grind
      .exact .inr (Nat.le_trans hr2.size h)
     .grind
     grind
    .have hm2:bm < v2.heap.size:=(Array.getElem?_eq_some_iff.1 hmu).1;have hk2:bk < v2.heap.size:=by grind
     rcases hb with hb |rfl |rfl
     .exact hr3.dom (λb h=>hr2.dom hOw.domA b h.1) b hb
     .exact Nat.lt_of_lt_of_le hm2 hr3.size
     .exact Nat.lt_of_lt_of_le hk2 hr3.size
   obtain⟨q1,q2⟩:=l4 _ hrel;refine⟨q1,⟨λ_ _ _=>rfl,Nat.le_refl _,.refl _,rfl,rfl,λev hev=>?_⟩⟩;have:=q2.evs ev hev;have hz3:v3.Z=v'.Z:=by rw [hr3.Z,hcs.Z];exact hr.Z.symm
   unfold lL at this⊢;rw [hz3];split at this
   .grind
   .grind
   .exact this
   omega
theorem AH{r:List (List Int)}(h:lQ k a0 a1=some r):
 cz (ec Tryz.prog) 20 [.eq (.pointer (some ⟨bm,0,none⟩)),.eq (.int .u8 a1)] [.obj bm 94 (aW a0 bk),.inv bk (cj k a0)] (λ_:Unit=>(bO [.rep (.arr 7 (.arr 5 (.int .i64))) r],[.obj bm 94 (aW a0 bk),.inv bk (cj k a0)])):=
 LM λc0 c1 c2 c3 c4 c5 T S w vs kd cs hkd hd hall hO hok hsh hA hZ hc=>AG (s:={ al:=true,jn:=true }) (c:=0) hok ⟨rfl,rfl,rfl,λ_=>rfl⟩ rfl rfl hkd h hd hall hO hsh hA hZ λc' v' fr u _=>hc c' v' fr u
end
end Go.Proofs.YtflilincnacbpaaGreat
set_option linter.unusedVariables false
namespace Go.Proofs.YtflilincnacbpaaGreat
namespace K
open Go Go.Conc
section
variable {P:Program}{p:Gp}{T:Tq}{s:Ph}{v:VW}{fr:Frame}{cs:List Frame}
theorem Jx{z:Value}(hcr:p.cr=true)(hnw:s.nw=1)(hq:s.q=false)(hmx:s.mx=0)(hrg:s.rg=false)(hst:∀w:World,stepG P false (Gr fr cs) w= .comm (Gr fr cs) #[rcase p.bc z] true (.recv true) w #[])
 (h1:∀v1 x,bu v v1->p.vok x->s={ ac:=1,nw:=1,phi:=s.phi }/\p.lp (s.phi+12) x v1 (fr.finish (.tuple #[x,.bool true])) cs) (h2:∀v1,bu v v1->Ww P p T false { s with nw:=0 } v1 (fr.finish (.tuple #[z,.bool false])) cs):Ww P p T false s v fr cs:=
 .of ⟨hq,.inr (.inr (.inr (.inl ⟨z,hcr,rfl,hnw,hq,hmx,hrg,hst,h1,λv1 hr=>⟨{},undef,true,h2 v1 hr⟩⟩)))⟩
theorem Jw{x z:Value}(hcr:p.cr=true)(hop:s.op=true)(hsp:0 < s.sp)(hphi:12≤s.phi)(hq:s.q=false)(hmx:s.mx=0)(hrg:s.rg=false)(hx:p.vok x)(hst:∀w:World,stepG P true (Gr fr cs) w= .comm (Gr fr cs) #[scase p.bc x z] true .send w #[])
 (h:∀v1,bu v v1->Ww P p T true { s with phi:=s.phi - 12 } v1 (fr.finish undef) cs):Ww P p T true s v fr cs:=
 .of ⟨hq,.inr (.inr (.inr (.inr (.inl ⟨x,z,hcr,rfl,hop,hsp,hphi,hq,hmx,hrg,hx,hst,λv1 hr=>⟨{},undef,true,h v1 hr⟩⟩))))⟩
theorem F9{fr' fc:Frame}{Sh:Nat->Prop}(hcr:p.cr=true)(hq:s.q=false)(hpd:s.pd=1)(hdf:s.df=0)(hrg:s.rg=false)(hop:s.op=true)(hsp:s.sp < 100)(hst:∀w:World,stepG P true (Gr fr cs) w= .spawn (Gr fr' cs) (Gr fc []) w #[])(hSh:∀b,Sh b->b < v.heap.size/\¬v.A b/\b≠p.bk)
 (h1:∀v1,bu v v1->Ww P p T false .wk0 ⟨v1.toWorld,λb=>b < v1.heap.size/\¬Sh b,Sh⟩ fc []) (h2:∀v1,bu v v1->Ww P p T true { s with pd:=0,sp:=s.sp+1,al:=false,jn:=false } ⟨v1.toWorld,v1.A,λb=>v1.Z b\/Sh b⟩ fr' cs):Ww P p T true s v fr cs:=
 .of ⟨hq,.inr (.inr (.inr (.inr (.inr (.inl ⟨hcr,rfl,hpd,hdf,hrg,hop,hsp,fr',fc,Sh,hst,hSh,λv1 hr=>⟨{},undef,true,h1 v1 hr⟩,λv1 hr=>⟨{},undef,true,h2 v1 hr⟩⟩)))))⟩
theorem Ht{q:dV}(hs:s.Stt)(hrg:s.rg=false)(hp:my p true s q):Sv p true s q { s with op:=false,cd:=true,cb:=some 102 } { q with cl:=true }:=by
 have hc:q.c≤102:=by obtain⟨_,_,_,_,_,_,_,_,_,_,h,_⟩:=hp.get;exact h
 refine Sv.mk (λa b z ha hpt hb hz _ _ _ _=>?_) hs.q (.inr ⟨rfl,rfl⟩) (λow φ e=>by simp_all) (λx h1 h2 _=>⟨h1,h2⟩) (λ_ _ _ _ _=>by rw [show({ s with op:=false,cd:=true,cb:=some 102 }:Ph).nb=0 from hs.nb];omega) (λi hi ho=>⟨ho.one,ho.rg,ho.lv,λe=>?_,ho.dt,ho.main,ho.work⟩) (λ_ e=>.inl e)
 .rw [if_pos rfl];have hz:=hz rfl;subst hz;have r1:b.ac=a.ac:=Nat.add_right_cancel hb.ac;have r2:b.w1=a.w1:=Nat.add_right_cancel hb.w1;have r3:b.w2=a.w2:=Nat.add_right_cancel hb.w2;have r5:b.hd=a.hd:=Nat.add_right_cancel hb.hd;have r6:b.dt=a.dt:=Nat.add_right_cancel hb.dt;have r7:b.aw=a.aw:=Nat.add_right_cancel hb.aw;have r8:b.rn=a.rn:=Nat.add_right_cancel hb.rn;have r9:b.qu=a.qu:=Nat.add_right_cancel hb.qu;have r10:b.tk=a.tk:=Nat.add_right_cancel hb.tk;have r11:b.rh=a.rh:=Nat.add_right_cancel hb.rh;have r12:b.ty=a.ty:=Nat.add_right_cancel hb.ty;have r13:b.phi=a.phi:=Nat.add_right_cancel hb.phi;have r14:b.lv=a.lv:=Nat.add_right_cancel hb.lv;refine⟨by rw [r1];exact ha.c,by rw [r2,r3];exact ha.un,by simp_all,ha.pd,λ_=>rfl,λe=>(by cases e),λe=>(by cases e),ha.le,by rw [r5];exact ha.hd,by rw [r7,r8,r9,r10,r11,r12];exact ha.s0,by rw [r7,r8,r9,r10,r11];exact ha.s1,by rw [r6];exact ha.h,by rw [r13];exact ha.f,by rw [r14];exact ha.lv,λB e=>(by simp_all)⟩
 .have e:s.q=true:=e;rw [hs.q] at e;cases e
end
end K
end Go.Proofs.YtflilincnacbpaaGreat
set_option linter.unusedVariables false
namespace Go.Proofs.YtflilincnacbpaaGreat
namespace K
open Go Go.Conc
section
variable {P:Program}{main:Bool}{b:Frame}{a:Act}{k:List Item}{cs:List Frame}{ops:Array Oper}{i:Nat}{rest:List Nat}{o:Oper}{w:World}
theorem PP{ct e:TypeId}{dir:ChanDir}{x:Operand}{z:Value}{c:Nat}(ho:ops[i]? =some o)(hw:Region.wanted o (yielded ops a.tmps)=true)(hop:o.op= .recv ct x true)(hT:P.underlying ct=some (.chan dir e))(hz:∀w,(zeroValue e).run P w= .ok z w)(hx:a.eval x= .chan (some c)):
 stepG P main (Gr (b.atR a (.inRegion ops (i::rest)::k)) cs) w= .comm (Gr (b.atR a (.inRegion ops (i::rest)::k)) cs) #[rcase c z] true (.recv true) w #[]:=by
 have hr:(execOp a.eval o).run P w= .ok (.comm #[rcase c z] true (.recv true)) w:=by
  simp_all [execOp,run_underlying,rcase]
 have he:(execOp a.eval o).events P w #[]= #[]:=by
  simp_all [execOp,run_underlying,rcase]
 have hT':(execOp a.eval o).runT P w #[]=(.ok (.comm #[rcase c z] true (.recv true)) w, #[]):=Prod.ext (by simp_all) he
 simp_all [vg,Oper.semAt_eq,stepG.apply,if_true,vf,lj,GStep.after]
theorem PO{x y:Operand}{u:Value}{c:Nat}(ho:ops[i]? =some o)(hw:Region.wanted o (yielded ops a.tmps)=true)(hop:o.op= .send x y)(hx:a.eval x= .chan (some c))(hy:a.eval y=u):
 stepG P main (Gr (b.atR a (.inRegion ops (i::rest)::k)) cs) w= .comm (Gr (b.atR a (.inRegion ops (i::rest)::k)) cs) #[scase c u (.tuple #[])] true .send w #[]:=by
 have he:execOp a.eval o=pure (.comm #[scase c u (.tuple #[])] true .send):=by
  simp_all [execOp,scase]
 have hT':(execOp a.eval o).runT P w #[]=(.ok (.comm #[scase c u (.tuple #[])] true .send) w, #[]):=by rw [he];rfl
 simp_all [vg,Oper.semAt_eq,stepG.apply,if_true,vf,lj,GStep.after]
end
section
variable {P:Program}{p:Gp}{T:Tq}{s:Ph}{v:VW}{fr fr':Frame}{cs cs':List Frame}
theorem Gf(hok:p.Ok)(hcr:p.cr=true)(hs:s.Stt)(hrg:s.rg=false)(hop:s.op=true)(hjn:s.jn=true->s.al=true)(hwk:mayWake P (Gr fr cs)=true)(hsh:∀b,p.sh b->v.A b)(hA:v.A p.bk)(hlt:p.bk < v.heap.size)
 (hst:∀(w:World) (q:dV),p.At w q->q.cl=false->stepG P true (Gr fr cs) w= .go (Gr fr' cs') { w with heap:=w.heap.setIfInBounds p.bc (.chan 0 #[] true q.cs q.cs false) } #[⟨.obj p.bc,false,true⟩,⟨.obj p.bc,true,true⟩])
 (h:∀v',VR p v v'->v'.A p.bk->Ww P p T true { s with op:=false,cd:=true,cb:=some 102 } v' fr' cs'):Ww P p T true s v fr cs:=by
 refine pG hs.q λv1 q hr hat hp=>?_
 have hcl:q.cl=false:=by
  obtain⟨a,z,ha,_,hz,_⟩:=hp.get;have hz:=hz rfl;subst hz;exact ha.op hop
 have hlc:=(Array.getElem?_eq_some_iff.1 (hat.ch hcr)).1
 have g:∀x b,b≠p.bc->(v1.heap.setIfInBounds p.bc x)[b]? =v1.heap[b]? :=λx b hb=>getElem?_setIfInBounds_ne λe=>hb e.symm
 have heff:p.Eff v1.toWorld { v1.toWorld with heap:=v1.heap.setIfInBounds p.bc (.chan 0 #[] true q.cs q.cs false) } { q with cl:=true }:=by
  refine⟨⟨λ_=>(g _ _ (hok.wm hcr).2.2).trans (hat.wg hcr),λ_=>getElem?_setIfInBounds_self_of_lt hlc,(g _ _ (hok.cm hcr).1.symm).trans hat.mu,λe=>?_⟩,λb hb=>g _ _ λe=>hb (.inr ⟨hcr,.inr e⟩),by simp,rfl,rfl,rfl⟩;obtain⟨o,ho,hro⟩:=hat.mp e;exact⟨o,(g _ _ (hok.cm hcr).2.symm).trans ho,hro⟩
 have hwc:p.wc (.obj p.bc):=.inr (.inr ⟨hcr,.inr (.inr rfl)⟩)
 refine⟨{ s with op:=false,cd:=true,cb:=some 102 },{ q with cl:=true },fr',cs',_,_,hst _ q hat hcl,heff,Ht hs hrg hp,⟨λe he=>?_,?_,λe=>(by cases e),λe=>absurd rfl e,λe=>absurd rfl e,?_,λ_ e=>?_,λe=>e,λe=>⟨hjn e,.inl e⟩,λe=>(by cases e)⟩,λ_=>hwk,λ_=>rfl,λ_=>⟨q,undef,true,?_⟩,λe=>?_⟩
 .
  grind
 .
  rw [if_neg (by rw [show({ s with op:=false,cd:=true,cb:=some 102 }:Ph).q=s.q from rfl,hs.q];simp)];rfl
 .
  show s.dt≤1;rw [hs.dt];omega
 .
  simp_all
 .
  exact h _ ((VR.refl hsh hlt).rely hr |>.put hok heff) (sF.2 hs.dt)
 .
  have e:s.q=true:=e;rw [hs.q] at e;cases e
end
end K
end Go.Proofs.YtflilincnacbpaaGreat
set_option linter.unusedVariables false
namespace Go.Proofs.YtflilincnacbpaaGreat
namespace K
open Go Go.Conc
theorem HY{P:Program}{M:Md P}{rd:Option Nat}{Q:Exit->Act->VW->Prop}{K:Act->VW->Prop}{a:Act}{v:VW}{ops:Array Oper}{i:Nat}{rest:List Nat}{o:Oper}(ho:ops[i]? =some o)(hw:Region.wanted o (yielded ops a.tmps)=true)(h:o.wk M rd a v K Q)
 {T:Tq} (hT:M.ok T) {b:Frame} {k:List Item} {cs:List Frame} (hb:b.roundOf=rd) (hK:∀a' v',K a' v'->T v' (b.atR a' (.inRegion ops rest::k)) cs) (hQ:∀ch a' v',Q (.panic ch) a' v'->nh T b k cs (.panic ch) a' v'):
 T v (b.atR a (.inRegion ops (i::rest)::k)) cs:=by
 have B:=M.bc T hT
 subst hb
 refine M.st T hT _ _ _ λv1 hr hkf=>?_
 obtain⟨hS,hU⟩:=h v1 hr hkf
 generalize hres:(o.semAt b.roundOf a.eval).run P v1.toWorld=r at hU
 cases r with
 |ok x w'=>
  have hG:=hS.ok hres;cases x with
  |value x=>
   obtain⟨es,h1,h2⟩:=Ea (b:=b) (k:=k) (cs:=cs) (rest:=rest) ho hw hres;exact⟨_,_,w',es,h2,hG.sub h1,hK _ _ hU⟩
  |skip=>
   obtain⟨es,h1,h2⟩:=I0 (b:=b) (k:=k) (cs:=cs) (rest:=rest) ho hw hres;exact⟨_,_,w',es,h2,hG.sub h1,hK _ _ hU⟩
  |«defer» d=>
   obtain⟨es,h1,h2⟩:=Ee (b:=b) (k:=k) (cs:=cs) (rest:=rest) ho hw hres;exact⟨_,_,w',es,h2,hG.sub h1,hK _ _ hU⟩
  |enter f args=>
   obtain⟨es,h1,h2⟩:=yt (b:=b) (k:=k) (cs:=cs) (rest:=rest) ho hw hres;refine⟨_,_,w',es,h2,hG.sub h1,hU T hT _ λe v' fr q hf hk hl=>?_⟩;cases e with
   |returned x=>
    grind [pr,Frame.finish_atR]
   |panicked chain=>exact tR B hl (by rw [Frame.raise_atR];exact hQ _ _ _ q _)
   |outgrown=>grind
  |round l f tmps assign body=>
   obtain⟨es,h1,h2⟩:=Eb (b:=b) (k:=k) (cs:=cs) (rest:=rest) ho hw hres;refine⟨_,_,w',es,h2,hG.sub h1,hU T hT _ _ (λx v' q=>?_) (λch v' q=>by rw [Frame.raise_atR];exact hQ _ _ _ q _) (λv' q=>q)⟩;simp_all [Frame.finish_atR]
  |_=>exact hU.elim
 |halt x w'=>
  have hG:=hS.halt hres;cases x with
  |panic x=>
   obtain⟨es,h1,h2⟩:=Ec (b:=b) (k:=k) (cs:=cs) (rest:=rest) ho hw hres;exact⟨_,_,w',es,h2,hG.sub h1,hQ _ _ _ hU _⟩
  |_=>exact hU.elim
theorem iH{c:Cx}{ops:Array Oper}{o:Oper}{i:Nat}{rest:List Nat}{Γ Γ':Ga}{Δ Δ':List D}{a:Act}{v:VW}{T:Tq}{b:Frame}{k:List Item}{cs:List Frame}(hT:c.M.ok T)(hb:b.roundOf=c.rd)(st:St c Γ Δ a v)(ho:ops[i]? =some o)(hg:o.guard=none)
 (h:JO c ops [o] (bQ (λa w=>St c Γ' Δ' a w) (λ_ _ _=>False)) Γ Δ) (hK:∀a' v',St c Γ' Δ' a' v'->T v' (b.atR a' (.inRegion ops rest::k)) cs):T v (b.atR a (.inRegion ops (i::rest)::k)) cs:=by
 have h1:=h a v st
 simp only [E3] at h1
 rw [if_pos (ag hg _)] at h1
 exact HY ho (ag hg _) h1 hT hb (λa' v' q=>hK a' v' q) λch a' v' q=>q.elim
theorem St.know{c:Cx}{Γ:Ga}{Δ:List D}{a:Act}{v:VW}{d:Nat}{u:Value}(st:St c Γ Δ a v)(h:a.tmps.getD d undef=u):St c ((d,.eq u)::Γ) Δ a v:=by
 obtain⟨h1,h2,S,h3,h4,h5,h6⟩:=st;refine⟨h1,h2,S,h3,h4,h5,λs r hl=>?_⟩;simp only [lk] at hl;split at hl
 .rename_i e;subst e;cases hl;exact h
 simp_all
theorem St.base{P:Program}{N:Nat}{S0:FS}{w0:VW}{rd:Option Nat}{df:List Deferred}{M M':Md P}{Γ:Ga}{a:Act}{v:VW}(st:St ⟨P,N,S0,w0,av [],rd,df,M⟩ Γ [] a v):∃S,(∀b,S b->b < v.heap.size)/\aS [] S v/\St ⟨P,N,S,v,av [],rd,df,M'⟩ Γ [] a v:=by
 obtain⟨h1,h2,S,h3,h4,h5,h6⟩:=st;exact⟨S,h3.dom,h5,h1,h2,S,bD.refl h3.dom,λb hb=>.inl hb,h5,h6⟩
theorem BC.call{P:Program}{T:Tq}(h:BC P T){b:Frame}{a:Act}{k:List Item}{cs:List Frame}{ops:Array Oper}{i:Nat}{rest:List Nat}{o:Oper}{f:Nat}{fn:Func}{C:Code}{xs:Array Operand}{ts:Array TypeId}{cZ:List Value}{v:VW}
 (ho:ops[i]? =some o) (hg:o.guard=none) (hop:o.op= .call { callee:=.value (.func f),args:=xs,argTypes:=ts }) (hf:P.funcs[f]? =some fn) (hname:(fn.name == "runtime.NumGoroutine")=false) (hb:fn.body=some C) (hm:xs.map a.eval=cZ.toArray)
 (ht:T v (Frame.enter P f cZ.toArray .normal) (b.atR a (.inRegion ops (i::rest)::k)::cs)):T v (b.atR a (.inRegion ops (i::rest)::k)) cs:=by
 have ef:a.eval (.func f)= .func (.func f) #[] #[]:=rfl
 have hn:¬fn.name= "runtime.NumGoroutine" :=by simp_all
 have e1:o.semAt b.roundOf a.eval=execOp a.eval o:=Oper.semAt_eq _ _ _ λc e=>by simp_all
 have hr:∀w,(execOp a.eval o).runT P w #[]=(.ok (.enter f cZ.toArray) w, #[]):=λw=>by
  unfold execOp;simp [hop,resolve,Deferred.ofValue,ef,invoke,callFunc,hf,hn,hb,hm]
 refine h.step _ _ _ λv1 hr1=>?_
 have h1:(o.semAt b.roundOf a.eval).run P v1.toWorld= .ok (.enter f cZ.toArray) v1.toWorld:=by simp_all
 obtain⟨es,h2,h3⟩:=yt (b:=b) (k:=k) (cs:=cs) (rest:=rest) ho (ag hg _) h1
 refine⟨_,_,_,es,h3,(eP.refl v1).sub λe he=>?_,h.rely _ _ _ _ hr1 ht⟩
 simp_all
end K
end Go.Proofs.YtflilincnacbpaaGreat
namespace Go.Proofs.YtflilincnacbpaaGreat
open K Go Go.Proofs Go.Conc Go.Conc.Lib
abbrev OE:Go.Conc.Lib.WgLink:={ add:=64,done:=66,wait:=67,relMerge:=79,disable:=80,enable:=81,inBubble:=82,associate:=83,fatal:=84,uOr:=85,uAdd:=86,raceRead:=87,uLoad:=88,uStore:=89,disassociate:=90,semrelease:=91,acquire:=92,isAssociated:=93,uCas:=94,raceWrite:=95,semacquire:=96,orU64:=102,addU64:=103,loadU64:=104,storeU64:=105,casU64:=106,tWgP:=145,tUP:=147,tAssoc:=148,tWg:=127,tAU:=125,tU64:=44,tUint:=118,tU32:=87,tPU32:=152,tPAU:=165,tPU64:=167,tNoCopy:=86,tANoCopy:=122,tAlign64:=123 }
theorem zm:Go.Conc.Lib.WgLib Tryz.prog OE:=
 ⟨Tryz.func64,Tryz.func66,Tryz.func67,Tryz.func79,Tryz.func80,Tryz.func81,Tryz.func82,Tryz.func83,Tryz.func84,Tryz.func85,Tryz.func86,Tryz.func87,Tryz.func88,Tryz.func89,Tryz.func90,Tryz.func91,Tryz.func92,Tryz.func93,Tryz.func94,Tryz.func95,Tryz.func96,Tryz.func102,Tryz.func103,Tryz.func104,Tryz.func105,Tryz.func106,Tryz.underlying145,Tryz.runUnderlying145,Tryz.sizeOf145,Tryz.isAgg145,Tryz.zeroValue145,Tryz.underlying147,Tryz.runUnderlying147,Tryz.sizeOf147,Tryz.isAgg147,Tryz.zeroValue147,Tryz.underlying148,Tryz.runUnderlying148,Tryz.sizeOf148,Tryz.isAgg148,Tryz.zeroValue148,Tryz.underlying127,Tryz.runUnderlying127,Tryz.sizeOf127,Tryz.isAgg127,Tryz.zeroValue127,Tryz.underlying125,Tryz.runUnderlying125,Tryz.sizeOf125,Tryz.isAgg125,Tryz.zeroValue125,Tryz.underlying44,Tryz.runUnderlying44,Tryz.sizeOf44,Tryz.isAgg44,Tryz.zeroValue44,Tryz.underlying118,Tryz.runUnderlying118,Tryz.sizeOf118,Tryz.isAgg118,Tryz.zeroValue118,Tryz.underlying87,Tryz.runUnderlying87,Tryz.sizeOf87,Tryz.isAgg87,Tryz.zeroValue87,Tryz.underlying152,Tryz.runUnderlying152,Tryz.sizeOf152,Tryz.isAgg152,Tryz.zeroValue152,Tryz.underlying165,Tryz.runUnderlying165,Tryz.sizeOf165,Tryz.isAgg165,Tryz.zeroValue165,Tryz.underlying167,Tryz.runUnderlying167,Tryz.sizeOf167,Tryz.isAgg167,Tryz.zeroValue167,Tryz.underlying0,Tryz.runUnderlying0,Tryz.sizeOf0,Tryz.isAgg0,Tryz.zeroValue0,Tryz.underlying3,Tryz.runUnderlying3,Tryz.sizeOf3,Tryz.isAgg3,Tryz.zeroValue3,Tryz.underlying4,Tryz.runUnderlying4,Tryz.sizeOf4,Tryz.isAgg4,Tryz.zeroValue4,Tryz.underlying9,Tryz.runUnderlying9,Tryz.sizeOf9,Tryz.isAgg9,Tryz.zeroValue9,Tryz.underlying20,Tryz.runUnderlying20,Tryz.sizeOf20,Tryz.isAgg20,Tryz.zeroValue20,Tryz.underlying21,Tryz.runUnderlying21,Tryz.sizeOf21,Tryz.isAgg21,Tryz.zeroValue21,(by kernel_rfl),(by kernel_rfl)⟩
end Go.Proofs.YtflilincnacbpaaGreat
set_option linter.unusedVariables false
set_option maxRecDepth 20000
set_option maxHeartbeats 4000000
namespace Go.Proofs.YtflilincnacbpaaGreat
open K Go Go.Proofs Go.Conc
theorem FV:ai Tryz.prog 65:=ai.of Tryz.func65 (by kernel_rfl) (by kernel_rfl)
theorem py:eu Tryz.prog 121 1 false:=⟨λw=>by kernel_rfl,λw=>by kernel_rfl⟩
theorem Du:eu Tryz.prog 51 1 false:=⟨λw=>by kernel_rfl,λw=>by kernel_rfl⟩
theorem Oy:∀w,(zeroValue 52).run Tryz.prog w= .ok (.int .u8 0) w:=by simp_all
noncomputable def oe:Code:=match Tryz.f65.body with
 |some (.seq _ (.block _ (.loop b)))=>b
 |_=>.skip
noncomputable def zi:Array Oper:=match oe with
 | .block _ (.seq (.region _ ops _) _)=>ops
 |_=> #[]
noncomputable def pY:Code:=match oe with
 | .block _ (.seq _ c)=>c
 |_=>.skip
noncomputable def OB:Code:=match pY with
 | .seq (.seq _ c) _=>c
 |_=>.skip
noncomputable def OA:Code:=match pY with
 | .seq _ c=>c
 |_=>.skip
abbrev J7:Frame:={ (default:Frame) with fn:=65,kind:=.deferred }
@[reducible] noncomputable def NQ (bw bc bm:Nat) (cl:List Value) (a0:ae):Ga:=[(0,.eq (.pointer (some ⟨bw,0,none⟩))),(1,.at .val (.chan (some bc))),(2,.at (.mo (.pointer (some ⟨bm,0,none⟩)) cl ap) a0)]
@[reducible] noncomputable def Bj (M:Md Tryz.prog) (bw:Nat) (S:FS) (v:VW):Cx:=⟨Tryz.prog,15,S,v,av [],none,[dcall 66 #[.pointer (some ⟨bw,0,none⟩)]],M⟩
structure yN(bw bc bm bk:Nat)(v:VW):Prop where
 m:v.A bm
 w:v.A bw
 c:v.A bc
 k:v.A bk
 z:¬v.Z bk
theorem yN.rely{bw bc bm bk:Nat}{v v':VW}(h:yN bw bc bm bk v)(hr:bu v v'):yN bw bc bm bk v':=⟨hr.sub _ h.m,hr.sub _ h.w,hr.sub _ h.c,hr.sub _ h.k,by rw [hr.Z];exact h.z⟩
theorem yN.st{bw bc bm bk:Nat}{c:Cx}{Γ:Ga}{Δ:List D}{a:Act}{v:VW}(h:yN bw bc bm bk c.w0)(st:St c Γ Δ a v):yN bw bc bm bk v:=⟨St.subA st h.m,St.subA st h.w,St.subA st h.c,St.subA st h.k,by rw [JE st];exact h.z⟩
def TP(bw bc bm bk:Nat)(cl:List Value)(a0:ae):Nat->Value->VW->Frame->List Frame->Prop:=λc x v fr cs=>∃a S dd c',c=c'+12/\St (Bj (Md.plain Tryz.prog) bw S v) ((6,.eq (.chan (some bc)))::NQ bw bc bm cl a0) [] a v/\yN bw bc bm bk v/\
 fr=J7.atR (a.put (some 7) (.tuple #[x,.bool true])) [.inRegion zi [2,3,4,5,6],.code pY,.inBlock 1,.inLoop oe,.inBlock 0]/\cs=[{ eM Tryz.prog dd with defers:=[] }]
@[reducible] def dq(bw bc bm bk:Nat)(c0 c1 c2 c3 c4 c5:Value)(k:Nat)(a0:ae):Gp:=⟨true,bw,127,bc,bm,94, #[c0,c1,c2,c3,c4,c5],bk,cj k a0,λx=>∃s r,x= .int .u8 s/\lQ k a0 s=some r,TP bw bc bm bk [c0,c1,c2,c3,c4,c5] a0⟩
section
variable {bw bc bm bk:Nat}{c0 c1 c2 c3 c4 c5:Value}{k:Nat}{a0:ae}{T:Tq}{M:Md Tryz.prog}{S:FS}{v w0:VW}{a:Act}{dd:Deferred}{Γ:Ga}
theorem zg{v:VW}(h:yN bw bc bm bk v):∀b,(dq bw bc bm bk c0 c1 c2 c3 c4 c5 k a0).sh b->v.A b:=by
 rintro b (rfl |⟨_,rfl |rfl⟩)
 .exact h.m
 .exact h.w
 .exact h.c
theorem Oz{S:FS}{w:World}{x y:Value}:(A.tup (.pair (.eq x) (.pair (.eq y) .any))).holds S w (.tuple #[x,y]):=⟨[x,y],rfl,x,[y],rfl,rfl,y,[],rfl,rfl,rfl⟩
theorem K.St.see{c:Cx}{Γ:Ga}{Δ:List D}{a:Act}{v:VW}{d:Nat}{r:A}(st:St c Γ Δ a v)(h:∀S:FS,r.holds S v (a.tmps.getD d undef)):St c ((d,r)::Γ) Δ a v:=by
 obtain⟨h1,h2,S,h3,h4,h5,h6⟩:=st;refine⟨h1,h2,S,h3,h4,h5,λs r hl=>?_⟩;grind [lk]
theorem wx{s:Ph}(hq:s.q=false)(hn:s.nr=true):BC Tryz.prog (Ww Tryz.prog (dq bw bc bm bk c0 c1 c2 c3 c4 c5 k a0) T false s):=Ww.bc hq hn
theorem Dv{s:Ph}(hq:s.q=false)(hn:s.nr=true):(MW Tryz.prog (dq bw bc bm bk c0 c1 c2 c3 c4 c5 k a0) T).ok (Ww Tryz.prog (dq bw bc bm bk c0 c1 c2 c3 c4 c5 k a0) T false s):=⟨false,s,hq,hn,rfl⟩
theorem zh{x:Value}{is:Bool}{s:Ph}(hq:s.q=false)(hn:s.nr=true){kk:List Item}{cs:List Frame}(st:St (Bj (MW Tryz.prog (dq bw bc bm bk c0 c1 c2 c3 c4 c5 k a0) T) bw S w0) ((6,.eq (.chan (some bc)))::NQ bw bc bm [c0,c1,c2,c3,c4,c5] a0) [] a v)
 (hc:∀a' v',St (Bj (MW Tryz.prog (dq bw bc bm bk c0 c1 c2 c3 c4 c5 k a0) T) bw S w0) ((11,.eq (.bool !is))::(3,.eq x)::NQ bw bc bm [c0,c1,c2,c3,c4,c5] a0) [] a' v'->Ww Tryz.prog (dq bw bc bm bk c0 c1 c2 c3 c4 c5 k a0) T false s v' (J7.atR a' (.code OB:: .code OA::kk)) cs):
 Ww Tryz.prog (dq bw bc bm bk c0 c1 c2 c3 c4 c5 k a0) T false s v (J7.atR (a.put (some 7) (.tuple #[x,.bool is])) (.inRegion zi [2,3,4,5,6]:: .code pY::kk)) cs:=by
 have B:=wx (bw:=bw) (bc:=bc) (bm:=bm) (bk:=bk) (c0:=c0) (c1:=c1) (c2:=c2) (c3:=c3) (c4:=c4) (c5:=c5) (k:=k) (a0:=a0) (T:=T) hq hn
 have hT:=Dv (bw:=bw) (bc:=bc) (bm:=bm) (bk:=bk) (c0:=c0) (c1:=c1) (c2:=c2) (c3:=c3) (c4:=c4) (c5:=c5) (k:=k) (a0:=a0) (T:=T) hq hn
 have q1:=st.toQ.put (d:=7) (x:=.tuple #[x,.bool is]) rfl
 have st1:=(lI st (vR.base.new) q1).see (d:=7) (r:=.tup (.pair (.eq x) (.pair (.eq (.bool is)) .any))) λS=>by rw [q1.val 7 _ rfl];exact Oz
 refine iH (c:=Bj (MW Tryz.prog (dq bw bc bm bk c0 c1 c2 c3 c4 c5 k a0) T) bw S w0) (i:=2) (rest:=[3,4,5,6]) hT rfl st1 rfl rfl (bh rfl (bL rfl) ⟨rfl,trivial⟩ (aD (ao λ_ _ h=>h))) λa2 v2 st2=>?_
 refine iH (c:=Bj (MW Tryz.prog (dq bw bc bm bk c0 c1 c2 c3 c4 c5 k a0) T) bw S w0) (i:=3) (rest:=[4,5,6]) hT rfl st2 rfl rfl (bh rfl (mV rfl rfl) ⟨rfl,trivial⟩ (aD (ao λ_ _ h=>h))) λa3 v3 st3=>?_
 refine iH (c:=Bj (MW Tryz.prog (dq bw bc bm bk c0 c1 c2 c3 c4 c5 k a0) T) bw S w0) (i:=4) (rest:=[5,6]) hT rfl st3 rfl rfl (bh rfl (mV rfl rfl) ⟨rfl,trivial⟩ (aD (ao λ_ _ h=>h))) λa4 v4 st4=>?_
 refine iH (c:=Bj (MW Tryz.prog (dq bw bc bm bk c0 c1 c2 c3 c4 c5 k a0) T) bw S w0) (i:=5) (rest:=[6]) hT rfl st4 rfl rfl (bh rfl (ru rfl) ⟨rfl,trivial⟩ (aD (ao λ_ _ h=>h))) λa5 v5 st5=>?_
 refine iH (c:=Bj (MW Tryz.prog (dq bw bc bm bk c0 c1 c2 c3 c4 c5 k a0) T) bw S w0) (i:=6) (rest:=[]) hT rfl st5 rfl rfl (bh rfl (ru rfl) ⟨rfl,trivial⟩ (aD (ao λ_ _ h=>h))) λa6 v6 st6=>?_
 refine B.move (λ_ _=>c8) ?_
 refine B.move (λ_ _=>dR) ?_
 refine B.move (λ_ _=>dR) ?_
 refine eN (c:=Bj (MW Tryz.prog (dq bw bc bm bk c0 c1 c2 c3 c4 c5 k a0) T) bw S w0) (Q:=λa w=>St (Bj (MW Tryz.prog (dq bw bc bm bk c0 c1 c2 c3 c4 c5 k a0) T) bw S w0) ((11,.eq (.bool !is))::(3,.eq x)::NQ bw bc bm [c0,c1,c2,c3,c4,c5] a0) [] a w) hT rfl st6 ?_ λa7 v7 st7=>hc a7 v7 st7
 refine ab ?_
 refine dh rfl rfl ?_
 refine bh rfl (iY rfl) ⟨rfl,trivial⟩ ?_
 refine aD (ao ?_)
 exact jj (junk:=[]) (by repeat (first |exact trivial |refine⟨rfl,?_⟩)) uN
theorem Dw(hok:(dq bw bc bm bk c0 c1 c2 c3 c4 c5 k a0).Ok){c:Nat}(hA:yN bw bc bm bk w0)(st:St (Bj (MW Tryz.prog (dq bw bc bm bk c0 c1 c2 c3 c4 c5 k a0) T) bw S w0) (NQ bw bc bm [c0,c1,c2,c3,c4,c5] a0) [] a v):
 Ww Tryz.prog (dq bw bc bm bk c0 c1 c2 c3 c4 c5 k a0) T false { ac:=1,nw:=1,phi:=c } v (J7.atR a [.code oe,.inLoop oe,.inBlock 0]) [{ eM Tryz.prog dd with defers:=[] }]:=by
 have B:BC Tryz.prog (Ww Tryz.prog (dq bw bc bm bk c0 c1 c2 c3 c4 c5 k a0) T false { ac:=1,nw:=1,phi:=c }):=wx rfl rfl
 refine B.move (λ_ _=>nG) ?_
 refine B.move (λ_ _=>dR) ?_
 refine B.move (λ_ _=>fi) ?_
 refine iH (c:=Bj (MW Tryz.prog (dq bw bc bm bk c0 c1 c2 c3 c4 c5 k a0) T) bw S w0) (i:=0) (rest:=[1,2,3,4,5,6]) (Γ':=(6,.eq (.chan (some bc)))::NQ bw bc bm [c0,c1,c2,c3,c4,c5] a0) (Δ':=[]) (Dv rfl rfl) rfl st rfl rfl (bh rfl (ay (t:=.val) rfl py rfl) ⟨rfl,trivial⟩ (aD (ao λ_ _ h=>h))) λa1 v1 st1=>?_
 have hfin:∀u,(J7.atR a1 (.inRegion zi (1::[2,3,4,5,6])::[.code pY,.inBlock 1,.inLoop oe,.inBlock 0])).finish u=J7.atR (a1.put (some 7) u) [.inRegion zi [2,3,4,5,6],.code pY,.inBlock 1,.inLoop oe,.inBlock 0]:=λu=>by rw [Frame.finish_atR];rfl
 refine Jx (fr:=J7.atR a1 (.inRegion zi (1::[2,3,4,5,6])::[.code pY,.inBlock 1,.inLoop oe,.inBlock 0])) (z:=.int .u8 0) rfl rfl rfl rfl rfl (λw=>PP rfl (ag rfl _) rfl Tryz.underlying121 Oy (gQ st1 (s:=6) rfl)) (λv2 x hr hx=>⟨rfl,?_⟩) (λv2 hr=>?_)
 .
  obtain⟨S',h1,h2,h3⟩:=St.base (M':=Md.plain Tryz.prog) (st1.rely hr);exact⟨a1,S',dd,c,rfl,h3,(hA.st st1).rely hr,hfin _,rfl⟩
 .
  rw [hfin];have B':BC Tryz.prog (Ww Tryz.prog (dq bw bc bm bk c0 c1 c2 c3 c4 c5 k a0) T false (KC c)):=wx rfl rfl;refine zh (s:=KC c) rfl rfl (st1.rely hr) λa3 v3 st3=>?_;refine B'.move (λ_ _=>qF (t:=true) (gQ st3 (s:=11) rfl)) ?_;rw [if_pos rfl];have hA3:=hA.st st3;rw [gf rfl];exact(Qt.ret (T:=WV v3 Tryz.prog (dq bw bc bm bk c0 c1 c2 c3 c4 c5 k a0) T false (KC c)) (bq rfl) (AB zm hok rfl λv'=>JK rfl Tryz.func65 rfl):Qt (WV v3 Tryz.prog (dq bw bc bm bk c0 c1 c2 c3 c4 c5 k a0) T false (KC c)) v3 J7 [{ eM Tryz.prog dd with defers:=[] }] 15 [dcall 66 #[.pointer (some (dq bw bc bm bk c0 c1 c2 c3 c4 c5 k a0).stA)]] _ (cZ _ a3)) a3 st3.toQ (VR.refl (zg hA3) (tD st3 hA3.k)) ⟨λ_=>rfl,λ_=>hA3.k⟩
theorem QN(hok:(dq bw bc bm bk c0 c1 c2 c3 c4 c5 k a0).Ok):Gs Tryz.prog (dq bw bc bm bk c0 c1 c2 c3 c4 c5 k a0) T:=by
 rintro _ x v fr cs ⟨a,S,dd,c,rfl,st,hA,rfl,rfl⟩ ⟨s,r,rfl,hcr⟩;obtain⟨S',h1,h2,h3⟩:=St.base (M':=MW Tryz.prog (dq bw bc bm bk c0 c1 c2 c3 c4 c5 k a0) T) st;have B:BC Tryz.prog (Ww Tryz.prog (dq bw bc bm bk c0 c1 c2 c3 c4 c5 k a0) T false { ac:=1,nw:=1,phi:=c+12 }):=wx rfl rfl;refine zh (s:={ ac:=1,nw:=1,phi:=c+12 }) rfl rfl h3 λa1 v1 st1=>?_;refine B.move (λ_ _=>qF (t:=false) (gQ st1 (s:=11) rfl)) ?_;rw [if_neg (by decide)];refine B.move (λ_ _=>yq) ?_;refine B.move (λ_ _=>fi) ?_;refine iH (c:=Bj (MW Tryz.prog (dq bw bc bm bk c0 c1 c2 c3 c4 c5 k a0) T) bw S' v) (i:=0) (rest:=[1,2]) (Dv rfl rfl) rfl st1 rfl rfl (bh rfl (ay (t:=.mo (.pointer (some ⟨bm,0,none⟩)) [c0,c1,c2,c3,c4,c5] ap) rfl Du rfl) ⟨rfl,trivial⟩ (aD (ao λ_ _ h=>h))) λa2 v2 st2=>?_;refine iH (c:=Bj (MW Tryz.prog (dq bw bc bm bk c0 c1 c2 c3 c4 c5 k a0) T) bw S' v) (i:=1) (rest:=[2]) (Dv rfl rfl) rfl st2 rfl rfl (bh rfl (bL rfl) ⟨rfl,trivial⟩ (aD (ao λ_ _ h=>h))) λa3 v3 st3=>?_;have hA3:=hA.st st3;have e12:a3.tmps.getD 12 undef= .pointer (some ⟨bm,0,none⟩):=oY st3 (s:=12) rfl;have e13:a3.eval (.tmp 13)= .int .u8 s:=gQ st3 (s:=13) rfl
 refine BC.call (cZ:=[.pointer (some ⟨bm,0,none⟩),.int .u8 s]) B rfl rfl rfl Tryz.func20 (by kernel_rfl) rfl (by
  have e12':a3.eval (.tmp 12)= .pointer (some ⟨bm,0,none⟩):=e12;simp_all) ?_
 obtain⟨g1,g2,S3,g3,g4,g5,g6⟩:=id st3
 have hall:fM S3 v3 [.rep (.mo (.pointer (some ⟨bm,0,none⟩)) [c0,c1,c2,c3,c4,c5] ap) a0,.eq (.int .u8 s)] [.pointer (some ⟨bm,0,none⟩),.int .u8 s]:=by
  have k12:=g6 12 _ rfl;rw [e12] at k12;exact⟨_,_,rfl,k12,_,_,rfl,rfl,rfl⟩
 refine AG (p:=dq bw bc bm bk c0 c1 c2 c3 c4 c5 k a0) (s:={ ac:=1,nw:=1 }) (mn:=false) (kd:=.normal) (c:=c) hok ⟨rfl,rfl,rfl,λe=>(by cases e)⟩ rfl rfl (λe=>nomatch e) hcr (S:=S3) g3.dom hall g5 (zg hA3) hA3.k hA3.z λc' v4 fr u hle hpo hf1 hf2 hlv hA'=>?_;have B':BC Tryz.prog (Ww Tryz.prog (dq bw bc bm bk c0 c1 c2 c3 c4 c5 k a0) T false { ac:=1,nw:=1,phi:=c' }):=wx rfl rfl;obtain⟨x,S4,u',e,hcs,hres,hOw,_⟩:=hpo;cases e;have hKs:gr S3 v3 v4:=λb hb=>hcs.keep b (g3.dom b hb) (λh=>g5.sees b hb h) λh=>(cx h).elim
 have stB:St (Bj (MW Tryz.prog (dq bw bc bm bk c0 c1 c2 c3 c4 c5 k a0) T) bw S4 v4) (NQ bw bc bm [c0,c1,c2,c3,c4,c5] a0) [] a3 v4:=⟨g1,g2,S4,bD.refl hcs.dom,λb hb=>.inl hb,hOw,λs r hl=>A.mono (λb hb=>hcs.sub b hb) hKs r (g6 s r (by
  grind [lk]))⟩
 have hA4:yN bw bc bm bk v4:=⟨hcs.subA _ hA3.m,hcs.subA _ hA3.w,hcs.subA _ hA3.c,hcs.subA _ hA3.k,by rw [hcs.Z];exact hA3.z⟩;refine pr B' hlv hf2 ?_;rw [Frame.finish_atR];refine B'.move (λ_ _=>c8) ?_;refine B'.move (λ_ _=>pu) ?_;refine B'.move (λ_ _=>rO) ?_;exact Dw hok hA4 (lI stB vR.base.new (stB.toQ.put (d:=14) (x:=u) rfl))
theorem E0(hok:(dq bw bc bm bk c0 c1 c2 c3 c4 c5 k a0).Ok){p0 p1 p2:Value}(hd:∀b,S b->b < v.heap.size)(hO:aS [] S v)(hA:yN bw bc bm bk v)
 (hall:fM S v [.eq (.pointer (some ⟨bw,0,none⟩)),.at .val (.chan (some bc)),.at (.mo (.pointer (some ⟨bm,0,none⟩)) [c0,c1,c2,c3,c4,c5] ap) a0] [p0,p1,p2]):
 Ww Tryz.prog (dq bw bc bm bk c0 c1 c2 c3 c4 c5 k a0) T false .wk0 v (eM Tryz.prog { target:=.fn (.func 65) #[p0,p1,p2],args:= #[] }) []:=by
 have B:BC Tryz.prog (Ww Tryz.prog (dq bw bc bm bk c0 c1 c2 c3 c4 c5 k a0) T false .wk0):=wx rfl rfl
 refine B.move (λm w=>yu FV) ?_
 rw [enter_at Tryz.func65 rfl]
 have st0:St ⟨Tryz.prog,15,S,v,av [],none,[],MW Tryz.prog (dq bw bc bm bk c0 c1 c2 c3 c4 c5 k a0) T⟩ (entry 0 [.eq (.pointer (some ⟨bw,0,none⟩)),.at .val (.chan (some bc)),.at (.mo (.pointer (some ⟨bm,0,none⟩)) [c0,c1,c2,c3,c4,c5] ap) a0]) [] { tmps:= #[p0,p1,p2]++Array.replicate (15 - 3) undef,defers:=[] } v:=St.entry (vs:=[p0,p1,p2]) rfl hd hall hO
 have key:∀a0',St ⟨Tryz.prog,15,S,v,av [],none,[],MW Tryz.prog (dq bw bc bm bk c0 c1 c2 c3 c4 c5 k a0) T⟩ (entry 0 [.eq (.pointer (some ⟨bw,0,none⟩)),.at .val (.chan (some bc)),.at (.mo (.pointer (some ⟨bm,0,none⟩)) [c0,c1,c2,c3,c4,c5] ap) a0]) [] a0' v->Ww Tryz.prog (dq bw bc bm bk c0 c1 c2 c3 c4 c5 k a0) T false .wk0 v (J7.atR a0' [.code (Tryz.f65.body.getD .skip)]) [{ eM Tryz.prog { target:=.fn (.func 65) #[p0,p1,p2],args:= #[] } with defers:=[] }]:=by
  intro a0' st0;have e0:a0'.tmps.getD 0 undef= .pointer (some ⟨bw,0,none⟩):=gQ st0 (s:=0) rfl;refine B.move (λ_ _=>dR) ?_;refine B.move (λ_ _=>fi) ?_;rw [gf rfl];refine(Qt.defer (cZ:=[.pointer (some ⟨bw,0,none⟩)]) (T:=Ww Tryz.prog (dq bw bc bm bk c0 c1 c2 c3 c4 c5 k a0) T false .wk0) (Di rfl) rfl rfl rfl (λa1 q1=>?_):Qt (Ww Tryz.prog (dq bw bc bm bk c0 c1 c2 c3 c4 c5 k a0) T false .wk0) v J7 _ 15 [] _ ((0,.pointer (some ⟨bw,0,none⟩))::cZ (entry 0 [.eq (.pointer (some ⟨bw,0,none⟩)),.at .val (.chan (some bc)),.at (.mo (.pointer (some ⟨bm,0,none⟩)) [c0,c1,c2,c3,c4,c5] ap) a0]) a0')) a0' (st0.toQ.know e0);have st1:St (Bj (MW Tryz.prog (dq bw bc bm bk c0 c1 c2 c3 c4 c5 k a0) T) bw S v) (NQ bw bc bm [c0,c1,c2,c3,c4,c5] a0) [] a1 v:=lI st0 (vR.base.know e0) q1;rw [<-gf rfl];refine B.move (λ_ _=>c8) ?_;refine B.move (λ_ _=>nG) ?_;refine B.move (λ_ _=>yr) ?_;exact Dw (c:=0) hok hA st1
 exact key _ st0
end
end Go.Proofs.YtflilincnacbpaaGreat
set_option linter.unusedVariables false
set_option maxRecDepth 20000
set_option maxHeartbeats 4000000
namespace Go.Proofs.YtflilincnacbpaaGreat
open K Go Go.Proofs Go.Conc
theorem JM{P:Program}{Wl:World->Prop}{Γ:Gv}{o:Oper}{f:FuncId}{cs:Array Operand}{us:List Value}(ho:o.op= .makeFunc (.func f) #[] cs)(h:cs.toList.map (ev Γ)=us.map some):OV P Wl o Γ (.func (.func f) #[] us.toArray):=λN df a ha w hl=>by
 have hm:=yJ ha h
 simp [execOp,ho,Instr.makeFunc,hm]
@[reducible] def K.ez(v:VW):VW:=⟨v.toWorld,v.A,λ_=>False⟩
theorem K.bu.ez{v v':VW}(h:bu v v'):bu (K.ez v) (K.ez v'):=⟨h.keep,h.size,h.sub,h.old,h.dom,rfl,h.os,h.tape,h.output⟩
theorem K.bD.ez{X:Nat->Prop}{S S':FS}{v v':VW}(h:bD X S v S' v'):bD X S (K.ez v) S' (K.ez v'):=⟨h.sub,h.new,h.dom,h.size,h.keep,h.os,h.tape,h.output,h.subA,h.oldA,rfl⟩
theorem K.St.pop{c:Cx}{Γ:Ga}{Δ:List D}{a:Act}{v:VW}{d:Nat}{r:A}(st:St c ((d,r)::Γ) Δ a v)(hd:lk Γ d=none:=by exact rfl):St c Γ Δ a v:=by
 obtain⟨h1,h2,S,h3,h4,h5,h6⟩:=st;refine⟨h1,h2,S,h3,h4,h5,λs r hl=>h6 s r ?_⟩;grind [lk]
noncomputable def Ku:Code:=match Tryz.f40.body with
 |some (.seq _ (.seq _ (.seq _ (.seq (.seq _ (.block _ (.loop b))) _))))=>b
 |_=>.skip
noncomputable def TO:Code:=match Tryz.f40.body with
 |some (.seq _ (.seq _ (.seq _ (.seq _ (.seq (.seq r _) _)))))=>r
 |_=>.skip
noncomputable def Ox:Code:=match Tryz.f40.body with
 |some (.seq _ (.seq _ (.seq _ (.seq _ (.seq (.seq _ (.block _ (.loop b))) _)))))=>b
 |_=>.skip
noncomputable def NP:Code:=match Tryz.f40.body with
 |some (.seq _ (.seq _ (.seq _ (.seq _ (.seq _ c)))))=>c
 |_=>.skip
@[reducible] noncomputable def pJ (M:Md Tryz.prog) (S:FS) (v:VW):Cx:=⟨Tryz.prog,26,S,v,av [],none,[],M⟩
@[reducible] noncomputable def za (bw bc bm:Nat) (cl:List Value) (a0:ae):Ga:=[(1,.at (.mo (.pointer (some ⟨bm,0,none⟩)) cl ap) a0),(2,.at .val (.chan (some bc))),(3,.eq (.pointer (some ⟨bw,0,none⟩)))]
def NI(v0:VW)(S0:FS)(Γ:Ga)(a:Act)(v:VW):Prop:=∃S,a.defers=[]/\a.tmps.size=26/\bD (av []) S0 (ez v0) S (ez v)/\aS [] S v/\∀s r,lk Γ s=some r->r.holds S v (a.tmps.getD s undef)
theorem NI.st{v0 v:VW}{S0:FS}{Γ:Ga}{a:Act}(M:Md Tryz.prog)(h:NI v0 S0 Γ a v):∃S,St (pJ M S v) Γ [] a v/\bD (av []) S0 (ez v0) S (ez v)/\∀{M':Md Tryz.prog} {Γ':Ga} {a':Act} {v':VW},St (pJ M' S v) Γ' [] a' v'->NI v0 S0 Γ' a' v':=by
 obtain⟨S,i1,i2,i3,i4,i5⟩:=h;refine⟨S,⟨i1,i2,S,bD.refl i3.dom,λb hb=>.inl hb,i4,i5⟩,i3,λ{M' Γ' a' v'} st=>?_⟩;obtain⟨k1,k2,S6,k3,k4,k5,k6⟩:=st;exact⟨S6,k1,k2,i3.trans k3.ez λb hb=>.inl hb,k5,k6⟩
@[reducible] def sS(Φ i:Nat)(al jn:Bool):Ph:={ phi:=Φ,op:=true,sp:=i,al:=al,jn:=jn }
theorem HC{Φ i:Nat}{al jn:Bool}:(sS Φ i al jn).Stt:=⟨rfl,rfl,rfl,rfl,rfl,rfl⟩
section
variable {bw bc bm bk:Nat}{c0 c1 c2 c3 c4 c5:Value}{k:Nat}{a0:ae}{T:Tq}{v v0:VW}{S0:FS}{a:Act}{b:Frame}{kk:List Item}{cs:List Frame}
theorem mM{s:Ph}(hq:s.q=false)(hn:s.nr=true):BC Tryz.prog (Ww Tryz.prog (dq bw bc bm bk c0 c1 c2 c3 c4 c5 k a0) T true s):=Ww.bc hq hn
theorem nN{s:Ph}(hq:s.q=false)(hn:s.nr=true):(MW Tryz.prog (dq bw bc bm bk c0 c1 c2 c3 c4 c5 k a0) T).ok (Ww Tryz.prog (dq bw bc bm bk c0 c1 c2 c3 c4 c5 k a0) T true s):=⟨true,s,hq,hn,rfl⟩
theorem GM(hok:(dq bw bc bm bk c0 c1 c2 c3 c4 c5 k a0).Ok){i Φ:Nat}{al jn:Bool}(hjn:jn=true->al=true)(hi:i < 4)(hb:b.roundOf=none)(hbk:b.kind≠.early)(hA:yN bw bc bm bk v)(hI:NI v0 S0 ((6,.eq (.int .i64 (i:Int)))::za bw bc bm [c0,c1,c2,c3,c4,c5] a0) a v)
 (next:∀a' v',yN bw bc bm bk v'->NI v0 S0 ((6,.eq (.int .i64 ((i+1:Nat):Int)))::za bw bc bm [c0,c1,c2,c3,c4,c5] a0) a' v'->Ww Tryz.prog (dq bw bc bm bk c0 c1 c2 c3 c4 c5 k a0) T true (sS Φ (i+1) false false) v' (b.atR a' kk) cs):
 Ww Tryz.prog (dq bw bc bm bk c0 c1 c2 c3 c4 c5 k a0) T true (sS Φ i al jn) v (b.atR a (.code Ku::kk)) cs:=by
 have B:BC Tryz.prog (Ww Tryz.prog (dq bw bc bm bk c0 c1 c2 c3 c4 c5 k a0) T true (sS Φ i al jn)):=mM rfl rfl
 have B1:BC Tryz.prog (Ww Tryz.prog (dq bw bc bm bk c0 c1 c2 c3 c4 c5 k a0) T true ((sS Φ i al jn).stt 0 1 false none al jn)):=mM rfl rfl
 obtain⟨S,st,hcs,hback⟩:=hI.st (MW Tryz.prog (dq bw bc bm bk c0 c1 c2 c3 c4 c5 k a0) T)
 refine B.move (λ_ _=>dR) ?_
 refine eN (c:=pJ (MW Tryz.prog (dq bw bc bm bk c0 c1 c2 c3 c4 c5 k a0) T) S v) (Q:=λa w=>St (pJ (MW Tryz.prog (dq bw bc bm bk c0 c1 c2 c3 c4 c5 k a0) T) S v) ((7,.eq (.bool true))::(6,.eq (.int .i64 (i:Int)))::za bw bc bm [c0,c1,c2,c3,c4,c5] a0) [] a w) (nN rfl rfl) hb st ?_ λa1 v1 st1=>?_
 .
  refine ab ?_;refine bh rfl (bG rfl) ⟨rfl,rfl,trivial⟩ ?_;refine aD (ao ?_);rw [decide_eq_true (by omega)];exact λ_ _ h=>h
 refine B.move (λ_ _=>dR) ?_
 refine B.move (λ_ _=>qF (t:=true) (gQ st1 (s:=7) rfl)) ?_
 rw [if_pos rfl]
 refine B.move (λ_ _=>yq) ?_
 refine B.move (λ_ _=>dR) ?_
 refine B.move (λ_ _=>nG) ?_
 refine B.move (λ_ _=>dR) ?_
 refine B.move (λ_ _=>fi) ?_
 have hA1:=hA.st (c:=pJ (MW Tryz.prog (dq bw bc bm bk c0 c1 c2 c3 c4 c5 k a0) T) S v) st1
 have h3:a1.tmps.getD 3 undef= .pointer (some ⟨bw,0,none⟩):=gQ st1 (s:=3) rfl
 rw [gf hb]
 refine(Qt.call (cZ:=[.pointer (some ⟨bw,0,none⟩),.int .i64 1]) (T:=WV v1 Tryz.prog (dq bw bc bm bk c0 c1 c2 c3 c4 c5 k a0) T true ((sS Φ i al jn).stt 0 0 false none al jn)) (bq rfl) rfl rfl zm.f_add (by kernel_rfl) rfl rfl (λc hk=>?_) (hk:=hbk):Qt (WV v1 Tryz.prog (dq bw bc bm bk c0 c1 c2 c3 c4 c5 k a0) T true ((sS Φ i al jn).stt 0 0 false none al jn)) v1 b cs 26 [] _ ((3,.pointer (some ⟨bw,0,none⟩))::cZ ((7,.eq (.bool true))::(6,.eq (.int .i64 (i:Int)))::za bw bc bm [c0,c1,c2,c3,c4,c5] a0) a1)) a1 (st1.toQ.know h3) (VR.refl (zg hA1) (tD st1 hA1.k)) ⟨λ_=>rfl,λ_=>hA1.k⟩
 refine Nc zm hok rfl HC hjn λv3=>?_
 refine hk _ _ _ λa3 q3 hv3 hA3'=>?_
 have hA3k:=hA3'.2 rfl
 have st1':=st1
 rw [<-jE (p:=dq bw bc bm bk c0 c1 c2 c3 c4 c5 k a0) hA1.k] at st1'
 have st3:=lI (st1'.vr hv3) ((vR.base.know h3).new) q3
 rw [jE (p:=dq bw bc bm bk c0 c1 c2 c3 c4 c5 k a0) hA3k] at st3
 have hA3:=hA.st (c:=pJ (MW Tryz.prog (dq bw bc bm bk c0 c1 c2 c3 c4 c5 k a0) T) S v) st3
 rw [<-gf hb]
 refine B1.move (λ_ _=>c8) ?_
 refine B1.move (λ_ _=>fi) ?_
 rw [gf hb]
 refine(Qt.op (T:=Ww Tryz.prog (dq bw bc bm bk c0 c1 c2 c3 c4 c5 k a0) T true ((sS Φ i al jn).stt 0 1 false none al jn)) (Di rfl) rfl (JM (us:=[a3.tmps.getD 3 undef,a3.tmps.getD 2 undef,a3.tmps.getD 1 undef]) rfl rfl) (λa4 q4=>?_) (hk:=hbk):Qt (Ww Tryz.prog (dq bw bc bm bk c0 c1 c2 c3 c4 c5 k a0) T true ((sS Φ i al jn).stt 0 1 false none al jn)) v3 b cs 26 [] _ (cZ ((7,.eq (.bool true))::(6,.eq (.int .i64 (i:Int)))::za bw bc bm [c0,c1,c2,c3,c4,c5] a0) a3)) a3 st3.toQ
 have st4:=lI st3 (vR.base.new) q4
 have hx:=q4.val 9 _ rfl
 have hv:∀s r,lk ((7,.eq (.bool true))::(6,.eq (.int .i64 (i:Int)))::za bw bc bm [c0,c1,c2,c3,c4,c5] a0) s=some r->a4.tmps.getD s undef=a3.tmps.getD s undef:=λs r hl=>q4.val s _ ((vR.base.new (d:=9) (u:=.func (.func 65) #[] [a3.tmps.getD 3 undef,a3.tmps.getD 2 undef,a3.tmps.getD 1 undef].toArray)) s r hl)
 obtain⟨g1,g2,S2,g3,g4,g5,g6⟩:=id st4
 rw [<-gf hb]
 refine F9 (Sh:=S2) (fc:=eM Tryz.prog { target:=.fn (.func 65) #[a3.tmps.getD 3 undef,a3.tmps.getD 2 undef,a3.tmps.getD 1 undef],args:= #[] }) rfl rfl rfl rfl rfl rfl (show i < 100 by omega) (λw0=>Um (i:=1) (rest:=[]) rfl (ag rfl _) rfl rfl hx) (λy hy=>⟨g3.dom y hy,g5.sees y hy,λe=>g5.sees y hy (e▸hA3.k)⟩) (λv4 hr4=>?_) (λv4 hr4=>?_)
 .
  have hd4:∀y,S2 y->y < v4.heap.size:=λy hy=>Nat.lt_of_lt_of_le (g3.dom y hy) hr4.size
  have h64:∀s r,lk ((7,.eq (.bool true))::(6,.eq (.int .i64 (i:Int)))::za bw bc bm [c0,c1,c2,c3,c4,c5] a0) s=some r->r.holds S2 v4 (a3.tmps.getD s undef):=λs r hl=>by
   rw [<-hv s r hl];exact A.mono (λ_ h=>h) (fG g3.dom g5.sees hr4) r (g6 s r hl)
  have hA4:=hA3.rely hr4;have hin:∀y,v4.A y->y < v4.heap.size/\¬S2 y:=λy hy=>⟨hr4.dom g5.domA y hy,λhS=>(hr4.old y hy).elim (g5.sees y hS) λx=>Nat.lt_irrefl _ (Nat.lt_of_lt_of_le (g3.dom y hS) x)⟩
  exact E0 hok (v:=⟨v4.toWorld,λb=>b < v4.heap.size/\¬S2 b,S2⟩) hd4 ⟨λ_ h=>by simp at h,λ_ hb=>(cx hb).elim,Pairwise.nil,λ_ hb=>(cx hb).elim,λy hy h=>h.2 hy,λ_ h=>h.1,hd4⟩
   ⟨hin _ hA4.m,hin _ hA4.w,hin _ hA4.c,hin _ hA4.k,λhS=>g5.sees _ hS hA3.k⟩ ⟨_,_,rfl,h64 3 _ rfl,_,_,rfl,h64 2 _ rfl,_,_,rfl,h64 1 _ rfl,rfl⟩
 .
  have B':BC Tryz.prog (Ww Tryz.prog (dq bw bc bm bk c0 c1 c2 c3 c4 c5 k a0) T true (sS Φ (i+1) false false)):=mM rfl rfl;refine B'.move (λ_ _=>c8) ?_;refine B'.move (λ_ _=>pu) ?_;have hO4:=g5.rely g3.dom hr4;have hd4:∀y,S2 y->y < v4.heap.size:=λy hy=>Nat.lt_of_lt_of_le (g3.dom y hy) hr4.size
  have hI':NI v0 S0 ((6,.eq (.int .i64 (i:Int)))::za bw bc bm [c0,c1,c2,c3,c4,c5] a0) (a4.put none undef) ⟨v4.toWorld,v4.A,λb=>v4.Z b\/S2 b⟩:=by
   refine⟨S2,g1,g2,(hcs.trans g3.ez λb hb=>.inl hb).trans (bD.rely (X:=av []) (v:=ez v3) (v1:=ez v4) g3.dom hr4.ez) λb hb=>.inl hb,⟨λ_ h=>by simp at h,λ_ hb=>(cx hb).elim,Pairwise.nil,λ_ hb=>(cx hb).elim,hO4.sees,hO4.domA,λy hy=>hy.elim (hO4.domZ y) (hd4 y)⟩,λs r hl=>?_⟩;have hs:s≠7:=λe=>by grind [lk]
   exact A.mono (λ_ h=>h) (fG g3.dom g5.sees hr4) r (g6 s r (by simp only [lk] at hl⊢;grind))
  obtain⟨S6,st6,_,hback6⟩:=hI'.st (MW Tryz.prog (dq bw bc bm bk c0 c1 c2 c3 c4 c5 k a0) T);have hA4:=hA3.rely hr4;have hA6:yN bw bc bm bk ⟨v4.toWorld,v4.A,λb=>v4.Z b\/S2 b⟩:=⟨hA4.m,hA4.w,hA4.c,hA4.k,λh=>h.elim hA4.z λh=>g5.sees _ h hA3.k⟩;refine eN (c:=pJ (MW Tryz.prog (dq bw bc bm bk c0 c1 c2 c3 c4 c5 k a0) T) S6 ⟨v4.toWorld,v4.A,λb=>v4.Z b\/S2 b⟩) (Q:=λa w=>St (pJ (MW Tryz.prog (dq bw bc bm bk c0 c1 c2 c3 c4 c5 k a0) T) S6 ⟨v4.toWorld,v4.A,λb=>v4.Z b\/S2 b⟩) ((6,.eq (.int .i64 ((i+1:Nat):Int)))::za bw bc bm [c0,c1,c2,c3,c4,c5] a0) [] a w) (nN rfl rfl) hb st6 ?_ λa7 v7 st7=>next a7 v7 (hA6.st (c:=pJ (MW Tryz.prog (dq bw bc bm bk c0 c1 c2 c3 c4 c5 k a0) T) S6 ⟨v4.toWorld,v4.A,λb=>v4.Z b\/S2 b⟩) st7) (hback6 st7);refine ab ?_;refine bh rfl (bA rfl (q:=((i+1:Nat):Int)) (by unfold ck;grind)) ⟨rfl,rfl,trivial⟩ ?_;refine dh rfl rfl ?_;refine aD (ao ?_);exact jj (junk:=[]) (by repeat (first |exact trivial |refine⟨rfl,?_⟩)) uN
theorem EZ(hok:(dq bw bc bm bk c0 c1 c2 c3 c4 c5 k a0).Ok){Φ:Nat}(hb:b.roundOf=none)(hbk:b.kind≠.early)
 (next:∀a' v',yN bw bc bm bk v'->NI v0 S0 (za bw bc bm [c0,c1,c2,c3,c4,c5] a0) a' v'->Ww Tryz.prog (dq bw bc bm bk c0 c1 c2 c3 c4 c5 k a0) T true (sS Φ 4 false false) v' (b.atR a' kk) cs):∀(r i:Nat),i+r=4->∀(al jn:Bool),(jn=true->al=true)->(i=4->al=false/\jn=false)->∀(a:Act) (v:VW),yN bw bc bm bk v->NI v0 S0 ((6,.eq (.int .i64 (i:Int)))::za bw bc bm [c0,c1,c2,c3,c4,c5] a0) a v->
 Ww Tryz.prog (dq bw bc bm bk c0 c1 c2 c3 c4 c5 k a0) T true (sS Φ i al jn) v (b.atR a (.code Ku:: .inLoop Ku:: .inBlock 0::kk)) cs:=λr=>by
 induction r with
 |zero=>
  intro i hi al jn hjn h4 a v hA hI
  obtain rfl:i=4:=by omega
  obtain⟨rfl,rfl⟩:=h4 rfl
  have B:BC Tryz.prog (Ww Tryz.prog (dq bw bc bm bk c0 c1 c2 c3 c4 c5 k a0) T true (sS Φ 4 false false)):=mM rfl rfl
  obtain⟨S,st,_,hback⟩:=hI.st (MW Tryz.prog (dq bw bc bm bk c0 c1 c2 c3 c4 c5 k a0) T)
  refine B.move (λ_ _=>dR) ?_
  refine eN (c:=pJ (MW Tryz.prog (dq bw bc bm bk c0 c1 c2 c3 c4 c5 k a0) T) S v) (Q:=λa w=>St (pJ (MW Tryz.prog (dq bw bc bm bk c0 c1 c2 c3 c4 c5 k a0) T) S v) ((7,.eq (.bool false))::za bw bc bm [c0,c1,c2,c3,c4,c5] a0) [] a w) (nN rfl rfl) hb st ?_ λa1 v1 st1=>?_
  .
   refine ab ?_
   refine bh rfl (bG rfl) ⟨rfl,rfl,trivial⟩ ?_
   refine aD (ao ?_)
   rw [decide_eq_false (by omega)]
   exact jj (junk:=[]) (by repeat (first |exact trivial |refine⟨rfl,?_⟩)) uN
  refine B.move (λ_ _=>dR) ?_
  refine B.move (λ_ _=>qF (t:=false) (gQ st1 (s:=7) rfl)) ?_
  rw [if_neg (by decide)]
  refine B.move (λ_ _=>CL rfl) ?_
  exact next a1 v1 (hA.st (c:=pJ (MW Tryz.prog (dq bw bc bm bk c0 c1 c2 c3 c4 c5 k a0) T) S v) st1) (hback st1.pop)
 |succ r ih=>
  intro i hi al jn hjn h4 a v hA hI
  refine GM hok hjn (by omega) hb hbk hA hI λa' v' hA' hI'=>?_
  have B:BC Tryz.prog (Ww Tryz.prog (dq bw bc bm bk c0 c1 c2 c3 c4 c5 k a0) T true (sS Φ (i+1) false false)):=mM rfl rfl
  refine B.move (λ_ _=>rO) ?_
  grind
end
end Go.Proofs.YtflilincnacbpaaGreat
set_option linter.unusedVariables false
set_option maxRecDepth 20000
set_option maxHeartbeats 4000000
namespace Go.Proofs.YtflilincnacbpaaGreat
open K Go Go.Proofs Go.Conc
theorem Gt{P:Program}{main:Bool}{b:Frame}{a:Act}{k:List Item}{cs:List Frame}{ops:Array Oper}{i:Nat}{rest:List Nat}{o:Oper}{w:World}{x:Operand}{T:TypeId}{c n m:Nat}(ho:ops[i]? =some o)(hg:o.guard=none)(hd:o.dst=none)(hop:o.op= .call { callee:=.builtin .close,args:= #[x],argTypes:= #[T] })(hx:a.eval x= .chan (some c))(hk:b.kind≠.early)(hw:w.heap[c]? =some (.chan 0 #[] false n m false)):
 stepG P main (Gr (b.atR a (.inRegion ops (i::rest)::k)) cs) w= .go (Gr (b.atR a (.inRegion ops rest::k)) cs) { w with heap:=w.heap.setIfInBounds c (.chan 0 #[] true n m false) } #[⟨.obj c,false,true⟩,⟨.obj c,true,true⟩]:=by
 have hr:(execOp a.eval o).run P w= .ok (.value (.tuple #[])) { w with heap:=w.heap.setIfInBounds c (.chan 0 #[] true n m false) }:=by
  simp [execOp,hop,resolve,invoke,builtin,hx,run_close_open _ _ hw]
 have he:(execOp a.eval o).events P w #[]= #[⟨.obj c,false,true⟩,⟨.obj c,true,true⟩]:=by
  simp [execOp,hop,resolve,invoke,builtin,hx,events_close_open _ _ hw]
 have hT:(execOp a.eval o).runT P w #[]=(.ok (.value (.tuple #[])) { w with heap:=w.heap.setIfInBounds c (.chan 0 #[] true n m false) }, #[⟨.obj c,false,true⟩,⟨.obj c,true,true⟩]):=Prod.ext (by simp_all) he
 have hke:(b.kind == CallKind.early)=false:=by simp_all
 have hfin:(b.atR a (.inRegion ops (i::rest)::k)).finish (.tuple #[])=b.atR a (.inRegion ops rest::k):=by simp_all [Frame.finish_atR,Act.put]
 rw [vg ho (ag hg _),Oper.semAt_eq _ _ _ (by simp [hop])]
 simp only [stepG.apply,if_true,hT,GStep.after,hfin]
 have hke':((b.atR a (.inRegion ops (i::rest)::k)).kind == CallKind.early)=false:=hke
 simp_all [seen]
def wz(k:Nat)(a0:ae):Nat->Option Unit
 |0=>some ()
 |n+1=>(wz k a0 n).bind λ_=>(lQ k a0 (IntKind.u8.wrap n)).bind λ_=>some ()
def eJ(k:Nat)(a0:ae):Option Unit:=if 0≤a0.1/\oO .i64 1 a0.1≤1000 then wz k a0 (oO .i64 1 a0.1).toNat else none
theorem wy{k:Nat}{a0:ae}:∀{n:Nat},wz k a0 n=some ()->∀i,i < n->∃r,lQ k a0 (IntKind.u8.wrap i)=some r
 |n+1,h,i,hi=>by
  obtain⟨_,h1,h⟩:=Option.bind_eq_some_iff.1 h
  obtain⟨r,h2,h⟩:=Option.bind_eq_some_iff.1 h
  by_cases e:i=n
  .
   simp_all
  .
   exact wy h1 i (by omega)
section
variable {bw bc bm bk:Nat}{c0 c1 c2 c3 c4 c5:Value}{k:Nat}{a0:ae}{T:Tq}{v w0:VW}{S:FS}{a:Act}{b:Frame}{kk:List Item}{cs:List Frame}
@[reducible] noncomputable def GO (bw bc bm:Nat) (cl:List Value) (a0:ae) (n i:Int):Ga:=(17,.eq (.int .i64 i))::(16,.eq (.int .i64 n))::za bw bc bm cl a0
theorem GN(hok:(dq bw bc bm bk c0 c1 c2 c3 c4 c5 k a0).Ok){N:Nat}{n:Int}(hn:(N:Int)=n\/(N=0/\n≤0))(hN:N≤1000)(hall:∀i,i < N->∃r,lQ k a0 (IntKind.u8.wrap i)=some r)(hb:b.roundOf=none)(hA:yN bw bc bm bk w0)
 (next:∀a' v',St (pJ (MW Tryz.prog (dq bw bc bm bk c0 c1 c2 c3 c4 c5 k a0) T) S w0) (za bw bc bm [c0,c1,c2,c3,c4,c5] a0) [] a' v'->Ww Tryz.prog (dq bw bc bm bk c0 c1 c2 c3 c4 c5 k a0) T true (sS 0 4 false false) v' (b.atR a' kk) cs):∀(r i:Nat),i+r=N->∀(a:Act) (v:VW),St (pJ (MW Tryz.prog (dq bw bc bm bk c0 c1 c2 c3 c4 c5 k a0) T) S w0) (GO bw bc bm [c0,c1,c2,c3,c4,c5] a0 n i) [] a v->
 Ww Tryz.prog (dq bw bc bm bk c0 c1 c2 c3 c4 c5 k a0) T true (sS (12 * r) 4 false false) v (b.atR a (.code Ox:: .inLoop Ox:: .inBlock 2::kk)) cs:=λr=>by
 induction r with
 |zero=>
  intro i hi a v st
  have B:BC Tryz.prog (Ww Tryz.prog (dq bw bc bm bk c0 c1 c2 c3 c4 c5 k a0) T true (sS (12 * 0) 4 false false)):=mM rfl rfl
  refine B.move (λ_ _=>dR) ?_
  refine eN (c:=pJ (MW Tryz.prog (dq bw bc bm bk c0 c1 c2 c3 c4 c5 k a0) T) S w0) (Q:=λa w=>St (pJ (MW Tryz.prog (dq bw bc bm bk c0 c1 c2 c3 c4 c5 k a0) T) S w0) ((18,.eq (.bool false))::za bw bc bm [c0,c1,c2,c3,c4,c5] a0) [] a w) (nN rfl rfl) hb st ?_ λa1 v1 st1=>?_
  .
   refine ab ?_
   refine bh rfl (bG rfl) ⟨rfl,rfl,trivial⟩ ?_
   refine aD (ao ?_)
   rw [decide_eq_false (by omega)]
   exact jj (junk:=[]) (by repeat (first |exact trivial |refine⟨rfl,?_⟩)) uN
  refine B.move (λ_ _=>dR) ?_
  refine B.move (λ_ _=>qF (t:=false) (gQ st1 (s:=18) rfl)) ?_
  rw [if_neg (by decide)]
  refine B.move (λ_ _=>CL rfl) ?_
  exact next a1 v1 st1.pop
 |succ r ih=>
  intro i hi a v st
  have B:BC Tryz.prog (Ww Tryz.prog (dq bw bc bm bk c0 c1 c2 c3 c4 c5 k a0) T true (sS (12 * (r+1)) 4 false false)):=mM rfl rfl
  refine B.move (λ_ _=>dR) ?_
  refine eN (c:=pJ (MW Tryz.prog (dq bw bc bm bk c0 c1 c2 c3 c4 c5 k a0) T) S w0) (Q:=λa w=>St (pJ (MW Tryz.prog (dq bw bc bm bk c0 c1 c2 c3 c4 c5 k a0) T) S w0) ((18,.eq (.bool true))::GO bw bc bm [c0,c1,c2,c3,c4,c5] a0 n i) [] a w) (nN rfl rfl) hb st ?_ λa1 v1 st1=>?_
  .
   refine ab ?_
   refine bh rfl (bG rfl) ⟨rfl,rfl,trivial⟩ ?_
   refine aD (ao ?_)
   rw [decide_eq_true (by omega)]
   exact λ_ _ h=>h
  refine B.move (λ_ _=>dR) ?_
  refine B.move (λ_ _=>qF (t:=true) (gQ st1 (s:=18) rfl)) ?_
  rw [if_pos rfl]
  refine B.move (λ_ _=>yq) ?_
  refine B.move (λ_ _=>dR) ?_
  refine B.move (λ_ _=>nG) ?_
  refine B.move (λ_ _=>dR) ?_
  refine eN (c:=pJ (MW Tryz.prog (dq bw bc bm bk c0 c1 c2 c3 c4 c5 k a0) T) S w0) (Q:=λa w=>St (pJ (MW Tryz.prog (dq bw bc bm bk c0 c1 c2 c3 c4 c5 k a0) T) S w0) ((4,.eq (.int .i64 (i:Int)))::GO bw bc bm [c0,c1,c2,c3,c4,c5] a0 n i) [] a w) (nN rfl rfl) hb st1.pop ?_ λa2 v2 st2=>?_
  .
   refine ab ?_
   refine dh rfl rfl ?_
   refine nU rfl rfl ?_
   refine aD (ao ?_)
   exact jj (junk:=[]) (by repeat (first |exact trivial |refine⟨rfl,?_⟩)) uN
  refine B.move (λ_ _=>fi) ?_
  refine iH (c:=pJ (MW Tryz.prog (dq bw bc bm bk c0 c1 c2 c3 c4 c5 k a0) T) S w0) (i:=0) (rest:=[1,2,3]) (nN rfl rfl) hb st2 rfl rfl (bh rfl (ay (t:=.val) rfl py rfl) ⟨rfl,trivial⟩ (aD (ao λ_ _ h=>h))) λa3 v3 st3=>?_
  refine iH (c:=pJ (MW Tryz.prog (dq bw bc bm bk c0 c1 c2 c3 c4 c5 k a0) T) S w0) (i:=1) (rest:=[2,3]) (nN rfl rfl) hb st3 rfl rfl (bh rfl (bL rfl) ⟨rfl,trivial⟩ (aD (ao λ_ _ h=>h))) λa4 v4 st4=>?_
  refine iH (c:=pJ (MW Tryz.prog (dq bw bc bm bk c0 c1 c2 c3 c4 c5 k a0) T) S w0) (i:=2) (rest:=[3]) (nN rfl rfl) hb st4 rfl rfl (bh rfl (sJ rfl Tryz.underlying3 Tryz.underlying52) ⟨rfl,trivial⟩ (aD (ao λ_ _ h=>h))) λa5 v5 st5=>?_
  obtain⟨rr,hrr⟩:=hall i (by omega)
  refine Jw (x:=.int .u8 (IntKind.u8.wrap i)) (z:=.tuple #[]) rfl rfl (by simp_all) (by grind) rfl rfl rfl ⟨_,rr,rfl,hrr⟩ (λw=>PO (i:=3) (rest:=[]) rfl (ag rfl _) rfl (gQ st5 (s:=20) rfl) (gQ st5 (s:=22) rfl)) λv6 hr6=>?_
  rw [Frame.finish_atR]
  have B':BC Tryz.prog (Ww Tryz.prog (dq bw bc bm bk c0 c1 c2 c3 c4 c5 k a0) T true (sS (12 * r) 4 false false)):=mM rfl rfl
  show Ww Tryz.prog (dq bw bc bm bk c0 c1 c2 c3 c4 c5 k a0) T true (sS (12 * (r+1) - 12) 4 false false) v6 (b.atR a5 _) cs
  rw [show 12 * (r+1) - 12=12 * r by omega]
  refine B'.move (λ_ _=>c8) ?_
  refine B'.move (λ_ _=>pu) ?_
  refine eN (c:=pJ (MW Tryz.prog (dq bw bc bm bk c0 c1 c2 c3 c4 c5 k a0) T) S w0) (Q:=λa w=>St (pJ (MW Tryz.prog (dq bw bc bm bk c0 c1 c2 c3 c4 c5 k a0) T) S w0) (GO bw bc bm [c0,c1,c2,c3,c4,c5] a0 n ((i+1:Nat):Int)) [] a w) (nN rfl rfl) hb (st5.rely hr6) ?_ λa7 v7 st7=>?_
  .
   refine ab ?_
   refine bh rfl (bA rfl (q:=((i+1:Nat):Int)) (by unfold ck;rw [if_pos (by omega)];congr 1)) ⟨rfl,rfl,trivial⟩ ?_
   refine dh rfl rfl ?_
   refine aD (ao ?_)
   exact jj (junk:=[]) (by repeat (first |exact trivial |refine⟨rfl,?_⟩)) uN
  refine B'.move (λ_ _=>rO) ?_
  exact ih (i+1) (by omega) a7 v7 st7
theorem Ov(hok:(dq bw bc bm bk c0 c1 c2 c3 c4 c5 k a0).Ok)(hb:b.roundOf=none)(hbk:b.kind≠.early)(hA:yN bw bc bm bk w0)(st:St (pJ (MW Tryz.prog (dq bw bc bm bk c0 c1 c2 c3 c4 c5 k a0) T) S w0) (za bw bc bm [c0,c1,c2,c3,c4,c5] a0) [] a v)
 (next:∀a' v',St (pJ (MW Tryz.prog (dq bw bc bm bk c0 c1 c2 c3 c4 c5 k a0) T) S w0) [] [] a' v'->Ww Tryz.prog (dq bw bc bm bk c0 c1 c2 c3 c4 c5 k a0) T true { phi:=0,sp:=4,cd:=true,cb:=some 0,al:=true,jn:=true } v' (b.atR a' kk) cs):
 Ww Tryz.prog (dq bw bc bm bk c0 c1 c2 c3 c4 c5 k a0) T true (sS 0 4 false false) v (b.atR a (.code NP::kk)) cs:=by
 have B:BC Tryz.prog (Ww Tryz.prog (dq bw bc bm bk c0 c1 c2 c3 c4 c5 k a0) T true (sS 0 4 false false)):=mM rfl rfl
 refine B.move (λ_ _=>dR) ?_
 refine B.move (λ_ _=>fi) ?_
 refine iH (c:=pJ (MW Tryz.prog (dq bw bc bm bk c0 c1 c2 c3 c4 c5 k a0) T) S w0) (i:=0) (rest:=[1]) (nN rfl rfl) hb st rfl rfl (bh rfl (ay (t:=.val) rfl py rfl) ⟨rfl,trivial⟩ (aD (ao λ_ _ h=>h))) λa1 v1 st1=>?_
 have hA1:=hA.st (c:=pJ (MW Tryz.prog (dq bw bc bm bk c0 c1 c2 c3 c4 c5 k a0) T) S w0) st1
 refine Gf (s:=sS 0 4 false false) hok rfl HC rfl rfl (λe=>(by cases e)) rfl (zg hA1) hA1.k (tD st1 hA1.k) (λw q hat hq=>Gt (i:=1) (rest:=[]) rfl rfl rfl rfl (gQ st1 (s:=24) rfl) hbk (by have h:=hat.ch rfl;simp_all)) λv2 hv2 hA2=>?_
 have B2:BC Tryz.prog (Ww Tryz.prog (dq bw bc bm bk c0 c1 c2 c3 c4 c5 k a0) T true { sS 0 4 false false with op:=false,cd:=true,cb:=some 102 }):=mM rfl rfl
 have st1':=st1
 rw [<-jE (p:=dq bw bc bm bk c0 c1 c2 c3 c4 c5 k a0) hA1.k] at st1'
 have st2:=st1'.vr hv2
 rw [jE (p:=dq bw bc bm bk c0 c1 c2 c3 c4 c5 k a0) hA2] at st2
 have hA2':=hA.st (c:=pJ (MW Tryz.prog (dq bw bc bm bk c0 c1 c2 c3 c4 c5 k a0) T) S w0) st2
 refine B2.move (λ_ _=>c8) ?_
 refine B2.move (λ_ _=>fi) ?_
 have h3:a1.tmps.getD 3 undef= .pointer (some ⟨bw,0,none⟩):=gQ st2 (s:=3) rfl
 rw [gf hb]
 refine(Qt.call (cZ:=[.pointer (some ⟨bw,0,none⟩)]) (T:=WV v2 Tryz.prog (dq bw bc bm bk c0 c1 c2 c3 c4 c5 k a0) T true (({ sS 0 4 false false with op:=false,cd:=true }:Ph).stt 0 0 false (some 102) false false)) (bq rfl) rfl rfl zm.f_wait (by kernel_rfl) rfl rfl (λc hk=>?_) (hk:=hbk):Qt (WV v2 Tryz.prog (dq bw bc bm bk c0 c1 c2 c3 c4 c5 k a0) T true (({ sS 0 4 false false with op:=false,cd:=true }:Ph).stt 0 0 false (some 102) false false)) v2 b cs 26 [] _ ((3,.pointer (some ⟨bw,0,none⟩))::cZ ((24,.eq (.chan (some bc)))::za bw bc bm [c0,c1,c2,c3,c4,c5] a0) a1)) a1 (st2.toQ.know h3) (VR.refl (zg hA2') (tD st2 hA2'.k)) ⟨λ_=>rfl,λ_=>hA2'.k⟩
 refine G7 zm hok rfl ⟨rfl,rfl,rfl,rfl,rfl,rfl⟩ rfl λv3=>?_
 refine hk _ _ _ λa3 q3 hv3 hA3=>?_
 have st2':=st2
 rw [<-jE (p:=dq bw bc bm bk c0 c1 c2 c3 c4 c5 k a0) hA2] at st2'
 have st3:=lI (st2'.vr hv3) ((vR.base.know h3).new) q3
 rw [jE (p:=dq bw bc bm bk c0 c1 c2 c3 c4 c5 k a0) (hA3.2 rfl)] at st3
 have B3:BC Tryz.prog (Ww Tryz.prog (dq bw bc bm bk c0 c1 c2 c3 c4 c5 k a0) T true { phi:=0,sp:=4,cd:=true,cb:=some 0,al:=true,jn:=true }):=mM rfl rfl
 rw [<-gf hb]
 refine B3.move (λ_ _=>c8) ?_
 obtain⟨k1,k2,S6,k3,k4,k5,k6⟩:=st3
 exact next a3 v3 ⟨k1,k2,S6,k3,k4,k5,λs r hl=>by cases hl⟩
end
end Go.Proofs.YtflilincnacbpaaGreat
set_option linter.unusedVariables false
namespace Go.Proofs.YtflilincnacbpaaGreat
namespace K
open Go Go.Conc
def SZ(P:Program)(T:TypeId):Prop:=∀w:World,(Instr.makeChan T (.int .i64 0)).runT P w #[]=(.ok (.chan (some w.heap.size)) (w.alloc (.chan 0 #[] false 0 0 false)), #[])
section
variable {P:Program}{M:Md P}{o:Oper}{T:TypeId}
theorem BV(ho:o.op= .makeChan T (.const (.int .i64 0)))(hT:SZ P T):bB M o [] [] (λz:Nat=>(.eq (.chan (some z)),[.raw z (.chan 0 #[] false 0 0 false)])):=by
 have hnd:nd o.op=true:=by grind [nd]
 refine⟨hnd,λrd S v a next Q hd _ hO k=>O7 λv1 hr=>?_⟩;rw [Oper.semAt_eq _ _ _ (λc e=>by simp_all)];have h1:=hT v1.toWorld;have r1:(Instr.makeChan T (.int .i64 0)).run P v1= .ok (.chan (some v1.heap.size)) (v1.alloc (.chan 0 #[] false 0 0 false)):=by simp_all
 have e1:(Instr.makeChan T (.int .i64 0)).events P v1 #[]= #[]:=by simp_all
 have hx:execOp a.eval o=(do pure (.value (<-Instr.makeChan T (.int .i64 0))):Sem Next):=by unfold execOp;rw [ho];rfl
 have hrun:(execOp a.eval o).run P v1= .ok (.value (.chan (some v1.heap.size))) (v1.alloc (.chan 0 #[] false 0 0 false)):=by simp_all
 have hev:(execOp a.eval o).events P v1 #[]= #[]:=by simp_all
 have hd1:∀b,S b->b < v1.heap.size:=λb hb=>Nat.lt_of_lt_of_le (hd b hb) hr.size;have hO1:=hO.rely hd hr;refine⟨?_,?_⟩
 .unfold Sg;rw [hrun];refine⟨λb hb _=>gB v1 _ b hb,by simp,.refl _,rfl,rfl,λe he=>by simp_all⟩
 .rw [hrun];refine k v1.heap.size S (v1.upd (v1.alloc (.chan 0 #[] false 0 0 false))) _ ((bD.rely hd hr).trans (bD.of (fU (X:=av []) hd1 _)) λb hb=>.inl hb) rfl (hO1.alloc hd1 _) λb hb=>?_;have:v1.heap.size=b:=by simp_all [D.foot,iv]
  exact .inr (this▸hr.size)
end
end K
end Go.Proofs.YtflilincnacbpaaGreat
set_option linter.unusedVariables false
set_option maxRecDepth 20000
set_option maxHeartbeats 4000000
namespace Go.Proofs.YtflilincnacbpaaGreat
open K Go Go.Proofs Go.Conc
theorem K.cz.ofT{P:Program}{M:Md P}{f:Nat}{fn:Func}{C:Code}{az:List A}{Δ:List D}{X:Type}{R:X->A×List D}(N:Nat)(hf:P.funcs[f]? =some fn)(hb:fn.body=some C)(hN:fn.ntmps=N)(hn:ble az.length N=true)
 (h:∀kind,kind≠.early->∀S w0 a,St ⟨P,N,S,w0,av Δ,none,[],M⟩ (entry 0 az) Δ a w0->∀T,M.ok T->∀cs,(∀e a' v',cg P fn (dK S w0 Δ R) e a' v'->nh T { (default:Frame) with fn:=f,kind:=kind } [] cs e a' v')->
  T w0 (Frame.atR { (default:Frame) with fn:=f,kind:=kind } a [.code C]) cs):cz M f az Δ R:=by
 subst hN
 intro kind hkind S w vs hd hall hO T hT cs hc
 have hst:St ⟨P,fn.ntmps,S,w,av Δ,none,[],M⟩ (entry 0 az) Δ { tmps:=vs.toArray++Array.replicate (fn.ntmps - vs.toArray.size) undef,defers:=[] } w:=St.entry hn hd hall hO
 have he:Frame.enter P f vs.toArray kind=Frame.atR { (default:Frame) with fn:=f,kind:=kind } { tmps:=vs.toArray++Array.replicate (fn.ntmps - vs.toArray.size) undef,defers:=[] } [.code C]:=enter_at hf hb
 rw [he]
 refine h kind hkind S w _ hst T hT cs λe a' v' q=>?_
 have fin:∀todo,(a'.defers=[]/\∃x,(∀v1,bu v' v1->(results fn a'.tmps).run P v1= .ok x v1/\eP v1 v1 ((results fn a'.tmps).events P v1 #[]))/\dK S w Δ R (.returned x) v')->
  T v' { Frame.atR { (default:Frame) with fn:=f,kind:=kind } a' todo with mode:=.returning } cs:=λtodo ⟨q1,x,q2,q3⟩=>hc _ _ _ q3 rfl rfl ⟨rfl,q1,fn,hf,q2⟩
 cases e with
 |normal=>exact(M.bc T hT).move (λ_ _=>xf rfl) (fin _ q)
 |ret=>exact⟨λ_ todo=>fin todo q,λh=>by cases h⟩
 |panic chain=>exact λtodo=>hc _ _ _ q.2 rfl rfl ⟨rfl,q.1,fn,hf⟩
 |exit id=>exact q.elim
 |goto l=>exact q.elim
 |outgrown=>exact q.elim
theorem GR:∀w,(zeroValue 121).run Tryz.prog w= .ok (.chan none) w:=by simp_all
theorem GY:∀S w,(A.cells S w (.eq (.chan none)) (Value.cells (.chan none)).toList):=λ_ _=>⟨rfl,rfl⟩
theorem GQ:∀w,(zeroValue 127).run Tryz.prog w= .ok (.agg #[.int .u64 0,.int .u32 0]) w:=by simp_all
theorem GX:∀S w,(A.cells S w (.agg (.pair (.eq (.int .u64 (0:Int))) (.eq (.int .u32 (0:Int))))) (Value.cells (.agg #[.int .u64 0,.int .u32 0])).toList):=λ_ _=>⟨[_],_,rfl,⟨rfl,rfl⟩,rfl,rfl⟩
theorem GW:SZ Tryz.prog 121:=λw=>by kernel_rfl
noncomputable def Td (i:Nat):Code:=match i,Tryz.f40.body with
 |0,some (.seq r _)=>r
 |1,some (.seq _ (.seq r _))=>r
 |2,some (.seq _ (.seq _ (.seq r _)))=>r
 |3,some (.seq _ (.seq _ (.seq _ (.seq (.seq r _) _))))=>r
 |_,_=>.skip
@[reducible] noncomputable def qQ (a0:ae) (bm bk:Nat) (k:Nat):List D:=[.obj bm 94 (aW a0 bk),.inv bk (cj k a0)]
@[reducible] noncomputable def GZ (a0:ae) (bw bc bm bk:Nat) (k:Nat):List D:=.obj bw 127 (.agg (.pair (.eq (.int .u64 (0:Int))) (.eq (.int .u32 (0:Int))))):: .raw bc (.chan 0 #[] false 0 0 false)::qQ a0 bm bk k
section
variable {k:Nat}{a0:ae}{bm bk:Nat}
@[reducible] noncomputable def zo (a0:ae) (bm bk:Nat) (k:Nat) (S:FS) (v:VW):Cx:=⟨Tryz.prog,26,S,v,av (qQ a0 bm bk k),none,[],ec Tryz.prog⟩
theorem QR{S:FS}{w0:VW}{T:Tq}(hT:(ec Tryz.prog).ok T){b:Frame}(hb:b.roundOf=none){kk:List Item}{cs:List Frame}{a:Act}{v:VW}(st:St (zo a0 bm bk k S w0) (entry 0 [.eq (.pointer (some ⟨bm,0,none⟩))]) (qQ a0 bm bk k) a v)
 (next:∀a' v',St (zo a0 bm bk k S w0) [(1,.at .val (.pointer (some ⟨bm,0,none⟩)))] (qQ a0 bm bk k) a' v'->T v' (b.atR a' kk) cs):T v (b.atR a (.code (Td 0)::kk)) cs:=by
 refine eN (c:=zo a0 bm bk k S w0) hT hb st ?_ next
 show JC _ (.region _ _ false) _ _ _
 refine ab ?_
 refine aX rfl rfl rfl (uT rfl rfl) ⟨rfl,trivial⟩ λb1=>?_
 refine dM (jy (t:=.val) (x:=.pointer (some ⟨bm,0,none⟩)) [1] (.val rfl) ⟨rfl,trivial⟩) ?_
 refine aD (ao ?_)
 exact jj (junk:=[]) (by repeat (first |exact trivial |refine⟨rfl,?_⟩)) (by simp)
theorem QQ{S:FS}{w0:VW}{T:Tq}(hT:(ec Tryz.prog).ok T){b:Frame}(hb:b.roundOf=none){kk:List Item}{cs:List Frame}{a:Act}{v:VW}(st:St (zo a0 bm bk k S w0) [(1,.at .val (.pointer (some ⟨bm,0,none⟩)))] (qQ a0 bm bk k) a v)
 (next:∀a' v' bc,St (zo a0 bm bk k S w0) [(1,.at .val (.pointer (some ⟨bm,0,none⟩))),(2,.at .val (.chan (some bc)))] (.raw bc (.chan 0 #[] false 0 0 false)::qQ a0 bm bk k) a' v'->T v' (b.atR a' kk) cs):T v (b.atR a (.code (Td 1)::kk)) cs:=by
 refine eN (c:=zo a0 bm bk k S w0) (Q:=λa w=>∃bc,St (zo a0 bm bk k S w0) [(1,.at .val (.pointer (some ⟨bm,0,none⟩))),(2,.at .val (.chan (some bc)))] (.raw bc (.chan 0 #[] false 0 0 false)::qQ a0 bm bk k) a w) hT hb st ?_ λa' v' ⟨bc,st⟩=>next a' v' bc st
 show JC _ (.region _ _ false) _ _ _
 refine ab ?_
 refine aX rfl rfl rfl (BV rfl GW) trivial λbc=>?_
 refine aX rfl rfl rfl (bo rfl GR GY) trivial λb2=>?_
 refine aP rfl rfl (aM rfl py rfl rfl rfl) ⟨rfl,rfl,trivial⟩ ?_
 refine dM (jy (t:=.val) (x:=.chan (some bc)) [2] (.val rfl) ⟨rfl,trivial⟩) ?_
 refine aD (ao ?_)
 exact λa w st=>⟨bc,(jj (junk:=[]) (by repeat (first |exact trivial |refine⟨rfl,?_⟩)) (by simp)) a w st⟩
theorem QP{S:FS}{w0:VW}{T:Tq}(hT:(ec Tryz.prog).ok T){b:Frame}(hb:b.roundOf=none){kk:List Item}{cs:List Frame}{a:Act}{v:VW}{bc:Nat}(st:St (zo a0 bm bk k S w0) [(1,.at .val (.pointer (some ⟨bm,0,none⟩))),(2,.at .val (.chan (some bc)))] (.raw bc (.chan 0 #[] false 0 0 false)::qQ a0 bm bk k) a v)
 (next:∀a' v' bw,St (zo a0 bm bk k S w0) [(1,.at .val (.pointer (some ⟨bm,0,none⟩))),(2,.at .val (.chan (some bc))),(3,.eq (.pointer (some ⟨bw,0,none⟩)))] (GZ a0 bw bc bm bk k) a' v'->T v' (b.atR a' kk) cs):T v (b.atR a (.code (Td 2)::kk)) cs:=by
 refine eN (c:=zo a0 bm bk k S w0) (Q:=λa w=>∃bw,St (zo a0 bm bk k S w0) [(1,.at .val (.pointer (some ⟨bm,0,none⟩))),(2,.at .val (.chan (some bc))),(3,.eq (.pointer (some ⟨bw,0,none⟩)))] (GZ a0 bw bc bm bk k) a w) hT hb st ?_ λa' v' ⟨bw,st⟩=>next a' v' bw st
 show JC _ (.region _ _ false) _ _ _
 refine ab ?_
 refine aX rfl rfl rfl (bo rfl GQ GX) trivial λbw=>?_
 refine aD (ao ?_)
 exact λa w st=>⟨bw,(jj (junk:=[]) (by repeat (first |exact trivial |refine⟨rfl,?_⟩)) (by simp)) a w st⟩
theorem QO{S:FS}{w0:VW}{T:Tq}(hT:(ec Tryz.prog).ok T){b:Frame}(hb:b.roundOf=none){kk:List Item}{cs:List Frame}{a:Act}{v:VW}{bc bw:Nat}(st:St (zo a0 bm bk k S w0) [(1,.at .val (.pointer (some ⟨bm,0,none⟩))),(2,.at .val (.chan (some bc))),(3,.eq (.pointer (some ⟨bw,0,none⟩)))] (GZ a0 bw bc bm bk k) a v)
 (next:∀a' v',St (zo a0 bm bk k S w0) [(6,.eq (.int .i64 ((0:Nat):Int))),(1,.at .val (.pointer (some ⟨bm,0,none⟩))),(2,.at .val (.chan (some bc))),(3,.eq (.pointer (some ⟨bw,0,none⟩)))] (GZ a0 bw bc bm bk k) a' v'->T v' (b.atR a' kk) cs):T v (b.atR a (.code (Td 3)::kk)) cs:=by
 refine eN (c:=zo a0 bm bk k S w0) hT hb st ?_ next
 show JC _ (.region _ _ false) _ _ _
 refine ab ?_
 refine fy rfl ?_
 refine aD (ao ?_)
 exact jj (junk:=[]) (by repeat (first |exact trivial |refine⟨rfl,?_⟩)) (by simp)
theorem SK{S:FS}{w:World}{bm:Nat}{cl:List Value}{v:Value}(h:(A.at .val (.pointer (some ⟨bm,0,none⟩))).holds S w v)(hr:rd S w ap a0 cl):(A.at (.mo (.pointer (some ⟨bm,0,none⟩)) cl ap) a0).holds S w v:=by
 obtain⟨b,off,c,T,fz,e,hb,hc,h1⟩:=h;exact⟨b,off,c,T,fz,e,hb,hc,h1.1,rfl,hr⟩
theorem Kt{n:Int}(hn0:0≤a0.1)(hn:n=oO .i64 1 a0.1)(hN:n≤1000)(hall:wz k a0 n.toNat=some ()){S:FS}{w0:VW}{T:Tq}(hT:(ec Tryz.prog).ok T){b:Frame}(hb:b.roundOf=none)(hbk:b.kind≠.early){kk:List Item}{cs:List Frame}{a:Act}{v:VW}{bc bw:Nat}
 (st:St (zo a0 bm bk k S w0) [(6,.eq (.int .i64 ((0:Nat):Int))),(1,.at .val (.pointer (some ⟨bm,0,none⟩))),(2,.at .val (.chan (some bc))),(3,.eq (.pointer (some ⟨bw,0,none⟩)))] (GZ a0 bw bc bm bk k) a v)
 (next:∀a' v',St (zo a0 bm bk k S w0) [] (qQ a0 bm bk k) a' v'->T v' (b.atR a' kk) cs):
 T v (b.atR a (.code (.block 0 (.loop Ku)):: .code (.seq (.seq TO (.block 2 (.loop Ox))) NP)::kk)) cs:=by
 obtain⟨i1,i2,S1,i3,i4,i5,i6⟩:=st
 refine hT.2 _ _ _ λGd hG v1 hr gs sl tt kq hL=>?_
 have hO1:=i5.rely i3.dom hr
 have hd1:∀y,S1 y->y < v1.heap.size:=λy hy=>Nat.lt_of_lt_of_le (i3.dom y hy) hr.size
 have fw:av (GZ a0 bw bc bm bk k) bw:=⟨_,mem_cons_self,rfl⟩
 have fc:av (GZ a0 bw bc bm bk k) bc:=⟨_,mem_cons_of_mem _ mem_cons_self,rfl⟩
 have fm:av (GZ a0 bw bc bm bk k) bm:=⟨_,mem_cons_of_mem _ (mem_cons_of_mem _ mem_cons_self),rfl⟩
 have fk:av (GZ a0 bw bc bm bk k) bk:=⟨_,mem_cons_of_mem _ (mem_cons_of_mem _ (mem_cons_of_mem _ mem_cons_self)),rfl⟩
 have fm0:av (qQ a0 bm bk k) bm:=⟨_,mem_cons_self,rfl⟩
 have fk0:av (qQ a0 bm bk k) bk:=⟨_,mem_cons_of_mem _ mem_cons_self,rfl⟩
 have f0:∀y,av (qQ a0 bm bk k) y->y=bm\/y=bk:=λy ⟨d,hd,e⟩=>by
  rcases mem_cons.1 hd with rfl |hd
  .exact .inl (Option.some.inj e).symm
  .rw [List.mem_singleton.1 hd] at e;exact .inr (Option.some.inj e).symm
 have ap1:=pairwise_cons.1 hO1.apart
 have ap2:=pairwise_cons.1 ap1.2
 have ap3:=pairwise_cons.1 ap2.2
 have nwc:bw≠bc:=λe=>ap1.1 _ mem_cons_self bw rfl (by rw [e];rfl)
 have nwm:bw≠bm:=λe=>ap1.1 _ (mem_cons_of_mem _ mem_cons_self) bw rfl (by rw [e];rfl)
 have nwk:bw≠bk:=λe=>ap1.1 _ (mem_cons_of_mem _ (mem_cons_of_mem _ mem_cons_self)) bw rfl (by rw [e];rfl)
 have ncm:bc≠bm:=λe=>ap2.1 _ mem_cons_self bc rfl (by rw [e];rfl)
 have nck:bc≠bk:=λe=>ap2.1 _ (mem_cons_of_mem _ mem_cons_self) bc rfl (by rw [e];rfl)
 have nmk:bm≠bk:=λe=>ap3.1 _ mem_cons_self bm rfl (by rw [e];rfl)
 obtain⟨cw,hcw,hcw2⟩:=hO1.holds _ mem_cons_self
 obtain⟨q1,q2,rfl,⟨rfl,_⟩,rfl,_⟩:=hcw2
 have hch:v1.heap[bc]? =some (.chan 0 #[] false 0 0 false):=hO1.holds _ (mem_cons_of_mem _ mem_cons_self)
 obtain⟨cells,hcl,hce⟩:=hO1.holds _ (mem_cons_of_mem _ (mem_cons_of_mem _ mem_cons_self))
 obtain⟨c0,c1,c2,c3,c4,c5,rfl,hrd⟩:=oJ hce
 have hmp:∃o,v1.heap[bk]? =some o/\cj k a0 o:=hO1.holds _ (mem_cons_of_mem _ (mem_cons_of_mem _ (mem_cons_of_mem _ mem_cons_self)))
 have hpok:(dq bw bc bm bk c0 c1 c2 c3 c4 c5 k a0).Ok:=⟨nmk,λ_=>⟨nwm,nwk,nwc⟩,λ_=>⟨ncm,nck⟩⟩
 have hat:(dq bw bc bm bk c0 c1 c2 c3 c4 c5 k a0).At v1.toWorld { f:=12 * n.toNat }:=⟨λ_=>(by
  grind),λ_=>hch,hcl,λ_=>hmp⟩
 have hshf:∀y,(dq bw bc bm bk c0 c1 c2 c3 c4 c5 k a0).sh y\/y=bk->av (GZ a0 bw bc bm bk k) y:=by
  rintro y ((rfl |⟨_,rfl |rfl⟩) |rfl)
  .exact fm
  .exact fw
  .exact fc
  .exact fk
 refine AZ hG (QN hpok) (p:=dq bw bc bm bk c0 c1 c2 c3 c4 c5 k a0) (T:=T) (q:={ f:=12 * n.toNat }) (s:=sS (12 * n.toNat) 0 true true) hpok hL hO1.domA hO1.domZ (hO1.far _ fk).2 hat (λy hy=>(hO1.far y (hshf y hy)).1) rfl rfl (λ_=>rfl) rfl ?_
 have B:BC Tryz.prog (Ww Tryz.prog (dq bw bc bm bk c0 c1 c2 c3 c4 c5 k a0) T true (sS (12 * n.toNat) 0 true true)):=mM rfl rfl
 refine B.move (λ_ _=>nG) ?_
 refine B.move (λ_ _=>yr) ?_
 generalize hV1:(⟨v1.toWorld,λy=>v1.A y\/(dq bw bc bm bk c0 c1 c2 c3 c4 c5 k a0).sh y\/y=(dq bw bc bm bk c0 c1 c2 c3 c4 c5 k a0).bk,v1.Z⟩:VW)=V1
 have hVA:∀y,V1.A y↔v1.A y\/y=bm\/y=bw\/y=bc\/y=bk:=λy=>by
  rw [<-hV1];constructor
  .rintro(h |(h |⟨_,h |h⟩) |h)
   .grind
   .grind
   .grind
   .grind
   grind
  .rintro(h |h |h |h |h)
   .grind
   .exact .inr (.inl (.inl h))
   .exact .inr (.inl (.inr ⟨rfl,.inl h⟩))
   .exact .inr (.inl (.inr ⟨rfl,.inr h⟩))
   grind
 have hVw:V1.toWorld=v1.toWorld:=by grind
 have hVh:V1.heap=v1.heap:=by rw [hVw]
 have hVZ:V1.Z=v1.Z:=by grind
 have hOV:aS [] S1 V1:=by
  refine⟨λ_ h=>by simp at h,λ_ h=>(cx h).elim,Pairwise.nil,λ_ h=>(cx h).elim,λy hy h=>?_,λy h=>?_,by rw [hVZ,hVh];exact hO1.domZ⟩
  .rcases(hVA y).1 h with h |rfl |rfl |rfl |rfl
   .exact hO1.sees y hy h
   .exact(hO1.own _ fm).1 hy
   .exact(hO1.own _ fw).1 hy
   .exact(hO1.own _ fc).1 hy
   .exact(hO1.own _ fk).1 hy
  .rw [hVh];rcases(hVA y).1 h with h |rfl |rfl |rfl |rfl
   .exact hO1.domA y h
   .grind
   .grind
   .grind
   grind
 have hA1:yN bw bc bm bk V1:=⟨(hVA _).2 (.inr (.inl rfl)),(hVA _).2 (.inr (.inr (.inl rfl))),(hVA _).2 (.inr (.inr (.inr (.inl rfl)))),(hVA _).2 (.inr (.inr (.inr (.inr rfl)))),by rw [hVZ];exact(hO1.far _ fk).2⟩
 have hI0:NI V1 S1 ((6,.eq (.int .i64 ((0:Nat):Int)))::za bw bc bm [c0,c1,c2,c3,c4,c5] a0) a V1:=by
  have h6:∀s r,lk [(6,A.eq (.int .i64 ((0:Nat):Int))),(1,.at .val (.pointer (some ⟨bm,0,none⟩))),(2,.at .val (.chan (some bc))),(3,.eq (.pointer (some ⟨bw,0,none⟩)))] s=some r->r.holds S1 V1 (a.tmps.getD s undef):=λs r hl=>by
   rw [show(V1.toWorld)=v1.toWorld from hVw];exact A.mono (λ_ h=>h) (fG i3.dom i5.sees hr) r (i6 s r hl)
  refine⟨S1,i1,i2,bD.refl (v:=ez V1) (λy hy=>by grind),hOV,λs r hl=>?_⟩;simp only [lk] at hl;split at hl
  .rename_i e;subst e;cases hl;exact h6 6 _ rfl
  .split at hl
   .rename_i e;subst e;cases hl;refine SK (h6 1 _ rfl) ?_;grind
   .split at hl
    .rename_i e;subst e;cases hl;exact h6 2 _ rfl
    .split at hl
     .rename_i e;subst e;cases hl;exact h6 3 _ rfl
     .cases hl
 have hK:Kn (MW Tryz.prog (dq bw bc bm bk c0 c1 c2 c3 c4 c5 k a0) T) bm 0 [c0,c1,c2,c3,c4,c5]:=Om rfl
 refine EZ hpok hb hbk (λa2 v2 hA2 hI2=>?_) 4 0 rfl true true (λe=>e) (λe=>by cases e) a V1 hA1 hI0
 have B2:BC Tryz.prog (Ww Tryz.prog (dq bw bc bm bk c0 c1 c2 c3 c4 c5 k a0) T true (sS (12 * n.toNat) 4 false false)):=mM rfl rfl
 obtain⟨S2,st2,hcs2,hback⟩:=hI2.st (MW Tryz.prog (dq bw bc bm bk c0 c1 c2 c3 c4 c5 k a0) T)
 refine B2.move (λ_ _=>dR) ?_
 refine B2.move (λ_ _=>dR) ?_
 refine eN (c:=pJ (MW Tryz.prog (dq bw bc bm bk c0 c1 c2 c3 c4 c5 k a0) T) S2 v2) (Q:=λa w=>St (pJ (MW Tryz.prog (dq bw bc bm bk c0 c1 c2 c3 c4 c5 k a0) T) S2 v2) (GO bw bc bm [c0,c1,c2,c3,c4,c5] a0 n ((0:Nat):Int)) [] a w) (nN rfl rfl) hb st2 ?_ λa3 v3 st3=>?_
 .
  refine ab ?_;refine bh rfl (ay (t:=.mo (.pointer (some ⟨bm,0,none⟩)) [c0,c1,c2,c3,c4,c5] ap) rfl Du rfl) ⟨rfl,trivial⟩ ?_;refine bh rfl (lr rfl) ⟨rfl,trivial⟩ ?_;refine bh rfl (gV rfl jx) ⟨rfl,trivial⟩ ?_;refine bh rfl (iI 1 false rfl ge rfl rfl) ⟨rfl,trivial⟩ ?_;refine bh rfl (jr (t:=(.int .i64)) rfl cL (hK.sub 0 1 rfl (le_of_ble_eq_true rfl)) rfl rfl) ⟨rfl,trivial⟩ ?_;refine bh rfl (N5 rfl hn0) ⟨rfl,rfl,trivial⟩ ?_;refine fy rfl ?_;refine aD (ao ?_);rw [hn];exact jj (junk:=[]) (by repeat (first |exact trivial |refine⟨rfl,?_⟩)) uN
 refine B2.move (λ_ _=>nG) ?_
 refine B2.move (λ_ _=>yr) ?_
 refine GN hpok (N:=n.toNat) (n:=n) (by omega) (by omega) (λi hi=>wy hall i hi) hb hA2 (λa4 v4 st4=>?_) n.toNat 0 (by omega) a3 v3 st3
 refine Ov hpok hb hbk hA2 st4 λa5 v5 st5=>?_
 have hA5:=hA2.st (c:=pJ (MW Tryz.prog (dq bw bc bm bk c0 c1 c2 c3 c4 c5 k a0) T) S2 v2) st5
 obtain⟨S4,j1,j2,j3,j4,j5⟩:=hback st5
 refine Ww.fin rfl ⟨rfl,rfl,rfl,rfl,rfl,w0.Z,λv6 q hr6 hat6 hpre6=>?_⟩
 obtain⟨g1,g2,g3⟩:=zK hpre6 rfl ⟨rfl,rfl,rfl,rfl,rfl,rfl,rfl⟩
 have hmu:v6.heap[bm]? =some (.cells #[c0,c1,c2,c3,c4,c5,.int .i32 0,.int .u32 0,.map (some bk)] 94):=by
  have:=hat6.mu;grind
 have hmp6:∃o,v6.heap[bk]? =some o/\cj k a0 o:=hat6.mp g3
 have hZ:v.Z=w0.Z:=i3.Z
 have hsz1:w0.heap.size≤v1.heap.size:=Nat.le_trans i3.size hr.size
 have hsV:V1.heap.size≤v5.heap.size:=j3.size
 rw [hVh] at hsV
 have hsz:w0.heap.size≤v6.heap.size:=Nat.le_trans hsz1 (Nat.le_trans hsV hr6.size)
 have hge:∀y,av (GZ a0 bw bc bm bk k) y->y≠bm->y≠bk->w0.heap.size≤y:=λy hy h1 h2=>(i4 y hy).resolve_left λh=>(f0 y h).elim h1 h2
 have old1:∀y,v1.A y->w0.A y\/w0.heap.size≤y:=λy hy=>by
  rcases hr.old y hy with h |h
  .exact i3.oldA y h
  .exact .inr (Nat.le_trans i3.size h)
 have oldV:∀y,V1.A y->y≠bm->y≠bk->w0.A y\/w0.heap.size≤y:=λy hy h1 h2=>by
  rcases(hVA y).1 hy with h |h |rfl |rfl |h
  .grind
  .omega
  .grind
  .grind
  omega
 have old5:∀y,v5.A y->y≠bm->y≠bk->w0.A y\/w0.heap.size≤y:=λy hy h1 h2=>by
  rcases j3.oldA y hy with h |h
  .grind
  grind
 have keep1:∀y,y < v1.heap.size->¬V1.A y->v6.heap[y]? =v1.heap[y]? :=λy hy ha=>by
  have e1:v5.heap[y]? =V1.heap[y]? :=j3.keep y (by grind) ha λh=>(cx h).elim
  have n5:¬v5.A y:=λh=>(j3.oldA y h).elim ha λh=>by
   grind
  have e2:=hr6.keep y (Nat.lt_of_lt_of_le hy hsV) n5;grind
 have hKs:gr S1 v1 v6:=λy hy=>keep1 y (hd1 y hy) λh=>hOV.sees y hy h
 refine next a5 _ ⟨j1,j2,S4,⟨λy hy=>j3.sub y (i3.sub y hy),λy hy=>?_,λy hy=>Nat.lt_of_lt_of_le (j3.dom y hy) hr6.size,hsz,λy hy ha hx=>?_,?_,?_,?_,λy hy=>?_,λy hy=>?_,rfl⟩,λy hy=>.inl hy,⟨λd hd'=>?_,λy hy=>?_,ap2.2,λy hy=>⟨λh=>?_,?_⟩,λy hy h=>?_,λy h=>hr6.dom j4.domA y h.1,λy h=>?_⟩,λs r hl=>by cases hl⟩
 .
  rcases j3.new y hy with h |h |h
  .exact i3.new y h
  .grind
  grind [cx]
 .
  have e1:=i3.keep y hy ha hx;have e2:=hr.keep y (Nat.lt_of_lt_of_le hy i3.size) (λh=>(i3.oldA y h).elim ha λh=>absurd hy (Nat.not_lt.2 h));grind
 .
  have e1:j7 v5.os V1.os:=j3.os;rw [show V1.os=v1.os by rw [hVw]] at e1;exact((hr6.os.trans e1).trans hr.os).trans i3.os
 .
  have e1:v5.tape=V1.tape:=j3.tape;rw [show V1.tape=v1.tape by rw [hVw]] at e1;exact((hr6.tape.trans e1).trans hr.tape).trans i3.tape
 .
  have e1:v5.output=V1.output:=j3.output;rw [show V1.output=v1.output by rw [hVw]] at e1;exact((hr6.output.trans e1).trans hr.output).trans i3.output
 .
  refine⟨hr6.sub y (j3.subA y ((hVA y).2 (.inl (hr.sub y (i3.subA y hy))))),λe=>?_,λe=>?_⟩
  .have e:y=bm:=e;rw [e] at hy;exact(i5.far _ fm).1 (i3.subA _ hy)
  .have e:y=bk:=e;rw [e] at hy;exact(i5.far _ fk).1 (i3.subA _ hy)
 .
  obtain⟨h1,h2,h3⟩:=hy;rcases hr6.old y h1 with h |h
  .grind
  grind
 .
  rcases mem_cons.1 hd' with rfl |hd'
  .exact⟨_,hmu,[c0,c1,c2,c3,c4,c5],_,rfl,dS (λy hy=>j3.sub y hy) hKs ap hrd,[_],_,rfl,⟨rfl,rfl⟩,[_],_,rfl,⟨rfl,rfl⟩,⟨rfl,rfl⟩⟩
  .rw [List.mem_singleton.1 hd'];exact hmp6
 .
  rcases f0 y hy with rfl |rfl
  .exact⟨λh=>j4.sees _ h hA5.m,(Array.getElem?_eq_some_iff.1 hmu).1⟩
  .obtain⟨o,ho,_⟩:=hmp6;exact⟨λh=>j4.sees _ h hA5.k,(Array.getElem?_eq_some_iff.1 ho).1⟩
 .
  grind
 .
  show¬w0.Z y;rw [<-hZ];rcases f0 y hy with rfl |rfl
  .exact(i5.far _ fm).2
  .exact(i5.far _ fk).2
 .
  rcases hr6.old y h.1 with h' |h'
  .exact j4.sees y hy h'
  .exact absurd (j3.dom y hy) (Nat.not_lt.2 h')
 .
  have h:w0.Z y:=h;rw [<-hZ] at h;exact Nat.lt_of_lt_of_le (i5.domZ y h) (Nat.le_trans hr.size (Nat.le_trans hsV hr6.size))
theorem rD(k:Nat)(r:Unit)(h:eJ k a0=some r):cz (ec Tryz.prog) 40 [.eq (.pointer (some ⟨bm,0,none⟩))] (qQ a0 bm bk k) (λ_:Unit=>(bO [],qQ a0 bm bk k)):=by
 unfold eJ at h;split at h
 .rename_i hc;refine K.cz.ofT 26 Tryz.func40 rfl rfl rfl λkind hk S w0 a st T hT cs hcc=>?_;refine hT.1.move (λ_ _=>dR) ?_;refine QR hT rfl st λa1 v1 st1=>?_;refine hT.1.move (λ_ _=>dR) ?_;refine QQ hT rfl st1 λa2 v2 bc st2=>?_;refine hT.1.move (λ_ _=>dR) ?_;refine QP hT rfl st2 λa3 v3 bw st3=>?_;refine hT.1.move (λ_ _=>dR) ?_;refine hT.1.move (λ_ _=>dR) ?_;refine QO hT rfl st3 λa4 v4 st4=>?_;refine Kt hc.1 rfl hc.2 h hT rfl hk st4 λa5 v5 st5=>?_;refine hcc .normal a5 v5 ?_;refine(?_:JN (zo a0 bm bk k S w0) (K.cg Tryz.prog Tryz.f40 (dK S w0 (qQ a0 bm bk k) λ_:Unit=>(bO [],qQ a0 bm bk k)) .normal) [] (qQ a0 bm bk k)) a5 v5 st5;refine j8 ?_;exact aQ () [] 2 trivial rfl
 .cases h
end
end Go.Proofs.YtflilincnacbpaaGreat
set_option linter.unusedVariables false
set_option maxRecDepth 4000
set_option maxHeartbeats 1000000
namespace Go.Proofs.YtflilincnacbpaaGreat
open K Go Go.Proofs
def uH(l:List Int):List Value:=l.map λn=>.int .i64 n
theorem zF:∀{l l':List Int},uH l=uH l'->l=l'
 |[],[],_=>rfl
 |[],_::_,h=>by cases h
 |_::_,[],h=>by cases h
 |a::l,b::l',h=>by
  have h:Value.int .i64 a::uH l=Value.int .i64 b::uH l':=h
  simp only [List.cons.injEq,Value.int.injEq,true_and] at h
  rw [h.1,zF h.2]
theorem HD(l:List Int):(uH l).length=l.length:=by simp [uH]
theorem Hi:Tryz.prog.types.size+2≤10000:=by simp_all
theorem zn{n:Int}(h1: -1≤n)(h2:n < 1000000):(Lit.int .i64 n).wf=true:=by
 simp only [Lit.wf,Bool.and_eq_true,decide_eq_true_eq];exact⟨Int.le_trans (by decide) h1,Int.le_trans (Int.le_of_lt h2) (by decide)⟩
theorem LY(d:Nat){l:List Int}(h5:l.length=5)(hw:∀n∈l, -1≤n/\n < 1000000):Tryz.prog.keyLits (d+2) 56 (uH l)=some (l.map λn=>.int .i64 n):=by
 match l,h5,hw with
 |[a,b,c,e,f],_,hw=>
  have hint:∀(n:Int),n∈[a,b,c,e,f]->Tryz.prog.keyLits (d+1) 3 [.int .i64 n]=some [.int .i64 n]:=λn h=>by
   have:=hw n h;simp_all [Program.keyLits,Tryz.underlying3,zn,and_self,if_true]
  have hc:Tryz.prog.cellsOf 56=5:=by kernel_rfl
  have hc3:Tryz.prog.cellsOf 3=1:=by kernel_rfl
  have hr:List.range 5=[0,1,2,3,4]:=by decide
  unfold Program.keyLits;simp_all [uH,Tryz.underlying56]
def xW(l:List Int):Prop:=l.length=5/\∀n∈l, -1≤n/\n < 1000000
instance (l:List Int):Decidable (xW l):=by unfold xW;infer_instance
def t5(l:List Int):Value:=.agg (uH l).toArray
theorem pi{S:FS}{w:World}{u:Value}{l:List Int}(h:(A.rep (.arr 5 (.int .i64)) l).holds S w u):u=t5 l:=by
 obtain⟨cs,⟨_,h1⟩,h2⟩:=h
 have kH:∀{r:List Int} {cs:List Value},dA (rd S w (.int .i64)) r cs->cs=uH r:=by
  intro r
  induction r with
  |nil=>intro cs h;exact h
  |cons n r ih=>rintro cs ⟨c1,c2,rfl,h1,h2⟩;have h1:c1=[.int .i64 n]:=h1;rw [h1,ih h2];rfl
 rw [h2,kH h1];rfl
theorem HF(l:List Int):kU (t5 l)=true:=by
 show((uH l).toArray.toList.all uQ)=true
 induction l with
 |nil=>rfl
 |cons n r ih=>exact ih
theorem LX:WideMaps.KeyLaw Tryz.prog 56:=deep_law_gate (by kernel_rfl) Hi (Nat.lt_of_lt_of_le (lt_succ_self 56) (le_of_ble_eq_true (by kernel_rfl))) (by kernel_rfl) (by kernel_rfl)
theorem Ao{l:List Int}(h:xW l):∃lt,keyOf Tryz.prog 56 (t5 l)=some lt:=by
 obtain⟨d,hd⟩:∃d,Tryz.prog.types.size+1=d+2:=⟨Tryz.prog.types.size - 1,by simp_all⟩;have k1:=LY d h.1 h.2;have n1:=HD l;rw [h.1] at n1;have hc:Tryz.prog.cellsOf 56=5:=by kernel_rfl
 have hk:Tryz.prog.keyType 56=true:=by kernel_rfl
 have hL:Tryz.prog.keyLits (Tryz.prog.types.size+1) 56 (t5 l).cells.toList=some (l.map λn=>.int .i64 n):=by
  rw [hd];exact k1
 refine⟨.string (keyBytes (l.map λn=>.int .i64 n)),?_⟩;unfold keyOf;rw [Tryz.underlying56];have hf:(t5 l).formed Tryz.prog 56=true:=by grind [t5,Value.formed,Tryz.underlying56]
 simp_all
theorem OX{l l':List Int}(h1:xW l)(h2:xW l')(w:World):(Op.equalIn 10000 56 (t5 l) (t5 l')).run Tryz.prog w= .ok (decide (l=l')) w:=by
 obtain⟨l1,k1⟩:=Ao h1;obtain⟨l2,k2⟩:=Ao h2;obtain⟨r,hr,hiff⟩:=run_equal_deep (P:=Tryz.prog) w (le_succ 9999) (by kernel_rfl) (by kernel_rfl) k1 k2
 have e:r=decide (l=l'):=by
  by_cases hl:l=l'
  .subst hl;rw [k1] at k2;rw [decide_eq_true rfl,hiff.2 (Option.some.inj k2)]
  .rw [decide_eq_false hl];cases hb:r with
   |false=>rfl
   |true=>
    have:=LX.inj k1 (by rw [hiff.1 hb];exact k2);simp only [t5,Value.agg.injEq] at this;exact absurd (zF (by simpa using congrArg toList this)) hl
 rw [<-e];exact hr
theorem Ia{M:Md Tryz.prog}{o:Oper}{x y:Operand}{T':TypeId}{l l':List Int}(ho:o.op= .binOp .eql 56 x y T')(h1:xW l)(h2:xW l'):bB M o [(x,.rep (.arr 5 (.int .i64)) l),(y,.rep (.arr 5 (.int .i64)) l')] [] (λ_:Unit=>(.eq (.bool (decide (l=l'))),[])):=
 .val0 (hns:=λS w a hN=>uh ho (by rw [pi hN.1,pi hN.2.1];simp_all [uW,HF])) λS w a hN=>by
  have e1:a.eval x=t5 l:=pi hN.1
  have e2:a.eval y=t5 l':=pi hN.2.1
  have h3:=OX h1 h2 w
  refine⟨_,?_,rfl⟩
  simp_all [t5,execOp,Sem.run_bind,run_eqGuard_agg,run_eql_struct,Result.andThen_ok,Sem.run_pure]
