import Derived.Test.YtlmopgkkijhllaaGreatVBB8
set_option linter.unusedSimpArgs false
set_option linter.unusedVariables false
set_option maxRecDepth 20000
set_option maxHeartbeats 4000000
namespace Go.Proofs.YtlmopgkkijhllaaGreat
open K Go Go.Proofs Go.Conc Go.Conc.Lib
section
variable {p:Gp}{T:Tq}{mn:Bool}{s:Ph}{v0:VW}{cs:List Frame}
theorem NX{q:c9}{c:Nat}{se0:Option (Nat×Nat)}(hp:lZ p mn (s.set { df:=1,tk:=1,phi:=c+5,se:=se0 }) q):(q.S=1∧q.L=0∧q.W=0∧1≤q.N)∨(q.S=0∧q.W=1):=by
 obtain⟨o,h1,⟨k1,k2,k3,k4,k5,k6⟩,hse,h2,h3,hN,hT⟩:=hp.mu;dsimp only at k2 k3 k4 k5 k6;omega
theorem KW(hok:p.Ok)(hs:s.Run){v:VW}{c n0:Nat}{N d i:Nat}{Γ:Gv}{ops:Array Oper}{rest:List Nat}{k:List Item}{o:Oper}{x y:Operand}{df:List Deferred}{b:Frame}{ts:Array TypeId}(xx:Bool){dl:Int}(hdl:dl=cond xx (-11) (-7))(hn:0 < n0)(hx0:xx=false→2≤n0)
 (ho:ops[i]? =some o) (hop:o.op= .call { callee:=.value (.func 126),args:= #[x,y],argTypes:=ts }) (hx:ev Γ x=some (.pointer (some p.muA))) (hy:ev Γ y=some (.int .i32 dl))
 (h:∀v' u,Qt (WV v0 Tryz.prog p T mn (s.set { df:=1,hd:=1,phi:=c+4 })) v' b cs N df (.inRegion ops rest::k) ((d,u)::Γ))
 (hg:o.guard=none:=by exact rfl) (hd:o.dst=some d:=by exact rfl) (hN:Nat.blt d N=true:=by exact rfl) (hk:b.kind≠.early:=by exact fun h=>nomatch h):
 Qt (WV v0 Tryz.prog p T mn (s.set { df:=1,tk:=1,phi:=c+5,nb:=n0 })) v b cs N df (.inRegion ops (i::rest)::k) Γ:=by
 refine D2 hok hs rfl rfl ho hop Tryz.func126 (by kernel_rfl) (by kernel_rfl) (by kernel_rfl) (by kernel_rfl) hx hy (fun _=>{ df:=1,hd:=1,phi:=c+4 }) (fun _=>⟨rfl,rfl⟩) (PR xx) (fun q hp=>?_) (fun v' q hp=>h v' _) hg hd hN hk
 obtain⟨g1,g2,g3,g4⟩:=za hn hp
 have hN:q.N≤101:=by obtain⟨_,_,_,_,_,_,h,_⟩:=hp.mu;exact h
 refine⟨?_,⟨rfl,rfl,rfl,rfl,rfl,rfl⟩,rfl,JL hs hn hx0 hp⟩
 subst hdl
 simp only [c9.word]
 cases xx with
 |true=>dsimp only [cond];rw [wrap_i32_small _ (by omega) (by omega)];omega
 |false=>
  have:=hx0 rfl;dsimp only [cond];rw [wrap_i32_small _ (by omega) (by omega)];omega
theorem zA(hok:p.Ok)(hs:s.Run){v:VW}{c φ φ' nw:Nat}{ow:Nat}{st aw:Bool}{W it:Int}(hφ:φ' < φ)
 (hget:∀v',Qt (WV v0 Tryz.prog p T mn (s.set { df:=1,hd:=1,phi:=c+4 })) v' (base 125) cs 139 [] [.code jq] [(0,.pointer (some p.muA))])
 (hl:∀v' ow' φ',φ' < φ→nN ow' st true→Qt (WV v0 Tryz.prog p T mn (s.set (qA c true ow' φ'))) v' (base 125) cs 139 [] [.code iC,.inLoop iC,.inBlock 0,.code jq] (xM p W st true 0 ow')):
 Qt (WV v0 Tryz.prog p T mn (s.set { df:=1,tk:=1,phi:=c+5,se:=some (nw,φ') })) v (base 125) cs 139 [] (.code P4::KX) (xM p W st aw it ow):=by
 have hT:Mv Tryz.prog p.Kf mn (WV v0 Tryz.prog p T mn (s.set { df:=1,tk:=1,phi:=c+5,se:=some (nw,φ') })):=bf hs.q
 refine Qt.seq hT ?_
 refine qr ?_
 refine Qt.op hT rfl (fR rfl rfl) ?_
 refine Qt.op hT rfl (bq (k:=0) rfl nC rfl) ?_
 refine vd hok hs rfl (Nat.zero_le _) rfl rfl Dc Tryz.isAgg21 rfl (Om c) (fun q=>by unfold Om;split <;> exact⟨rfl,rfl⟩) (fun q hp=>GA hs (km hp)) fun v2 q hp=>?_
 have hle:=km hp
 have htk:=NX hp
 have hqf:q.f≤φ':=by obtain⟨_,_,_,h,_⟩:=hp.mu;exact(h _ _ rfl).1
 have hN:q.N≤101:=by obtain⟨_,_,_,_,_,_,h,_⟩:=hp.mu;exact h
 obtain⟨w1,w2,w3,w4⟩:=fX hle
 have hlt:q.word < 820:=by simp only [c9.word];omega
 clear hT
 generalize hw:q.word=wd at w1 w2 w3 w4 hlt
 obtain⟨x5,x1,x2,x4,x3,x7,o1,o2,o4,n2,s3⟩:=j9 wd (by omega)
 by_cases hS:q.S=1
 ·
  rw [show Om c q={ df:=1,tk:=1,phi:=c+5,nb:=q.N } from if_pos hS];have hT:Mv Tryz.prog p.Kf mn (WV v0 Tryz.prog p T mn (s.set { df:=1,tk:=1,phi:=c+5,nb:=q.N })):=bf hs.q;have hn:0 < q.N:=by omega
  refine qr ?_;refine Qt.seq hT (Qt.seq hT ?_);refine qr ?_;refine Qt.op hT rfl (aV (u:=.int .i32 4) rfl rfl rfl (ku (x4.trans (by omega)))) ?_;refine Qt.op hT rfl (aV (u:=.bool true) rfl rfl rfl rfl) ?_;refine qr ?_;refine Qt.cond hT true ?_;refine Qt.seq hT (Qt.seq hT ?_);refine qr ?_;refine Qt.op hT rfl (aV (u:=.int .i32 0) rfl rfl rfl (ku (x3.trans (by omega)))) ?_;refine Qt.op hT rfl (aV (u:=.bool false) rfl rfl rfl rfl) ?_;refine qr ?_;refine bX hT rfl (dy rfl rfl) ?_;refine bX hT rfl (kS (z:=(q.N:Nat)) rfl rfl rfl (by decide) (s3.trans (by rw [w4]))) ?_;refine bX hT rfl (aV (u:=.bool false) rfl rfl rfl (by simp only [iy];rw [decide_eq_false (by omega)])) ?_;refine Qt.op hT rfl (dF rfl false rfl rfl) ?_;refine qr ?_;refine Qt.cond hT false (Qt.skip hT ?_);refine Qt.seq hT ?_;refine qr ?_;refine Qt.seq hT (Qt.seq hT ?_);refine qr ?_;refine Qt.op hT rfl (MJ rfl rfl) ?_;refine qr ?_
  have last:∀(xx:Bool) (z4:Code),(xx=false→2≤q.N)→Qt (WV v0 Tryz.prog p T mn (s.set { df:=1,tk:=1,phi:=c+5,nb:=q.N })) v2 (base 125) cs 139 [] (.code Ul:: .code z4::KX) [(0,.pointer (some p.muA)),(9,.int .i32 (cond xx (-11) (-7)))]:=fun xx z4 hx=>by
   refine Qt.seq hT ?_;refine qr ?_;refine Qt.op hT rfl (fR rfl rfl) ?_;refine Qt.op hT rfl (bq (k:=0) rfl nC rfl) ?_;refine qr ?_;refine KW hok hs xx rfl hn hx rfl rfl rfl rfl fun v3 u=>?_;replace hT:Mv Tryz.prog p.Kf mn (WV v0 Tryz.prog p T mn (s.set { df:=1,hd:=1,phi:=c+4 })):=bf hs.q;refine qr ?_;refine Qt.exit hT rfl ?_;exact Qt.base _ (hget v3)
  cases st with
  |true=>
   refine bX hT rfl (dy rfl rfl) ?_;refine bX hT rfl (kS (z:=(q.N:Nat)) rfl rfl rfl (by decide) (s3.trans (by rw [w4]))) ?_;refine bX hT rfl (aV (u:=.bool (decide (q.N=1))) rfl rfl rfl (by simp only [iy];congr 2;apply decide_eq_decide.2;omega)) ?_;refine Qt.op hT rfl (dF rfl false rfl rfl) ?_;refine qr ?_;refine vk hT (decide (q.N=1)) [(0,.pointer (some p.muA)),(9,.int .i32 (cond (decide (q.N=1)) (-11) (-7)))] rfl (fun e hk=>?_) (fun e hk=>?_) ?_
   ·rw [e] at hk;refine qr ?_;refine Qt.op hT rfl (aV (u:=.int .i32 (-11)) rfl rfl rfl rfl) ?_;refine qr ?_;exact Qt.base _ hk
   ·rw [e] at hk;exact Qt.skip hT (Qt.base _ hk)
   exact last _ _ fun e=>by have:=of_decide_eq_false e;omega
  |false=>
   refine bG hT rfl ?_;refine bG hT rfl ?_;refine bG hT rfl ?_;refine Qt.op hT rfl (dF rfl true rfl rfl) ?_;refine qr ?_;refine Qt.cond hT true ?_;refine qr ?_;refine Qt.op hT rfl (aV (u:=.int .i32 (-11)) rfl rfl rfl rfl) ?_;refine qr ?_;exact Qt.base _ (last true _ fun e=>by cases e)
 ·
  rw [show Om c q=qA c true q.word q.f from if_neg hS,hw];have hT:Mv Tryz.prog p.Kf mn (WV v0 Tryz.prog p T mn (s.set (qA c true wd q.f))):=bf hs.q;refine qr ?_;refine Qt.seq hT (Qt.seq hT ?_);refine qr ?_;refine Qt.op hT rfl (aV (u:=.int .i32 0) rfl rfl rfl (ku (x4.trans (by omega)))) ?_;refine Qt.op hT rfl (aV (u:=.bool false) rfl rfl rfl rfl) ?_;refine qr ?_;refine Qt.cond hT false (Qt.skip hT ?_);refine Qt.seq hT ?_;refine qr ?_;refine Qt.inBlock hT (Qt.inLoop hT ?_);exact Qt.base _ (hl v2 wd q.f (by omega) ⟨hlt,fun _=>rfl,fun _=>by omega⟩)
theorem zB(hok:p.Ok)(hs:s.Run){v:VW}{c φ φ' nw:Nat}{ow:Nat}{st aw z:Bool}{W it:Int}(hφ:φ' < φ)
 (hget:∀v',Qt (WV v0 Tryz.prog p T mn (s.set { df:=1,hd:=1,phi:=c+4 })) v' (base 125) cs 139 [] [.code jq] [(0,.pointer (some p.muA))])
 (hl:∀v' st' ow' φ',φ' < φ→nN ow' st' true→Qt (WV v0 Tryz.prog p T mn (s.set (qA c true ow' φ'))) v' (base 125) cs 139 [] [.code iC,.inLoop iC,.inBlock 0,.code jq] (xM p W st' true 0 ow')):
 Qt (WV v0 Tryz.prog p T mn (s.set { df:=1,qu:=1,phi:=c+4,se:=some (nw,φ') })) v (base 125) cs 139 [] (.code P5::KX) ((8,.bool z)::xM p W st aw it ow):=by
 have hT:Mv Tryz.prog p.Kf mn (WV v0 Tryz.prog p T mn (s.set { df:=1,qu:=1,phi:=c+4,se:=some (nw,φ') })):=bf hs.q
 refine Qt.seq hT ?_
 refine qr ?_
 refine Qt.op hT rfl (fR rfl rfl) ?_
 refine Qt.op hT rfl (bq (k:=1) rfl HL rfl) ?_
 refine qr ?_
 refine LN hok hs rfl rfl rfl rfl rfl Tryz.func138 (by kernel_rfl) (by kernel_rfl) (by kernel_rfl) (by kernel_rfl) rfl { df:=1,tk:=1,phi:=c+5,se:=some (nw,φ') } ⟨rfl,rfl⟩ (fun q hp hq=>ND hs hq) fun v1=>?_
 replace hT:Mv Tryz.prog p.Kf mn (WV v0 Tryz.prog p T mn (s.set { df:=1,tk:=1,phi:=c+5,se:=some (nw,φ') })):=bf hs.q
 refine qr ?_
 refine Qt.seq hT ?_
 refine qr ?_
 cases st with
 |true=>
  refine bG hT rfl ?_;refine bG hT rfl ?_;refine bG hT rfl ?_;refine bG hT rfl ?_;refine Qt.op hT rfl (dF rfl true rfl rfl) ?_;refine qr ?_;exact Qt.base _ (zA (st:=true) hok hs hφ hget fun v' ow' φ'=>hl v' true ow' φ')
 |false=>
  refine GZ hs (fun a ha=>Gh ha rfl rfl rfl rfl) rfl rfl fun v2 n=>?_;refine bX hT rfl (dy rfl rfl) ?_;refine bX hT rfl (aV rfl rfl rfl rfl) ?_;refine bX hT rfl (aV rfl rfl rfl rfl) ?_;refine Qt.op hT rfl (dF rfl false rfl rfl) ?_;refine qr ?_;exact Qt.base _ (zA (st:=_) hok hs hφ hget fun v' ow' φ'=>hl v' _ ow' φ')
theorem KR(hok:p.Ok)(hs:s.Run){v:VW}{c φ φ' nw:Nat}{ow:Nat}{st aw:Bool}{W it:Int}(hφ:φ' < φ)
 (hget:∀v',Qt (WV v0 Tryz.prog p T mn (s.set { df:=1,hd:=1,phi:=c+4 })) v' (base 125) cs 139 [] [.code jq] [(0,.pointer (some p.muA))])
 (hl:∀v' W' st' ow' φ',φ' < φ→nN ow' st' true→Qt (WV v0 Tryz.prog p T mn (s.set (qA c true ow' φ'))) v' (base 125) cs 139 [] [.code iC,.inLoop iC,.inBlock 0,.code jq] (xM p W' st' true 0 ow')):
 Qt (WV v0 Tryz.prog p T mn (s.set { df:=1,qu:=1,phi:=c+4,se:=some (nw,φ') })) v (base 125) cs 139 [] (.code R9::KX) (xM p W st aw it ow):=by
 have hT:Mv Tryz.prog p.Kf mn (WV v0 Tryz.prog p T mn (s.set { df:=1,qu:=1,phi:=c+4,se:=some (nw,φ') })):=bf hs.q
 refine Qt.seq hT ?_
 refine qr ?_
 refine Qt.op hT rfl (aV rfl rfl rfl rfl) ?_
 refine qr ?_
 refine Qt.seq hT (Qt.seq hT ?_)
 refine qr ?_
 refine Qt.op hT rfl (aV rfl rfl rfl rfl) ?_
 refine qr ?_
 by_cases h0:W=0
 ·
  refine Qt.cond hT true ?_ (congrArg (fun z=>some (Value.bool z)) (decide_eq_true h0));refine qr ?_;refine GZ hs (fun a ha=>ab rfl _) rfl rfl fun v2 n=>?_;refine qr ?_;exact Qt.base _ (zB hok hs hφ hget fun v' st' ow' φ'=>hl v' n st' ow' φ')
 ·
  refine Qt.cond hT false ?_ (congrArg (fun z=>some (Value.bool z)) (decide_eq_false h0));refine Qt.skip hT ?_;exact Qt.base _ (zB hok hs hφ hget fun v' st' ow' φ'=>hl v' W st' ow' φ')
end
end Go.Proofs.YtlmopgkkijhllaaGreat
set_option linter.unusedVariables false
set_option maxRecDepth 20000
set_option maxHeartbeats 4000000
namespace Go.Proofs.YtlmopgkkijhllaaGreat
open K Go Go.Proofs Go.Conc Go.Conc.Lib
section
variable {p:Gp}{T:Tq}{mn:Bool}{s:Ph}{v0:VW}{cs:List Frame}
abbrev BI(v0:VW)(p:Gp)(T:Tq)(mn:Bool)(s:Ph)(cs:List Frame)(c:Nat)(v:VW)(W:Int)(st aw:Bool)(it:Int)(ow φ:Nat):Prop:=
 Qt (WV v0 Tryz.prog p T mn (s.set (qA c aw ow φ))) v (base 125) cs 139 [] [.code iC,.inLoop iC,.inBlock 0,.code jq] (xM p W st aw it ow)
theorem rf(hok:p.Ok)(hs:s.Run){v:VW}{c ow1 φ1 ow:Nat}{st aw:Bool}{W it:Int}{X:Code}(h0:0≤it)(h4:it < 4)(hst:st=true→aw=true)
 (hl:∀v' ow' φ',φ'≤φ1→nN ow' st aw→BI v0 p T mn s cs c v' W st aw (it+1) ow' φ'):
 Qt (WV v0 Tryz.prog p T mn (s.set (qA c aw ow1 φ1))) v (base 125) cs 139 [] (.code Uk:: .code X::KX) (xM p W st aw it ow):=by
 have hT:Mv Tryz.prog p.Kf mn (WV v0 Tryz.prog p T mn (s.set (qA c aw ow1 φ1))):=bf hs.q
 refine Qt.seq hT ?_
 refine qr ?_
 refine vi hT KC rfl rfl ?_
 refine qr ?_
 refine Qt.seq hT ?_
 refine qr ?_
 refine Qt.op hT rfl (aV (u:=.int .i64 (it+1)) rfl rfl rfl (by simp only [iy];rw [IntKind.wrap_i64];congr 2;omega)) ?_
 refine qr ?_
 refine Qt.seq hT ?_
 refine qr ?_
 refine Qt.op hT rfl (fR rfl rfl) ?_
 refine Qt.op hT rfl (bq (k:=0) rfl nC rfl) ?_
 refine xK hok hs rfl rfl rfl rfl fun v2 ow2 φ2 g1 g2 g3=>?_
 replace hT:Mv Tryz.prog p.Kf mn (WV v0 Tryz.prog p T mn (s.set (qA c aw ow2 φ2))):=bf hs.q
 refine qr ?_
 refine Qt.exit hT rfl (Qt.inLoop hT ?_)
 exact Qt.base _ (hl v2 ow2 φ2 (g1 _ _ rfl) ⟨g2,hst,g3⟩)
theorem KU(hok:p.Ok)(hs:s.Run){v:VW}{c ow φ:Nat}{st aw:Bool}{W it:Int}{X:Code}(ho:nN ow st aw)(h0:0≤it)(h4:it < 4)(hL:ow % 2=1)(hS:ow / 4 % 2=0)
 (hl:∀v' aw' ow' φ',φ'≤φ→nN ow' st aw'→BI v0 p T mn s cs c v' W st aw' (it+1) ow' φ') {C1:Code} (hC:∃r5 C2,iC= .block 1 (.seq (.seq r5 (.cond (.tmp 20) C1 .skip)) C2)):
 Qt (WV v0 Tryz.prog p T mn (s.set (qA c aw ow φ))) v (base 125) cs 139 [] (.code C1:: .code X::KX) (xM p W st aw it ow):=by
 obtain⟨r5,C2,hC⟩:=hC
 have hC1:C1=match iC with
  | .block _ (.seq (.seq _ (.cond _ s _)) _)=>s
  |_=>.skip:=by rw [hC]
 subst hC1
 clear hC
 have hT:Mv Tryz.prog p.Kf mn (WV v0 Tryz.prog p T mn (s.set (qA c aw ow φ))):=bf hs.q
 have hlt:=ho.lt
 obtain⟨x5,x1,x2,x4,x3,x7,o1,o2,o4,n2,s3⟩:=j9 ow (by omega)
 refine Qt.seq hT (Qt.seq hT ?_)
 refine qr ?_
 refine Qt.op hT rfl (MJ rfl rfl) ?_
 refine qr ?_
 cases aw with
 |true=>
  refine bG hT rfl ?_;refine bG hT rfl ?_;refine bG hT rfl ?_;refine Qt.op hT rfl (dF rfl false rfl rfl) ?_;refine qr ?_;refine bG hT rfl ?_;refine bG hT rfl ?_;refine bG hT rfl ?_;refine Qt.op hT rfl (dF rfl false rfl rfl) ?_;refine qr ?_;refine bG hT rfl ?_;refine bG hT rfl ?_;refine bG hT rfl ?_;refine bG hT rfl ?_;refine bG hT rfl ?_;refine bG hT rfl ?_;refine bG hT rfl ?_;refine Qt.op hT rfl (dF rfl false rfl rfl) ?_;refine qr ?_;refine Qt.cond hT false (Qt.skip hT ?_);exact Qt.base _ (rf hok hs h0 h4 ho.st fun v' ow' φ' hφ hw=>hl v' true ow' φ' hφ hw)
 |false=>
  refine bX hT rfl (dy rfl rfl) ?_;by_cases hW:ow / 2 % 2=0
  ·refine bX hT rfl (aV (u:=.int .i32 0) rfl rfl rfl (ku (x2.trans (by omega)))) ?_;refine bX hT rfl (aV (u:=.bool true) rfl rfl rfl rfl) ?_;refine Qt.op hT rfl (dF rfl true rfl rfl) ?_;refine qr ?_;refine bX hT rfl (dy rfl rfl) ?_;refine bX hT rfl (kS (z:=(ow / 8:Nat)) rfl rfl rfl (by decide) s3) ?_;by_cases hN:ow / 8=0
   ·refine bX hT rfl (aV (u:=.bool false) rfl rfl rfl (by simp only [iy];rw [decide_eq_true (by omega)];rfl)) ?_;refine Qt.op hT rfl (dF rfl true rfl rfl) ?_;refine qr ?_;refine bG hT rfl ?_;refine bG hT rfl ?_;refine bG hT rfl ?_;refine bG hT rfl ?_;refine bG hT rfl ?_;refine bG hT rfl ?_;refine bG hT rfl ?_;refine Qt.op hT rfl (dF rfl false rfl rfl) ?_;refine qr ?_;refine Qt.cond hT false (Qt.skip hT ?_);exact Qt.base _ (rf hok hs h0 h4 ho.st fun v' ow' φ' hφ hw=>hl v' false ow' φ' hφ hw)
   ·refine bX hT rfl (aV (u:=.bool true) rfl rfl rfl (by simp only [iy];rw [decide_eq_false (by omega)];rfl)) ?_;refine Qt.op hT rfl (dF rfl true rfl rfl) ?_;refine qr ?_;refine bX hT rfl (dy rfl rfl) ?_;refine bX hT rfl (fR rfl rfl) ?_;refine bX hT rfl (bq (k:=0) rfl nC rfl) ?_;refine bX hT rfl (dy rfl rfl) ?_;refine bX hT rfl (dy rfl rfl) ?_;refine bX hT rfl (aV (u:=.int .i32 ((ow+2:Nat):Int)) rfl rfl rfl (ku (o2.trans (by omega)))) ?_
    refine tX hok hs rfl rfl (Nat.le_of_ble_eq_true rfl) rfl (ow:=ow) (nw:=ow+2) rfl rfl (fun a ha=>Gh ha rfl rfl rfl rfl) Tryz.func124 (by kernel_rfl) (by kernel_rfl) (by kernel_rfl) (by kernel_rfl) rfl rfl rfl
     (fun φ'=>qA c true (ow+2) φ') (fun x=>⟨rfl,rfl⟩) (fun q=>{ q with W:=1,f:=q.f - 1 }) (fun q hp e=>?_) (fun v' φ' hφ=>?_) fun v' ow' φ' hφ=>?_
    ·have hf:=ww hp;have hf:0 < q.f:=by revert hf;dsimp only [cond];omega
     have hle:=km hp;obtain⟨w1,w2,w3,w4⟩:=fX hle;rw [e] at w1 w2 w3 w4;refine⟨?_,⟨rfl,rfl,rfl,rfl,rfl,rfl⟩,rfl,by show q.f - 1 < q.f;omega,JK hs e hL hW hS hle hf⟩;subst e;simp only [c9.word] at *;omega
    ·have hφ:=hφ φ rfl;replace hT:Mv Tryz.prog p.Kf mn (WV v0 Tryz.prog p T mn (s.set (qA c true (ow+2) φ'))):=bf hs.q;refine Qt.op hT rfl (dF rfl true rfl rfl) ?_;refine qr ?_;refine Qt.cond hT true ?_;refine qr ?_;exact Qt.base _ (rf (aw:=true) hok hs h0 h4 (fun _=>rfl) fun v' ow' φ2 hφ2 hw=>hl v' true ow' φ2 (by omega) hw)
    ·have hφ:=hφ φ rfl;replace hT:Mv Tryz.prog p.Kf mn (WV v0 Tryz.prog p T mn (s.set (qA c false ow' φ'))):=bf hs.q;refine Qt.op hT rfl (dF rfl true rfl rfl) ?_;refine qr ?_;refine Qt.cond hT false (Qt.skip hT ?_);exact Qt.base _ (rf (aw:=false) hok hs h0 h4 ho.st fun v' ow' φ2 hφ2 hw=>hl v' false ow' φ2 (by omega) hw)
  ·refine bX hT rfl (aV (u:=.int .i32 2) rfl rfl rfl (ku (x2.trans (by omega)))) ?_;refine bX hT rfl (aV (u:=.bool false) rfl rfl rfl rfl) ?_;refine Qt.op hT rfl (dF rfl true rfl rfl) ?_;refine qr ?_;refine bG hT rfl ?_;refine bG hT rfl ?_;refine bG hT rfl ?_;refine Qt.op hT rfl (dF rfl false rfl rfl) ?_;refine qr ?_;refine bG hT rfl ?_;refine bG hT rfl ?_;refine bG hT rfl ?_;refine bG hT rfl ?_;refine bG hT rfl ?_;refine bG hT rfl ?_;refine bG hT rfl ?_;refine Qt.op hT rfl (dF rfl false rfl rfl) ?_;refine qr ?_;refine Qt.cond hT false (Qt.skip hT ?_);exact Qt.base _ (rf hok hs h0 h4 ho.st fun v' ow' φ' hφ hw=>hl v' false ow' φ' hφ hw)
theorem Dj(hok:p.Ok)(hs:s.Run){v:VW}{c ow φ:Nat}{st aw:Bool}{W it:Int}(hget:∀v',Qt (WV v0 Tryz.prog p T mn (s.set { df:=1,hd:=1,phi:=c+4 })) v' (base 125) cs 139 [] [.code jq] [(0,.pointer (some p.muA))])
 (ho:nN ow st aw) (h0:0≤it) (hsp:it < 4→∀v' aw' ow' φ',φ'≤φ→nN ow' st aw'→BI v0 p T mn s cs c v' W st aw' (it+1) ow' φ')
 (hlow:∀v' W' st' aw' it' ow' φ',φ' < φ→0≤it'→nN ow' st' aw'→BI v0 p T mn s cs c v' W' st' aw' it' ow' φ'):BI v0 p T mn s cs c v W st aw it ow φ:=by
 have hT:Mv Tryz.prog p.Kf mn (WV v0 Tryz.prog p T mn (s.set (qA c aw ow φ))):=bf hs.q
 have hlt:=ho.lt
 obtain⟨x5,x1,x2,x4,x3,x7,o1,o2,o4,n2,s3⟩:=j9 ow (by omega)
 have on:∀v',Qt (WV v0 Tryz.prog p T mn (s.set (qA c aw ow φ))) v' (base 125) cs 139 [] (.code Rw::KX) (xM p W st aw it ow):=fun v'=>
  Oj hs ho v' (KQ hok hs ho hget (fun v2 φ' hφ=>KR hok hs hφ hget fun v3 W' st' ow' φ2 h hw=>hlow v3 W' st' true 0 ow' φ2 h (Int.le_refl _) hw) fun v2 ow' φ' hφ hw=>hlow v2 W st aw it ow' φ' hφ h0 hw)
 refine Qt.block hT (Qt.seq hT (Qt.seq hT ?_))
 refine qr ?_
 refine Qt.op hT rfl (aV (u:=.int .i32 ((ow % 2+4 * (ow / 4 % 2):Nat):Int)) rfl rfl rfl (ku x5)) ?_
 by_cases hc:ow % 2=1∧ow / 4 % 2=0
 ·
  refine Qt.op hT rfl (aV (u:=.bool true) rfl rfl rfl (by simp only [iy];rw [decide_eq_true (by omega)])) ?_;refine qr ?_;refine bX hT rfl (dy rfl rfl) ?_;refine NS hs (fun a ha=>Gh ha rfl rfl rfl rfl) rfl rfl rfl fun v1 u hu=>?_;refine Qt.op hT rfl (dF rfl true rfl rfl) ?_;refine qr ?_;cases u with
  |true=>
   refine Qt.cond hT true ?_;exact Qt.base _ (KU hok hs ho h0 (hu rfl) hc.1 hc.2 (hsp (hu rfl)) ⟨_,_,rfl⟩)
  |false=>
   refine Qt.cond hT false (Qt.skip hT ?_);exact Qt.base _ (on v1)
 ·
  refine Qt.op hT rfl (aV (u:=.bool false) rfl rfl rfl (by simp only [iy];rw [decide_eq_false (by omega)])) ?_;refine qr ?_;refine bG hT rfl ?_;refine bG hT rfl ?_;refine Qt.op hT rfl (dF rfl false rfl rfl) ?_;refine qr ?_;refine Qt.cond hT false (Qt.skip hT ?_);exact Qt.base _ (on v)
theorem KV(hok:p.Ok)(hs:s.Run){c:Nat}(hget:∀v',Qt (WV v0 Tryz.prog p T mn (s.set { df:=1,hd:=1,phi:=c+4 })) v' (base 125) cs 139 [] [.code jq] [(0,.pointer (some p.muA))]):
 ∀(φ n:Nat) (v:VW) (W:Int) (st aw:Bool) (it:Int) (ow:Nat),0≤it→4≤it+n→nN ow st aw→BI v0 p T mn s cs c v W st aw it ow φ:=by
 intro φ
 induction φ using Nat.strongRecOn with
 |_ φ ih=>
  have low:∀v' W' st' aw' it' ow' φ',φ' < φ→0≤it'→nN ow' st' aw'→BI v0 p T mn s cs c v' W' st' aw' it' ow' φ':=fun v' W' st' aw' it' ow' φ' h h0 hw=>ih φ' h 4 v' W' st' aw' it' ow' h0 (by omega) hw;intro n
  induction n with
  |zero=>
   intro v W st aw it ow h0 hn ho;exact Dj hok hs hget ho h0 (fun h=>by omega) low
  |succ n ihn=>
   intro v W st aw it ow h0 hn ho;refine Dj hok hs hget ho h0 (fun h v' aw' ow' φ' hφ hw=>?_) low;rcases Nat.lt_or_ge φ' φ with h1 |h1
   ·exact low v' W st aw' (it+1) ow' φ' h1 (by omega) hw
   ·have:φ'=φ:=by omega
    subst this;exact ihn v' W st aw' (it+1) ow' (by omega) (by omega) hw
theorem KT(hok:p.Ok)(hs:s.Run){c:Nat}{c1:Frame}{cs:List Frame}(hk:∀v',GV v0 Tryz.prog p T mn (s.set { hd:=1,dt:=1,phi:=c+4 }) v' (c1.finish (.tuple #[])) cs)(v:VW):
 Qt (WV v0 Tryz.prog p T mn (s.set { df:=1,hd:=1,phi:=c+4 })) v (base 125) (c1::cs) 139 [] [.code jq] [(0,.pointer (some p.muA))]:=by
 have hT:Mv Tryz.prog p.Kf mn (WV v0 Tryz.prog p T mn (s.set { df:=1,hd:=1,phi:=c+4 })):=bf hs.q
 refine Qt.cond hT true ?_
 refine Qt.seq hT ?_
 refine qr ?_
 refine ik (ve (l:={ df:=1,hd:=1,phi:=c+4 }) (l':={ hd:=1,phi:=c+4 }) hok hs (.inr rfl) rfl rfl) HM rfl rfl ?_
 replace hT:Mv Tryz.prog p.Kf mn (WV v0 Tryz.prog p T mn (s.set { hd:=1,phi:=c+4 })):=bf hs.q
 refine qr ?_
 refine Qt.op hT rfl (jI rfl (rN (n:=1) Tryz.underlying179 Tryz.underlying167 Tryz.sizeOf118) rfl) ?_
 refine D3 hok hs HO rfl rfl rfl fun v1=>?_
 replace hT:Mv Tryz.prog p.Kf mn (GV v0 Tryz.prog p T mn (s.set { hd:=1,dt:=1,phi:=c+4 })):=rK hs.q
 refine qr ?_
 exact Qt.fin hT (dj hT rfl Tryz.func125 rfl (hk v1))
end
section
variable {p:Gp}{T:Tq}{mn:Bool}{s:Ph}{v0:VW}{cs:List Frame}{c1:Frame}
theorem zy(hok:p.Ok)(hs:s.Run){c:Nat}(hk:∀v',GV v0 Tryz.prog p T mn (s.set { hd:=1,dt:=1,phi:=c+4 }) v' (c1.finish (.tuple #[])) cs)(v:VW):
 Qt (WV v0 Tryz.prog p T mn (s.set { phi:=c+6 })) v (base 73) (c1::cs) 6 [] [.code (Tryz.f73.body.getD .skip)] (ent 0 [.pointer (some p.muA)]):=by
 have hT:Mv Tryz.prog p.Kf mn (WV v0 Tryz.prog p T mn (s.set { phi:=c+6 })):=bf hs.q
 refine qr ?_
 refine Qt.op hT rfl (fR rfl rfl) ?_
 refine Qt.op hT rfl (bq (k:=0) rfl HK rfl) ?_
 refine Qt.call (cL:=[.pointer (some p.muA)]) hT rfl rfl Tryz.func98 (by kernel_rfl) rfl rfl fun c2 hk2=>?_
 have out:∀v'',GV v0 Tryz.prog p T mn (s.set { hd:=1,dt:=1,phi:=c+4 }) v'' (c2.finish (.tuple #[])) (c1::cs):=fun v''=>by
  have hT:Mv Tryz.prog p.Kf mn (GV v0 Tryz.prog p T mn (s.set { hd:=1,dt:=1,phi:=c+4 })):=rK hs.q;exact hk2 _ v'' _ (qr (Qt.fin hT (dj hT rfl Tryz.func73 rfl (hk v''))))
 refine Qt.seq hT ?_
 refine qr ?_
 refine ik (ve (l:={ phi:=c+6 }) (l':={ df:=1,phi:=c+6 }) hok hs (.inl rfl) rfl rfl) HN rfl rfl ?_
 replace hT:Mv Tryz.prog p.Kf mn (WV v0 Tryz.prog p T mn (s.set { df:=1,phi:=c+6 })):=bf hs.q
 refine qr ?_
 refine Qt.seq hT (Qt.seq hT ?_)
 refine qr ?_
 refine Qt.op hT rfl (fR rfl rfl) ?_
 refine Qt.op hT rfl (bq (k:=0) rfl nC rfl) ?_
 refine tX hok hs rfl rfl (Nat.le_of_ble_eq_true rfl) rfl (ow:=0) (nw:=1) rfl rfl (fun a ha=>ab rfl _) Tryz.func124 (by kernel_rfl) (by kernel_rfl) (by kernel_rfl) (by kernel_rfl) rfl rfl rfl
  (fun φ'=>{ df:=1,hd:=1,phi:=c+4 }) (fun x=>⟨rfl,rfl⟩) (fun q=>{ q with L:=1,f:=q.f - 1 }) (fun q hp e=>?_) (fun v' φ' hφ=>?_) fun v' ow' φ' hφ=>?_
 ·
  have hf:=ww hp;have hf:0 < q.f:=by revert hf;dsimp only;omega
  refine⟨?_,⟨rfl,rfl,rfl,rfl,rfl,rfl⟩,rfl,by show q.f - 1 < q.f;omega,JS (φ:=0) hs e hf⟩;simp only [c9.word] at e⊢;omega
 ·
  replace hT:Mv Tryz.prog p.Kf mn (WV v0 Tryz.prog p T mn (s.set { df:=1,hd:=1,phi:=c+4 })):=bf hs.q;refine qr ?_;refine Qt.cond hT true ?_;refine Qt.seq hT (Qt.cond hT true ?_);refine Qt.seq hT ?_;refine qr ?_;refine ik (ve (l:={ df:=1,hd:=1,phi:=c+4 }) (l':={ hd:=1,phi:=c+4 }) hok hs (.inr rfl) rfl rfl) HM rfl rfl ?_;replace hT:Mv Tryz.prog p.Kf mn (WV v0 Tryz.prog p T mn (s.set { hd:=1,phi:=c+4 })):=bf hs.q;refine qr ?_;refine Qt.op hT rfl (jI rfl (rN (n:=1) Tryz.underlying179 Tryz.underlying167 Tryz.sizeOf118) rfl) ?_;refine D3 hok hs HO rfl rfl rfl fun v1=>?_;replace hT:Mv Tryz.prog p.Kf mn (GV v0 Tryz.prog p T mn (s.set { hd:=1,dt:=1,phi:=c+4 })):=rK hs.q;refine qr ?_;exact Qt.ret hT (dj hT rfl Tryz.func98 rfl (out v1))
 ·
  replace hT:Mv Tryz.prog p.Kf mn (WV v0 Tryz.prog p T mn (s.set { df:=1,phi:=c+6,se:=some (ow',φ') })):=bf hs.q;refine qr ?_;refine Qt.cond hT false (Qt.skip hT ?_);refine qr ?_;refine Qt.call (cL:=[.pointer (some p.muA)]) hT rfl rfl Tryz.func125 (by kernel_rfl) rfl rfl fun c3 hk3=>?_
  have hget:=fun v'=>KT (v0:=v0) (p:=p) (T:=T) (mn:=mn) (c:=c) hok hs (c1:=c3) (cs:=c2::c1::cs) (fun v''=>by
   have hT:Mv Tryz.prog p.Kf mn (GV v0 Tryz.prog p T mn (s.set { hd:=1,dt:=1,phi:=c+4 })):=rK hs.q;exact hk3 _ v'' _ (qr (Qt.fin hT (dj hT rfl Tryz.func98 rfl (out v''))))) v'
  refine Qt.seq hT ?_;refine qr ?_;refine Qt.seq hT ?_;refine qr ?_;refine Qt.seq hT ?_;refine qr ?_;refine Qt.seq hT ?_;refine qr ?_;refine Qt.seq hT ?_;refine qr ?_;refine Qt.op hT rfl (fR rfl rfl) ?_;refine Qt.op hT rfl (bq (k:=0) rfl nC rfl) ?_;refine xK (aw:=false) hok hs rfl rfl rfl rfl fun v2 ow2 φ2 g1 g2 g3=>?_;replace hT:Mv Tryz.prog p.Kf mn (WV v0 Tryz.prog p T mn (s.set (qA c false ow2 φ2))):=bf hs.q;refine qr ?_;refine Qt.seq hT (Qt.block hT (Qt.loop hT ?_));exact Qt.base _ (KV hok hs hget φ2 4 v2 0 false false 0 ow2 (Int.le_refl _) (by decide) ⟨g2,fun e=>(by cases e),fun e=>(by cases e)⟩)
end
end Go.Proofs.YtlmopgkkijhllaaGreat
set_option linter.unusedVariables false
set_option maxRecDepth 20000
set_option maxHeartbeats 4000000
namespace Go.Proofs.YtlmopgkkijhllaaGreat
open K Go Go.Proofs Go.Conc Go.Conc.Lib
noncomputable def xi:Code:=match Tryz.f127.body with
 |some (.seq _ (.seq _ (.cond _ (.seq _ (.block _ (.loop b))) _)))=>b
 |_=>.skip
@[reducible] def TU(p:Gp)(ow:Nat):Gv:=[(0,.pointer (some p.muA)),(4,.int .i32 (ow:Int))]
section
variable {p:Gp}{T:Tq}{mn:Bool}{s:Ph}{v0:VW}{cs:List Frame}{c1:Frame}
theorem Ja(hs:s.Run){v:VW}{b:Frame}(hb:(Tryz.prog.funcs[b.fn]?).any (·.norace)=true){l:qB}{N d i:Nat}{Γ:Gv}{ops:Array Oper}{rest:List Nat}{k:List Item}{o:Oper}{x:Operand}{df:List Deferred}
 (ho:ops[i]? =some o) (hop:o.op= .load 21 x) (hx:ev Γ x=some (.pointer (some p.muA)))
 (h:∀v' u,Qt (GV v0 Tryz.prog p T mn (s.set l)) v' b cs N df (.inRegion ops rest::k) ((d,u)::Γ))
 (hg:o.guard=none:=by exact rfl) (hd:o.dst=some d:=by exact rfl) (hN:Nat.blt d N=true:=by exact rfl) (hk:b.kind≠.early:=by exact fun h=>nomatch h):
 Qt (GV v0 Tryz.prog p T mn (s.set l)) v b cs N df (.inRegion ops (i::rest)::k) Γ:=fun a ha hv hA hR=>
 Ww.own hs.q fun v1 hr hkf=>by
  obtain⟨u,y,hm⟩:=hkf.mu
  have hc:v1.toWorld.cell? p.muA=some u:=by simp [World.cell?,Gp.muA,hm]
  have:=Dt (P:=Tryz.prog) (main:=mn) (w:=v1.toWorld) (b:=b) (cs:=cs) (k:=k) (rest:=rest) ho (ab hg _) hk hop hb Tryz.isAgg21 (ha.ev hx) hc
  rw [hd] at this
  refine⟨_,_,v1.toWorld, #[],this,(eF.refl v1).k,fun _=>rfl,h v1 u _ (ha.put hN) (hv.rely hr) (fun e=>hA ((hr.old _ e).elim id fun x=>by have:=hv.2.2;omega)) ?_⟩
  obtain⟨o,ho,hro⟩:=hR
  exact⟨o,(hr.keep _ hv.2.2 hA).trans ho,hro⟩
theorem Gn(hs:s.Run){c ow:Nat}(hlt:ow < 820)(h:ow / 8=0∨ow % 8≠0)(hk:∀v',WV v0 Tryz.prog p T mn (s.set { df:=1,phi:=c }) v' (c1.finish (.tuple #[])) cs)(v:VW):
 Qt (WV v0 Tryz.prog p T mn (s.set { df:=1,phi:=c })) v (base 127) (c1::cs) 43 [] [.code xi,.inLoop xi,.inBlock 0] (TU p ow):=by
 have hT:Mv Tryz.prog p.Kf mn (WV v0 Tryz.prog p T mn (s.set { df:=1,phi:=c })):=bf hs.q
 obtain⟨x5,x1,x2,x4,x3,x7,o1,o2,o4,n2,s3⟩:=j9 ow (by omega)
 refine Qt.block hT (Qt.seq hT (Qt.seq hT ?_))
 refine qr ?_
 refine Qt.op hT rfl (kS (z:=(ow / 8:Nat)) rfl rfl rfl (by decide) s3) ?_
 by_cases h0:ow / 8=0
 ·
  refine Qt.op hT rfl (aV (u:=.bool true) rfl rfl rfl (by simp only [iy];rw [decide_eq_true (by omega)])) ?_;refine qr ?_;refine bG hT rfl ?_;refine bG hT rfl ?_;refine bG hT rfl ?_;refine Qt.op hT rfl (dF rfl true rfl rfl) ?_;refine qr ?_;refine Qt.cond hT true ?_;exact Qt.ret hT (dj hT rfl Tryz.func127 rfl (hk v))
 ·
  refine Qt.op hT rfl (aV (u:=.bool false) rfl rfl rfl (by simp only [iy];rw [decide_eq_false (by omega)])) ?_;refine qr ?_;refine bX hT rfl (dy rfl rfl) ?_;refine bX hT rfl (aV (u:=.int .i32 ((ow % 8:Nat):Int)) rfl rfl rfl (ku x7)) ?_;refine bX hT rfl (aV (u:=.bool true) rfl rfl rfl (by simp only [iy];rw [decide_eq_false (by omega)];rfl)) ?_;refine Qt.op hT rfl (dF rfl false rfl rfl) ?_;refine qr ?_;refine Qt.cond hT true ?_;exact Qt.ret hT (dj hT rfl Tryz.func127 rfl (hk v))
theorem JA(hok:p.Ok)(hs:s.Run){c:Nat}(hk:∀v',WV v0 Tryz.prog p T mn (s.set { df:=1,phi:=c }) v' (c1.finish (.tuple #[])) cs):∀(φ:Nat) (v:VW) (ow:Nat),ow < 820→ow % 8=0→0 < ow→
 Qt (WV v0 Tryz.prog p T mn (s.set { df:=1,ty:=1,phi:=c+3,se:=some (ow,φ) })) v (base 127) (c1::cs) 43 [] [.code xi,.inLoop xi,.inBlock 0] (TU p ow):=by
 intro φ
 induction φ using Nat.strongRecOn with
 |_ φ ih=>
  intro v ow hlt h8 hp0;have hT:Mv Tryz.prog p.Kf mn (WV v0 Tryz.prog p T mn (s.set { df:=1,ty:=1,phi:=c+3,se:=some (ow,φ) })):=bf hs.q;obtain⟨x5,x1,x2,x4,x3,x7,o1,o2,o4,n2,s3⟩:=j9 ow (by omega);obtain⟨_,_,_,_,_,_,_,o2',_,_,_⟩:=j9 (ow - 8) (by omega);refine Qt.block hT (Qt.seq hT (Qt.seq hT ?_));refine qr ?_;refine Qt.op hT rfl (kS (z:=(ow / 8:Nat)) rfl rfl rfl (by decide) s3) ?_;refine Qt.op hT rfl (aV (u:=.bool false) rfl rfl rfl (by simp only [iy];rw [decide_eq_false (by omega)])) ?_;refine qr ?_;refine bX hT rfl (dy rfl rfl) ?_;refine bX hT rfl (aV (u:=.int .i32 0) rfl rfl rfl (ku (x7.trans (by omega)))) ?_;refine bX hT rfl (aV (u:=.bool false) rfl rfl rfl rfl) ?_;refine Qt.op hT rfl (dF rfl false rfl rfl) ?_;refine qr ?_;refine Qt.cond hT false (Qt.skip hT ?_);refine Qt.seq hT ?_;refine qr ?_;refine Qt.op hT rfl (aV (u:=.int .i32 ((ow - 8:Nat):Int)) rfl rfl rfl (ku (by rw [wrap_i32_small _ (by omega) (by omega)];omega))) ?_;refine Qt.op hT rfl (aV (u:=.int .i32 ((ow - 8+2:Nat):Int)) rfl rfl rfl (ku (o2'.trans (by omega)))) ?_;refine qr ?_;refine Qt.seq hT (Qt.seq hT ?_);refine qr ?_;refine Qt.op hT rfl (fR rfl rfl) ?_;refine Qt.op hT rfl (bq (k:=0) rfl nC rfl) ?_;refine qr ?_
  refine tX hok hs rfl rfl (Nat.le_of_ble_eq_true rfl) rfl (ow:=ow) (nw:=ow - 8+2) rfl rfl (fun a ha=>ab rfl _) Tryz.func124 (by kernel_rfl) (by kernel_rfl) (by kernel_rfl) (by kernel_rfl) rfl rfl rfl
   (fun φ'=>{ df:=1,rn:=1,phi:=c+2 }) (fun x=>⟨rfl,rfl⟩) RO (fun q hp e=>?_) (fun v' φ' hφ=>?_) fun v' ow' φ' hφ=>?_
  ·have hf:=ww hp;have hf:0 < q.f:=by revert hf;dsimp only;omega
   obtain⟨g1,g2⟩:=JJ (p:=p) (mn:=mn) (c:=c) (φ:=φ) hs e h8 hp0 (km hp) hf;exact⟨g1,⟨rfl,rfl,rfl,rfl,rfl,rfl⟩,rfl,by show q.f - 1 < q.f;omega,g2⟩
  ·replace hT:Mv Tryz.prog p.Kf mn (WV v0 Tryz.prog p T mn (s.set { df:=1,rn:=1,phi:=c+2 })):=bf hs.q;refine qr ?_;refine Qt.cond hT true ?_;refine Qt.seq hT ?_;refine qr ?_;refine Qt.op hT rfl (fR rfl rfl) ?_;refine Qt.op hT rfl (bq (k:=1) rfl HL rfl) ?_;refine DZ hok hs rfl rfl rfl rfl Tryz.func140 (by kernel_rfl) (by kernel_rfl) (by kernel_rfl) (by kernel_rfl) rfl { df:=1,phi:=c } ⟨rfl,rfl⟩ (fun q hp=>NF hs) fun v2=>?_;replace hT:Mv Tryz.prog p.Kf mn (WV v0 Tryz.prog p T mn (s.set { df:=1,phi:=c })):=bf hs.q;refine qr ?_;exact Qt.ret hT (dj hT rfl Tryz.func127 rfl (hk v2))
  ·have hφ:=hφ φ rfl;replace hT:Mv Tryz.prog p.Kf mn (WV v0 Tryz.prog p T mn (s.set { df:=1,ty:=1,phi:=c+3,se:=some (ow',φ') })):=bf hs.q;refine qr ?_;refine Qt.cond hT false (Qt.skip hT ?_);refine qr ?_;refine Qt.op hT rfl (fR rfl rfl) ?_;refine Qt.op hT rfl (bq (k:=0) rfl nC rfl) ?_;refine vd hok hs rfl (Nat.zero_le _) rfl rfl KD Tryz.isAgg21 rfl (Ol c) (fun q=>by unfold Ol;split <;> exact⟨rfl,rfl⟩) (fun q hp=>NC hs (km hp)) fun v2 q hp=>?_;have hle:=km hp;have hqf:q.f≤φ':=by obtain⟨_,_,_,h,_⟩:=hp.mu;exact(h _ _ rfl).1
   have hN:q.N≤101:=by obtain⟨_,_,_,_,_,_,h,_⟩:=hp.mu;exact h
   have hlt2:q.word < 820:=by simp only [c9.word];omega
   have hN2:q.word / 8=q.N:=(fX hle).2.2.2;by_cases e:q.word % 8=0∧0 < q.N
   ·rw [show Ol c q={ df:=1,ty:=1,phi:=c+3,se:=some (q.word,q.f) } from if_pos e];replace hT:Mv Tryz.prog p.Kf mn (WV v0 Tryz.prog p T mn (s.set { df:=1,ty:=1,phi:=c+3,se:=some (q.word,q.f) })):=bf hs.q;refine qr ?_;refine Qt.inBlock hT (Qt.inLoop hT ?_);exact Qt.base _ (ih q.f (by omega) v2 q.word hlt2 e.1 (by omega))
   ·rw [show Ol c q={ df:=1,phi:=c } from if_neg e];replace hT:Mv Tryz.prog p.Kf mn (WV v0 Tryz.prog p T mn (s.set { df:=1,phi:=c })):=bf hs.q;refine qr ?_;refine Qt.inBlock hT (Qt.inLoop hT ?_);exact Qt.base _ (Gn hs hlt2 (by omega) hk v2)
theorem wj(hok:p.Ok)(hs:s.Run){c:Nat}{c2:Frame}(hk:∀v',WV v0 Tryz.prog p T mn (s.set { phi:=c }) v' (c2.finish (.tuple #[])) cs)(v:VW):
 Qt (GV v0 Tryz.prog p T mn (s.set { hd:=1,dt:=1,phi:=c+4 })) v (base 99) (c2::cs) 21 [] [.code (Tryz.f99.body.getD .skip)] (ent 0 [.pointer (some p.muA)]):=by
 have hT:Mv Tryz.prog p.Kf mn (GV v0 Tryz.prog p T mn (s.set { hd:=1,dt:=1,phi:=c+4 })):=rK hs.q
 have lst:∀v'' Γ',Qt (WV v0 Tryz.prog p T mn (s.set { df:=1,phi:=c })) v'' (base 99) (c2::cs) 21 [] [.code (match Tryz.f99.body with |some (.seq _ (.seq _ (.seq _ x)))=>x |_=>.skip)] Γ':=fun v'' Γ'=>by
  have hT:Mv Tryz.prog p.Kf mn (WV v0 Tryz.prog p T mn (s.set { df:=1,phi:=c })):=bf hs.q;refine qr ?_;refine ik (ve (l:={ df:=1,phi:=c }) (l':={ phi:=c }) hok hs (.inr rfl) rfl rfl) HM rfl rfl ?_;replace hT:Mv Tryz.prog p.Kf mn (WV v0 Tryz.prog p T mn (s.set { phi:=c })):=bf hs.q;refine qr ?_;exact Qt.fin hT (dj hT rfl Tryz.func99 rfl (hk v''))
 refine Qt.seq hT ?_
 refine Qt.cond hT true ?_
 refine Qt.seq hT ?_
 refine qr ?_
 refine Qt.op hT rfl (fR rfl rfl) ?_
 refine Qt.op hT rfl (bq (k:=0) rfl nC rfl) ?_
 refine Ja hs KE rfl rfl rfl fun v1 u=>?_
 refine qr ?_
 refine Qt.seq hT ?_
 refine qr ?_
 refine Qt.op hT rfl (jI rfl (rN (n:=1) Tryz.underlying179 Tryz.underlying167 Tryz.sizeOf118) rfl) ?_
 refine L2 hok hs Oh rfl rfl rfl fun v2=>?_
 replace hT:Mv Tryz.prog p.Kf mn (WV v0 Tryz.prog p T mn (s.set { hd:=1,phi:=c+4 })):=bf hs.q
 refine qr ?_
 refine ik (ve (l:={ hd:=1,phi:=c+4 }) (l':={ df:=1,hd:=1,phi:=c+4 }) hok hs (.inl rfl) rfl rfl) HN rfl rfl ?_
 replace hT:Mv Tryz.prog p.Kf mn (WV v0 Tryz.prog p T mn (s.set { df:=1,hd:=1,phi:=c+4 })):=bf hs.q
 refine qr ?_
 refine Qt.seq hT ?_
 refine qr ?_
 refine Qt.op hT rfl (fR rfl rfl) ?_
 refine Qt.op hT rfl (bq (k:=0) rfl nC rfl) ?_
 refine D2 hok hs rfl rfl rfl rfl Tryz.func126 (by kernel_rfl) (by kernel_rfl) (by kernel_rfl) (by kernel_rfl) rfl rfl (FH c) (fun q=>by unfold FH;split <;> (try split) <;> exact⟨rfl,rfl⟩) (fun q=>{ q with L:=0,f:=q.f - 1 }) (fun q hp=>?_) fun v3 q hp=>?_
 ·
  obtain⟨g1,g2⟩:=NK hs hp;have hle:=km hp;have hN:q.N≤101:=by obtain⟨_,_,_,_,_,_,h,_⟩:=hp.mu;exact h
  refine⟨?_,⟨rfl,rfl,rfl,rfl,rfl,rfl⟩,rfl,g2⟩;simp only [c9.word];rw [wrap_i32_small _ (by omega) (by omega)];omega
 have hle:=km hp
 have hN:q.N≤101:=by obtain⟨_,_,_,_,_,_,h,_⟩:=hp.mu;exact h
 have hs1:q.S=1→q.W=0∧1≤q.N:=by
  obtain⟨o,h1,⟨k1,k2,k3,k4,k5,k6⟩,hse,_⟩:=hp.mu;intro e;have:=k4 e;omega
 generalize hw:({ q with L:=0,f:=q.f - 1 }:c9).word=nw
 have hw:2 * q.W+4 * q.S+8 * q.N=nw:=by rw [←hw];simp only [c9.word];omega
 obtain⟨x5,x1,x2,x4,x3,x7,o1,o2,o4,n2,s3⟩:=j9 nw (by omega)
 obtain⟨_,y1,_⟩:=j9 (nw+1) (by omega)
 have hrun:∀l:qB,Mv Tryz.prog p.Kf mn (WV v0 Tryz.prog p T mn (s.set l)):=fun l=>bf hs.q
 have hT:=hrun (FH c q)
 refine qr ?_
 refine Qt.seq hT (Qt.seq hT ?_)
 refine qr ?_
 by_cases h0:nw=0
 ·
  have:FH c q={ df:=1,phi:=c }:=by unfold FH;rw [if_neg (by omega),if_neg (by omega)]
  rw [this] at hT⊢;refine Qt.op hT rfl (aV (u:=.bool false) rfl rfl rfl (by simp only [iy];rw [decide_eq_true (by omega)];rfl)) ?_;refine qr ?_;refine Qt.cond hT false (Qt.skip hT ?_);exact lst v3 _
 refine Qt.op hT rfl (aV (u:=.bool true) rfl rfl rfl (by simp only [iy];rw [decide_eq_false (by omega)];rfl)) ?_
 refine qr ?_
 refine Qt.cond hT true ?_
 refine qr ?_
 refine Qt.call (cL:=[.pointer (some p.muA),.int .i32 (nw:Int)]) hT rfl rfl Tryz.func127 (by kernel_rfl) rfl rfl fun c3 hk3=>?_
 have back:∀v',WV v0 Tryz.prog p T mn (s.set { df:=1,phi:=c }) v' (c3.finish (.tuple #[])) (c2::cs):=fun v'=>by
  have hT:=hrun { df:=1,phi:=c };exact hk3 _ v' _ (lY hT (lst v' _))
 refine Qt.seq hT (Qt.seq hT ?_)
 refine qr ?_
 refine Qt.op hT rfl (aV (u:=.int .i32 ((nw+1:Nat):Int)) rfl rfl rfl (ku (by rw [wrap_i32_small _ (by omega) (by omega)];omega))) ?_
 refine Qt.op hT rfl (aV (u:=.int .i32 1) rfl rfl rfl (ku (y1.trans (by omega)))) ?_
 refine Qt.op hT rfl (aV (u:=.bool false) rfl rfl rfl rfl) ?_
 refine qr ?_
 refine Qt.cond hT false (Qt.skip hT ?_)
 refine Qt.seq hT ?_
 refine qr ?_
 by_cases hS:q.S=1
 ·
  rw [show FH c q={ df:=1,rh:=1,phi:=c+2 } from if_pos hS] at hT⊢;refine Qt.op hT rfl (aV (u:=.int .i32 4) rfl rfl rfl (ku (x4.trans (by have:=hs1 hS;omega)))) ?_;refine Qt.op hT rfl (aV (u:=.bool false) rfl rfl rfl rfl) ?_;refine qr ?_;refine Qt.cond hT false ?_;refine qr ?_;refine Qt.op hT rfl (fR rfl rfl) ?_;refine Qt.op hT rfl (bq (k:=1) rfl HL rfl) ?_;refine DZ hok hs rfl rfl rfl rfl Tryz.func140 (by kernel_rfl) (by kernel_rfl) (by kernel_rfl) (by kernel_rfl) rfl { df:=1,phi:=c } ⟨rfl,rfl⟩ (fun q hp=>NG hs) fun v4=>?_;replace hT:=hrun { df:=1,phi:=c };refine qr ?_;exact Qt.fin hT (dj hT rfl Tryz.func127 rfl (back v4))
 ·
  refine Qt.op hT rfl (aV (u:=.int .i32 0) rfl rfl rfl (ku (x4.trans (by omega)))) ?_;refine Qt.op hT rfl (aV (u:=.bool true) rfl rfl rfl rfl) ?_;refine qr ?_;refine Qt.cond hT true ?_;refine Qt.seq hT ?_;refine qr ?_;refine Qt.block hT (Qt.loop hT ?_);by_cases e2:0 < q.N∧q.W=0
  ·rw [show FH c q={ df:=1,ty:=1,phi:=c+3,se:=some (8 * q.N,q.f - 1) } from(if_neg hS).trans (if_pos e2),show 8 * q.N=nw by omega];exact Qt.base _ (JA hok hs back (q.f - 1) v3 nw (by omega) (by omega) (by omega))
  ·rw [show FH c q={ df:=1,phi:=c } from(if_neg hS).trans (if_neg e2)];exact Qt.base _ (Gn (ow:=nw) hs (by omega) (by omega) back v3)
theorem AW(hok:p.Ok)(hs:s.Run){c:Nat}(hk:∀v',WV v0 Tryz.prog p T mn (s.set { phi:=c }) v' (c1.finish (.tuple #[])) cs)(v:VW):
 Qt (GV v0 Tryz.prog p T mn (s.set { hd:=1,dt:=1,phi:=c+4 })) v (base 74) (c1::cs) 6 [] [.code (Tryz.f74.body.getD .skip)] (ent 0 [.pointer (some p.muA)]):=by
 have hT:Mv Tryz.prog p.Kf mn (GV v0 Tryz.prog p T mn (s.set { hd:=1,dt:=1,phi:=c+4 })):=rK hs.q
 refine qr ?_
 refine Qt.op hT rfl (fR rfl rfl) ?_
 refine Qt.op hT rfl (bq (k:=0) rfl HK rfl) ?_
 refine Qt.call (cL:=[.pointer (some p.muA)]) hT rfl rfl Tryz.func99 (by kernel_rfl) rfl rfl fun c2 hk2=>?_
 refine wj hok hs (fun v''=>?_) v
 have hT:Mv Tryz.prog p.Kf mn (WV v0 Tryz.prog p T mn (s.set { phi:=c })):=bf hs.q
 exact hk2 _ v'' _ (qr (Qt.fin hT (dj hT rfl Tryz.func74 rfl (hk v''))))
theorem AV(hok:p.Ok)(hs:s.Run){c:Nat}(hm:c1.mode= .returning)(hk:∀v',WV v0 Tryz.prog p T mn (s.set { phi:=c }) v' c1 cs)(v:VW):
 Qt (GV v0 Tryz.prog p T mn (s.set { hd:=1,dt:=1,phi:=c+4 })) v (baseD 74) (c1::cs) 6 [] [.code (Tryz.f74.body.getD .skip)] (ent 0 [.pointer (some p.muA)]):=by
 have hT:Mv Tryz.prog p.Kf mn (GV v0 Tryz.prog p T mn (s.set { hd:=1,dt:=1,phi:=c+4 })):=rK hs.q
 refine qr ?_
 refine Qt.op hT rfl (fR rfl rfl) ?_
 refine Qt.op hT rfl (bq (k:=0) rfl HK rfl) ?_
 refine Qt.call (cL:=[.pointer (some p.muA)]) hT rfl rfl Tryz.func99 (by kernel_rfl) rfl rfl fun c2 hk2=>?_
 refine wj hok hs (fun v''=>?_) v
 have hT:Mv Tryz.prog p.Kf mn (WV v0 Tryz.prog p T mn (s.set { phi:=c })):=bf hs.q
 exact hk2 _ v'' _ (qr (Qt.fin hT (xb hT rfl Tryz.func74 rfl hm (hk v''))))
end
end Go.Proofs.YtlmopgkkijhllaaGreat
set_option linter.unusedVariables false
set_option maxRecDepth 20000
set_option maxHeartbeats 4000000
namespace Go.Proofs.YtlmopgkkijhllaaGreat
open K Go Go.Proofs Go.Conc
theorem fO{b:Frame}{a:Act}{k:List Item}(hb:b.roundOf=none):b.atR a k=b.at a k:=by
 cases b;simp only [Frame.atR,Frame.at] at *;subst hb;rfl
theorem Df{b off:Nat}(w:World):(Instr.fieldAt 123 (.pointer (some ⟨b,off,none⟩)) 1).runT Tryz.prog w #[]=(.ok (.pointer (some ⟨b,off+6,none⟩)) w, #[]):=cO (n:=1) Tryz.underlying123 rfl Tryz.sizeOf120 w
section
variable {p:Gp}{T:Tq}{mn:Bool}{s:Ph}{c0 c1 c2 c3 c4 c5:Value}{S:FS}{w0:VW}{X:Nat→Prop}{b1 b2:Nat}{k:Nat}{a0:ag}{a1:Int}{Γ:Ga}{Δ:List D}{a:Act}{v:VW}{M:Md Tryz.prog}{kd:CallKind}{cs:List Frame}{kk:List Item}
abbrev yA(kd:CallKind):Frame:={ (default:Frame) with fn:=35,kind:=kd }
theorem OI(hok:p.Ok)(hs:s.Run)(hm:p.m0= #[c0,c1,c2,c3,c4,c5])(hkd:kd≠.early){c:Nat}(st:St (np M S w0 X []) (Iu p.bm c0 c1 c2 c3 c4 c5 a0 a1 b1) Δ a (v.ub p))(hsh:∀b,p.sh b→v.A b)(hA:v.A p.bk)(hlt:p.bk < v.heap.size)
 (next:∀a' v',St (np M S w0 X []) (Iu p.bm c0 c1 c2 c3 c4 c5 a0 a1 b1) Δ a' (v'.ub p)→VR p v v'→¬v'.A p.bk→(∃o,v'.heap[p.bk]? =some o∧p.R o)→Ww Tryz.prog p T mn (s.set { hd:=1,dt:=1,phi:=c+4 }) v' ((yA kd).atR a' kk) cs):
 Ww Tryz.prog p T mn (s.set { phi:=c+6 }) v ((yA kd).atR a (.code (Iw 1)::kk)) cs:=by
 have bc:BC Tryz.prog (Ww Tryz.prog p T mn (s.set { phi:=c+6 })):=Ww.bc hs.q hs.nr
 have h0:a.tmps.getD 0 undef= .pointer (some ⟨p.bm,0,none⟩):=oL st (s:=0) rfl
 have emu:p.muA=⟨p.bm,6,none⟩:=by simp [Gp.muA,hm]
 have hla:=fun c1=>zy (p:=p) (T:=T) (mn:=mn) (s:=s) (v0:=v) (cs:=cs) (c1:=c1) hok hs (c:=c)
 rw [emu] at hla
 refine bc.move (fun _ _=>eX) ?_
 rw [fO rfl]
 refine(?_:Qt (WV v Tryz.prog p T mn (s.set { phi:=c+6 })) v (yA kd) cs 64 [] _ ((0,.pointer (some ⟨p.bm,0,none⟩))::cL (Iu p.bm c0 c1 c2 c3 c4 c5 a0 a1 b1) a)) a (st.toQ.know h0) (VR.refl hsh hlt) ⟨fun _=>rfl,fun _=>hA⟩
 have hT:Mv Tryz.prog p.Kf mn (WV v Tryz.prog p T mn (s.set { phi:=c+6 })):=bf hs.q
 refine Qt.op hT rfl (dy rfl rfl) ?_ (hk:=hkd)
 refine Qt.op hT rfl (fR rfl rfl) ?_ (hk:=hkd)
 refine Qt.op hT rfl (bq (k:=6) rfl Df rfl) ?_ (hk:=hkd)
 refine Qt.call (cL:=[.pointer (some ⟨p.bm,6,none⟩)]) hT rfl rfl Tryz.func73 (by kernel_rfl) rfl rfl (fun cc hk2=>?_) (hk:=hkd)
 refine hla _ (fun v'=>?_) v
 refine hk2 _ v' _ fun a2 q2 hv hA' hR=>?_
 have bc2:BC Tryz.prog (Ww Tryz.prog p T mn (s.set { hd:=1,dt:=1,phi:=c+4 })):=Ww.bc hs.q hs.nr
 rw [←fO rfl]
 refine bc2.move (fun _ _=>cN) ?_
 exact next a2 v' (lz (st.vr hv) ((((vD.base.know h0).new).new).new.new) q2) hv hA' hR
end
end Go.Proofs.YtlmopgkkijhllaaGreat
set_option linter.unusedVariables false
set_option maxRecDepth 20000
set_option maxHeartbeats 4000000
namespace Go.Proofs.YtlmopgkkijhllaaGreat
open K Go Go.Proofs Go.Conc
section
variable {p:Gp}{T:Tq}{mn:Bool}{s:Ph}{c0 c1 c2 c3 c4 c5:Value}{S:FS}{w0:VW}{X:Nat→Prop}{b1 b2:Nat}{k:Nat}{a0:ag}{a1:Int}{Γ:Ga}{Δ:List D}{a:Act}{v:VW}{M:Md Tryz.prog}{kd:CallKind}{cs:List Frame}{kk:List Item}
theorem Ci{P:Program}{s:Ph}(hq:s.q=false):Mv P p.Kf mn (Ww P p T mn s):=fun v fr fr' cs cs' h1 h=>Ww.move hq (fun w hl=>h1 w hl) h
theorem OG(hok:p.Ok)(hs:s.Run)(hm:p.m0= #[c0,c1,c2,c3,c4,c5])(hkd:kd≠.early){c:Nat}{fd:Bool}(st:St (np M S w0 X []) ((6,.eq (.bool fd))::sQ p.bm c0 c1 c2 c3 c4 c5 a0 a1 b1 b2) Δ a (v.ub p))(hsh:∀b,p.sh b→v.A b)(hA:¬v.A p.bk)(hR:∃o,v.heap[p.bk]? =some o∧p.R o)(hlt:p.bk < v.heap.size)
 (next:∀a' v',St (np M S w0 X []) ((6,.eq (.bool fd))::sQ p.bm c0 c1 c2 c3 c4 c5 a0 a1 b1 b2) Δ a' (v'.ub p)→VR p v v'→v'.A p.bk→Ww Tryz.prog p T mn (s.set { phi:=c }) v' ((yA kd).atR a' kk) cs):
 Ww Tryz.prog p T mn (s.set { hd:=1,dt:=1,phi:=c+4 }) v ((yA kd).atR a (.code (Iw 3)::kk)) cs:=by
 have bc:BC Tryz.prog (Ww Tryz.prog p T mn (s.set { hd:=1,dt:=1,phi:=c+4 })):=Ww.bc hs.q hs.nr
 have h0:a.tmps.getD 0 undef= .pointer (some ⟨p.bm,0,none⟩):=oL st (s:=0) rfl
 have emu:p.muA=⟨p.bm,6,none⟩:=by simp [Gp.muA,hm]
 have hla:=fun c1=>AW (p:=p) (T:=T) (mn:=mn) (s:=s) (v0:=v) (cs:=cs) (c1:=c1) hok hs (c:=c)
 rw [emu] at hla
 refine bc.move (fun _ _=>eX) ?_
 rw [fO rfl]
 refine(?_:Qt (GV v Tryz.prog p T mn (s.set { hd:=1,dt:=1,phi:=c+4 })) v (yA kd) cs 64 [] _ ((0,.pointer (some ⟨p.bm,0,none⟩))::cL ((6,.eq (.bool fd))::sQ p.bm c0 c1 c2 c3 c4 c5 a0 a1 b1 b2) a)) a (st.toQ.know h0) (VR.refl hsh hlt) hA hR
 have hT:Mv Tryz.prog p.Kf mn (GV v Tryz.prog p T mn (s.set { hd:=1,dt:=1,phi:=c+4 })):=rK hs.q
 refine Qt.op hT rfl (dy rfl rfl) ?_ (hk:=hkd)
 refine Qt.op hT rfl (fR rfl rfl) ?_ (hk:=hkd)
 refine Qt.op hT rfl (bq (k:=6) rfl Df rfl) ?_ (hk:=hkd)
 refine Qt.call (cL:=[.pointer (some ⟨p.bm,6,none⟩)]) hT rfl rfl Tryz.func74 (by kernel_rfl) rfl rfl (fun cc hk2=>?_) (hk:=hkd)
 refine hla _ (fun v'=>?_) v
 refine hk2 _ v' _ fun a2 q2 hv hA'=>?_
 have bc2:BC Tryz.prog (Ww Tryz.prog p T mn (s.set { phi:=c })):=Ww.bc hs.q hs.nr
 rw [←fO rfl]
 refine bc2.move (fun _ _=>cN) ?_
 exact next a2 v' (lz (st.vr hv) ((((vD.base.know h0).new).new).new.new) q2) hv (hA'.2 rfl)
theorem Lp(hok:p.Ok)(hs:s.Run)(hm:p.m0= #[c0,c1,c2,c3,c4,c5])(hkd:kd≠.early){c:Nat}(st:St (np M S w0 X []) (sQ p.bm c0 c1 c2 c3 c4 c5 a0 a1 b1 b2) Δ a (v.ub p))(hsh:∀b,p.sh b→v.A b)(hA:v.A p.bk)(hlt:p.bk < v.heap.size)
 (next:∀a' v',St (np M S w0 X []) (sQ p.bm c0 c1 c2 c3 c4 c5 a0 a1 b1 b2) Δ a' (v'.ub p)→VR p v v'→¬v'.A p.bk→(∃o,v'.heap[p.bk]? =some o∧p.R o)→Ww Tryz.prog p T mn (s.set { hd:=1,dt:=1,phi:=c+4 }) v' ((yA kd).atR a' kk) cs):
 Ww Tryz.prog p T mn (s.set { phi:=c+6 }) v ((yA kd).atR a (.code (Iw 7)::kk)) cs:=by
 have bc:BC Tryz.prog (Ww Tryz.prog p T mn (s.set { phi:=c+6 })):=Ww.bc hs.q hs.nr
 have h0:a.tmps.getD 0 undef= .pointer (some ⟨p.bm,0,none⟩):=oL st (s:=0) rfl
 have emu:p.muA=⟨p.bm,6,none⟩:=by simp [Gp.muA,hm]
 have hla:=fun c1=>zy (p:=p) (T:=T) (mn:=mn) (s:=s) (v0:=v) (cs:=cs) (c1:=c1) hok hs (c:=c)
 rw [emu] at hla
 refine bc.move (fun _ _=>eX) ?_
 rw [fO rfl]
 refine(?_:Qt (WV v Tryz.prog p T mn (s.set { phi:=c+6 })) v (yA kd) cs 64 [] _ ((0,.pointer (some ⟨p.bm,0,none⟩))::cL (sQ p.bm c0 c1 c2 c3 c4 c5 a0 a1 b1 b2) a)) a (st.toQ.know h0) (VR.refl hsh hlt) ⟨fun _=>rfl,fun _=>hA⟩
 have hT:Mv Tryz.prog p.Kf mn (WV v Tryz.prog p T mn (s.set { phi:=c+6 })):=bf hs.q
 refine Qt.op hT rfl (dy rfl rfl) ?_ (hk:=hkd)
 refine Qt.op hT rfl (fR rfl rfl) ?_ (hk:=hkd)
 refine Qt.op hT rfl (bq (k:=6) rfl Df rfl) ?_ (hk:=hkd)
 refine Qt.call (cL:=[.pointer (some ⟨p.bm,6,none⟩)]) hT rfl rfl Tryz.func73 (by kernel_rfl) rfl rfl (fun cc hk2=>?_) (hk:=hkd)
 refine hla _ (fun v'=>?_) v
 refine hk2 _ v' _ fun a2 q2 hv hA' hR=>?_
 have bc2:BC Tryz.prog (Ww Tryz.prog p T mn (s.set { hd:=1,dt:=1,phi:=c+4 })):=Ww.bc hs.q hs.nr
 rw [←fO rfl]
 refine bc2.move (fun _ _=>cN) ?_
 exact next a2 v' (lz (st.vr hv) ((((vD.base.know h0).new).new).new.new) q2) hv hA' hR
theorem Ln(hs:s.Run)(hkd:kd≠.early){l:qB}(st:St (np M S w0 X []) (sQ p.bm c0 c1 c2 c3 c4 c5 a0 a1 b1 b2) Δ a v)
 (next:∀a',St (np M S w0 X [dcall 74 #[.pointer (some ⟨p.bm,6,none⟩)]]) (sQ p.bm c0 c1 c2 c3 c4 c5 a0 a1 b1 b2) Δ a' v→Ww Tryz.prog p T mn (s.set l) v ((yA kd).atR a' kk) cs):
 Ww Tryz.prog p T mn (s.set l) v ((yA kd).atR a (.code (Iw 8)::kk)) cs:=by
 have bc:BC Tryz.prog (Ww Tryz.prog p T mn (s.set l)):=Ww.bc hs.q hs.nr
 have h0:a.tmps.getD 0 undef= .pointer (some ⟨p.bm,0,none⟩):=oL st (s:=0) rfl
 refine bc.move (fun _ _=>eX) ?_
 rw [fO rfl]
 refine(?_:Qt (Ww Tryz.prog p T mn (s.set l)) v (yA kd) cs 64 [] _ ((0,.pointer (some ⟨p.bm,0,none⟩))::cL (sQ p.bm c0 c1 c2 c3 c4 c5 a0 a1 b1 b2) a)) a (st.toQ.know h0)
 have hT:Mv Tryz.prog p.Kf mn (Ww Tryz.prog p T mn (s.set l)):=Ci hs.q
 refine Qt.op hT rfl (dy rfl rfl) ?_ (hk:=hkd)
 refine Qt.op hT rfl (fR rfl rfl) ?_ (hk:=hkd)
 refine Qt.op hT rfl (bq (k:=6) rfl Df rfl) ?_ (hk:=hkd)
 refine Qt.defer (cL:=[.pointer (some ⟨p.bm,6,none⟩)]) hT rfl rfl rfl (fun a2 q2=>?_) (hk:=hkd)
 rw [←fO rfl]
 refine bc.move (fun _ _=>cN) ?_
 exact next a2 (lz st (((vD.base.know h0).new).new.new) q2)
theorem Lq(hok:p.Ok)(hs:s.Run)(hm:p.m0= #[c0,c1,c2,c3,c4,c5]){c:Nat}{todo:List Item}(st:St (np M S w0 X [dcall 74 #[.pointer (some ⟨p.bm,6,none⟩)]]) Γ Δ a (v.ub p))(hsh:∀b,p.sh b→v.A b)(hA:¬v.A p.bk)(hR:∃o,v.heap[p.bk]? =some o∧p.R o)(hlt:p.bk < v.heap.size)
 (next:∀a' todo v',St (np M S w0 X []) Γ Δ a' (v'.ub p)→VR p v v'→v'.A p.bk→Ww Tryz.prog p T mn (s.set { phi:=c }) v' { (yA kd).atR a' todo with mode:=.returning } cs):
 Ww Tryz.prog p T mn (s.set { hd:=1,dt:=1,phi:=c+4 }) v { (yA kd).atR a todo with mode:=.returning } cs:=by
 have emu:p.muA=⟨p.bm,6,none⟩:=by simp [Gp.muA,hm]
 have hla:=fun c1=>AV (p:=p) (T:=T) (mn:=mn) (s:=s) (v0:=v) (cs:=cs) (c1:=c1) hok hs (c:=c)
 rw [emu] at hla
 rw [fO rfl]
 refine(?_:Qr (GV v Tryz.prog p T mn (s.set { hd:=1,dt:=1,phi:=c+4 })) v (yA kd) cs 64 [dcall 74 #[.pointer (some ⟨p.bm,6,none⟩)]] (cL Γ a)) a todo st.toQ (VR.refl hsh hlt) hA hR
 have hT:Mv Tryz.prog p.Kf mn (GV v Tryz.prog p T mn (s.set { hd:=1,dt:=1,phi:=c+4 })):=rK hs.q
 refine Qr.enter (cL:=[.pointer (some ⟨p.bm,6,none⟩)]) hT Tryz.func74 (by kernel_rfl) rfl rfl fun cc hmo hk=>?_
 refine hla _ hmo (fun v'=>?_) v
 refine hk _ v' fun a2 todo2 q2 hv hA'=>?_
 rw [←fO rfl]
 exact next a2 todo2 v' (lz (st.vr hv) vD.base q2) hv (hA'.2 rfl)
end
end Go.Proofs.YtlmopgkkijhllaaGreat
set_option linter.unusedVariables false
set_option maxRecDepth 20000
set_option maxHeartbeats 4000000
namespace Go.Proofs.YtlmopgkkijhllaaGreat
open K Go Go.Proofs Go.Conc
section
variable {p:Gp}{T:Tq}{mn:Bool}{s:Ph}{c0 c1 c2 c3 c4 c5:Value}{S:FS}{w0:VW}{X:Nat→Prop}{df:List Deferred}{b1 b2:Nat}{k:Nat}{a0:ag}{a1:Int}{Γ:Ga}{Δ:List D}{a:Act}{v:VW}{M:Md Tryz.prog}{kd:CallKind}{cs:List Frame}{kk:List Item}
def Ua(M:Md Tryz.prog)(S:FS)(w0:VW)(X:Nat→Prop)(Γ:Ga)(b1 b2:Nat)(y:List (List Int))(fd:Bool):Exit→Act→VW→Prop
 | .normal,a,w=>fd=false∧St (np M S w0 X []) Γ (AI b1 b2 y) a w
 | .ret,a,w=>fd=true∧St (np M S w0 X []) Γ [.obj b1 77 (.rep (.arr 7 (.arr 5 (.int .i64))) y),.obj b2 77 (.rep (.arr 7 (.arr 5 (.int .i64))) y)] a w
 |_,_,_=>False
theorem OF{y:List (List Int)}{fd:Bool}{bm:Nat}:JC (np M S w0 X []) (Iw 4) (Ua M S w0 X (sQ bm c0 c1 c2 c3 c4 c5 a0 a1 b1 b2) b1 b2 y fd) ((6,.eq (.bool fd))::sQ bm c0 c1 c2 c3 c4 c5 a0 a1 b1 b2) (AI b1 b2 y):=by
 refine cg ?_;refine ae ?_;refine gU rfl rfl ?_;refine be (ax ?_);show JC _ _ _ _ _;refine jg rfl (fun hb=>?_) (fun hb=>?_)
 ·refine cg ?_;refine ae ?_;refine j7 1 rfl ?_;refine mf rfl rfl rfl (aA rfl lw (qV) rfl) ⟨rfl,trivial⟩ ?_;refine j7 1 rfl ?_;refine aR rfl rfl (aP rfl lw rfl rfl rfl) ⟨rfl,rfl,trivial⟩ ?_;refine be (ax ?_);refine dw ?_;exact fun a w st=>⟨hb,(jd (junk:=[]) (by repeat (first |exact trivial |refine⟨rfl,?_⟩)) (List.Perm.refl _)) a w st⟩
 ·refine je ?_;exact fun a w st=>⟨hb,(jd (junk:=[]) (by repeat (first |exact trivial |refine⟨rfl,?_⟩)) (List.Perm.refl _)) a w st⟩
theorem St.subA{c:Cx}(st:St c Γ Δ a v){b:Nat}(h:c.w0.A b):v.A b:=by
 obtain⟨_,_,S,h3,_⟩:=st;exact h3.subA b h
theorem IO{c:Cx}(st:St c Γ Δ a v):v.Z=c.w0.Z:=by
 obtain⟨_,_,S,h3,_⟩:=st;exact h3.Z
theorem sV{c:Cx}(st:St c Γ Δ a v){b:Nat}(h:v.A b):b < v.heap.size:=by
 obtain⟨_,_,S,_,_,h5,_⟩:=st;exact h5.domA b h
theorem LU{c:Cx}{y:List (List Int)}(st:St c Γ Δ a v)(h:D.obj b2 77 (.rep (.arr 7 (.arr 5 (.int .i64))) y)∈Δ):i9 y:=by
 obtain⟨_,_,S,_,_,h5,_⟩:=st;obtain⟨cs,_,h1,h2⟩:=h5.holds _ h;exact⟨h1,(qM.1 h2).1⟩
@[reducible] noncomputable def BY (S:FS) (w:VW) (r:List (List Int)):Ending→VW→Prop:=dr S w [] (fun _:Unit=>(bv [.rep (.arr 7 (.arr 5 (.int .i64))) r],[]))
theorem Ll{bm:Nat}{r:List (List Int)}{w:VW}(st:St (np M S w (ap []) []) (sQ bm c0 c1 c2 c3 c4 c5 a0 a1 b1 b2) [.obj b1 77 (.rep (.arr 7 (.arr 5 (.int .i64))) r),.obj b2 77 (.rep (.arr 7 (.arr 5 (.int .i64))) r)] a v):K.bR Tryz.prog Tryz.f35 (BY S w r) .ret a v:=
 by
 refine(?_:JN (np M S w (ap []) []) (K.bR Tryz.prog Tryz.f35 (BY S w r) .ret) (sQ bm c0 c1 c2 c3 c4 c5 a0 a1 b1 b2) [.obj b1 77 (.rep (.arr 7 (.arr 5 (.int .i64))) r),.obj b2 77 (.rep (.arr 7 (.arr 5 (.int .i64))) r)]) a v st
 exact aM () [.rep (.arr 7 (.arr 5 (.int .i64))) r] 0 ⟨⟨_,_,_,_,_,rfl,(.head _),lw,(qV),rfl⟩,trivial⟩ rfl
theorem zU(hok:p.Ok)(hs:s.Run)(hm:p.m0= #[c0,c1,c2,c3,c4,c5])(hR:p.R=aL k a0)(hkd:kd≠.early){c:Nat}{r:List (List Int)}(h:lI k a0 a1=some r){w:VW}{vs:List Value}(hd:∀b,S b→b < w.heap.size)
 (hall:fy S w [.rep (.mo (.pointer (some ⟨p.bm,0,none⟩)) [c0,c1,c2,c3,c4,c5] aj) a0,.eq (.int .u8 a1)] vs) (hO:aQ [] S w) (hsh:∀b,p.sh b→w.A b) (hA:w.A p.bk) (hZ:¬w.Z p.bk)
 (hc:∀c' v' fr u,c≤c'→BY S w r (.returned u) v'→fr.fn=35→fr.kind=kd→Lv Tryz.prog fr v' (.returned u)→v'.A p.bk→Ww Tryz.prog p T mn (s.set { phi:=c' }) v' fr cs):
 Ww Tryz.prog p T mn (s.set { phi:=c+12 }) w (Frame.enter Tryz.prog 35 vs.toArray kd) cs:=by
 have bc:∀l,BC Tryz.prog (Ww Tryz.prog p T mn (s.set l)):=fun l=>Ww.bc hs.q hs.nr
 have hok':∀l,(MW Tryz.prog p T).ok (Ww Tryz.prog p T mn (s.set l)):=fun l=>⟨mn,s.set l,hs.q,hs.nr,rfl⟩
 have hne:∀b,p.sh b→b≠p.bk:=fun b hb=>by
  rcases hb with e |⟨hc,e |e⟩
  ·rw [e];exact hok.mb
  ·rw [e];exact(hok.wm hc).2.1
  ·rw [e];exact(hok.cm hc).2
 have hK:Kn (MW Tryz.prog p T) p.bm 0 [c0,c1,c2,c3,c4,c5]:=Nb hm
 have hK8:Kn (MW Tryz.prog p T) p.bm 8 [.map (some p.bk)]:=O0 hm
 obtain⟨u0,e0,h'⟩:=Option.bind_eq_some_iff.1 h
 have hs1:0≤a1∧a1 < 256:=ao e0
 unfold jm at h'
 obtain⟨r3,e3,h'⟩:=Option.bind_eq_some_iff.1 h'
 obtain⟨u1,_,h'⟩:=Option.bind_eq_some_iff.1 h'
 obtain⟨r5,e5,h'⟩:=Option.bind_eq_some_iff.1 h'
 obtain rfl:r5=r:=Option.some.inj h'
 have retn:∀c' b1 b2 a todo v',c≤c'→St (np (MW Tryz.prog p T) S w (ap []) []) (sQ p.bm c0 c1 c2 c3 c4 c5 a0 a1 b1 b2) [.obj b1 77 (.rep (.arr 7 (.arr 5 (.int .i64))) r5),.obj b2 77 (.rep (.arr 7 (.arr 5 (.int .i64))) r5)] a v'→v'.A p.bk→Ww Tryz.prog p T mn (s.set { phi:=c' }) v' { (yA kd).atR a todo with mode:=.returning } cs:=fun c' b1 b2 a todo v' hle st hA'=>by
  obtain⟨q1,x,q2,q3⟩:=Ll st;exact hc c' v' _ x hle q3 rfl rfl ⟨rfl,q1,_,Tryz.func35,q2⟩ hA'
 have st0:St (np (MW Tryz.prog p T) S w (ap []) []) (entry 0 [.rep (.mo (.pointer (some ⟨p.bm,0,none⟩)) [c0,c1,c2,c3,c4,c5] aj) a0,.eq (.int .u8 a1)]) [] { tmps:=vs.toArray++Array.replicate (64 - vs.toArray.size) undef,defers:=[] } w:=St.entry rfl hd hall hO
 rw [show Frame.enter Tryz.prog 35 vs.toArray kd=Frame.atR (yA kd) { tmps:=vs.toArray++Array.replicate (64 - vs.toArray.size) undef,defers:=[] } [.code (Tryz.f35.body.getD .skip)] from enter_at Tryz.func35 rfl]
 refine(bc _).move (fun _ _=>dB) ?_
 refine eE (c:=np (MW Tryz.prog p T) S w (ap []) []) (hok' _) rfl st0 OJ fun a1' v1 ⟨b1,st1⟩=>?_
 have hA1:v1.A p.bk:=St.subA st1 hA
 have st1':=st1
 rw [←jD hA1] at st1'
 refine(bc _).move (fun _ _=>dB) ?_
 refine OI (c:=c+6) hok hs hm hkd st1' (fun b hb=>St.subA st1 (hsh b hb)) hA1 (sV st1 hA1) fun a2 v2 st2 hv2 hA2 hR2=>?_
 have hZ2:¬v2.Z p.bk:=by
  have e1:v2.Z=v1.Z:=hv2.1.Z;rw [e1,IO st1];exact hZ
 obtain⟨S2,hd2,st2'⟩:=D4 (M':=MW Tryz.prog p T) st2 hA2 hR2 hZ2
 rw [hR] at st2'
 refine(bc _).move (fun _ _=>dB) ?_
 refine eE (c:=np (MW Tryz.prog p T) S2 v2 _ []) (hok' _) rfl st2' (OH hK8 hs1) fun a3 v3 ⟨b2,y,fd,hy1,hy2,st3⟩=>?_
 rw [←hR] at st3
 obtain⟨st3f,hA3,hR3,hv3⟩:=Ao (M:=MW Tryz.prog p T) hd2 hA hsh hne st3
 refine(bc _).move (fun _ _=>dB) ?_
 refine OG (c:=c+6) hok hs hm hkd st3f hv3.2.1 hA3 hR3 hv3.2.2 fun a4 v4 st4 hv4 hA4=>?_
 rw [jD hA4] at st4
 refine(bc _).move (fun _ _=>dB) ?_
 refine yt (c:=np (MW Tryz.prog p T) S w (ap []) []) (Q:=Ua (MW Tryz.prog p T) S w (ap []) (sQ p.bm c0 c1 c2 c3 c4 c5 a0 a1 b1 b2) b1 b2 y fd) (hok' _) rfl st4 OF fun e a5 v5 q5=>?_
 cases e with
 |ret=>
  obtain⟨hf,st5⟩:=q5;obtain rfl:y=r5:=Option.some.inj ((hy1 hf).symm.trans h);exact⟨fun _ todo=>retn (c+6) b1 b2 a5 todo v5 (Nat.le_add_right _ _) st5 (St.subA st5 hA),fun e=>(by cases e)⟩
 |normal=>
  obtain⟨hf,st5⟩:=q5;obtain rfl:=hy2 hf;show Ww Tryz.prog p T mn (s.set { phi:=c+6 }) v5 ((yA kd).atR a5 _) cs;refine(bc _).move (fun _ _=>dB) ?_;refine eE (c:=np (MW Tryz.prog p T) S w (ap []) []) (hok' _) rfl st5 (EY hK e3) fun a6 v6 st6=>?_;refine(bc _).move (fun _ _=>dB) ?_;refine eE (c:=np (MW Tryz.prog p T) S w (ap []) []) (hok' _) rfl st6 (It hK e5) fun a7 v7 st7=>?_;have hA7:v7.A p.bk:=St.subA st7 hA;have st7':=st7;rw [←jD hA7] at st7';refine(bc _).move (fun _ _=>dB) ?_;refine Lp (c:=c) hok hs hm hkd st7' (fun b hb=>St.subA st7 (hsh b hb)) hA7 (sV st7 hA7) fun a8 v8 st8 hv8 hA8 hR8=>?_;have hg:i9 r5:=LU (b2:=b2) st8 (by simp [AI])
  have hZ8:¬v8.Z p.bk:=by
   have e1:v8.Z=v7.Z:=hv8.1.Z;rw [e1,IO st7];exact hZ
  obtain⟨S8,hd8,st8'⟩:=D4 (M':=MW Tryz.prog p T) st8 hA8 hR8 hZ8;refine(bc _).move (fun _ _=>dB) ?_;refine Ln hs hkd st8' fun a9 st9=>?_;rw [hR] at st9;refine(bc _).move (fun _ _=>dB) ?_;refine eE (c:=np (MW Tryz.prog p T) S8 v8 _ _) (hok' _) rfl st9 (Lm hK8 hs1 h hg) fun a10 v10 st10=>?_;rw [←hR] at st10;have st10':St (np (MW Tryz.prog p T) S8 v8 (ap (.inv p.bk p.R::AI b1 b2 r5)) [dcall 74 #[.pointer (some ⟨p.bm,6,none⟩)]]) (sQ p.bm c0 c1 c2 c3 c4 c5 a0 a1 b1 b2) (AI b1 b2 r5++[.inv p.bk p.R]) a10 v10:=(jd (junk:=[]) (by repeat (first |exact trivial |refine⟨rfl,?_⟩)) (by rw [List.append_nil];exact List.perm_append_comm (l₁:=[.inv p.bk p.R]) (l₂:=AI b1 b2 r5))) a10 v10 st10
  refine yt (c:=np (MW Tryz.prog p T) S8 v8 _ _) (Q:=fun e a v=>match e with
   | .ret=>St (np (MW Tryz.prog p T) S8 v8 (ap (.inv p.bk p.R::AI b1 b2 r5)) [dcall 74 #[.pointer (some ⟨p.bm,6,none⟩)]]) (sQ p.bm c0 c1 c2 c3 c4 c5 a0 a1 b1 b2) ([.inv p.bk p.R]++[.obj b1 77 (.rep (.arr 7 (.arr 5 (.int .i64))) r5),.obj b2 77 (.rep (.arr 7 (.arr 5 (.int .i64))) r5)]) a v
   |_=>False) (hok' _) rfl st10' (Lt fun a w st=>st) fun e a11 v11 q11=>?_
  cases e with
  |ret=>
   refine⟨fun _ todo=>?_,fun e=>(by cases e)⟩;have q11:St (np (MW Tryz.prog p T) S8 v8 (ap (.inv p.bk p.R::AI b1 b2 r5)) [dcall 74 #[.pointer (some ⟨p.bm,6,none⟩)]]) (sQ p.bm c0 c1 c2 c3 c4 c5 a0 a1 b1 b2) (.inv p.bk p.R::[.obj b1 77 (.rep (.arr 7 (.arr 5 (.int .i64))) r5),.obj b2 77 (.rep (.arr 7 (.arr 5 (.int .i64))) r5)]) a11 v11:=q11;obtain⟨stf,hAf,hRf,hvf⟩:=Ao (M:=MW Tryz.prog p T) hd8 hA hsh hne q11;refine Lq (c:=c) hok hs hm stf hvf.2.1 hAf hRf hvf.2.2 fun a12 todo2 v12 st12 hv12 hA12=>?_;rw [jD hA12] at st12;exact retn c b1 b2 a12 todo2 v12 (Nat.le_refl _) st12 hA12
  |_=>exact q11.elim
 |_=>exact q5.elim
end
end Go.Proofs.YtlmopgkkijhllaaGreat
set_option linter.unusedVariables false
namespace Go.Proofs.YtlmopgkkijhllaaGreat
namespace K
open Go Go.Conc
section
variable {P:Program}{p:Gp}{T:Tq}{s:Ph}{q:c9}
theorem zb(hp:lZ p true s q)(hal:s.al=true)(h:s.hd=0∧s.dt=0∧s.aw=0∧s.rn=0∧s.qu=0∧s.tk=0∧s.rh=0):q.word=0∧q.T=0∧q.h=0:=by
 obtain⟨n,sg,i,hi,hm,e,hb⟩:=hp;have hi0:i=0:=hm.1 rfl;subst hi0;have hg:=hb.gone (by rw [e];exact hal)
 have hz:∀f:Ph→Nat,f .quit=0→f s=0→al n sg f=0:=fun f hf h0=>by
  refine sG fun j hj=>?_;rcases Nat.eq_zero_or_pos j with ej |ej
  ·subst ej;rw [e];exact h0
  ·rw [(hb.ok j hj).quit (hg j ej hj)];exact hf
 obtain⟨h1,h2,h3,h4,h5,h6,h7⟩:=h;have a1:=hb.hd;rw [hz Ph.hd rfl h1] at a1;have a2:=hb.h;rw [hz Ph.dt rfl h2] at a2;have a3:=hb.s0;rw [hz Ph.aw rfl h3,hz Ph.rn rfl h4,hz Ph.tk rfl h6,hz Ph.qu rfl h5,hz Ph.rh rfl h7] at a3;have a4:=hb.s1;rw [hz Ph.aw rfl h3,hz Ph.rn rfl h4,hz Ph.tk rfl h6,hz Ph.qu rfl h5,hz Ph.rh rfl h7] at a4;have a5:=hb.le;simp only [c9.word];refine⟨?_,?_,a2⟩
 ·rcases(show q.S=0∨q.S=1 by omega) with x |x
  ·have:=a3 x;omega
  ·have:=a4 x;omega
 ·rcases(show q.S=0∨q.S=1 by omega) with x |x
  ·have:=a3 x;omega
  ·have:=a4 x;omega
theorem Ww.fin{v:VW}{fr:Frame}{cs:List Frame}(hq:s.q=false)(h:Ud p T true s v fr cs):Ww P p T true s v fr cs:=.of ⟨hq,.inr (.inr (.inr (.inr (.inr (.inr h)))))⟩
end
end K
end Go.Proofs.YtlmopgkkijhllaaGreat
set_option linter.unusedVariables false
set_option maxRecDepth 20000
set_option maxHeartbeats 4000000
namespace Go.Proofs.YtlmopgkkijhllaaGreat
open K Go Go.Proofs Go.Conc
@[reducible] def am(a0:ag)(bk:Nat):A:=.pair (.rep aj a0) (.pair (.eq (.int .i32 0)) (.pair (.eq (.int .u32 0)) (.eq (.map (some bk)))))
section
variable {S:FS}{bm bk:Nat}{k:Nat}{a0:ag}{a1:Int}
theorem oq{w:World}{cs:List Value}(h:(am a0 bk).cells S w cs):∃c0 c1 c2 c3 c4 c5,cs=[c0,c1,c2,c3,c4,c5,.int .i32 0,.int .u32 0,.map (some bk)]∧rd S w aj a0 [c0,c1,c2,c3,c4,c5]:=by
 obtain⟨m,x1,rfl,h1,y1,x2,rfl,⟨rfl,_⟩,y2,x3,rfl,⟨rfl,_⟩,⟨rfl,_⟩⟩:=h;have hl:=aN aj h1;have hl:m.length=6:=hl;match m,hl with
 |[c0,c1,c2,c3,c4,c5],_=>exact⟨c0,c1,c2,c3,c4,c5,rfl,h1⟩
@[reducible] def te(bm bk:Nat)(m:Array Value)(R:Obj→Prop):Gp:=⟨false,0,0,0,bm,123,m,bk,R,fun _=>False,fun _ _ _ _ _=>False⟩
theorem KP{f:Nat}{uz:List A}{RA:A}(hw:∀(c0 c1 c2 c3 c4 c5:Value) (T:Tq) (S:FS) (w:VW) (vs:List Value) (kd:CallKind) (cs:List Frame),kd≠.early→(∀b,S b→b < w.heap.size)→fy S w (.rep (.mo (.pointer (some ⟨bm,0,none⟩)) [c0,c1,c2,c3,c4,c5] aj) a0::uz) vs→aQ [] S w→
 (te bm bk #[c0,c1,c2,c3,c4,c5] (aL k a0)).Ok→(∀b,(te bm bk #[c0,c1,c2,c3,c4,c5] (aL k a0)).sh b→w.A b)→w.A bk→¬w.Z bk→
 (∀c' v' fr u,dr S w [] (fun _:Unit=>(RA,[])) (.returned u) v'→fr.fn=f→fr.kind=kd→Lv Tryz.prog fr v' (.returned u)→v'.A bk→Ww Tryz.prog (te bm bk #[c0,c1,c2,c3,c4,c5] (aL k a0)) T true (Ph.set { al:=true,jn:=true } { phi:=c' }) v' fr cs)→
 Ww Tryz.prog (te bm bk #[c0,c1,c2,c3,c4,c5] (aL k a0)) T true (Ph.set { al:=true,jn:=true } { phi:=12 }) w (Frame.enter Tryz.prog f vs.toArray kd) cs):
 bQ (dC Tryz.prog) f (.eq (.pointer (some ⟨bm,0,none⟩))::uz) [.obj bm 123 (am a0 bk),.inv bk (aL k a0)] (fun _:Unit=>(RA,[.obj bm 123 (am a0 bk),.inv bk (aL k a0)])):=by
 intro kd hkd S w vs hd hall hO T hT cs hc
 refine hT.2 _ _ _ fun Gd hG v1 hr gs sl t kq hL=>?_
 have hO1:aQ [.obj bm 123 (am a0 bk),.inv bk (aL k a0)] S v1:=hO.rely hd hr
 have hd1:∀b,S b→b < v1.heap.size:=fun b hb=>Nat.lt_of_lt_of_le (hd b hb) hr.size
 have fm:ap [D.obj bm 123 (am a0 bk),.inv bk (aL k a0)] bm:=⟨_,List.mem_cons_self,rfl⟩
 have fk:ap [D.obj bm 123 (am a0 bk),.inv bk (aL k a0)] bk:=⟨_,List.mem_cons_of_mem _ List.mem_cons_self,rfl⟩
 have hne:bm≠bk:=fun e=>(List.pairwise_cons.1 hO1.apart).1 _ List.mem_cons_self bm rfl (by rw [e];rfl)
 obtain⟨cells,hcl,hce⟩:=hO1.holds _ List.mem_cons_self
 obtain⟨c0,c1,c2,c3,c4,c5,rfl,hrd⟩:=oq hce
 have hall1:fy S v1 (.eq (.pointer (some ⟨bm,0,none⟩))::uz) vs:=fy.rely (fp hd hO.sees hr) hall
 have hat:(te bm bk #[c0,c1,c2,c3,c4,c5] (aL k a0)).At v1.toWorld { f:=12 }:=⟨fun e=>(by cases e),fun e=>(by cases e),hcl,fun _=>hO1.holds _ (List.mem_cons_of_mem _ List.mem_cons_self)⟩
 have hpok:(te bm bk #[c0,c1,c2,c3,c4,c5] (aL k a0)).Ok:=⟨hne,fun e=>(by cases e),fun e=>(by cases e)⟩
 have hsh:∀b,(te bm bk #[c0,c1,c2,c3,c4,c5] (aL k a0)).sh b→b=bm:=fun b hb=>hb.elim id fun e=>by cases e.1
 refine Ak hG (fun _ _ _ _ _ h=>h.elim) (p:=te bm bk #[c0,c1,c2,c3,c4,c5] (aL k a0)) (T:=T) (q:={ f:=12 }) (s:={ phi:=12,al:=true,jn:=true }) hpok hL hO1.domA hO1.domZ (hO1.far _ fk).2 hat (fun b hb=>?_) rfl rfl (fun e=>by cases e) rfl ?_
 ·
  rcases hb with hb |hb
  ·rw [hsh b hb];exact(hO1.far _ fm).1
  ·rw [hb];exact(hO1.far _ fk).1
 refine hw c0 c1 c2 c3 c4 c5 T S _ vs kd cs hkd hd1 ?_ ⟨fun d hd=>by simp at hd,fun b hb=>(bW hb).elim,List.Pairwise.nil,fun b hb=>(bW hb).elim,fun b hb hA=>?_,fun b hb=>?_,hO1.domZ⟩ hpok (fun b hb=>.inr (.inl hb)) (.inr (.inr rfl)) (hO1.far _ fk).2 fun c' v' fr u hpo hf1 hf2 hlv hA'=>?_
 ·
  obtain⟨x,vs',e,hx,hx2⟩:=hall1;have hx:x= .pointer (some ⟨bm,0,none⟩):=hx;subst hx;exact⟨_,vs',e,uG hrd,hx2⟩
 ·
  rcases hA with hA |hA |hA
  ·exact hO1.sees b hb hA
  ·rw [hsh b hA] at hb;exact(hO1.own _ fm).1 hb
  ·rw [hA] at hb;exact(hO1.own _ fk).1 hb
 ·
  rcases hb with hb |hb |hb
  ·exact hO1.domA b hb
  ·rw [hsh b hb];exact(hO1.own _ fm).2
  ·rw [hb];exact(hO1.own _ fk).2
 ·
  obtain⟨x,S',u',e,hcs,hres,hOw,_⟩:=hpo;cases e;have hAm:v'.A bm:=hcs.subA bm (.inr (.inl (.inl rfl)));have hAk:v'.A bk:=hA';refine Ww.fin rfl ⟨rfl,rfl,rfl,rfl,rfl,w.Z,fun v2 q hr2 hat2 hpre2=>?_⟩;obtain⟨g1,g2,g3⟩:=zb hpre2 rfl ⟨rfl,rfl,rfl,rfl,rfl,rfl,rfl⟩
  have hmu:v2.heap[bm]? =some (.cells #[c0,c1,c2,c3,c4,c5,.int .i32 0,.int .u32 0,.map (some bk)] 123):=by
   have:=hat2.mu;rw [g1,g2] at this;exact this
  have hmp:∃o,v2.heap[bk]? =some o∧aL k a0 o:=hat2.mp g3;have hZ2:v2.Z=w.Z:=by rw [hr2.Z,hcs.Z];exact hr.Z
  have old2:∀b,v2.A b→v'.A b∨v'.heap.size≤b:=hr2.old
  have oldw:∀b,v'.A b→b≠bm→b≠bk→w.A b∨w.heap.size≤b:=fun b hb h1 h2=>by
   rcases hcs.oldA b hb with(hb |hb |hb) |hb
   ·exact hr.old b hb
   ·exact absurd (hsh b hb) h1
   ·exact absurd hb h2
   ·exact .inr (Nat.le_trans hr.size hb)
  have keepv:∀b,b < v1.heap.size→¬v1.A b→b≠bm→b≠bk→v2.heap[b]? =v1.heap[b]? :=fun b hb ha h1 h2=>by
   have e1:=hcs.keep b hb (by
    rintro(h |h |h)
    ·exact ha h
    ·exact h1 (hsh b h)
    ·exact h2 h) (fun h=>(bW h).elim)
   have e2:=hr2.keep b (Nat.lt_of_lt_of_le hb hcs.size) (fun h=>by
    rcases hcs.oldA b h with(h |h |h) |h
    ·exact ha h
    ·exact h1 (hsh b h)
    ·exact h2 h
    ·exact absurd hb (Nat.not_lt.2 h))
   exact e2.trans e1
  have hsz:w.heap.size≤v2.heap.size:=Nat.le_trans hr.size (Nat.le_trans hcs.size hr2.size);have hKs:fW S v1 v2:=fun b hb=>keepv b (hd1 b hb) (hO1.sees b hb) (fun e=>(hO1.own _ fm).1 (e▸hb)) (fun e=>(hO1.own _ fk).1 (e▸hb))
  have hfe:∀b,ap [D.obj bm 123 (am a0 bk),.inv bk (aL k a0)] b→b=bm∨b=bk:=fun b ⟨d,hd',e⟩=>by
   rcases List.mem_cons.1 hd' with rfl |hd'
   ·exact .inl (Option.some.inj e).symm
   ·rw [List.mem_singleton.1 hd'] at e;exact .inr (Option.some.inj e).symm
  refine hc (.returned u) _ fr ⟨(),S',u,rfl,⟨fun b hb=>hcs.sub b hb,fun b hb=>?_,fun b hb=>Nat.lt_of_lt_of_le (hcs.dom b hb) hr2.size,hsz,fun b hb ha hx=>?_,(hr2.os.trans hcs.os).trans hr.os,(hr2.tape.trans hcs.tape).trans hr.tape,(hr2.output.trans hcs.output).trans hr.output,fun b hb=>?_,fun b hb=>?_,rfl⟩,A.mono (fun _ h=>h) (fp hcs.dom hOw.sees hr2) _ hres,⟨fun d hd'=>?_,fun b hb=>?_,hO.apart,fun b hb=>⟨fun h=>?_,(hO.far b hb).2⟩,fun b hb h=>?_,fun b h=>hr2.dom hOw.domA b h.1,fun b h=>Nat.lt_of_lt_of_le (hO.domZ b h) hsz⟩,fun b hb=>.inl hb⟩ hf1 hf2 ?_
  ·rcases hcs.new b hb with h |h |h
   ·exact .inl h
   ·exact .inr (.inl (Nat.le_trans hr.size h))
   ·exact(bW h).elim
  ·have e1:=hr.keep b hb ha;have e2:=keepv b (Nat.lt_of_lt_of_le hb hr.size) (fun h=>(hr.old b h).elim ha fun h=>absurd hb (Nat.not_lt.2 h)) (fun e=>hx (e▸fm)) (fun e=>hx (e▸fk));exact e2.trans e1
  ·refine⟨hr2.sub b (hcs.subA b (.inl (hr.sub b hb))),fun e=>?_,fun e=>?_⟩
   ·have e:b=bm:=e;rw [e] at hb;exact(hO.far _ fm).1 hb
   ·have e:b=bk:=e;rw [e] at hb;exact(hO.far _ fk).1 hb
  ·obtain⟨h1,h2,h3⟩:=hb;rcases old2 b h1 with h |h
   ·exact oldw b h h2 h3
   ·exact .inr (Nat.le_trans (Nat.le_trans hr.size hcs.size) h)
  ·rcases List.mem_cons.1 hd' with rfl |hd'
   ·exact⟨_,hmu,[c0,c1,c2,c3,c4,c5],_,rfl,dP (fun b hb=>hcs.sub b hb) hKs aj hrd,[_],_,rfl,⟨rfl,rfl⟩,[_],_,rfl,⟨rfl,rfl⟩,⟨rfl,rfl⟩⟩
   ·rw [List.mem_singleton.1 hd'];exact hmp
  ·rcases hfe b hb with rfl |rfl
   ·exact⟨fun h=>hOw.sees _ h hAm,(Array.getElem?_eq_some_iff.1 hmu).1⟩
   ·obtain⟨o,ho,_⟩:=hmp;exact⟨fun h=>hOw.sees _ h hAk,(Array.getElem?_eq_some_iff.1 ho).1⟩
  ·rcases hfe b hb with rfl |rfl
   ·exact h.2.1 rfl
   ·exact h.2.2 rfl
  ·rcases old2 b h.1 with h' |h'
   ·exact hOw.sees b hb h'
   ·exact absurd (hcs.dom b hb) (Nat.not_lt.2 h')
  ·obtain⟨l1,l2,fn,l3,l4⟩:=hlv;refine⟨l1,l2,fn,l3,fun v3 hr3=>?_⟩
   have hrel:bh v' ⟨v3.toWorld,fun b=>v3.A b∨b=bm∨b=bk,v'.Z⟩:=by
    refine⟨fun b hb ha=>?_,Nat.le_trans hr2.size hr3.size,fun b hb=>?_,fun b hb=>?_,fun hdm b hb=>?_,rfl,hr3.os.trans hr2.os,hr3.tape.trans hr2.tape,hr3.output.trans hr2.output⟩
    ·have e1:=hr2.keep b hb ha;have e2:=hr3.keep b (Nat.lt_of_lt_of_le hb hr2.size) (fun h=>(old2 b h.1).elim ha fun h=>absurd hb (Nat.not_lt.2 h));exact e2.trans e1
    ·by_cases e1:b=bm
     ·exact .inr (.inl e1)
     ·by_cases e2:b=bk
      ·exact .inr (.inr e2)
      ·exact .inl (hr3.sub b ⟨hr2.sub b hb,e1,e2⟩)
    ·rcases hb with hb |rfl |rfl
     ·rcases hr3.old b hb with h |h
      ·exact old2 b h.1
      ·exact .inr (Nat.le_trans hr2.size h)
     ·exact .inl hAm
     ·exact .inl hAk
    ·have hm2:bm < v2.heap.size:=(Array.getElem?_eq_some_iff.1 hmu).1;have hk2:bk < v2.heap.size:=by obtain⟨o,ho,_⟩:=hmp;exact(Array.getElem?_eq_some_iff.1 ho).1
     rcases hb with hb |rfl |rfl
     ·exact hr3.dom (fun b h=>hr2.dom hOw.domA b h.1) b hb
     ·exact Nat.lt_of_lt_of_le hm2 hr3.size
     ·exact Nat.lt_of_lt_of_le hk2 hr3.size
   obtain⟨q1,q2⟩:=l4 _ hrel;refine⟨q1,⟨fun _ _ _=>rfl,Nat.le_refl _,.refl _,rfl,rfl,fun ev hev=>?_⟩⟩;have:=q2.evs ev hev;have hz3:v3.Z=v'.Z:=by rw [hr3.Z,hcs.Z];exact hr.Z.symm
   unfold lC at this⊢;rw [hz3];split at this
   ·exact⟨this.1,this.2.1,fun h=>this.2.2.1 (.inl h),this.2.2.2⟩
   ·exact⟨this.1,this.2.1,fun h=>this.2.2.1 (.inl h),this.2.2.2⟩
   ·exact this
   ·exact this
theorem zV{r:List (List Int)}(h:lI k a0 a1=some r):
 bQ (dC Tryz.prog) 35 [.eq (.pointer (some ⟨bm,0,none⟩)),.eq (.int .u8 a1)] [.obj bm 123 (am a0 bk),.inv bk (aL k a0)] (fun _:Unit=>(bv [.rep (.arr 7 (.arr 5 (.int .i64))) r],[.obj bm 123 (am a0 bk),.inv bk (aL k a0)])):=
 KP fun c0 c1 c2 c3 c4 c5 T S w vs kd cs hkd hd hall hO hok hsh hA hZ hc=>zU (s:={ al:=true,jn:=true }) (c:=0) hok ⟨rfl,rfl,rfl,fun _=>rfl⟩ rfl rfl hkd h hd hall hO hsh hA hZ fun c' v' fr u _=>hc c' v' fr u
end
end Go.Proofs.YtlmopgkkijhllaaGreat
set_option linter.unusedVariables false
namespace Go.Proofs.YtlmopgkkijhllaaGreat
namespace K
open Go Go.Conc
section
variable {P:Program}{p:Gp}{T:Tq}{s:Ph}{v:VW}{fr:Frame}{cs:List Frame}
theorem IJ{z:Value}(hcr:p.cr=true)(hnw:s.nw=1)(hq:s.q=false)(hmx:s.mx=0)(hrg:s.rg=false)(hst:∀w:World,stepG P false (Gr fr cs) w= .comm (Gr fr cs) #[rcase p.bc z] true (.recv true) w #[])
 (h1:∀v1 x,bh v v1→p.vok x→s={ ac:=1,nw:=1,phi:=s.phi }∧p.lp (s.phi+12) x v1 (fr.finish (.tuple #[x,.bool true])) cs) (h2:∀v1,bh v v1→Ww P p T false { s with nw:=0 } v1 (fr.finish (.tuple #[z,.bool false])) cs):Ww P p T false s v fr cs:=
 .of ⟨hq,.inr (.inr (.inr (.inl ⟨z,hcr,rfl,hnw,hq,hmx,hrg,hst,h1,fun v1 hr=>⟨{},undef,true,h2 v1 hr⟩⟩)))⟩
theorem II{x z:Value}(hcr:p.cr=true)(hop:s.op=true)(hsp:0 < s.sp)(hphi:12≤s.phi)(hq:s.q=false)(hmx:s.mx=0)(hrg:s.rg=false)(hx:p.vok x)(hst:∀w:World,stepG P true (Gr fr cs) w= .comm (Gr fr cs) #[scase p.bc x z] true .send w #[])
 (h:∀v1,bh v v1→Ww P p T true { s with phi:=s.phi - 12 } v1 (fr.finish undef) cs):Ww P p T true s v fr cs:=
 .of ⟨hq,.inr (.inr (.inr (.inr (.inl ⟨x,z,hcr,rfl,hop,hsp,hphi,hq,hmx,hrg,hx,hst,fun v1 hr=>⟨{},undef,true,h v1 hr⟩⟩))))⟩
theorem Fa{fr' fc:Frame}{Sh:Nat→Prop}(hcr:p.cr=true)(hq:s.q=false)(hpd:s.pd=1)(hdf:s.df=0)(hrg:s.rg=false)(hop:s.op=true)(hsp:s.sp < 100)(hst:∀w:World,stepG P true (Gr fr cs) w= .spawn (Gr fr' cs) (Gr fc []) w #[])(hSh:∀b,Sh b→b < v.heap.size∧¬v.A b∧b≠p.bk)
 (h1:∀v1,bh v v1→Ww P p T false .wk0 ⟨v1.toWorld,fun b=>b < v1.heap.size∧¬Sh b,Sh⟩ fc []) (h2:∀v1,bh v v1→Ww P p T true { s with pd:=0,sp:=s.sp+1,al:=false,jn:=false } ⟨v1.toWorld,v1.A,fun b=>v1.Z b∨Sh b⟩ fr' cs):Ww P p T true s v fr cs:=
 .of ⟨hq,.inr (.inr (.inr (.inr (.inr (.inl ⟨hcr,rfl,hpd,hdf,hrg,hop,hsp,fr',fc,Sh,hst,hSh,fun v1 hr=>⟨{},undef,true,h1 v1 hr⟩,fun v1 hr=>⟨{},undef,true,h2 v1 hr⟩⟩)))))⟩
theorem GE{q:c9}(hs:s.Stt)(hrg:s.rg=false)(hp:lZ p true s q):Sv p true s q { s with op:=false,cd:=true,cb:=some 102 } { q with cl:=true }:=by
 have hc:q.c≤102:=by obtain⟨_,_,_,_,_,_,_,_,_,_,h,_⟩:=hp.get;exact h
 refine Sv.mk (fun a b z ha hpt hb hz _ _ _ _=>?_) hs.q (.inr ⟨rfl,rfl⟩) (fun ow φ e=>by rw [show({ s with op:=false,cd:=true,cb:=some 102 }:Ph).se=none from hs.se] at e;cases e) (fun x h1 h2 _=>⟨h1,h2⟩) (fun _ _ _ _ _=>by rw [show({ s with op:=false,cd:=true,cb:=some 102 }:Ph).nb=0 from hs.nb];exact⟨Nat.zero_le _,.inl rfl⟩) (fun i hi ho=>⟨ho.one,ho.rg,ho.lv,fun e=>?_,ho.dt,ho.main,ho.work⟩) (fun _ e=>.inl e)
 ·rw [if_pos rfl];have hz:=hz rfl;subst hz;have r1:b.ac=a.ac:=Nat.add_right_cancel hb.ac;have r2:b.w1=a.w1:=Nat.add_right_cancel hb.w1;have r3:b.w2=a.w2:=Nat.add_right_cancel hb.w2;have r5:b.hd=a.hd:=Nat.add_right_cancel hb.hd;have r6:b.dt=a.dt:=Nat.add_right_cancel hb.dt;have r7:b.aw=a.aw:=Nat.add_right_cancel hb.aw;have r8:b.rn=a.rn:=Nat.add_right_cancel hb.rn;have r9:b.qu=a.qu:=Nat.add_right_cancel hb.qu;have r10:b.tk=a.tk:=Nat.add_right_cancel hb.tk;have r11:b.rh=a.rh:=Nat.add_right_cancel hb.rh;have r12:b.ty=a.ty:=Nat.add_right_cancel hb.ty;have r13:b.phi=a.phi:=Nat.add_right_cancel hb.phi;have r14:b.lv=a.lv:=Nat.add_right_cancel hb.lv;refine⟨by rw [r1];exact ha.c,by rw [r2,r3];exact ha.un,by rw [r2,r3];exact ha.re,ha.pd,fun _=>rfl,fun e=>(by cases e),fun e=>(by cases e),ha.le,by rw [r5];exact ha.hd,by rw [r7,r8,r9,r10,r11,r12];exact ha.s0,by rw [r7,r8,r9,r10,r11];exact ha.s1,by rw [r6];exact ha.h,by rw [r13];exact ha.f,by rw [r14];exact ha.lv,fun B e=>(by cases e;exact hc)⟩
 ·have e:s.q=true:=e;rw [hs.q] at e;cases e
end
end K
end Go.Proofs.YtlmopgkkijhllaaGreat
set_option linter.unusedVariables false
namespace Go.Proofs.YtlmopgkkijhllaaGreat
namespace K
open Go Go.Conc
section
variable {P:Program}{main:Bool}{b:Frame}{a:Act}{k:List Item}{cs:List Frame}{ops:Array Oper}{i:Nat}{rest:List Nat}{o:Oper}{w:World}
theorem Oq{ct e:TypeId}{dir:ChanDir}{x:Operand}{z:Value}{c:Nat}(ho:ops[i]? =some o)(hw:Region.wanted o (yielded ops a.tmps)=true)(hop:o.op= .recv ct x true)(hT:P.underlying ct=some (.chan dir e))(hz:∀w,(zeroValue e).run P w= .ok z w)(hx:a.eval x= .chan (some c)):
 stepG P main (Gr (b.atR a (.inRegion ops (i::rest)::k)) cs) w= .comm (Gr (b.atR a (.inRegion ops (i::rest)::k)) cs) #[rcase c z] true (.recv true) w #[]:=by
 have hr:(execOp a.eval o).run P w= .ok (.comm #[rcase c z] true (.recv true)) w:=by
  simp [execOp,hop,run_underlying hT,hz,hx,rcase]
 have he:(execOp a.eval o).events P w #[]= #[]:=by
  simp [execOp,hop,run_underlying hT,hz,hx,rcase]
 have hT':(execOp a.eval o).runT P w #[]=(.ok (.comm #[rcase c z] true (.recv true)) w, #[]):=Prod.ext (by rw [Sem.runT_fst];exact hr) he
 rw [uS ho hw,Oper.semAt_eq _ _ _ (by simp [hop])]
 simp only [stepG.apply,if_true,hT',uR,kV,GStep.after]
 try simp
theorem Oo{x y:Operand}{u:Value}{c:Nat}(ho:ops[i]? =some o)(hw:Region.wanted o (yielded ops a.tmps)=true)(hop:o.op= .send x y)(hx:a.eval x= .chan (some c))(hy:a.eval y=u):
 stepG P main (Gr (b.atR a (.inRegion ops (i::rest)::k)) cs) w= .comm (Gr (b.atR a (.inRegion ops (i::rest)::k)) cs) #[scase c u (.tuple #[])] true .send w #[]:=by
 have he:execOp a.eval o=pure (.comm #[scase c u (.tuple #[])] true .send):=by
  simp [execOp,hop,hx,hy,scase]
 have hT':(execOp a.eval o).runT P w #[]=(.ok (.comm #[scase c u (.tuple #[])] true .send) w, #[]):=by rw [he];rfl
 rw [uS ho hw,Oper.semAt_eq _ _ _ (by simp [hop])]
 simp only [stepG.apply,if_true,hT',uR,kV,GStep.after]
 try simp
end
section
variable {P:Program}{p:Gp}{T:Tq}{s:Ph}{v:VW}{fr fr':Frame}{cs cs':List Frame}
theorem Fb(hok:p.Ok)(hcr:p.cr=true)(hs:s.Stt)(hrg:s.rg=false)(hop:s.op=true)(hjn:s.jn=true→s.al=true)(hwk:mayWake P (Gr fr cs)=true)(hsh:∀b,p.sh b→v.A b)(hA:v.A p.bk)(hlt:p.bk < v.heap.size)
 (hst:∀(w:World) (q:c9),p.At w q→q.cl=false→stepG P true (Gr fr cs) w= .go (Gr fr' cs') { w with heap:=w.heap.setIfInBounds p.bc (.chan 0 #[] true q.cs q.cs false) } #[⟨.obj p.bc,false,true⟩,⟨.obj p.bc,true,true⟩])
 (h:∀v',VR p v v'→v'.A p.bk→Ww P p T true { s with op:=false,cd:=true,cb:=some 102 } v' fr' cs'):Ww P p T true s v fr cs:=by
 refine po hs.q fun v1 q hr hat hp=>?_
 have hcl:q.cl=false:=by
  obtain⟨a,z,ha,_,hz,_⟩:=hp.get;have hz:=hz rfl;subst hz;exact ha.op hop
 have hlc:=(Array.getElem?_eq_some_iff.1 (hat.ch hcr)).1
 have g:∀x b,b≠p.bc→(v1.heap.setIfInBounds p.bc x)[b]? =v1.heap[b]? :=fun x b hb=>Array.getElem?_setIfInBounds_ne fun e=>hb e.symm
 have heff:p.Eff v1.toWorld { v1.toWorld with heap:=v1.heap.setIfInBounds p.bc (.chan 0 #[] true q.cs q.cs false) } { q with cl:=true }:=by
  refine⟨⟨fun _=>(g _ _ (hok.wm hcr).2.2).trans (hat.wg hcr),fun _=>Array.getElem?_setIfInBounds_self_of_lt hlc,(g _ _ (hok.cm hcr).1.symm).trans hat.mu,fun e=>?_⟩,fun b hb=>g _ _ fun e=>hb (.inr ⟨hcr,.inr e⟩),by simp,rfl,rfl,rfl⟩;obtain⟨o,ho,hro⟩:=hat.mp e;exact⟨o,(g _ _ (hok.cm hcr).2.symm).trans ho,hro⟩
 have hwc:p.wc (.obj p.bc):=.inr (.inr ⟨hcr,.inr (.inr rfl)⟩)
 refine⟨{ s with op:=false,cd:=true,cb:=some 102 },{ q with cl:=true },fr',cs',_,_,hst _ q hat hcl,heff,GE hs hrg hp,⟨fun e he=>?_,?_,fun e=>(by cases e),fun e=>absurd rfl e,fun e=>absurd rfl e,?_,fun _ e=>?_,fun e=>e,fun e=>⟨hjn e,.inl e⟩,fun e=>(by cases e)⟩,fun _=>hwk,fun _=>rfl,fun _=>⟨q,undef,true,?_⟩,fun e=>?_⟩
 ·
  simp at he;rcases he with rfl |rfl <;> exact .inl ⟨_,_,rfl,hwc⟩
 ·
  rw [if_neg (by rw [show({ s with op:=false,cd:=true,cb:=some 102 }:Ph).q=s.q from rfl,hs.q];simp)];rfl
 ·
  show s.dt≤1;rw [hs.dt];exact Nat.zero_le _
 ·
  have e:s.nr=false:=e;rw [hs.nr] at e;cases e
 ·
  exact h _ ((VR.refl hsh hlt).rely hr |>.put hok heff) (pR.2 hs.dt)
 ·
  have e:s.q=true:=e;rw [hs.q] at e;cases e
end
end K
end Go.Proofs.YtlmopgkkijhllaaGreat
set_option linter.unusedVariables false
namespace Go.Proofs.YtlmopgkkijhllaaGreat
namespace K
open Go Go.Conc
theorem G7{P:Program}{M:Md P}{rd:Option Nat}{Q:Exit→Act→VW→Prop}{K:Act→VW→Prop}{a:Act}{v:VW}{ops:Array Oper}{i:Nat}{rest:List Nat}{o:Oper}(ho:ops[i]? =some o)(hw:Region.wanted o (yielded ops a.tmps)=true)(h:o.wk M rd a v K Q)
 {T:Tq} (hT:M.ok T) {b:Frame} {k:List Item} {cs:List Frame} (hb:b.roundOf=rd) (hK:∀a' v',K a' v'→T v' (b.atR a' (.inRegion ops rest::k)) cs) (hQ:∀ch a' v',Q (.panic ch) a' v'→mO T b k cs (.panic ch) a' v'):
 T v (b.atR a (.inRegion ops (i::rest)::k)) cs:=by
 have B:=M.bc T hT
 subst hb
 refine M.st T hT _ _ _ fun v1 hr hkf=>?_
 obtain⟨hS,hU⟩:=h v1 hr hkf
 generalize hres:(o.semAt b.roundOf a.eval).run P v1.toWorld=r at hU
 cases r with
 |ok x w'=>
  have hG:=hS.ok hres;cases x with
  |value x=>
   obtain⟨es,h1,h2⟩:=Dp (b:=b) (k:=k) (cs:=cs) (rest:=rest) ho hw hres;exact⟨_,_,w',es,h2,hG.sub h1,hK _ _ hU⟩
  |skip=>
   obtain⟨es,h1,h2⟩:=Ia (b:=b) (k:=k) (cs:=cs) (rest:=rest) ho hw hres;exact⟨_,_,w',es,h2,hG.sub h1,hK _ _ hU⟩
  |«defer» d=>
   obtain⟨es,h1,h2⟩:=Du (b:=b) (k:=k) (cs:=cs) (rest:=rest) ho hw hres;exact⟨_,_,w',es,h2,hG.sub h1,hK _ _ hU⟩
  |enter f args=>
   obtain⟨es,h1,h2⟩:=xX (b:=b) (k:=k) (cs:=cs) (rest:=rest) ho hw hres;refine⟨_,_,w',es,h2,hG.sub h1,hU T hT _ fun e v' fr q hf hk hl=>?_⟩;cases e with
   |returned x=>
    refine o5 B hl hk ?_;have hfin:(b.atR a (.inRegion ops (i::rest)::k)).finish x=b.atR (a.put o.dst x) (.inRegion ops rest::k):=by rw [Frame.finish_atR,ho];rfl
    rw [hfin];exact hK _ _ q
   |panicked chain=>exact tf B hl (by rw [Frame.raise_atR];exact hQ _ _ _ q _)
   |outgrown=>exact q.elim
  |round l f tmps assign body=>
   obtain⟨es,h1,h2⟩:=Dq (b:=b) (k:=k) (cs:=cs) (rest:=rest) ho hw hres;refine⟨_,_,w',es,h2,hG.sub h1,hU T hT _ _ (fun x v' q=>?_) (fun ch v' q=>by rw [Frame.raise_atR];exact hQ _ _ _ q _) (fun v' q=>q)⟩;have hfin:(b.atR a (.inRegion ops (i::rest)::k)).finish x=b.atR (a.put o.dst x) (.inRegion ops rest::k):=by rw [Frame.finish_atR,ho];rfl
   rw [hfin];exact hK _ _ q
  |_=>exact hU.elim
 |halt x w'=>
  have hG:=hS.halt hres;cases x with
  |panic x=>
   obtain⟨es,h1,h2⟩:=Ds (b:=b) (k:=k) (cs:=cs) (rest:=rest) ho hw hres;exact⟨_,_,w',es,h2,hG.sub h1,hQ _ _ _ hU _⟩
  |_=>exact hU.elim
theorem iw{c:Cx}{ops:Array Oper}{o:Oper}{i:Nat}{rest:List Nat}{Γ Γ':Ga}{Δ Δ':List D}{a:Act}{v:VW}{T:Tq}{b:Frame}{k:List Item}{cs:List Frame}(hT:c.M.ok T)(hb:b.roundOf=c.rd)(st:St c Γ Δ a v)(ho:ops[i]? =some o)(hg:o.guard=none)
 (h:JO c ops [o] (bS (fun a w=>St c Γ' Δ' a w) (fun _ _ _=>False)) Γ Δ) (hK:∀a' v',St c Γ' Δ' a' v'→T v' (b.atR a' (.inRegion ops rest::k)) cs):T v (b.atR a (.inRegion ops (i::rest)::k)) cs:=by
 have h1:=h a v st
 simp only [Es] at h1
 rw [if_pos (ab hg _)] at h1
 exact G7 ho (ab hg _) h1 hT hb (fun a' v' q=>hK a' v' q) fun ch a' v' q=>q.elim
theorem St.know{c:Cx}{Γ:Ga}{Δ:List D}{a:Act}{v:VW}{d:Nat}{u:Value}(st:St c Γ Δ a v)(h:a.tmps.getD d undef=u):St c ((d,.eq u)::Γ) Δ a v:=by
 obtain⟨h1,h2,S,h3,h4,h5,h6⟩:=st;refine⟨h1,h2,S,h3,h4,h5,fun s r hl=>?_⟩;simp only [lk] at hl;split at hl
 ·rename_i e;subst e;cases hl;exact h
 ·exact h6 s r hl
theorem St.base{P:Program}{N:Nat}{S0:FS}{w0:VW}{rd:Option Nat}{df:List Deferred}{M M':Md P}{Γ:Ga}{a:Act}{v:VW}(st:St ⟨P,N,S0,w0,ap [],rd,df,M⟩ Γ [] a v):∃S,(∀b,S b→b < v.heap.size)∧aQ [] S v∧St ⟨P,N,S,v,ap [],rd,df,M'⟩ Γ [] a v:=by
 obtain⟨h1,h2,S,h3,h4,h5,h6⟩:=st;exact⟨S,h3.dom,h5,h1,h2,S,bp.refl h3.dom,fun b hb=>.inl hb,h5,h6⟩
theorem BC.call{P:Program}{T:Tq}(h:BC P T){b:Frame}{a:Act}{k:List Item}{cs:List Frame}{ops:Array Oper}{i:Nat}{rest:List Nat}{o:Oper}{f:Nat}{fn:Func}{C:Code}{xs:Array Operand}{ts:Array TypeId}{cL:List Value}{v:VW}
 (ho:ops[i]? =some o) (hg:o.guard=none) (hop:o.op= .call { callee:=.value (.func f),args:=xs,argTypes:=ts }) (hf:P.funcs[f]? =some fn) (hname:(fn.name == "runtime.NumGoroutine")=false) (hb:fn.body=some C) (hm:xs.map a.eval=cL.toArray)
 (ht:T v (Frame.enter P f cL.toArray .normal) (b.atR a (.inRegion ops (i::rest)::k)::cs)):T v (b.atR a (.inRegion ops (i::rest)::k)) cs:=by
 have ef:a.eval (.func f)= .func (.func f) #[] #[]:=rfl
 have hn:¬fn.name= "runtime.NumGoroutine" :=by simpa using hname
 have e1:o.semAt b.roundOf a.eval=execOp a.eval o:=Oper.semAt_eq _ _ _ fun c e=>by rw [hop] at e;cases e
 have hr:∀w,(execOp a.eval o).runT P w #[]=(.ok (.enter f cL.toArray) w, #[]):=fun w=>by
  unfold execOp;simp [hop,resolve,Deferred.ofValue,ef,invoke,callFunc,hf,hn,hb,hm]
 refine h.step _ _ _ fun v1 hr1=>?_
 have h1:(o.semAt b.roundOf a.eval).run P v1.toWorld= .ok (.enter f cL.toArray) v1.toWorld:=by rw [e1,←Sem.runT_fst P _ _ #[],hr]
 obtain⟨es,h2,h3⟩:=xX (b:=b) (k:=k) (cs:=cs) (rest:=rest) ho (ab hg _) h1
 refine⟨_,_,_,es,h3,(eF.refl v1).sub fun e he=>?_,h.rely _ _ _ _ hr1 ht⟩
 have:=h2 e he
 rw [e1] at this
 unfold Sem.events at this
 rw [hr] at this
 exact this
end K
end Go.Proofs.YtlmopgkkijhllaaGreat
namespace Go.Proofs.YtlmopgkkijhllaaGreat
open K Go Go.Proofs Go.Conc Go.Conc.Lib
abbrev Nw:Go.Conc.Lib.WgLink:={ add:=94,done:=96,wait:=97,relMerge:=106,disable:=107,enable:=108,inBubble:=109,associate:=110,fatal:=111,uOr:=112,uAdd:=113,raceRead:=114,uLoad:=115,uStore:=116,disassociate:=117,semrelease:=118,acquire:=119,isAssociated:=120,uCas:=121,raceWrite:=122,semacquire:=123,orU64:=129,addU64:=130,loadU64:=131,storeU64:=132,casU64:=133,tWgP:=165,tUP:=167,tAssoc:=168,tWg:=146,tAU:=144,tU64:=65,tUint:=164,tU32:=116,tPU32:=172,tPAU:=185,tPU64:=187,tNoCopy:=115,tANoCopy:=141,tAlign64:=142 }
theorem yI:Go.Conc.Lib.WgLib Tryz.prog Nw:=
 ⟨Tryz.func94,Tryz.func96,Tryz.func97,Tryz.func106,Tryz.func107,Tryz.func108,Tryz.func109,Tryz.func110,Tryz.func111,Tryz.func112,Tryz.func113,Tryz.func114,Tryz.func115,Tryz.func116,Tryz.func117,Tryz.func118,Tryz.func119,Tryz.func120,Tryz.func121,Tryz.func122,Tryz.func123,Tryz.func129,Tryz.func130,Tryz.func131,Tryz.func132,Tryz.func133,Tryz.underlying165,Tryz.runUnderlying165,Tryz.sizeOf165,Tryz.isAgg165,Tryz.zeroValue165,Tryz.underlying167,Tryz.runUnderlying167,Tryz.sizeOf167,Tryz.isAgg167,Tryz.zeroValue167,Tryz.underlying168,Tryz.runUnderlying168,Tryz.sizeOf168,Tryz.isAgg168,Tryz.zeroValue168,Tryz.underlying146,Tryz.runUnderlying146,Tryz.sizeOf146,Tryz.isAgg146,Tryz.zeroValue146,Tryz.underlying144,Tryz.runUnderlying144,Tryz.sizeOf144,Tryz.isAgg144,Tryz.zeroValue144,Tryz.underlying65,Tryz.runUnderlying65,Tryz.sizeOf65,Tryz.isAgg65,Tryz.zeroValue65,Tryz.underlying164,Tryz.runUnderlying164,Tryz.sizeOf164,Tryz.isAgg164,Tryz.zeroValue164,Tryz.underlying116,Tryz.runUnderlying116,Tryz.sizeOf116,Tryz.isAgg116,Tryz.zeroValue116,Tryz.underlying172,Tryz.runUnderlying172,Tryz.sizeOf172,Tryz.isAgg172,Tryz.zeroValue172,Tryz.underlying185,Tryz.runUnderlying185,Tryz.sizeOf185,Tryz.isAgg185,Tryz.zeroValue185,Tryz.underlying187,Tryz.runUnderlying187,Tryz.sizeOf187,Tryz.isAgg187,Tryz.zeroValue187,Tryz.underlying0,Tryz.runUnderlying0,Tryz.sizeOf0,Tryz.isAgg0,Tryz.zeroValue0,Tryz.underlying3,Tryz.runUnderlying3,Tryz.sizeOf3,Tryz.isAgg3,Tryz.zeroValue3,Tryz.underlying4,Tryz.runUnderlying4,Tryz.sizeOf4,Tryz.isAgg4,Tryz.zeroValue4,Tryz.underlying9,Tryz.runUnderlying9,Tryz.sizeOf9,Tryz.isAgg9,Tryz.zeroValue9,Tryz.underlying20,Tryz.runUnderlying20,Tryz.sizeOf20,Tryz.isAgg20,Tryz.zeroValue20,Tryz.underlying21,Tryz.runUnderlying21,Tryz.sizeOf21,Tryz.isAgg21,Tryz.zeroValue21,(by kernel_rfl),(by kernel_rfl)⟩
end Go.Proofs.YtlmopgkkijhllaaGreat
set_option linter.unusedVariables false
set_option maxRecDepth 20000
set_option maxHeartbeats 4000000
namespace Go.Proofs.YtlmopgkkijhllaaGreat
open K Go Go.Proofs Go.Conc
theorem EZ:ah Tryz.prog 95:=ah.of Tryz.func95 (by kernel_rfl) (by kernel_rfl)
theorem o9:dY Tryz.prog 140 1 false:=⟨fun w=>by kernel_rfl,fun w=>by kernel_rfl⟩
theorem CJ:dY Tryz.prog 70 1 false:=⟨fun w=>by kernel_rfl,fun w=>by kernel_rfl⟩
theorem Nn:∀w,(zeroValue 71).run Tryz.prog w= .ok (.int .u8 0) w:=fun w=>by kernel_rfl
noncomputable def nO:Code:=match Tryz.f95.body with
 |some (.seq _ (.block _ (.loop b)))=>b
 |_=>.skip
noncomputable def yG:Array Oper:=match nO with
 | .block _ (.seq (.region _ ops _) _)=>ops
 |_=> #[]
noncomputable def pK:Code:=match nO with
 | .block _ (.seq _ c)=>c
 |_=>.skip
noncomputable def Nr:Code:=match pK with
 | .seq (.seq _ c) _=>c
 |_=>.skip
noncomputable def Nq:Code:=match pK with
 | .seq _ c=>c
 |_=>.skip
abbrev Jg:Frame:={ (default:Frame) with fn:=95,kind:=.deferred }
@[reducible] noncomputable def ME (bw bc bm:Nat) (cl:List Value) (a0:ag):Ga:=[(0,.eq (.pointer (some ⟨bw,0,none⟩))),(1,.at .val (.chan (some bc))),(2,.at (.mo (.pointer (some ⟨bm,0,none⟩)) cl aj) a0)]
@[reducible] noncomputable def AC (M:Md Tryz.prog) (bw:Nat) (S:FS) (v:VW):Cx:=⟨Tryz.prog,15,S,v,ap [],none,[dcall 96 #[.pointer (some ⟨bw,0,none⟩)]],M⟩
structure yn(bw bc bm bk:Nat)(v:VW):Prop where
 m:v.A bm
 w:v.A bw
 c:v.A bc
 k:v.A bk
 z:¬v.Z bk
theorem yn.rely{bw bc bm bk:Nat}{v v':VW}(h:yn bw bc bm bk v)(hr:bh v v'):yn bw bc bm bk v':=⟨hr.sub _ h.m,hr.sub _ h.w,hr.sub _ h.c,hr.sub _ h.k,by rw [hr.Z];exact h.z⟩
theorem yn.st{bw bc bm bk:Nat}{c:Cx}{Γ:Ga}{Δ:List D}{a:Act}{v:VW}(h:yn bw bc bm bk c.w0)(st:St c Γ Δ a v):yn bw bc bm bk v:=⟨St.subA st h.m,St.subA st h.w,St.subA st h.c,St.subA st h.k,by rw [IO st];exact h.z⟩
def RN(bw bc bm bk:Nat)(cl:List Value)(a0:ag):Nat→Value→VW→Frame→List Frame→Prop:=fun c x v fr cs=>∃a S dd c',c=c'+12∧St (AC (Md.plain Tryz.prog) bw S v) ((6,.eq (.chan (some bc)))::ME bw bc bm cl a0) [] a v∧yn bw bc bm bk v∧
 fr=Jg.atR (a.put (some 7) (.tuple #[x,.bool true])) [.inRegion yG [2,3,4,5,6],.code pK,.inBlock 1,.inLoop nO,.inBlock 0]∧cs=[{ eD Tryz.prog dd with defers:=[] }]
@[reducible] def cU(bw bc bm bk:Nat)(c0 c1 c2 c3 c4 c5:Value)(k:Nat)(a0:ag):Gp:=⟨true,bw,146,bc,bm,123, #[c0,c1,c2,c3,c4,c5],bk,aL k a0,fun x=>∃s r,x= .int .u8 s∧lI k a0 s=some r,RN bw bc bm bk [c0,c1,c2,c3,c4,c5] a0⟩
section
variable {bw bc bm bk:Nat}{c0 c1 c2 c3 c4 c5:Value}{k:Nat}{a0:ag}{T:Tq}{M:Md Tryz.prog}{S:FS}{v w0:VW}{a:Act}{dd:Deferred}{Γ:Ga}
theorem yE{v:VW}(h:yn bw bc bm bk v):∀b,(cU bw bc bm bk c0 c1 c2 c3 c4 c5 k a0).sh b→v.A b:=by
 rintro b (rfl |⟨_,rfl |rfl⟩)
 ·exact h.m
 ·exact h.w
 ·exact h.c
theorem Np{S:FS}{w:World}{x y:Value}:(A.tup (.pair (.eq x) (.pair (.eq y) .any))).holds S w (.tuple #[x,y]):=⟨[x,y],rfl,x,[y],rfl,rfl,y,[],rfl,rfl,rfl⟩
theorem K.St.see{c:Cx}{Γ:Ga}{Δ:List D}{a:Act}{v:VW}{d:Nat}{r:A}(st:St c Γ Δ a v)(h:∀S:FS,r.holds S v (a.tmps.getD d undef)):St c ((d,r)::Γ) Δ a v:=by
 obtain⟨h1,h2,S,h3,h4,h5,h6⟩:=st;refine⟨h1,h2,S,h3,h4,h5,fun s r hl=>?_⟩;simp only [lk] at hl;split at hl
 ·rename_i e;subst e;cases hl;exact h S
 ·exact h6 s r hl
theorem vX{s:Ph}(hq:s.q=false)(hn:s.nr=true):BC Tryz.prog (Ww Tryz.prog (cU bw bc bm bk c0 c1 c2 c3 c4 c5 k a0) T false s):=Ww.bc hq hn
theorem CL{s:Ph}(hq:s.q=false)(hn:s.nr=true):(MW Tryz.prog (cU bw bc bm bk c0 c1 c2 c3 c4 c5 k a0) T).ok (Ww Tryz.prog (cU bw bc bm bk c0 c1 c2 c3 c4 c5 k a0) T false s):=⟨false,s,hq,hn,rfl⟩
theorem yF{x:Value}{is:Bool}{s:Ph}(hq:s.q=false)(hn:s.nr=true){kk:List Item}{cs:List Frame}(st:St (AC (MW Tryz.prog (cU bw bc bm bk c0 c1 c2 c3 c4 c5 k a0) T) bw S w0) ((6,.eq (.chan (some bc)))::ME bw bc bm [c0,c1,c2,c3,c4,c5] a0) [] a v)
 (hc:∀a' v',St (AC (MW Tryz.prog (cU bw bc bm bk c0 c1 c2 c3 c4 c5 k a0) T) bw S w0) ((11,.eq (.bool !is))::(3,.eq x)::ME bw bc bm [c0,c1,c2,c3,c4,c5] a0) [] a' v'→Ww Tryz.prog (cU bw bc bm bk c0 c1 c2 c3 c4 c5 k a0) T false s v' (Jg.atR a' (.code Nr:: .code Nq::kk)) cs):
 Ww Tryz.prog (cU bw bc bm bk c0 c1 c2 c3 c4 c5 k a0) T false s v (Jg.atR (a.put (some 7) (.tuple #[x,.bool is])) (.inRegion yG [2,3,4,5,6]:: .code pK::kk)) cs:=by
 have B:=vX (bw:=bw) (bc:=bc) (bm:=bm) (bk:=bk) (c0:=c0) (c1:=c1) (c2:=c2) (c3:=c3) (c4:=c4) (c5:=c5) (k:=k) (a0:=a0) (T:=T) hq hn
 have hT:=CL (bw:=bw) (bc:=bc) (bm:=bm) (bk:=bk) (c0:=c0) (c1:=c1) (c2:=c2) (c3:=c3) (c4:=c4) (c5:=c5) (k:=k) (a0:=a0) (T:=T) hq hn
 have q1:=st.toQ.put (d:=7) (x:=.tuple #[x,.bool is]) rfl
 have st1:=(lz st (vD.base.new) q1).see (d:=7) (r:=.tup (.pair (.eq x) (.pair (.eq (.bool is)) .any))) fun S=>by rw [q1.val 7 _ rfl];exact Np
 refine iw (c:=AC (MW Tryz.prog (cU bw bc bm bk c0 c1 c2 c3 c4 c5 k a0) T) bw S w0) (i:=2) (rest:=[3,4,5,6]) hT rfl st1 rfl rfl (bY rfl (bz rfl) ⟨rfl,trivial⟩ (be (ax fun _ _ h=>h))) fun a2 v2 st2=>?_
 refine iw (c:=AC (MW Tryz.prog (cU bw bc bm bk c0 c1 c2 c3 c4 c5 k a0) T) bw S w0) (i:=3) (rest:=[4,5,6]) hT rfl st2 rfl rfl (bY rfl (jl rfl rfl) ⟨rfl,trivial⟩ (be (ax fun _ _ h=>h))) fun a3 v3 st3=>?_
 refine iw (c:=AC (MW Tryz.prog (cU bw bc bm bk c0 c1 c2 c3 c4 c5 k a0) T) bw S w0) (i:=4) (rest:=[5,6]) hT rfl st3 rfl rfl (bY rfl (jl rfl rfl) ⟨rfl,trivial⟩ (be (ax fun _ _ h=>h))) fun a4 v4 st4=>?_
 refine iw (c:=AC (MW Tryz.prog (cU bw bc bm bk c0 c1 c2 c3 c4 c5 k a0) T) bw S w0) (i:=5) (rest:=[6]) hT rfl st4 rfl rfl (bY rfl (og rfl) ⟨rfl,trivial⟩ (be (ax fun _ _ h=>h))) fun a5 v5 st5=>?_
 refine iw (c:=AC (MW Tryz.prog (cU bw bc bm bk c0 c1 c2 c3 c4 c5 k a0) T) bw S w0) (i:=6) (rest:=[]) hT rfl st5 rfl rfl (bY rfl (og rfl) ⟨rfl,trivial⟩ (be (ax fun _ _ h=>h))) fun a6 v6 st6=>?_
 refine B.move (fun _ _=>cN) ?_
 refine B.move (fun _ _=>dB) ?_
 refine B.move (fun _ _=>dB) ?_
 refine eE (c:=AC (MW Tryz.prog (cU bw bc bm bk c0 c1 c2 c3 c4 c5 k a0) T) bw S w0) (Q:=fun a w=>St (AC (MW Tryz.prog (cU bw bc bm bk c0 c1 c2 c3 c4 c5 k a0) T) bw S w0) ((11,.eq (.bool !is))::(3,.eq x)::ME bw bc bm [c0,c1,c2,c3,c4,c5] a0) [] a w) hT rfl st6 ?_ fun a7 v7 st7=>hc a7 v7 st7
 refine ae ?_
 refine gU rfl rfl ?_
 refine bY rfl (iE rfl) ⟨rfl,trivial⟩ ?_
 refine be (ax ?_)
 exact jd (junk:=[]) (by repeat (first |exact trivial |refine⟨rfl,?_⟩)) um
theorem CM(hok:(cU bw bc bm bk c0 c1 c2 c3 c4 c5 k a0).Ok){c:Nat}(hA:yn bw bc bm bk w0)(st:St (AC (MW Tryz.prog (cU bw bc bm bk c0 c1 c2 c3 c4 c5 k a0) T) bw S w0) (ME bw bc bm [c0,c1,c2,c3,c4,c5] a0) [] a v):
 Ww Tryz.prog (cU bw bc bm bk c0 c1 c2 c3 c4 c5 k a0) T false { ac:=1,nw:=1,phi:=c } v (Jg.atR a [.code nO,.inLoop nO,.inBlock 0]) [{ eD Tryz.prog dd with defers:=[] }]:=by
 have B:BC Tryz.prog (Ww Tryz.prog (cU bw bc bm bk c0 c1 c2 c3 c4 c5 k a0) T false { ac:=1,nw:=1,phi:=c }):=vX rfl rfl
 refine B.move (fun _ _=>nk) ?_
 refine B.move (fun _ _=>dB) ?_
 refine B.move (fun _ _=>eX) ?_
 refine iw (c:=AC (MW Tryz.prog (cU bw bc bm bk c0 c1 c2 c3 c4 c5 k a0) T) bw S w0) (i:=0) (rest:=[1,2,3,4,5,6]) (Γ':=(6,.eq (.chan (some bc)))::ME bw bc bm [c0,c1,c2,c3,c4,c5] a0) (Δ':=[]) (CL rfl rfl) rfl st rfl rfl (bY rfl (av (t:=.val) rfl o9 rfl) ⟨rfl,trivial⟩ (be (ax fun _ _ h=>h))) fun a1 v1 st1=>?_
 have hfin:∀u,(Jg.atR a1 (.inRegion yG (1::[2,3,4,5,6])::[.code pK,.inBlock 1,.inLoop nO,.inBlock 0])).finish u=Jg.atR (a1.put (some 7) u) [.inRegion yG [2,3,4,5,6],.code pK,.inBlock 1,.inLoop nO,.inBlock 0]:=fun u=>by rw [Frame.finish_atR];rfl
 refine IJ (fr:=Jg.atR a1 (.inRegion yG (1::[2,3,4,5,6])::[.code pK,.inBlock 1,.inLoop nO,.inBlock 0])) (z:=.int .u8 0) rfl rfl rfl rfl rfl (fun w=>Oq rfl (ab rfl _) rfl Tryz.underlying140 Nn (ge st1 (s:=6) rfl)) (fun v2 x hr hx=>⟨rfl,?_⟩) (fun v2 hr=>?_)
 ·
  obtain⟨S',h1,h2,h3⟩:=St.base (M':=Md.plain Tryz.prog) (st1.rely hr);exact⟨a1,S',dd,c,rfl,h3,(hA.st st1).rely hr,hfin _,rfl⟩
 ·
  rw [hfin];have B':BC Tryz.prog (Ww Tryz.prog (cU bw bc bm bk c0 c1 c2 c3 c4 c5 k a0) T false (Jv c)):=vX rfl rfl;refine yF (s:=Jv c) rfl rfl (st1.rely hr) fun a3 v3 st3=>?_;refine B'.move (fun _ _=>qo (t:=true) (ge st3 (s:=11) rfl)) ?_;rw [if_pos rfl];have hA3:=hA.st st3;rw [fO rfl];exact(Qt.ret (T:=WV v3 Tryz.prog (cU bw bc bm bk c0 c1 c2 c3 c4 c5 k a0) T false (Jv c)) (bf rfl) (zR yI hok rfl fun v'=>IV rfl Tryz.func95 rfl):Qt (WV v3 Tryz.prog (cU bw bc bm bk c0 c1 c2 c3 c4 c5 k a0) T false (Jv c)) v3 Jg [{ eD Tryz.prog dd with defers:=[] }] 15 [dcall 96 #[.pointer (some (cU bw bc bm bk c0 c1 c2 c3 c4 c5 k a0).stA)]] _ (cL _ a3)) a3 st3.toQ (VR.refl (yE hA3) (sV st3 hA3.k)) ⟨fun _=>rfl,fun _=>hA3.k⟩
theorem PC(hok:(cU bw bc bm bk c0 c1 c2 c3 c4 c5 k a0).Ok):Fj Tryz.prog (cU bw bc bm bk c0 c1 c2 c3 c4 c5 k a0) T:=by
 rintro _ x v fr cs ⟨a,S,dd,c,rfl,st,hA,rfl,rfl⟩ ⟨s,r,rfl,hcr⟩;obtain⟨S',h1,h2,h3⟩:=St.base (M':=MW Tryz.prog (cU bw bc bm bk c0 c1 c2 c3 c4 c5 k a0) T) st;have B:BC Tryz.prog (Ww Tryz.prog (cU bw bc bm bk c0 c1 c2 c3 c4 c5 k a0) T false { ac:=1,nw:=1,phi:=c+12 }):=vX rfl rfl;refine yF (s:={ ac:=1,nw:=1,phi:=c+12 }) rfl rfl h3 fun a1 v1 st1=>?_;refine B.move (fun _ _=>qo (t:=false) (ge st1 (s:=11) rfl)) ?_;rw [if_neg (by decide)];refine B.move (fun _ _=>xU) ?_;refine B.move (fun _ _=>eX) ?_;refine iw (c:=AC (MW Tryz.prog (cU bw bc bm bk c0 c1 c2 c3 c4 c5 k a0) T) bw S' v) (i:=0) (rest:=[1,2]) (CL rfl rfl) rfl st1 rfl rfl (bY rfl (av (t:=.mo (.pointer (some ⟨bm,0,none⟩)) [c0,c1,c2,c3,c4,c5] aj) rfl CJ rfl) ⟨rfl,trivial⟩ (be (ax fun _ _ h=>h))) fun a2 v2 st2=>?_;refine iw (c:=AC (MW Tryz.prog (cU bw bc bm bk c0 c1 c2 c3 c4 c5 k a0) T) bw S' v) (i:=1) (rest:=[2]) (CL rfl rfl) rfl st2 rfl rfl (bY rfl (bz rfl) ⟨rfl,trivial⟩ (be (ax fun _ _ h=>h))) fun a3 v3 st3=>?_;have hA3:=hA.st st3;have e12:a3.tmps.getD 12 undef= .pointer (some ⟨bm,0,none⟩):=oL st3 (s:=12) rfl;have e13:a3.eval (.tmp 13)= .int .u8 s:=ge st3 (s:=13) rfl
 refine BC.call (cL:=[.pointer (some ⟨bm,0,none⟩),.int .u8 s]) B rfl rfl rfl Tryz.func35 (by kernel_rfl) rfl (by
  have e12':a3.eval (.tmp 12)= .pointer (some ⟨bm,0,none⟩):=e12;simp [e12',e13]) ?_
 obtain⟨g1,g2,S3,g3,g4,g5,g6⟩:=id st3
 have hall:fy S3 v3 [.rep (.mo (.pointer (some ⟨bm,0,none⟩)) [c0,c1,c2,c3,c4,c5] aj) a0,.eq (.int .u8 s)] [.pointer (some ⟨bm,0,none⟩),.int .u8 s]:=by
  have k12:=g6 12 _ rfl;rw [e12] at k12;exact⟨_,_,rfl,k12,_,_,rfl,rfl,rfl⟩
 refine zU (p:=cU bw bc bm bk c0 c1 c2 c3 c4 c5 k a0) (s:={ ac:=1,nw:=1 }) (mn:=false) (kd:=.normal) (c:=c) hok ⟨rfl,rfl,rfl,fun e=>(by cases e)⟩ rfl rfl (fun e=>nomatch e) hcr (S:=S3) g3.dom hall g5 (yE hA3) hA3.k hA3.z fun c' v4 fr u hle hpo hf1 hf2 hlv hA'=>?_;have B':BC Tryz.prog (Ww Tryz.prog (cU bw bc bm bk c0 c1 c2 c3 c4 c5 k a0) T false { ac:=1,nw:=1,phi:=c' }):=vX rfl rfl;obtain⟨x,S4,u',e,hcs,hres,hOw,_⟩:=hpo;cases e;have hKs:fW S3 v3 v4:=fun b hb=>hcs.keep b (g3.dom b hb) (fun h=>g5.sees b hb h) fun h=>(bW h).elim
 have stB:St (AC (MW Tryz.prog (cU bw bc bm bk c0 c1 c2 c3 c4 c5 k a0) T) bw S4 v4) (ME bw bc bm [c0,c1,c2,c3,c4,c5] a0) [] a3 v4:=⟨g1,g2,S4,bp.refl hcs.dom,fun b hb=>.inl hb,hOw,fun s r hl=>A.mono (fun b hb=>hcs.sub b hb) hKs r (g6 s r (by
  simp only [lk] at hl⊢;split at hl
  ·rename_i e;subst e;simpa using hl
  ·split at hl
   ·rename_i e;subst e;simpa using hl
   ·split at hl
    ·rename_i e;subst e;simpa using hl
    ·cases hl))⟩
 have hA4:yn bw bc bm bk v4:=⟨hcs.subA _ hA3.m,hcs.subA _ hA3.w,hcs.subA _ hA3.c,hcs.subA _ hA3.k,by rw [hcs.Z];exact hA3.z⟩;refine o5 B' hlv hf2 ?_;rw [Frame.finish_atR];refine B'.move (fun _ _=>cN) ?_;refine B'.move (fun _ _=>o6) ?_;refine B'.move (fun _ _=>rm) ?_;exact CM hok hA4 (lz stB vD.base.new (stB.toQ.put (d:=14) (x:=u) rfl))
theorem Em(hok:(cU bw bc bm bk c0 c1 c2 c3 c4 c5 k a0).Ok){p0 p1 p2:Value}(hd:∀b,S b→b < v.heap.size)(hO:aQ [] S v)(hA:yn bw bc bm bk v)
 (hall:fy S v [.eq (.pointer (some ⟨bw,0,none⟩)),.at .val (.chan (some bc)),.at (.mo (.pointer (some ⟨bm,0,none⟩)) [c0,c1,c2,c3,c4,c5] aj) a0] [p0,p1,p2]):
 Ww Tryz.prog (cU bw bc bm bk c0 c1 c2 c3 c4 c5 k a0) T false .wk0 v (eD Tryz.prog { target:=.fn (.func 95) #[p0,p1,p2],args:= #[] }) []:=by
 have B:BC Tryz.prog (Ww Tryz.prog (cU bw bc bm bk c0 c1 c2 c3 c4 c5 k a0) T false .wk0):=vX rfl rfl
 refine B.move (fun m w=>xY EZ) ?_
 rw [enter_at Tryz.func95 rfl]
 have st0:St ⟨Tryz.prog,15,S,v,ap [],none,[],MW Tryz.prog (cU bw bc bm bk c0 c1 c2 c3 c4 c5 k a0) T⟩ (entry 0 [.eq (.pointer (some ⟨bw,0,none⟩)),.at .val (.chan (some bc)),.at (.mo (.pointer (some ⟨bm,0,none⟩)) [c0,c1,c2,c3,c4,c5] aj) a0]) [] { tmps:= #[p0,p1,p2]++Array.replicate (15 - 3) undef,defers:=[] } v:=St.entry (vs:=[p0,p1,p2]) rfl hd hall hO
 have key:∀a0',St ⟨Tryz.prog,15,S,v,ap [],none,[],MW Tryz.prog (cU bw bc bm bk c0 c1 c2 c3 c4 c5 k a0) T⟩ (entry 0 [.eq (.pointer (some ⟨bw,0,none⟩)),.at .val (.chan (some bc)),.at (.mo (.pointer (some ⟨bm,0,none⟩)) [c0,c1,c2,c3,c4,c5] aj) a0]) [] a0' v→Ww Tryz.prog (cU bw bc bm bk c0 c1 c2 c3 c4 c5 k a0) T false .wk0 v (Jg.atR a0' [.code (Tryz.f95.body.getD .skip)]) [{ eD Tryz.prog { target:=.fn (.func 95) #[p0,p1,p2],args:= #[] } with defers:=[] }]:=by
  intro a0' st0;have e0:a0'.tmps.getD 0 undef= .pointer (some ⟨bw,0,none⟩):=ge st0 (s:=0) rfl;refine B.move (fun _ _=>dB) ?_;refine B.move (fun _ _=>eX) ?_;rw [fO rfl];refine(Qt.defer (cL:=[.pointer (some ⟨bw,0,none⟩)]) (T:=Ww Tryz.prog (cU bw bc bm bk c0 c1 c2 c3 c4 c5 k a0) T false .wk0) (Ci rfl) rfl rfl rfl (fun a1 q1=>?_):Qt (Ww Tryz.prog (cU bw bc bm bk c0 c1 c2 c3 c4 c5 k a0) T false .wk0) v Jg _ 15 [] _ ((0,.pointer (some ⟨bw,0,none⟩))::cL (entry 0 [.eq (.pointer (some ⟨bw,0,none⟩)),.at .val (.chan (some bc)),.at (.mo (.pointer (some ⟨bm,0,none⟩)) [c0,c1,c2,c3,c4,c5] aj) a0]) a0')) a0' (st0.toQ.know e0);have st1:St (AC (MW Tryz.prog (cU bw bc bm bk c0 c1 c2 c3 c4 c5 k a0) T) bw S v) (ME bw bc bm [c0,c1,c2,c3,c4,c5] a0) [] a1 v:=lz st0 (vD.base.know e0) q1;rw [←fO rfl];refine B.move (fun _ _=>cN) ?_;refine B.move (fun _ _=>nk) ?_;refine B.move (fun _ _=>xW) ?_;exact CM (c:=0) hok hA st1
 exact key _ st0
end
end Go.Proofs.YtlmopgkkijhllaaGreat
set_option linter.unusedVariables false
set_option maxRecDepth 20000
set_option maxHeartbeats 4000000
namespace Go.Proofs.YtlmopgkkijhllaaGreat
open K Go Go.Proofs Go.Conc
theorem IX{P:Program}{Wl:World→Prop}{Γ:Gv}{o:Oper}{f:FuncId}{cs:Array Operand}{us:List Value}(ho:o.op= .makeFunc (.func f) #[] cs)(h:cs.toList.map (ev Γ)=us.map some):OV P Wl o Γ (.func (.func f) #[] us.toArray):=fun N df a ha w hl=>by
 have hm:=yj ha h
 simp [execOp,ho,Instr.makeFunc,hm]
@[reducible] def K.ez(v:VW):VW:=⟨v.toWorld,v.A,fun _=>False⟩
theorem K.bh.ez{v v':VW}(h:bh v v'):bh (K.ez v) (K.ez v'):=⟨h.keep,h.size,h.sub,h.old,h.dom,rfl,h.os,h.tape,h.output⟩
theorem K.bp.ez{X:Nat→Prop}{S S':FS}{v v':VW}(h:bp X S v S' v'):bp X S (K.ez v) S' (K.ez v'):=⟨h.sub,h.new,h.dom,h.size,h.keep,h.os,h.tape,h.output,h.subA,h.oldA,rfl⟩
theorem K.St.pop{c:Cx}{Γ:Ga}{Δ:List D}{a:Act}{v:VW}{d:Nat}{r:A}(st:St c ((d,r)::Γ) Δ a v)(hd:lk Γ d=none:=by exact rfl):St c Γ Δ a v:=by
 obtain⟨h1,h2,S,h3,h4,h5,h6⟩:=st;refine⟨h1,h2,S,h3,h4,h5,fun s r hl=>h6 s r ?_⟩;simp only [lk];split
 ·rename_i e;subst e;rw [hd] at hl;cases hl
 ·exact hl
noncomputable def Jo:Code:=match Tryz.f72.body with
 |some (.seq _ (.seq _ (.seq _ (.seq (.seq _ (.block _ (.loop b))) _))))=>b
 |_=>.skip
noncomputable def RL:Code:=match Tryz.f72.body with
 |some (.seq _ (.seq _ (.seq _ (.seq _ (.seq (.seq r _) _)))))=>r
 |_=>.skip
noncomputable def Nl:Code:=match Tryz.f72.body with
 |some (.seq _ (.seq _ (.seq _ (.seq _ (.seq (.seq _ (.block _ (.loop b))) _)))))=>b
 |_=>.skip
noncomputable def MD:Code:=match Tryz.f72.body with
 |some (.seq _ (.seq _ (.seq _ (.seq _ (.seq _ c)))))=>c
 |_=>.skip
@[reducible] noncomputable def pu (M:Md Tryz.prog) (S:FS) (v:VW):Cx:=⟨Tryz.prog,26,S,v,ap [],none,[],M⟩
@[reducible] noncomputable def yz (bw bc bm:Nat) (cl:List Value) (a0:ag):Ga:=[(1,.at (.mo (.pointer (some ⟨bm,0,none⟩)) cl aj) a0),(2,.at .val (.chan (some bc))),(3,.eq (.pointer (some ⟨bw,0,none⟩)))]
def NI(v0:VW)(S0:FS)(Γ:Ga)(a:Act)(v:VW):Prop:=∃S,a.defers=[]∧a.tmps.size=26∧bp (ap []) S0 (ez v0) S (ez v)∧aQ [] S v∧∀s r,lk Γ s=some r→r.holds S v (a.tmps.getD s undef)
theorem NI.st{v0 v:VW}{S0:FS}{Γ:Ga}{a:Act}(M:Md Tryz.prog)(h:NI v0 S0 Γ a v):∃S,St (pu M S v) Γ [] a v∧bp (ap []) S0 (ez v0) S (ez v)∧∀{M':Md Tryz.prog} {Γ':Ga} {a':Act} {v':VW},St (pu M' S v) Γ' [] a' v'→NI v0 S0 Γ' a' v':=by
 obtain⟨S,i1,i2,i3,i4,i5⟩:=h;refine⟨S,⟨i1,i2,S,bp.refl i3.dom,fun b hb=>.inl hb,i4,i5⟩,i3,fun {M' Γ' a' v'} st=>?_⟩;obtain⟨k1,k2,S6,k3,k4,k5,k6⟩:=st;exact⟨S6,k1,k2,i3.trans k3.ez fun b hb=>.inl hb,k5,k6⟩
@[reducible] def sS(Φ i:Nat)(al jn:Bool):Ph:={ phi:=Φ,op:=true,sp:=i,al:=al,jn:=jn }
theorem GN{Φ i:Nat}{al jn:Bool}:(sS Φ i al jn).Stt:=⟨rfl,rfl,rfl,rfl,rfl,rfl⟩
section
variable {bw bc bm bk:Nat}{c0 c1 c2 c3 c4 c5:Value}{k:Nat}{a0:ag}{T:Tq}{v v0:VW}{S0:FS}{a:Act}{b:Frame}{kk:List Item}{cs:List Frame}
theorem mi{s:Ph}(hq:s.q=false)(hn:s.nr=true):BC Tryz.prog (Ww Tryz.prog (cU bw bc bm bk c0 c1 c2 c3 c4 c5 k a0) T true s):=Ww.bc hq hn
theorem nA{s:Ph}(hq:s.q=false)(hn:s.nr=true):(MW Tryz.prog (cU bw bc bm bk c0 c1 c2 c3 c4 c5 k a0) T).ok (Ww Tryz.prog (cU bw bc bm bk c0 c1 c2 c3 c4 c5 k a0) T true s):=⟨true,s,hq,hn,rfl⟩
theorem FP(hok:(cU bw bc bm bk c0 c1 c2 c3 c4 c5 k a0).Ok){i Φ:Nat}{al jn:Bool}(hjn:jn=true→al=true)(hi:i < 4)(hb:b.roundOf=none)(hbk:b.kind≠.early)(hA:yn bw bc bm bk v)(hI:NI v0 S0 ((6,.eq (.int .i64 (i:Int)))::yz bw bc bm [c0,c1,c2,c3,c4,c5] a0) a v)
 (next:∀a' v',yn bw bc bm bk v'→NI v0 S0 ((6,.eq (.int .i64 ((i+1:Nat):Int)))::yz bw bc bm [c0,c1,c2,c3,c4,c5] a0) a' v'→Ww Tryz.prog (cU bw bc bm bk c0 c1 c2 c3 c4 c5 k a0) T true (sS Φ (i+1) false false) v' (b.atR a' kk) cs):
 Ww Tryz.prog (cU bw bc bm bk c0 c1 c2 c3 c4 c5 k a0) T true (sS Φ i al jn) v (b.atR a (.code Jo::kk)) cs:=by
 have B:BC Tryz.prog (Ww Tryz.prog (cU bw bc bm bk c0 c1 c2 c3 c4 c5 k a0) T true (sS Φ i al jn)):=mi rfl rfl
 have B1:BC Tryz.prog (Ww Tryz.prog (cU bw bc bm bk c0 c1 c2 c3 c4 c5 k a0) T true ((sS Φ i al jn).stt 0 1 false none al jn)):=mi rfl rfl
 obtain⟨S,st,hcs,hback⟩:=hI.st (MW Tryz.prog (cU bw bc bm bk c0 c1 c2 c3 c4 c5 k a0) T)
 refine B.move (fun _ _=>dB) ?_
 refine eE (c:=pu (MW Tryz.prog (cU bw bc bm bk c0 c1 c2 c3 c4 c5 k a0) T) S v) (Q:=fun a w=>St (pu (MW Tryz.prog (cU bw bc bm bk c0 c1 c2 c3 c4 c5 k a0) T) S v) ((7,.eq (.bool true))::(6,.eq (.int .i64 (i:Int)))::yz bw bc bm [c0,c1,c2,c3,c4,c5] a0) [] a w) (nA rfl rfl) hb st ?_ fun a1 v1 st1=>?_
 ·
  refine ae ?_;refine bY rfl (bB rfl) ⟨rfl,rfl,trivial⟩ ?_;refine be (ax ?_);rw [decide_eq_true (by omega)];exact fun _ _ h=>h
 refine B.move (fun _ _=>dB) ?_
 refine B.move (fun _ _=>qo (t:=true) (ge st1 (s:=7) rfl)) ?_
 rw [if_pos rfl]
 refine B.move (fun _ _=>xU) ?_
 refine B.move (fun _ _=>dB) ?_
 refine B.move (fun _ _=>nk) ?_
 refine B.move (fun _ _=>dB) ?_
 refine B.move (fun _ _=>eX) ?_
 have hA1:=hA.st (c:=pu (MW Tryz.prog (cU bw bc bm bk c0 c1 c2 c3 c4 c5 k a0) T) S v) st1
 have h3:a1.tmps.getD 3 undef= .pointer (some ⟨bw,0,none⟩):=ge st1 (s:=3) rfl
 rw [fO hb]
 refine(Qt.call (cL:=[.pointer (some ⟨bw,0,none⟩),.int .i64 1]) (T:=WV v1 Tryz.prog (cU bw bc bm bk c0 c1 c2 c3 c4 c5 k a0) T true ((sS Φ i al jn).stt 0 0 false none al jn)) (bf rfl) rfl rfl yI.f_add (by kernel_rfl) rfl rfl (fun c hk=>?_) (hk:=hbk):Qt (WV v1 Tryz.prog (cU bw bc bm bk c0 c1 c2 c3 c4 c5 k a0) T true ((sS Φ i al jn).stt 0 0 false none al jn)) v1 b cs 26 [] _ ((3,.pointer (some ⟨bw,0,none⟩))::cL ((7,.eq (.bool true))::(6,.eq (.int .i64 (i:Int)))::yz bw bc bm [c0,c1,c2,c3,c4,c5] a0) a1)) a1 (st1.toQ.know h3) (VR.refl (yE hA1) (sV st1 hA1.k)) ⟨fun _=>rfl,fun _=>hA1.k⟩
 refine LJ yI hok rfl GN hjn fun v3=>?_
 refine hk _ _ _ fun a3 q3 hv3 hA3'=>?_
 have hA3k:=hA3'.2 rfl
 have st1':=st1
 rw [←jD (p:=cU bw bc bm bk c0 c1 c2 c3 c4 c5 k a0) hA1.k] at st1'
 have st3:=lz (st1'.vr hv3) ((vD.base.know h3).new) q3
 rw [jD (p:=cU bw bc bm bk c0 c1 c2 c3 c4 c5 k a0) hA3k] at st3
 have hA3:=hA.st (c:=pu (MW Tryz.prog (cU bw bc bm bk c0 c1 c2 c3 c4 c5 k a0) T) S v) st3
 rw [←fO hb]
 refine B1.move (fun _ _=>cN) ?_
 refine B1.move (fun _ _=>eX) ?_
 rw [fO hb]
 refine(Qt.op (T:=Ww Tryz.prog (cU bw bc bm bk c0 c1 c2 c3 c4 c5 k a0) T true ((sS Φ i al jn).stt 0 1 false none al jn)) (Ci rfl) rfl (IX (us:=[a3.tmps.getD 3 undef,a3.tmps.getD 2 undef,a3.tmps.getD 1 undef]) rfl rfl) (fun a4 q4=>?_) (hk:=hbk):Qt (Ww Tryz.prog (cU bw bc bm bk c0 c1 c2 c3 c4 c5 k a0) T true ((sS Φ i al jn).stt 0 1 false none al jn)) v3 b cs 26 [] _ (cL ((7,.eq (.bool true))::(6,.eq (.int .i64 (i:Int)))::yz bw bc bm [c0,c1,c2,c3,c4,c5] a0) a3)) a3 st3.toQ
 have st4:=lz st3 (vD.base.new) q4
 have hx:=q4.val 9 _ rfl
 have hv:∀s r,lk ((7,.eq (.bool true))::(6,.eq (.int .i64 (i:Int)))::yz bw bc bm [c0,c1,c2,c3,c4,c5] a0) s=some r→a4.tmps.getD s undef=a3.tmps.getD s undef:=fun s r hl=>q4.val s _ ((vD.base.new (d:=9) (u:=.func (.func 95) #[] [a3.tmps.getD 3 undef,a3.tmps.getD 2 undef,a3.tmps.getD 1 undef].toArray)) s r hl)
 obtain⟨g1,g2,S2,g3,g4,g5,g6⟩:=id st4
 rw [←fO hb]
 refine Fa (Sh:=S2) (fc:=eD Tryz.prog { target:=.fn (.func 95) #[a3.tmps.getD 3 undef,a3.tmps.getD 2 undef,a3.tmps.getD 1 undef],args:= #[] }) rfl rfl rfl rfl rfl rfl (show i < 100 by omega) (fun w0=>SI (i:=1) (rest:=[]) rfl (ab rfl _) rfl rfl hx) (fun y hy=>⟨g3.dom y hy,g5.sees y hy,fun e=>g5.sees y hy (e▸hA3.k)⟩) (fun v4 hr4=>?_) (fun v4 hr4=>?_)
 ·
  have hd4:∀y,S2 y→y < v4.heap.size:=fun y hy=>Nat.lt_of_lt_of_le (g3.dom y hy) hr4.size
  have h64:∀s r,lk ((7,.eq (.bool true))::(6,.eq (.int .i64 (i:Int)))::yz bw bc bm [c0,c1,c2,c3,c4,c5] a0) s=some r→r.holds S2 v4 (a3.tmps.getD s undef):=fun s r hl=>by
   rw [←hv s r hl];exact A.mono (fun _ h=>h) (fp g3.dom g5.sees hr4) r (g6 s r hl)
  have hA4:=hA3.rely hr4;have hin:∀y,v4.A y→y < v4.heap.size∧¬S2 y:=fun y hy=>⟨hr4.dom g5.domA y hy,fun hS=>(hr4.old y hy).elim (g5.sees y hS) fun x=>Nat.lt_irrefl _ (Nat.lt_of_lt_of_le (g3.dom y hS) x)⟩
  exact Em hok (v:=⟨v4.toWorld,fun b=>b < v4.heap.size∧¬S2 b,S2⟩) hd4 ⟨fun _ h=>by simp at h,fun _ hb=>(bW hb).elim,List.Pairwise.nil,fun _ hb=>(bW hb).elim,fun y hy h=>h.2 hy,fun _ h=>h.1,hd4⟩
   ⟨hin _ hA4.m,hin _ hA4.w,hin _ hA4.c,hin _ hA4.k,fun hS=>g5.sees _ hS hA3.k⟩ ⟨_,_,rfl,h64 3 _ rfl,_,_,rfl,h64 2 _ rfl,_,_,rfl,h64 1 _ rfl,rfl⟩
 ·
  have B':BC Tryz.prog (Ww Tryz.prog (cU bw bc bm bk c0 c1 c2 c3 c4 c5 k a0) T true (sS Φ (i+1) false false)):=mi rfl rfl;refine B'.move (fun _ _=>cN) ?_;refine B'.move (fun _ _=>o6) ?_;have hO4:=g5.rely g3.dom hr4;have hd4:∀y,S2 y→y < v4.heap.size:=fun y hy=>Nat.lt_of_lt_of_le (g3.dom y hy) hr4.size
  have hI':NI v0 S0 ((6,.eq (.int .i64 (i:Int)))::yz bw bc bm [c0,c1,c2,c3,c4,c5] a0) (a4.put none undef) ⟨v4.toWorld,v4.A,fun b=>v4.Z b∨S2 b⟩:=by
   refine⟨S2,g1,g2,(hcs.trans g3.ez fun b hb=>.inl hb).trans (bp.rely (X:=ap []) (v:=ez v3) (v1:=ez v4) g3.dom hr4.ez) fun b hb=>.inl hb,⟨fun _ h=>by simp at h,fun _ hb=>(bW hb).elim,List.Pairwise.nil,fun _ hb=>(bW hb).elim,hO4.sees,hO4.domA,fun y hy=>hy.elim (hO4.domZ y) (hd4 y)⟩,fun s r hl=>?_⟩;have hs:s≠7:=fun e=>by subst e;simp [lk] at hl
   exact A.mono (fun _ h=>h) (fp g3.dom g5.sees hr4) r (g6 s r (by simp only [lk] at hl⊢;rw [if_neg (fun e=>hs e.symm)];exact hl))
  obtain⟨S6,st6,_,hback6⟩:=hI'.st (MW Tryz.prog (cU bw bc bm bk c0 c1 c2 c3 c4 c5 k a0) T);have hA4:=hA3.rely hr4;have hA6:yn bw bc bm bk ⟨v4.toWorld,v4.A,fun b=>v4.Z b∨S2 b⟩:=⟨hA4.m,hA4.w,hA4.c,hA4.k,fun h=>h.elim hA4.z fun h=>g5.sees _ h hA3.k⟩;refine eE (c:=pu (MW Tryz.prog (cU bw bc bm bk c0 c1 c2 c3 c4 c5 k a0) T) S6 ⟨v4.toWorld,v4.A,fun b=>v4.Z b∨S2 b⟩) (Q:=fun a w=>St (pu (MW Tryz.prog (cU bw bc bm bk c0 c1 c2 c3 c4 c5 k a0) T) S6 ⟨v4.toWorld,v4.A,fun b=>v4.Z b∨S2 b⟩) ((6,.eq (.int .i64 ((i+1:Nat):Int)))::yz bw bc bm [c0,c1,c2,c3,c4,c5] a0) [] a w) (nA rfl rfl) hb st6 ?_ fun a7 v7 st7=>next a7 v7 (hA6.st (c:=pu (MW Tryz.prog (cU bw bc bm bk c0 c1 c2 c3 c4 c5 k a0) T) S6 ⟨v4.toWorld,v4.A,fun b=>v4.Z b∨S2 b⟩) st7) (hback6 st7);refine ae ?_;refine bY rfl (bA rfl (q:=((i+1:Nat):Int)) (by unfold ck;rw [if_pos (by omega)];congr 1)) ⟨rfl,rfl,trivial⟩ ?_;refine gU rfl rfl ?_;refine be (ax ?_);exact jd (junk:=[]) (by repeat (first |exact trivial |refine⟨rfl,?_⟩)) um
theorem Ek(hok:(cU bw bc bm bk c0 c1 c2 c3 c4 c5 k a0).Ok){Φ:Nat}(hb:b.roundOf=none)(hbk:b.kind≠.early)
 (next:∀a' v',yn bw bc bm bk v'→NI v0 S0 (yz bw bc bm [c0,c1,c2,c3,c4,c5] a0) a' v'→Ww Tryz.prog (cU bw bc bm bk c0 c1 c2 c3 c4 c5 k a0) T true (sS Φ 4 false false) v' (b.atR a' kk) cs):∀(r i:Nat),i+r=4→∀(al jn:Bool),(jn=true→al=true)→(i=4→al=false∧jn=false)→∀(a:Act) (v:VW),yn bw bc bm bk v→NI v0 S0 ((6,.eq (.int .i64 (i:Int)))::yz bw bc bm [c0,c1,c2,c3,c4,c5] a0) a v→
 Ww Tryz.prog (cU bw bc bm bk c0 c1 c2 c3 c4 c5 k a0) T true (sS Φ i al jn) v (b.atR a (.code Jo:: .inLoop Jo:: .inBlock 0::kk)) cs:=fun r=>by
 induction r with
 |zero=>
  intro i hi al jn hjn h4 a v hA hI
  obtain rfl:i=4:=by omega
  obtain⟨rfl,rfl⟩:=h4 rfl
  have B:BC Tryz.prog (Ww Tryz.prog (cU bw bc bm bk c0 c1 c2 c3 c4 c5 k a0) T true (sS Φ 4 false false)):=mi rfl rfl
  obtain⟨S,st,_,hback⟩:=hI.st (MW Tryz.prog (cU bw bc bm bk c0 c1 c2 c3 c4 c5 k a0) T)
  refine B.move (fun _ _=>dB) ?_
  refine eE (c:=pu (MW Tryz.prog (cU bw bc bm bk c0 c1 c2 c3 c4 c5 k a0) T) S v) (Q:=fun a w=>St (pu (MW Tryz.prog (cU bw bc bm bk c0 c1 c2 c3 c4 c5 k a0) T) S v) ((7,.eq (.bool false))::yz bw bc bm [c0,c1,c2,c3,c4,c5] a0) [] a w) (nA rfl rfl) hb st ?_ fun a1 v1 st1=>?_
  ·
   refine ae ?_
   refine bY rfl (bB rfl) ⟨rfl,rfl,trivial⟩ ?_
   refine be (ax ?_)
   rw [decide_eq_false (by omega)]
   exact jd (junk:=[]) (by repeat (first |exact trivial |refine⟨rfl,?_⟩)) um
  refine B.move (fun _ _=>dB) ?_
  refine B.move (fun _ _=>qo (t:=false) (ge st1 (s:=7) rfl)) ?_
  rw [if_neg (by decide)]
  refine B.move (fun _ _=>BL rfl) ?_
  exact next a1 v1 (hA.st (c:=pu (MW Tryz.prog (cU bw bc bm bk c0 c1 c2 c3 c4 c5 k a0) T) S v) st1) (hback st1.pop)
 |succ r ih=>
  intro i hi al jn hjn h4 a v hA hI
  refine FP hok hjn (by omega) hb hbk hA hI fun a' v' hA' hI'=>?_
  have B:BC Tryz.prog (Ww Tryz.prog (cU bw bc bm bk c0 c1 c2 c3 c4 c5 k a0) T true (sS Φ (i+1) false false)):=mi rfl rfl
  refine B.move (fun _ _=>rm) ?_
  exact ih (i+1) (by omega) false false (fun e=>e) (fun _=>⟨rfl,rfl⟩) a' v' hA' hI'
end
