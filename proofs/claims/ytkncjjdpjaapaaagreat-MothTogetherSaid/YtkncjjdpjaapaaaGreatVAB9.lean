import Derived.Test.YtkncjjdpjaapaaaGreatVAB8
import Derived.Test.YtkncjjdpjaapaaaGreatChecked
set_option linter.unusedSimpArgs false
set_option linter.unusedVariables false
set_option maxRecDepth 20000
set_option maxHeartbeats 4000000
namespace Go.Proofs.YtkncjjdpjaapaaaGreat
open K Go Go.Proofs Go.Conc Go.Conc.Lib
section
variable {p:Gp}{T:Tq}{mn:Bool}{s:Ph}{v0:VW}{cs:List Frame}
theorem LX{q:c9}{c:Nat}{se0:Option (Nat×Nat)}(hp:lL p mn (s.set { df:=1,tk:=1,phi:=c+5,se:=se0 }) q):(q.S=1∧q.L=0∧q.W=0∧1≤q.N)∨(q.S=0∧q.W=1):=by
 obtain⟨o,h1,⟨k1,k2,k3,k4,k5,k6⟩,hse,h2,h3,hN,hT⟩:=hp.mu;dsimp only at k2 k3 k4 k5 k6;omega
theorem Ji(hok:p.Ok)(hs:s.Run){v:VW}{c n0:Nat}{N d i:Nat}{Γ:Gv}{ops:Array Oper}{rest:List Nat}{k:List Item}{o:Oper}{x y:Operand}{df:List Deferred}{b:Frame}{ts:Array TypeId}(xx:Bool){dl:Int}(hdl:dl=cond xx (-11) (-7))(hn:0 < n0)(hx0:xx=false→2≤n0)
 (ho:ops[i]? =some o) (hop:o.op= .call { callee:=.value (.func 104),args:= #[x,y],argTypes:=ts }) (hx:ev Γ x=some (.pointer (some p.muA))) (hy:ev Γ y=some (.int .i32 dl))
 (h:∀v' u,Qt (WV v0 Tryz.prog p T mn (s.set { df:=1,hd:=1,phi:=c+4 })) v' b cs N df (.inRegion ops rest::k) ((d,u)::Γ))
 (hg:o.guard=none:=by exact rfl) (hd:o.dst=some d:=by exact rfl) (hN:Nat.blt d N=true:=by exact rfl) (hk:b.kind≠.early:=by exact fun h=>nomatch h):
 Qt (WV v0 Tryz.prog p T mn (s.set { df:=1,tk:=1,phi:=c+5,nb:=n0 })) v b cs N df (.inRegion ops (i::rest)::k) Γ:=by
 refine Ce hok hs rfl rfl ho hop Tryz.func104 (by kernel_rfl) (by kernel_rfl) (by kernel_rfl) (by kernel_rfl) hx hy (fun _=>{ df:=1,hd:=1,phi:=c+4 }) (fun _=>⟨rfl,rfl⟩) (Ol xx) (fun q hp=>?_) (fun v' q hp=>h v' _) hg hd hN hk
 obtain⟨g1,g2,g3,g4⟩:=ye hn hp
 have hN:q.N≤101:=by obtain⟨_,_,_,_,_,_,h,_⟩:=hp.mu;exact h
 refine⟨?_,⟨rfl,rfl,rfl,rfl,rfl,rfl⟩,rfl,Is hs hn hx0 hp⟩
 subst hdl
 simp only [c9.word]
 cases xx with
 |true=>dsimp only [cond];rw [wrap_i32_small _ (by omega) (by omega)];omega
 |false=>
  have:=hx0 rfl;dsimp only [cond];rw [wrap_i32_small _ (by omega) (by omega)];omega
theorem yB(hok:p.Ok)(hs:s.Run){v:VW}{c φ φ' nw:Nat}{ow:Nat}{st aw:Bool}{W it:Int}(hφ:φ' < φ)
 (hget:∀v',Qt (WV v0 Tryz.prog p T mn (s.set { df:=1,hd:=1,phi:=c+4 })) v' (base 103) cs 139 [] [.code jk] [(0,.pointer (some p.muA))])
 (hl:∀v' ow' φ',φ' < φ→nn ow' st true→Qt (WV v0 Tryz.prog p T mn (s.set (pY c true ow' φ'))) v' (base 103) cs 139 [] [.code ik,.inLoop ik,.inBlock 0,.code jk] (wN p W st true 0 ow')):
 Qt (WV v0 Tryz.prog p T mn (s.set { df:=1,tk:=1,phi:=c+5,se:=some (nw,φ') })) v (base 103) cs 139 [] (.code OC::Jj) (wN p W st aw it ow):=by
 have hT:Mv Tryz.prog p.Kf mn (WV v0 Tryz.prog p T mn (s.set { df:=1,tk:=1,phi:=c+5,se:=some (nw,φ') })):=bg hs.q
 refine Qt.seq hT ?_
 refine qr ?_
 refine Qt.op hT rfl (fG rfl rfl) ?_
 refine Qt.op hT rfl (bA (k:=0) rfl nc rfl) ?_
 refine uh hok hs rfl (Nat.zero_le _) rfl rfl Bo Tryz.isAgg21 rfl (MJ c) (fun q=>by unfold MJ;split <;> exact⟨rfl,rfl⟩) (fun q hp=>EZ hs (jY hp)) fun v2 q hp=>?_
 have hle:=jY hp
 have htk:=LX hp
 have hqf:q.f≤φ':=by obtain⟨_,_,_,h,_⟩:=hp.mu;exact(h _ _ rfl).1
 have hN:q.N≤101:=by obtain⟨_,_,_,_,_,_,h,_⟩:=hp.mu;exact h
 obtain⟨w1,w2,w3,w4⟩:=fM hle
 have hlt:q.word < 820:=by simp only [c9.word];omega
 clear hT
 generalize hw:q.word=wd at w1 w2 w3 w4 hlt
 obtain⟨x5,x1,x2,x4,x3,x7,o1,o2,o4,n2,s3⟩:=jU wd (by omega)
 by_cases hS:q.S=1
 ·
  rw [show MJ c q={ df:=1,tk:=1,phi:=c+5,nb:=q.N } from if_pos hS];have hT:Mv Tryz.prog p.Kf mn (WV v0 Tryz.prog p T mn (s.set { df:=1,tk:=1,phi:=c+5,nb:=q.N })):=bg hs.q;have hn:0 < q.N:=by omega
  refine qr ?_;refine Qt.seq hT (Qt.seq hT ?_);refine qr ?_;refine Qt.op hT rfl (aW (u:=.int .i32 4) rfl rfl rfl (j9 (x4.trans (by omega)))) ?_;refine Qt.op hT rfl (aW (u:=.bool true) rfl rfl rfl rfl) ?_;refine qr ?_;refine Qt.cond hT true ?_;refine Qt.seq hT (Qt.seq hT ?_);refine qr ?_;refine Qt.op hT rfl (aW (u:=.int .i32 0) rfl rfl rfl (j9 (x3.trans (by omega)))) ?_;refine Qt.op hT rfl (aW (u:=.bool false) rfl rfl rfl rfl) ?_;refine qr ?_;refine bZ hT rfl (dk rfl rfl) ?_;refine bZ hT rfl (kG (z:=(q.N:Nat)) rfl rfl rfl (by decide) (s3.trans (by rw [w4]))) ?_;refine bZ hT rfl (aW (u:=.bool false) rfl rfl rfl (by simp only [ii];rw [decide_eq_false (by omega)])) ?_;refine Qt.op hT rfl (dz rfl false rfl rfl) ?_;refine qr ?_;refine Qt.cond hT false (Qt.skip hT ?_);refine Qt.seq hT ?_;refine qr ?_;refine Qt.seq hT (Qt.seq hT ?_);refine qr ?_;refine Qt.op hT rfl (KP rfl rfl) ?_;refine qr ?_
  have last:∀(xx:Bool) (z4:Code),(xx=false→2≤q.N)→Qt (WV v0 Tryz.prog p T mn (s.set { df:=1,tk:=1,phi:=c+5,nb:=q.N })) v2 (base 103) cs 139 [] (.code R9:: .code z4::Jj) [(0,.pointer (some p.muA)),(9,.int .i32 (cond xx (-11) (-7)))]:=fun xx z4 hx=>by
   refine Qt.seq hT ?_;refine qr ?_;refine Qt.op hT rfl (fG rfl rfl) ?_;refine Qt.op hT rfl (bA (k:=0) rfl nc rfl) ?_;refine qr ?_;refine Ji hok hs xx rfl hn hx rfl rfl rfl rfl fun v3 u=>?_;replace hT:Mv Tryz.prog p.Kf mn (WV v0 Tryz.prog p T mn (s.set { df:=1,hd:=1,phi:=c+4 })):=bg hs.q;refine qr ?_;refine Qt.exit hT rfl ?_;exact Qt.base _ (hget v3)
  cases st with
  |true=>
   refine bZ hT rfl (dk rfl rfl) ?_;refine bZ hT rfl (kG (z:=(q.N:Nat)) rfl rfl rfl (by decide) (s3.trans (by rw [w4]))) ?_;refine bZ hT rfl (aW (u:=.bool (decide (q.N=1))) rfl rfl rfl (by simp only [ii];congr 2;apply decide_eq_decide.2;omega)) ?_;refine Qt.op hT rfl (dz rfl false rfl rfl) ?_;refine qr ?_;refine uo hT (decide (q.N=1)) [(0,.pointer (some p.muA)),(9,.int .i32 (cond (decide (q.N=1)) (-11) (-7)))] rfl (fun e hk=>?_) (fun e hk=>?_) ?_
   ·rw [e] at hk;refine qr ?_;refine Qt.op hT rfl (aW (u:=.int .i32 (-11)) rfl rfl rfl rfl) ?_;refine qr ?_;exact Qt.base _ hk
   ·rw [e] at hk;exact Qt.skip hT (Qt.base _ hk)
   exact last _ _ fun e=>by have:=of_decide_eq_false e;omega
  |false=>
   refine bJ hT rfl ?_;refine bJ hT rfl ?_;refine bJ hT rfl ?_;refine Qt.op hT rfl (dz rfl true rfl rfl) ?_;refine qr ?_;refine Qt.cond hT true ?_;refine qr ?_;refine Qt.op hT rfl (aW (u:=.int .i32 (-11)) rfl rfl rfl rfl) ?_;refine qr ?_;exact Qt.base _ (last true _ fun e=>by cases e)
 ·
  rw [show MJ c q=pY c true q.word q.f from if_neg hS,hw];have hT:Mv Tryz.prog p.Kf mn (WV v0 Tryz.prog p T mn (s.set (pY c true wd q.f))):=bg hs.q;refine qr ?_;refine Qt.seq hT (Qt.seq hT ?_);refine qr ?_;refine Qt.op hT rfl (aW (u:=.int .i32 0) rfl rfl rfl (j9 (x4.trans (by omega)))) ?_;refine Qt.op hT rfl (aW (u:=.bool false) rfl rfl rfl rfl) ?_;refine qr ?_;refine Qt.cond hT false (Qt.skip hT ?_);refine Qt.seq hT ?_;refine qr ?_;refine Qt.inBlock hT (Qt.inLoop hT ?_);exact Qt.base _ (hl v2 wd q.f (by omega) ⟨hlt,fun _=>rfl,fun _=>by omega⟩)
theorem yC(hok:p.Ok)(hs:s.Run){v:VW}{c φ φ' nw:Nat}{ow:Nat}{st aw z:Bool}{W it:Int}(hφ:φ' < φ)
 (hget:∀v',Qt (WV v0 Tryz.prog p T mn (s.set { df:=1,hd:=1,phi:=c+4 })) v' (base 103) cs 139 [] [.code jk] [(0,.pointer (some p.muA))])
 (hl:∀v' st' ow' φ',φ' < φ→nn ow' st' true→Qt (WV v0 Tryz.prog p T mn (s.set (pY c true ow' φ'))) v' (base 103) cs 139 [] [.code ik,.inLoop ik,.inBlock 0,.code jk] (wN p W st' true 0 ow')):
 Qt (WV v0 Tryz.prog p T mn (s.set { df:=1,qu:=1,phi:=c+4,se:=some (nw,φ') })) v (base 103) cs 139 [] (.code OD::Jj) ((8,.bool z)::wN p W st aw it ow):=by
 have hT:Mv Tryz.prog p.Kf mn (WV v0 Tryz.prog p T mn (s.set { df:=1,qu:=1,phi:=c+4,se:=some (nw,φ') })):=bg hs.q
 refine Qt.seq hT ?_
 refine qr ?_
 refine Qt.op hT rfl (fG rfl rfl) ?_
 refine Qt.op hT rfl (bA (k:=1) rfl Gh rfl) ?_
 refine qr ?_
 refine J6 hok hs rfl rfl rfl rfl rfl Tryz.func116 (by kernel_rfl) (by kernel_rfl) (by kernel_rfl) (by kernel_rfl) rfl { df:=1,tk:=1,phi:=c+5,se:=some (nw,φ') } ⟨rfl,rfl⟩ (fun q hp hq=>LF hs hq) fun v1=>?_
 replace hT:Mv Tryz.prog p.Kf mn (WV v0 Tryz.prog p T mn (s.set { df:=1,tk:=1,phi:=c+5,se:=some (nw,φ') })):=bg hs.q
 refine qr ?_
 refine Qt.seq hT ?_
 refine qr ?_
 cases st with
 |true=>
  refine bJ hT rfl ?_;refine bJ hT rfl ?_;refine bJ hT rfl ?_;refine bJ hT rfl ?_;refine Qt.op hT rfl (dz rfl true rfl rfl) ?_;refine qr ?_;exact Qt.base _ (yB (st:=true) hok hs hφ hget fun v' ow' φ'=>hl v' true ow' φ')
 |false=>
  refine Fj hs (fun a ha=>EK ha rfl rfl rfl rfl) rfl rfl fun v2 n=>?_;refine bZ hT rfl (dk rfl rfl) ?_;refine bZ hT rfl (aW rfl rfl rfl rfl) ?_;refine bZ hT rfl (aW rfl rfl rfl rfl) ?_;refine Qt.op hT rfl (dz rfl false rfl rfl) ?_;refine qr ?_;exact Qt.base _ (yB (st:=_) hok hs hφ hget fun v' ow' φ'=>hl v' _ ow' φ')
theorem Je(hok:p.Ok)(hs:s.Run){v:VW}{c φ φ' nw:Nat}{ow:Nat}{st aw:Bool}{W it:Int}(hφ:φ' < φ)
 (hget:∀v',Qt (WV v0 Tryz.prog p T mn (s.set { df:=1,hd:=1,phi:=c+4 })) v' (base 103) cs 139 [] [.code jk] [(0,.pointer (some p.muA))])
 (hl:∀v' W' st' ow' φ',φ' < φ→nn ow' st' true→Qt (WV v0 Tryz.prog p T mn (s.set (pY c true ow' φ'))) v' (base 103) cs 139 [] [.code ik,.inLoop ik,.inBlock 0,.code jk] (wN p W' st' true 0 ow')):
 Qt (WV v0 Tryz.prog p T mn (s.set { df:=1,qu:=1,phi:=c+4,se:=some (nw,φ') })) v (base 103) cs 139 [] (.code Qz::Jj) (wN p W st aw it ow):=by
 have hT:Mv Tryz.prog p.Kf mn (WV v0 Tryz.prog p T mn (s.set { df:=1,qu:=1,phi:=c+4,se:=some (nw,φ') })):=bg hs.q
 refine Qt.seq hT ?_
 refine qr ?_
 refine Qt.op hT rfl (aW rfl rfl rfl rfl) ?_
 refine qr ?_
 refine Qt.seq hT (Qt.seq hT ?_)
 refine qr ?_
 refine Qt.op hT rfl (aW rfl rfl rfl rfl) ?_
 refine qr ?_
 by_cases h0:W=0
 ·
  refine Qt.cond hT true ?_ (congrArg (fun z=>some (Value.bool z)) (decide_eq_true h0));refine qr ?_;refine Fj hs (fun a ha=>ae rfl _) rfl rfl fun v2 n=>?_;refine qr ?_;exact Qt.base _ (yC hok hs hφ hget fun v' st' ow' φ'=>hl v' n st' ow' φ')
 ·
  refine Qt.cond hT false ?_ (congrArg (fun z=>some (Value.bool z)) (decide_eq_false h0));refine Qt.skip hT ?_;exact Qt.base _ (yC hok hs hφ hget fun v' st' ow' φ'=>hl v' W st' ow' φ')
end
end Go.Proofs.YtkncjjdpjaapaaaGreat
set_option linter.unusedVariables false
set_option maxRecDepth 20000
set_option maxHeartbeats 4000000
namespace Go.Proofs.YtkncjjdpjaapaaaGreat
open K Go Go.Proofs Go.Conc Go.Conc.Lib
section
variable {p:Gp}{T:Tq}{mn:Bool}{s:Ph}{v0:VW}{cs:List Frame}
abbrev Ap(v0:VW)(p:Gp)(T:Tq)(mn:Bool)(s:Ph)(cs:List Frame)(c:Nat)(v:VW)(W:Int)(st aw:Bool)(it:Int)(ow φ:Nat):Prop:=
 Qt (WV v0 Tryz.prog p T mn (s.set (pY c aw ow φ))) v (base 103) cs 139 [] [.code ik,.inLoop ik,.inBlock 0,.code jk] (wN p W st aw it ow)
theorem qH(hok:p.Ok)(hs:s.Run){v:VW}{c ow1 φ1 ow:Nat}{st aw:Bool}{W it:Int}{X:Code}(h0:0≤it)(h4:it < 4)(hst:st=true→aw=true)
 (hl:∀v' ow' φ',φ'≤φ1→nn ow' st aw→Ap v0 p T mn s cs c v' W st aw (it+1) ow' φ'):
 Qt (WV v0 Tryz.prog p T mn (s.set (pY c aw ow1 φ1))) v (base 103) cs 139 [] (.code R7:: .code X::Jj) (wN p W st aw it ow):=by
 have hT:Mv Tryz.prog p.Kf mn (WV v0 Tryz.prog p T mn (s.set (pY c aw ow1 φ1))):=bg hs.q
 refine Qt.seq hT ?_
 refine qr ?_
 refine um hT I1 rfl rfl ?_
 refine qr ?_
 refine Qt.seq hT ?_
 refine qr ?_
 refine Qt.op hT rfl (aW (u:=.int .i64 (it+1)) rfl rfl rfl (by simp only [ii];rw [IntKind.wrap_i64];congr 2;omega)) ?_
 refine qr ?_
 refine Qt.seq hT ?_
 refine qr ?_
 refine Qt.op hT rfl (fG rfl rfl) ?_
 refine Qt.op hT rfl (bA (k:=0) rfl nc rfl) ?_
 refine wM hok hs rfl rfl rfl rfl fun v2 ow2 φ2 g1 g2 g3=>?_
 replace hT:Mv Tryz.prog p.Kf mn (WV v0 Tryz.prog p T mn (s.set (pY c aw ow2 φ2))):=bg hs.q
 refine qr ?_
 refine Qt.exit hT rfl (Qt.inLoop hT ?_)
 exact Qt.base _ (hl v2 ow2 φ2 (g1 _ _ rfl) ⟨g2,hst,g3⟩)
theorem Jg(hok:p.Ok)(hs:s.Run){v:VW}{c ow φ:Nat}{st aw:Bool}{W it:Int}{X:Code}(ho:nn ow st aw)(h0:0≤it)(h4:it < 4)(hL:ow % 2=1)(hS:ow / 4 % 2=0)
 (hl:∀v' aw' ow' φ',φ'≤φ→nn ow' st aw'→Ap v0 p T mn s cs c v' W st aw' (it+1) ow' φ') {C1:Code} (hC:∃r5 C2,ik= .block 1 (.seq (.seq r5 (.cond (.tmp 20) C1 .skip)) C2)):
 Qt (WV v0 Tryz.prog p T mn (s.set (pY c aw ow φ))) v (base 103) cs 139 [] (.code C1:: .code X::Jj) (wN p W st aw it ow):=by
 obtain⟨r5,C2,hC⟩:=hC
 have hC1:C1=match ik with
  | .block _ (.seq (.seq _ (.cond _ s _)) _)=>s
  |_=>.skip:=by rw [hC]
 subst hC1
 clear hC
 have hT:Mv Tryz.prog p.Kf mn (WV v0 Tryz.prog p T mn (s.set (pY c aw ow φ))):=bg hs.q
 have hlt:=ho.lt
 obtain⟨x5,x1,x2,x4,x3,x7,o1,o2,o4,n2,s3⟩:=jU ow (by omega)
 refine Qt.seq hT (Qt.seq hT ?_)
 refine qr ?_
 refine Qt.op hT rfl (KP rfl rfl) ?_
 refine qr ?_
 cases aw with
 |true=>
  refine bJ hT rfl ?_;refine bJ hT rfl ?_;refine bJ hT rfl ?_;refine Qt.op hT rfl (dz rfl false rfl rfl) ?_;refine qr ?_;refine bJ hT rfl ?_;refine bJ hT rfl ?_;refine bJ hT rfl ?_;refine Qt.op hT rfl (dz rfl false rfl rfl) ?_;refine qr ?_;refine bJ hT rfl ?_;refine bJ hT rfl ?_;refine bJ hT rfl ?_;refine bJ hT rfl ?_;refine bJ hT rfl ?_;refine bJ hT rfl ?_;refine bJ hT rfl ?_;refine Qt.op hT rfl (dz rfl false rfl rfl) ?_;refine qr ?_;refine Qt.cond hT false (Qt.skip hT ?_);exact Qt.base _ (qH hok hs h0 h4 ho.st fun v' ow' φ' hφ hw=>hl v' true ow' φ' hφ hw)
 |false=>
  refine bZ hT rfl (dk rfl rfl) ?_;by_cases hW:ow / 2 % 2=0
  ·refine bZ hT rfl (aW (u:=.int .i32 0) rfl rfl rfl (j9 (x2.trans (by omega)))) ?_;refine bZ hT rfl (aW (u:=.bool true) rfl rfl rfl rfl) ?_;refine Qt.op hT rfl (dz rfl true rfl rfl) ?_;refine qr ?_;refine bZ hT rfl (dk rfl rfl) ?_;refine bZ hT rfl (kG (z:=(ow / 8:Nat)) rfl rfl rfl (by decide) s3) ?_;by_cases hN:ow / 8=0
   ·refine bZ hT rfl (aW (u:=.bool false) rfl rfl rfl (by simp only [ii];rw [decide_eq_true (by omega)];rfl)) ?_;refine Qt.op hT rfl (dz rfl true rfl rfl) ?_;refine qr ?_;refine bJ hT rfl ?_;refine bJ hT rfl ?_;refine bJ hT rfl ?_;refine bJ hT rfl ?_;refine bJ hT rfl ?_;refine bJ hT rfl ?_;refine bJ hT rfl ?_;refine Qt.op hT rfl (dz rfl false rfl rfl) ?_;refine qr ?_;refine Qt.cond hT false (Qt.skip hT ?_);exact Qt.base _ (qH hok hs h0 h4 ho.st fun v' ow' φ' hφ hw=>hl v' false ow' φ' hφ hw)
   ·refine bZ hT rfl (aW (u:=.bool true) rfl rfl rfl (by simp only [ii];rw [decide_eq_false (by omega)];rfl)) ?_;refine Qt.op hT rfl (dz rfl true rfl rfl) ?_;refine qr ?_;refine bZ hT rfl (dk rfl rfl) ?_;refine bZ hT rfl (fG rfl rfl) ?_;refine bZ hT rfl (bA (k:=0) rfl nc rfl) ?_;refine bZ hT rfl (dk rfl rfl) ?_;refine bZ hT rfl (dk rfl rfl) ?_;refine bZ hT rfl (aW (u:=.int .i32 ((ow+2:Nat):Int)) rfl rfl rfl (j9 (o2.trans (by omega)))) ?_
    refine ta hok hs rfl rfl (Nat.le_of_ble_eq_true rfl) rfl (ow:=ow) (nw:=ow+2) rfl rfl (fun a ha=>EK ha rfl rfl rfl rfl) Tryz.func102 (by kernel_rfl) (by kernel_rfl) (by kernel_rfl) (by kernel_rfl) rfl rfl rfl
     (fun φ'=>pY c true (ow+2) φ') (fun x=>⟨rfl,rfl⟩) (fun q=>{ q with W:=1,f:=q.f - 1 }) (fun q hp e=>?_) (fun v' φ' hφ=>?_) fun v' ow' φ' hφ=>?_
    ·have hf:=vl hp;have hf:0 < q.f:=by revert hf;dsimp only [cond];omega
     have hle:=jY hp;obtain⟨w1,w2,w3,w4⟩:=fM hle;rw [e] at w1 w2 w3 w4;refine⟨?_,⟨rfl,rfl,rfl,rfl,rfl,rfl⟩,rfl,by show q.f - 1 < q.f;omega,Ir hs e hL hW hS hle hf⟩;subst e;simp only [c9.word] at *;omega
    ·have hφ:=hφ φ rfl;replace hT:Mv Tryz.prog p.Kf mn (WV v0 Tryz.prog p T mn (s.set (pY c true (ow+2) φ'))):=bg hs.q;refine Qt.op hT rfl (dz rfl true rfl rfl) ?_;refine qr ?_;refine Qt.cond hT true ?_;refine qr ?_;exact Qt.base _ (qH (aw:=true) hok hs h0 h4 (fun _=>rfl) fun v' ow' φ2 hφ2 hw=>hl v' true ow' φ2 (by omega) hw)
    ·have hφ:=hφ φ rfl;replace hT:Mv Tryz.prog p.Kf mn (WV v0 Tryz.prog p T mn (s.set (pY c false ow' φ'))):=bg hs.q;refine Qt.op hT rfl (dz rfl true rfl rfl) ?_;refine qr ?_;refine Qt.cond hT false (Qt.skip hT ?_);exact Qt.base _ (qH (aw:=false) hok hs h0 h4 ho.st fun v' ow' φ2 hφ2 hw=>hl v' false ow' φ2 (by omega) hw)
  ·refine bZ hT rfl (aW (u:=.int .i32 2) rfl rfl rfl (j9 (x2.trans (by omega)))) ?_;refine bZ hT rfl (aW (u:=.bool false) rfl rfl rfl rfl) ?_;refine Qt.op hT rfl (dz rfl true rfl rfl) ?_;refine qr ?_;refine bJ hT rfl ?_;refine bJ hT rfl ?_;refine bJ hT rfl ?_;refine Qt.op hT rfl (dz rfl false rfl rfl) ?_;refine qr ?_;refine bJ hT rfl ?_;refine bJ hT rfl ?_;refine bJ hT rfl ?_;refine bJ hT rfl ?_;refine bJ hT rfl ?_;refine bJ hT rfl ?_;refine bJ hT rfl ?_;refine Qt.op hT rfl (dz rfl false rfl rfl) ?_;refine qr ?_;refine Qt.cond hT false (Qt.skip hT ?_);exact Qt.base _ (qH hok hs h0 h4 ho.st fun v' ow' φ' hφ hw=>hl v' false ow' φ' hφ hw)
theorem Bw(hok:p.Ok)(hs:s.Run){v:VW}{c ow φ:Nat}{st aw:Bool}{W it:Int}(hget:∀v',Qt (WV v0 Tryz.prog p T mn (s.set { df:=1,hd:=1,phi:=c+4 })) v' (base 103) cs 139 [] [.code jk] [(0,.pointer (some p.muA))])
 (ho:nn ow st aw) (h0:0≤it) (hsp:it < 4→∀v' aw' ow' φ',φ'≤φ→nn ow' st aw'→Ap v0 p T mn s cs c v' W st aw' (it+1) ow' φ')
 (hlow:∀v' W' st' aw' it' ow' φ',φ' < φ→0≤it'→nn ow' st' aw'→Ap v0 p T mn s cs c v' W' st' aw' it' ow' φ'):Ap v0 p T mn s cs c v W st aw it ow φ:=by
 have hT:Mv Tryz.prog p.Kf mn (WV v0 Tryz.prog p T mn (s.set (pY c aw ow φ))):=bg hs.q
 have hlt:=ho.lt
 obtain⟨x5,x1,x2,x4,x3,x7,o1,o2,o4,n2,s3⟩:=jU ow (by omega)
 have on:∀v',Qt (WV v0 Tryz.prog p T mn (s.set (pY c aw ow φ))) v' (base 103) cs 139 [] (.code P6::Jj) (wN p W st aw it ow):=fun v'=>
  MH hs ho v' (Jd hok hs ho hget (fun v2 φ' hφ=>Je hok hs hφ hget fun v3 W' st' ow' φ2 h hw=>hlow v3 W' st' true 0 ow' φ2 h (Int.le_refl _) hw) fun v2 ow' φ' hφ hw=>hlow v2 W st aw it ow' φ' hφ h0 hw)
 refine Qt.block hT (Qt.seq hT (Qt.seq hT ?_))
 refine qr ?_
 refine Qt.op hT rfl (aW (u:=.int .i32 ((ow % 2+4 * (ow / 4 % 2):Nat):Int)) rfl rfl rfl (j9 x5)) ?_
 by_cases hc:ow % 2=1∧ow / 4 % 2=0
 ·
  refine Qt.op hT rfl (aW (u:=.bool true) rfl rfl rfl (by simp only [ii];rw [decide_eq_true (by omega)])) ?_;refine qr ?_;refine bZ hT rfl (dk rfl rfl) ?_;refine LR hs (fun a ha=>EK ha rfl rfl rfl rfl) rfl rfl rfl fun v1 u hu=>?_;refine Qt.op hT rfl (dz rfl true rfl rfl) ?_;refine qr ?_;cases u with
  |true=>
   refine Qt.cond hT true ?_;exact Qt.base _ (Jg hok hs ho h0 (hu rfl) hc.1 hc.2 (hsp (hu rfl)) ⟨_,_,rfl⟩)
  |false=>
   refine Qt.cond hT false (Qt.skip hT ?_);exact Qt.base _ (on v1)
 ·
  refine Qt.op hT rfl (aW (u:=.bool false) rfl rfl rfl (by simp only [ii];rw [decide_eq_false (by omega)])) ?_;refine qr ?_;refine bJ hT rfl ?_;refine bJ hT rfl ?_;refine Qt.op hT rfl (dz rfl false rfl rfl) ?_;refine qr ?_;refine Qt.cond hT false (Qt.skip hT ?_);exact Qt.base _ (on v)
theorem Jh(hok:p.Ok)(hs:s.Run){c:Nat}(hget:∀v',Qt (WV v0 Tryz.prog p T mn (s.set { df:=1,hd:=1,phi:=c+4 })) v' (base 103) cs 139 [] [.code jk] [(0,.pointer (some p.muA))]):
 ∀(φ n:Nat) (v:VW) (W:Int) (st aw:Bool) (it:Int) (ow:Nat),0≤it→4≤it+n→nn ow st aw→Ap v0 p T mn s cs c v W st aw it ow φ:=by
 intro φ
 induction φ using Nat.strongRecOn with
 |_ φ ih=>
  have low:∀v' W' st' aw' it' ow' φ',φ' < φ→0≤it'→nn ow' st' aw'→Ap v0 p T mn s cs c v' W' st' aw' it' ow' φ':=fun v' W' st' aw' it' ow' φ' h h0 hw=>ih φ' h 4 v' W' st' aw' it' ow' h0 (by omega) hw;intro n
  induction n with
  |zero=>
   intro v W st aw it ow h0 hn ho;exact Bw hok hs hget ho h0 (fun h=>by omega) low
  |succ n ihn=>
   intro v W st aw it ow h0 hn ho;refine Bw hok hs hget ho h0 (fun h v' aw' ow' φ' hφ hw=>?_) low;rcases Nat.lt_or_ge φ' φ with h1 |h1
   ·exact low v' W st aw' (it+1) ow' φ' h1 (by omega) hw
   ·have:φ'=φ:=by omega
    subst this;exact ihn v' W st aw' (it+1) ow' (by omega) (by omega) hw
theorem Jf(hok:p.Ok)(hs:s.Run){c:Nat}{c1:Frame}{cs:List Frame}(hk:∀v',GV v0 Tryz.prog p T mn (s.set { hd:=1,dt:=1,phi:=c+4 }) v' (c1.finish (.tuple #[])) cs)(v:VW):
 Qt (WV v0 Tryz.prog p T mn (s.set { df:=1,hd:=1,phi:=c+4 })) v (base 103) (c1::cs) 139 [] [.code jk] [(0,.pointer (some p.muA))]:=by
 have hT:Mv Tryz.prog p.Kf mn (WV v0 Tryz.prog p T mn (s.set { df:=1,hd:=1,phi:=c+4 })):=bg hs.q
 refine Qt.cond hT true ?_
 refine Qt.seq hT ?_
 refine qr ?_
 refine gW (ui (l:={ df:=1,hd:=1,phi:=c+4 }) (l':={ hd:=1,phi:=c+4 }) hok hs (.inr rfl) rfl rfl) Gi rfl rfl ?_
 replace hT:Mv Tryz.prog p.Kf mn (WV v0 Tryz.prog p T mn (s.set { hd:=1,phi:=c+4 })):=bg hs.q
 refine qr ?_
 refine Qt.op hT rfl (jD rfl (qZ (n:=1) Tryz.underlying164 Tryz.underlying152 Tryz.sizeOf104) rfl) ?_
 refine Cf hok hs Gk rfl rfl rfl fun v1=>?_
 replace hT:Mv Tryz.prog p.Kf mn (GV v0 Tryz.prog p T mn (s.set { hd:=1,dt:=1,phi:=c+4 })):=qW hs.q
 refine qr ?_
 exact Qt.fin hT (dh hT rfl Tryz.func103 rfl (hk v1))
end
section
variable {p:Gp}{T:Tq}{mn:Bool}{s:Ph}{v0:VW}{cs:List Frame}{c1:Frame}
theorem yA(hok:p.Ok)(hs:s.Run){c:Nat}(hk:∀v',GV v0 Tryz.prog p T mn (s.set { hd:=1,dt:=1,phi:=c+4 }) v' (c1.finish (.tuple #[])) cs)(v:VW):
 Qt (WV v0 Tryz.prog p T mn (s.set { phi:=c+6 })) v (base 53) (c1::cs) 6 [] [.code (Tryz.f53.body.getD .skip)] (ent 0 [.pointer (some p.muA)]):=by
 have hT:Mv Tryz.prog p.Kf mn (WV v0 Tryz.prog p T mn (s.set { phi:=c+6 })):=bg hs.q
 refine qr ?_
 refine Qt.op hT rfl (fG rfl rfl) ?_
 refine Qt.op hT rfl (bA (k:=0) rfl Gg rfl) ?_
 refine Qt.call (cL:=[.pointer (some p.muA)]) hT rfl rfl Tryz.func74 (by kernel_rfl) rfl rfl fun c2 hk2=>?_
 have out:∀v'',GV v0 Tryz.prog p T mn (s.set { hd:=1,dt:=1,phi:=c+4 }) v'' (c2.finish (.tuple #[])) (c1::cs):=fun v''=>by
  have hT:Mv Tryz.prog p.Kf mn (GV v0 Tryz.prog p T mn (s.set { hd:=1,dt:=1,phi:=c+4 })):=qW hs.q;exact hk2 _ v'' _ (qr (Qt.fin hT (dh hT rfl Tryz.func53 rfl (hk v''))))
 refine Qt.seq hT ?_
 refine qr ?_
 refine gW (ui (l:={ phi:=c+6 }) (l':={ df:=1,phi:=c+6 }) hok hs (.inl rfl) rfl rfl) Gj rfl rfl ?_
 replace hT:Mv Tryz.prog p.Kf mn (WV v0 Tryz.prog p T mn (s.set { df:=1,phi:=c+6 })):=bg hs.q
 refine qr ?_
 refine Qt.seq hT (Qt.seq hT ?_)
 refine qr ?_
 refine Qt.op hT rfl (fG rfl rfl) ?_
 refine Qt.op hT rfl (bA (k:=0) rfl nc rfl) ?_
 refine ta hok hs rfl rfl (Nat.le_of_ble_eq_true rfl) rfl (ow:=0) (nw:=1) rfl rfl (fun a ha=>ae rfl _) Tryz.func102 (by kernel_rfl) (by kernel_rfl) (by kernel_rfl) (by kernel_rfl) rfl rfl rfl
  (fun φ'=>{ df:=1,hd:=1,phi:=c+4 }) (fun x=>⟨rfl,rfl⟩) (fun q=>{ q with L:=1,f:=q.f - 1 }) (fun q hp e=>?_) (fun v' φ' hφ=>?_) fun v' ow' φ' hφ=>?_
 ·
  have hf:=vl hp;have hf:0 < q.f:=by revert hf;dsimp only;omega
  refine⟨?_,⟨rfl,rfl,rfl,rfl,rfl,rfl⟩,rfl,by show q.f - 1 < q.f;omega,Iy (φ:=0) hs e hf⟩;simp only [c9.word] at e⊢;omega
 ·
  replace hT:Mv Tryz.prog p.Kf mn (WV v0 Tryz.prog p T mn (s.set { df:=1,hd:=1,phi:=c+4 })):=bg hs.q;refine qr ?_;refine Qt.cond hT true ?_;refine Qt.seq hT (Qt.cond hT true ?_);refine Qt.seq hT ?_;refine qr ?_;refine gW (ui (l:={ df:=1,hd:=1,phi:=c+4 }) (l':={ hd:=1,phi:=c+4 }) hok hs (.inr rfl) rfl rfl) Gi rfl rfl ?_;replace hT:Mv Tryz.prog p.Kf mn (WV v0 Tryz.prog p T mn (s.set { hd:=1,phi:=c+4 })):=bg hs.q;refine qr ?_;refine Qt.op hT rfl (jD rfl (qZ (n:=1) Tryz.underlying164 Tryz.underlying152 Tryz.sizeOf104) rfl) ?_;refine Cf hok hs Gk rfl rfl rfl fun v1=>?_;replace hT:Mv Tryz.prog p.Kf mn (GV v0 Tryz.prog p T mn (s.set { hd:=1,dt:=1,phi:=c+4 })):=qW hs.q;refine qr ?_;exact Qt.ret hT (dh hT rfl Tryz.func74 rfl (out v1))
 ·
  replace hT:Mv Tryz.prog p.Kf mn (WV v0 Tryz.prog p T mn (s.set { df:=1,phi:=c+6,se:=some (ow',φ') })):=bg hs.q;refine qr ?_;refine Qt.cond hT false (Qt.skip hT ?_);refine qr ?_;refine Qt.call (cL:=[.pointer (some p.muA)]) hT rfl rfl Tryz.func103 (by kernel_rfl) rfl rfl fun c3 hk3=>?_
  have hget:=fun v'=>Jf (v0:=v0) (p:=p) (T:=T) (mn:=mn) (c:=c) hok hs (c1:=c3) (cs:=c2::c1::cs) (fun v''=>by
   have hT:Mv Tryz.prog p.Kf mn (GV v0 Tryz.prog p T mn (s.set { hd:=1,dt:=1,phi:=c+4 })):=qW hs.q;exact hk3 _ v'' _ (qr (Qt.fin hT (dh hT rfl Tryz.func74 rfl (out v''))))) v'
  refine Qt.seq hT ?_;refine qr ?_;refine Qt.seq hT ?_;refine qr ?_;refine Qt.seq hT ?_;refine qr ?_;refine Qt.seq hT ?_;refine qr ?_;refine Qt.seq hT ?_;refine qr ?_;refine Qt.op hT rfl (fG rfl rfl) ?_;refine Qt.op hT rfl (bA (k:=0) rfl nc rfl) ?_;refine wM (aw:=false) hok hs rfl rfl rfl rfl fun v2 ow2 φ2 g1 g2 g3=>?_;replace hT:Mv Tryz.prog p.Kf mn (WV v0 Tryz.prog p T mn (s.set (pY c false ow2 φ2))):=bg hs.q;refine qr ?_;refine Qt.seq hT (Qt.block hT (Qt.loop hT ?_));exact Qt.base _ (Jh hok hs hget φ2 4 v2 0 false false 0 ow2 (Int.le_refl _) (by decide) ⟨g2,fun e=>(by cases e),fun e=>(by cases e)⟩)
end
end Go.Proofs.YtkncjjdpjaapaaaGreat
set_option linter.unusedVariables false
set_option maxRecDepth 20000
set_option maxHeartbeats 4000000
namespace Go.Proofs.YtkncjjdpjaapaaaGreat
open K Go Go.Proofs Go.Conc Go.Conc.Lib
noncomputable def wh:Code:=match Tryz.f105.body with
 |some (.seq _ (.seq _ (.cond _ (.seq _ (.block _ (.loop b))) _)))=>b
 |_=>.skip
@[reducible] def RB(p:Gp)(ow:Nat):Gv:=[(0,.pointer (some p.muA)),(4,.int .i32 (ow:Int))]
section
variable {p:Gp}{T:Tq}{mn:Bool}{s:Ph}{v0:VW}{cs:List Frame}{c1:Frame}
theorem HO(hs:s.Run){v:VW}{b:Frame}(hb:(Tryz.prog.funcs[b.fn]?).any (·.norace)=true){l:qc}{N d i:Nat}{Γ:Gv}{ops:Array Oper}{rest:List Nat}{k:List Item}{o:Oper}{x:Operand}{df:List Deferred}
 (ho:ops[i]? =some o) (hop:o.op= .load 21 x) (hx:ev Γ x=some (.pointer (some p.muA)))
 (h:∀v' u,Qt (GV v0 Tryz.prog p T mn (s.set l)) v' b cs N df (.inRegion ops rest::k) ((d,u)::Γ))
 (hg:o.guard=none:=by exact rfl) (hd:o.dst=some d:=by exact rfl) (hN:Nat.blt d N=true:=by exact rfl) (hk:b.kind≠.early:=by exact fun h=>nomatch h):
 Qt (GV v0 Tryz.prog p T mn (s.set l)) v b cs N df (.inRegion ops (i::rest)::k) Γ:=fun a ha hv hA hR=>
 Ww.own hs.q fun v1 hr hkf=>by
  obtain⟨u,y,hm⟩:=hkf.mu
  have hc:v1.toWorld.cell? p.muA=some u:=by simp [World.cell?,Gp.muA,hm]
  have:=BG (P:=Tryz.prog) (main:=mn) (w:=v1.toWorld) (b:=b) (cs:=cs) (k:=k) (rest:=rest) ho (ae hg _) hk hop hb Tryz.isAgg21 (ha.ev hx) hc
  rw [hd] at this
  refine⟨_,_,v1.toWorld, #[],this,(dW.refl v1).k,fun _=>rfl,h v1 u _ (ha.put hN) (hv.rely hr) (fun e=>hA ((hr.old _ e).elim id fun x=>by have:=hv.2.2;omega)) ?_⟩
  obtain⟨o,ho,hro⟩:=hR
  exact⟨o,(hr.keep _ hv.2.2 hA).trans ho,hro⟩
theorem EP(hs:s.Run){c ow:Nat}(hlt:ow < 820)(h:ow / 8=0∨ow % 8≠0)(hk:∀v',WV v0 Tryz.prog p T mn (s.set { df:=1,phi:=c }) v' (c1.finish (.tuple #[])) cs)(v:VW):
 Qt (WV v0 Tryz.prog p T mn (s.set { df:=1,phi:=c })) v (base 105) (c1::cs) 43 [] [.code wh,.inLoop wh,.inBlock 0] (RB p ow):=by
 have hT:Mv Tryz.prog p.Kf mn (WV v0 Tryz.prog p T mn (s.set { df:=1,phi:=c })):=bg hs.q
 obtain⟨x5,x1,x2,x4,x3,x7,o1,o2,o4,n2,s3⟩:=jU ow (by omega)
 refine Qt.block hT (Qt.seq hT (Qt.seq hT ?_))
 refine qr ?_
 refine Qt.op hT rfl (kG (z:=(ow / 8:Nat)) rfl rfl rfl (by decide) s3) ?_
 by_cases h0:ow / 8=0
 ·
  refine Qt.op hT rfl (aW (u:=.bool true) rfl rfl rfl (by simp only [ii];rw [decide_eq_true (by omega)])) ?_;refine qr ?_;refine bJ hT rfl ?_;refine bJ hT rfl ?_;refine bJ hT rfl ?_;refine Qt.op hT rfl (dz rfl true rfl rfl) ?_;refine qr ?_;refine Qt.cond hT true ?_;exact Qt.ret hT (dh hT rfl Tryz.func105 rfl (hk v))
 ·
  refine Qt.op hT rfl (aW (u:=.bool false) rfl rfl rfl (by simp only [ii];rw [decide_eq_false (by omega)])) ?_;refine qr ?_;refine bZ hT rfl (dk rfl rfl) ?_;refine bZ hT rfl (aW (u:=.int .i32 ((ow % 8:Nat):Int)) rfl rfl rfl (j9 x7)) ?_;refine bZ hT rfl (aW (u:=.bool true) rfl rfl rfl (by simp only [ii];rw [decide_eq_false (by omega)];rfl)) ?_;refine Qt.op hT rfl (dz rfl false rfl rfl) ?_;refine qr ?_;refine Qt.cond hT true ?_;exact Qt.ret hT (dh hT rfl Tryz.func105 rfl (hk v))
theorem Ik(hok:p.Ok)(hs:s.Run){c:Nat}(hk:∀v',WV v0 Tryz.prog p T mn (s.set { df:=1,phi:=c }) v' (c1.finish (.tuple #[])) cs):∀(φ:Nat) (v:VW) (ow:Nat),ow < 820→ow % 8=0→0 < ow→
 Qt (WV v0 Tryz.prog p T mn (s.set { df:=1,ty:=1,phi:=c+3,se:=some (ow,φ) })) v (base 105) (c1::cs) 43 [] [.code wh,.inLoop wh,.inBlock 0] (RB p ow):=by
 intro φ
 induction φ using Nat.strongRecOn with
 |_ φ ih=>
  intro v ow hlt h8 hp0;have hT:Mv Tryz.prog p.Kf mn (WV v0 Tryz.prog p T mn (s.set { df:=1,ty:=1,phi:=c+3,se:=some (ow,φ) })):=bg hs.q;obtain⟨x5,x1,x2,x4,x3,x7,o1,o2,o4,n2,s3⟩:=jU ow (by omega);obtain⟨_,_,_,_,_,_,_,o2',_,_,_⟩:=jU (ow - 8) (by omega);refine Qt.block hT (Qt.seq hT (Qt.seq hT ?_));refine qr ?_;refine Qt.op hT rfl (kG (z:=(ow / 8:Nat)) rfl rfl rfl (by decide) s3) ?_;refine Qt.op hT rfl (aW (u:=.bool false) rfl rfl rfl (by simp only [ii];rw [decide_eq_false (by omega)])) ?_;refine qr ?_;refine bZ hT rfl (dk rfl rfl) ?_;refine bZ hT rfl (aW (u:=.int .i32 0) rfl rfl rfl (j9 (x7.trans (by omega)))) ?_;refine bZ hT rfl (aW (u:=.bool false) rfl rfl rfl rfl) ?_;refine Qt.op hT rfl (dz rfl false rfl rfl) ?_;refine qr ?_;refine Qt.cond hT false (Qt.skip hT ?_);refine Qt.seq hT ?_;refine qr ?_;refine Qt.op hT rfl (aW (u:=.int .i32 ((ow - 8:Nat):Int)) rfl rfl rfl (j9 (by rw [wrap_i32_small _ (by omega) (by omega)];omega))) ?_;refine Qt.op hT rfl (aW (u:=.int .i32 ((ow - 8+2:Nat):Int)) rfl rfl rfl (j9 (o2'.trans (by omega)))) ?_;refine qr ?_;refine Qt.seq hT (Qt.seq hT ?_);refine qr ?_;refine Qt.op hT rfl (fG rfl rfl) ?_;refine Qt.op hT rfl (bA (k:=0) rfl nc rfl) ?_;refine qr ?_
  refine ta hok hs rfl rfl (Nat.le_of_ble_eq_true rfl) rfl (ow:=ow) (nw:=ow - 8+2) rfl rfl (fun a ha=>ae rfl _) Tryz.func102 (by kernel_rfl) (by kernel_rfl) (by kernel_rfl) (by kernel_rfl) rfl rfl rfl
   (fun φ'=>{ df:=1,rn:=1,phi:=c+2 }) (fun x=>⟨rfl,rfl⟩) Ql (fun q hp e=>?_) (fun v' φ' hφ=>?_) fun v' ow' φ' hφ=>?_
  ·have hf:=vl hp;have hf:0 < q.f:=by revert hf;dsimp only;omega
   obtain⟨g1,g2⟩:=Iq (p:=p) (mn:=mn) (c:=c) (φ:=φ) hs e h8 hp0 (jY hp) hf;exact⟨g1,⟨rfl,rfl,rfl,rfl,rfl,rfl⟩,rfl,by show q.f - 1 < q.f;omega,g2⟩
  ·replace hT:Mv Tryz.prog p.Kf mn (WV v0 Tryz.prog p T mn (s.set { df:=1,rn:=1,phi:=c+2 })):=bg hs.q;refine qr ?_;refine Qt.cond hT true ?_;refine Qt.seq hT ?_;refine qr ?_;refine Qt.op hT rfl (fG rfl rfl) ?_;refine Qt.op hT rfl (bA (k:=1) rfl Gh rfl) ?_;refine Cc hok hs rfl rfl rfl rfl Tryz.func118 (by kernel_rfl) (by kernel_rfl) (by kernel_rfl) (by kernel_rfl) rfl { df:=1,phi:=c } ⟨rfl,rfl⟩ (fun q hp=>LH hs) fun v2=>?_;replace hT:Mv Tryz.prog p.Kf mn (WV v0 Tryz.prog p T mn (s.set { df:=1,phi:=c })):=bg hs.q;refine qr ?_;exact Qt.ret hT (dh hT rfl Tryz.func105 rfl (hk v2))
  ·have hφ:=hφ φ rfl;replace hT:Mv Tryz.prog p.Kf mn (WV v0 Tryz.prog p T mn (s.set { df:=1,ty:=1,phi:=c+3,se:=some (ow',φ') })):=bg hs.q;refine qr ?_;refine Qt.cond hT false (Qt.skip hT ?_);refine qr ?_;refine Qt.op hT rfl (fG rfl rfl) ?_;refine Qt.op hT rfl (bA (k:=0) rfl nc rfl) ?_;refine uh hok hs rfl (Nat.zero_le _) rfl rfl I2 Tryz.isAgg21 rfl (MI c) (fun q=>by unfold MI;split <;> exact⟨rfl,rfl⟩) (fun q hp=>LE hs (jY hp)) fun v2 q hp=>?_;have hle:=jY hp;have hqf:q.f≤φ':=by obtain⟨_,_,_,h,_⟩:=hp.mu;exact(h _ _ rfl).1
   have hN:q.N≤101:=by obtain⟨_,_,_,_,_,_,h,_⟩:=hp.mu;exact h
   have hlt2:q.word < 820:=by simp only [c9.word];omega
   have hN2:q.word / 8=q.N:=(fM hle).2.2.2;by_cases e:q.word % 8=0∧0 < q.N
   ·rw [show MI c q={ df:=1,ty:=1,phi:=c+3,se:=some (q.word,q.f) } from if_pos e];replace hT:Mv Tryz.prog p.Kf mn (WV v0 Tryz.prog p T mn (s.set { df:=1,ty:=1,phi:=c+3,se:=some (q.word,q.f) })):=bg hs.q;refine qr ?_;refine Qt.inBlock hT (Qt.inLoop hT ?_);exact Qt.base _ (ih q.f (by omega) v2 q.word hlt2 e.1 (by omega))
   ·rw [show MI c q={ df:=1,phi:=c } from if_neg e];replace hT:Mv Tryz.prog p.Kf mn (WV v0 Tryz.prog p T mn (s.set { df:=1,phi:=c })):=bg hs.q;refine qr ?_;refine Qt.inBlock hT (Qt.inLoop hT ?_);exact Qt.base _ (EP hs hlt2 (by omega) hk v2)
theorem vd(hok:p.Ok)(hs:s.Run){c:Nat}{c2:Frame}(hk:∀v',WV v0 Tryz.prog p T mn (s.set { phi:=c }) v' (c2.finish (.tuple #[])) cs)(v:VW):
 Qt (GV v0 Tryz.prog p T mn (s.set { hd:=1,dt:=1,phi:=c+4 })) v (base 75) (c2::cs) 21 [] [.code (Tryz.f75.body.getD .skip)] (ent 0 [.pointer (some p.muA)]):=by
 have hT:Mv Tryz.prog p.Kf mn (GV v0 Tryz.prog p T mn (s.set { hd:=1,dt:=1,phi:=c+4 })):=qW hs.q
 have lst:∀v'' Γ',Qt (WV v0 Tryz.prog p T mn (s.set { df:=1,phi:=c })) v'' (base 75) (c2::cs) 21 [] [.code (match Tryz.f75.body with |some (.seq _ (.seq _ (.seq _ x)))=>x |_=>.skip)] Γ':=fun v'' Γ'=>by
  have hT:Mv Tryz.prog p.Kf mn (WV v0 Tryz.prog p T mn (s.set { df:=1,phi:=c })):=bg hs.q;refine qr ?_;refine gW (ui (l:={ df:=1,phi:=c }) (l':={ phi:=c }) hok hs (.inr rfl) rfl rfl) Gi rfl rfl ?_;replace hT:Mv Tryz.prog p.Kf mn (WV v0 Tryz.prog p T mn (s.set { phi:=c })):=bg hs.q;refine qr ?_;exact Qt.fin hT (dh hT rfl Tryz.func75 rfl (hk v''))
 refine Qt.seq hT ?_
 refine Qt.cond hT true ?_
 refine Qt.seq hT ?_
 refine qr ?_
 refine Qt.op hT rfl (fG rfl rfl) ?_
 refine Qt.op hT rfl (bA (k:=0) rfl nc rfl) ?_
 refine HO hs I3 rfl rfl rfl fun v1 u=>?_
 refine qr ?_
 refine Qt.seq hT ?_
 refine qr ?_
 refine Qt.op hT rfl (jD rfl (qZ (n:=1) Tryz.underlying164 Tryz.underlying152 Tryz.sizeOf104) rfl) ?_
 refine Ky hok hs MF rfl rfl rfl fun v2=>?_
 replace hT:Mv Tryz.prog p.Kf mn (WV v0 Tryz.prog p T mn (s.set { hd:=1,phi:=c+4 })):=bg hs.q
 refine qr ?_
 refine gW (ui (l:={ hd:=1,phi:=c+4 }) (l':={ df:=1,hd:=1,phi:=c+4 }) hok hs (.inl rfl) rfl rfl) Gj rfl rfl ?_
 replace hT:Mv Tryz.prog p.Kf mn (WV v0 Tryz.prog p T mn (s.set { df:=1,hd:=1,phi:=c+4 })):=bg hs.q
 refine qr ?_
 refine Qt.seq hT ?_
 refine qr ?_
 refine Qt.op hT rfl (fG rfl rfl) ?_
 refine Qt.op hT rfl (bA (k:=0) rfl nc rfl) ?_
 refine Ce hok hs rfl rfl rfl rfl Tryz.func104 (by kernel_rfl) (by kernel_rfl) (by kernel_rfl) (by kernel_rfl) rfl rfl (Ef c) (fun q=>by unfold Ef;split <;> (try split) <;> exact⟨rfl,rfl⟩) (fun q=>{ q with L:=0,f:=q.f - 1 }) (fun q hp=>?_) fun v3 q hp=>?_
 ·
  obtain⟨g1,g2⟩:=LL hs hp;have hle:=jY hp;have hN:q.N≤101:=by obtain⟨_,_,_,_,_,_,h,_⟩:=hp.mu;exact h
  refine⟨?_,⟨rfl,rfl,rfl,rfl,rfl,rfl⟩,rfl,g2⟩;simp only [c9.word];rw [wrap_i32_small _ (by omega) (by omega)];omega
 have hle:=jY hp
 have hN:q.N≤101:=by obtain⟨_,_,_,_,_,_,h,_⟩:=hp.mu;exact h
 have hs1:q.S=1→q.W=0∧1≤q.N:=by
  obtain⟨o,h1,⟨k1,k2,k3,k4,k5,k6⟩,hse,_⟩:=hp.mu;intro e;have:=k4 e;omega
 generalize hw:({ q with L:=0,f:=q.f - 1 }:c9).word=nw
 have hw:2 * q.W+4 * q.S+8 * q.N=nw:=by rw [←hw];simp only [c9.word];omega
 obtain⟨x5,x1,x2,x4,x3,x7,o1,o2,o4,n2,s3⟩:=jU nw (by omega)
 obtain⟨_,y1,_⟩:=jU (nw+1) (by omega)
 have hrun:∀l:qc,Mv Tryz.prog p.Kf mn (WV v0 Tryz.prog p T mn (s.set l)):=fun l=>bg hs.q
 have hT:=hrun (Ef c q)
 refine qr ?_
 refine Qt.seq hT (Qt.seq hT ?_)
 refine qr ?_
 by_cases h0:nw=0
 ·
  have:Ef c q={ df:=1,phi:=c }:=by unfold Ef;rw [if_neg (by omega),if_neg (by omega)]
  rw [this] at hT⊢;refine Qt.op hT rfl (aW (u:=.bool false) rfl rfl rfl (by simp only [ii];rw [decide_eq_true (by omega)];rfl)) ?_;refine qr ?_;refine Qt.cond hT false (Qt.skip hT ?_);exact lst v3 _
 refine Qt.op hT rfl (aW (u:=.bool true) rfl rfl rfl (by simp only [ii];rw [decide_eq_false (by omega)];rfl)) ?_
 refine qr ?_
 refine Qt.cond hT true ?_
 refine qr ?_
 refine Qt.call (cL:=[.pointer (some p.muA),.int .i32 (nw:Int)]) hT rfl rfl Tryz.func105 (by kernel_rfl) rfl rfl fun c3 hk3=>?_
 have back:∀v',WV v0 Tryz.prog p T mn (s.set { df:=1,phi:=c }) v' (c3.finish (.tuple #[])) (c2::cs):=fun v'=>by
  have hT:=hrun { df:=1,phi:=c };exact hk3 _ v' _ (lK hT (lst v' _))
 refine Qt.seq hT (Qt.seq hT ?_)
 refine qr ?_
 refine Qt.op hT rfl (aW (u:=.int .i32 ((nw+1:Nat):Int)) rfl rfl rfl (j9 (by rw [wrap_i32_small _ (by omega) (by omega)];omega))) ?_
 refine Qt.op hT rfl (aW (u:=.int .i32 1) rfl rfl rfl (j9 (y1.trans (by omega)))) ?_
 refine Qt.op hT rfl (aW (u:=.bool false) rfl rfl rfl rfl) ?_
 refine qr ?_
 refine Qt.cond hT false (Qt.skip hT ?_)
 refine Qt.seq hT ?_
 refine qr ?_
 by_cases hS:q.S=1
 ·
  rw [show Ef c q={ df:=1,rh:=1,phi:=c+2 } from if_pos hS] at hT⊢;refine Qt.op hT rfl (aW (u:=.int .i32 4) rfl rfl rfl (j9 (x4.trans (by have:=hs1 hS;omega)))) ?_;refine Qt.op hT rfl (aW (u:=.bool false) rfl rfl rfl rfl) ?_;refine qr ?_;refine Qt.cond hT false ?_;refine qr ?_;refine Qt.op hT rfl (fG rfl rfl) ?_;refine Qt.op hT rfl (bA (k:=1) rfl Gh rfl) ?_;refine Cc hok hs rfl rfl rfl rfl Tryz.func118 (by kernel_rfl) (by kernel_rfl) (by kernel_rfl) (by kernel_rfl) rfl { df:=1,phi:=c } ⟨rfl,rfl⟩ (fun q hp=>LI hs) fun v4=>?_;replace hT:=hrun { df:=1,phi:=c };refine qr ?_;exact Qt.fin hT (dh hT rfl Tryz.func105 rfl (back v4))
 ·
  refine Qt.op hT rfl (aW (u:=.int .i32 0) rfl rfl rfl (j9 (x4.trans (by omega)))) ?_;refine Qt.op hT rfl (aW (u:=.bool true) rfl rfl rfl rfl) ?_;refine qr ?_;refine Qt.cond hT true ?_;refine Qt.seq hT ?_;refine qr ?_;refine Qt.block hT (Qt.loop hT ?_);by_cases e2:0 < q.N∧q.W=0
  ·rw [show Ef c q={ df:=1,ty:=1,phi:=c+3,se:=some (8 * q.N,q.f - 1) } from(if_neg hS).trans (if_pos e2),show 8 * q.N=nw by omega];exact Qt.base _ (Ik hok hs back (q.f - 1) v3 nw (by omega) (by omega) (by omega))
  ·rw [show Ef c q={ df:=1,phi:=c } from(if_neg hS).trans (if_neg e2)];exact Qt.base _ (EP (ow:=nw) hs (by omega) (by omega) back v3)
theorem zH(hok:p.Ok)(hs:s.Run){c:Nat}(hk:∀v',WV v0 Tryz.prog p T mn (s.set { phi:=c }) v' (c1.finish (.tuple #[])) cs)(v:VW):
 Qt (GV v0 Tryz.prog p T mn (s.set { hd:=1,dt:=1,phi:=c+4 })) v (base 54) (c1::cs) 6 [] [.code (Tryz.f54.body.getD .skip)] (ent 0 [.pointer (some p.muA)]):=by
 have hT:Mv Tryz.prog p.Kf mn (GV v0 Tryz.prog p T mn (s.set { hd:=1,dt:=1,phi:=c+4 })):=qW hs.q
 refine qr ?_
 refine Qt.op hT rfl (fG rfl rfl) ?_
 refine Qt.op hT rfl (bA (k:=0) rfl Gg rfl) ?_
 refine Qt.call (cL:=[.pointer (some p.muA)]) hT rfl rfl Tryz.func75 (by kernel_rfl) rfl rfl fun c2 hk2=>?_
 refine vd hok hs (fun v''=>?_) v
 have hT:Mv Tryz.prog p.Kf mn (WV v0 Tryz.prog p T mn (s.set { phi:=c })):=bg hs.q
 exact hk2 _ v'' _ (qr (Qt.fin hT (dh hT rfl Tryz.func54 rfl (hk v''))))
theorem zG(hok:p.Ok)(hs:s.Run){c:Nat}(hm:c1.mode= .returning)(hk:∀v',WV v0 Tryz.prog p T mn (s.set { phi:=c }) v' c1 cs)(v:VW):
 Qt (GV v0 Tryz.prog p T mn (s.set { hd:=1,dt:=1,phi:=c+4 })) v (baseD 54) (c1::cs) 6 [] [.code (Tryz.f54.body.getD .skip)] (ent 0 [.pointer (some p.muA)]):=by
 have hT:Mv Tryz.prog p.Kf mn (GV v0 Tryz.prog p T mn (s.set { hd:=1,dt:=1,phi:=c+4 })):=qW hs.q
 refine qr ?_
 refine Qt.op hT rfl (fG rfl rfl) ?_
 refine Qt.op hT rfl (bA (k:=0) rfl Gg rfl) ?_
 refine Qt.call (cL:=[.pointer (some p.muA)]) hT rfl rfl Tryz.func75 (by kernel_rfl) rfl rfl fun c2 hk2=>?_
 refine vd hok hs (fun v''=>?_) v
 have hT:Mv Tryz.prog p.Kf mn (WV v0 Tryz.prog p T mn (s.set { phi:=c })):=bg hs.q
 exact hk2 _ v'' _ (qr (Qt.fin hT (vV hT rfl Tryz.func54 rfl hm (hk v''))))
end
end Go.Proofs.YtkncjjdpjaapaaaGreat
set_option linter.unusedVariables false
set_option maxRecDepth 20000
set_option maxHeartbeats 4000000
namespace Go.Proofs.YtkncjjdpjaapaaaGreat
open K Go Go.Proofs Go.Conc
theorem fC{b:Frame}{a:Act}{k:List Item}(hb:b.roundOf=none):b.atR a k=b.at a k:=by
 cases b;simp only [Frame.atR,Frame.at] at *;subst hb;rfl
theorem Bq{b off:Nat}(w:World):(Instr.fieldAt 109 (.pointer (some ⟨b,off,none⟩)) 1).runT Tryz.prog w #[]=(.ok (.pointer (some ⟨b,off+6,none⟩)) w, #[]):=cO (n:=1) Tryz.underlying109 rfl Tryz.sizeOf106 w
section
variable {p:Gp}{T:Tq}{mn:Bool}{s:Ph}{c0 c1 c2 c3 c4 c5:Value}{S:FS}{w0:VW}{X:Nat→Prop}{b1 b2:Nat}{k:Nat}{a0:ai}{a1:Int}{Γ:Ga}{Δ:List D}{a:Act}{v:VW}{M:Md Tryz.prog}{kd:CallKind}{cs:List Frame}{kk:List Item}
abbrev xA(kd:CallKind):Frame:={ (default:Frame) with fn:=29,kind:=kd }
theorem Nj(hok:p.Ok)(hs:s.Run)(hm:p.m0= #[c0,c1,c2,c3,c4,c5])(hkd:kd≠.early){c:Nat}(st:St (mV M S w0 X []) (G6 p.bm c0 c1 c2 c3 c4 c5 a0 a1 b1) Δ a (v.ub p))(hsh:∀b,p.sh b→v.A b)(hA:v.A p.bk)(hlt:p.bk < v.heap.size)
 (next:∀a' v',St (mV M S w0 X []) (G6 p.bm c0 c1 c2 c3 c4 c5 a0 a1 b1) Δ a' (v'.ub p)→VR p v v'→¬v'.A p.bk→(∃o,v'.heap[p.bk]? =some o∧p.R o)→Ww Tryz.prog p T mn (s.set { hd:=1,dt:=1,phi:=c+4 }) v' ((xA kd).atR a' kk) cs):
 Ww Tryz.prog p T mn (s.set { phi:=c+6 }) v ((xA kd).atR a (.code (G7 1)::kk)) cs:=by
 have bc:BC Tryz.prog (Ww Tryz.prog p T mn (s.set { phi:=c+6 })):=Ww.bc hs.q hs.nr
 have h0:a.tmps.getD 0 undef= .pointer (some ⟨p.bm,0,none⟩):=oc st (s:=0) rfl
 have emu:p.muA=⟨p.bm,6,none⟩:=by simp [Gp.muA,hm]
 have hla:=fun c1=>yA (p:=p) (T:=T) (mn:=mn) (s:=s) (v0:=v) (cs:=cs) (c1:=c1) hok hs (c:=c)
 rw [emu] at hla
 refine bc.move (fun _ _=>eH) ?_
 rw [fC rfl]
 refine(?_:Qt (WV v Tryz.prog p T mn (s.set { phi:=c+6 })) v (xA kd) cs 64 [] _ ((0,.pointer (some ⟨p.bm,0,none⟩))::cL (G6 p.bm c0 c1 c2 c3 c4 c5 a0 a1 b1) a)) a (st.toQ.know h0) (VR.refl hsh hlt) ⟨fun _=>rfl,fun _=>hA⟩
 have hT:Mv Tryz.prog p.Kf mn (WV v Tryz.prog p T mn (s.set { phi:=c+6 })):=bg hs.q
 refine Qt.op hT rfl (dk rfl rfl) ?_ (hk:=hkd)
 refine Qt.op hT rfl (fG rfl rfl) ?_ (hk:=hkd)
 refine Qt.op hT rfl (bA (k:=6) rfl Bq rfl) ?_ (hk:=hkd)
 refine Qt.call (cL:=[.pointer (some ⟨p.bm,6,none⟩)]) hT rfl rfl Tryz.func53 (by kernel_rfl) rfl rfl (fun cc hk2=>?_) (hk:=hkd)
 refine hla _ (fun v'=>?_) v
 refine hk2 _ v' _ fun a2 q2 hv hA' hR=>?_
 have bc2:BC Tryz.prog (Ww Tryz.prog p T mn (s.set { hd:=1,dt:=1,phi:=c+4 })):=Ww.bc hs.q hs.nr
 rw [←fC rfl]
 refine bc2.move (fun _ _=>cN) ?_
 exact next a2 v' (lb (st.vr hv) ((((uH.base.know h0).new).new).new.new) q2) hv hA' hR
end
end Go.Proofs.YtkncjjdpjaapaaaGreat
set_option linter.unusedVariables false
set_option maxRecDepth 20000
set_option maxHeartbeats 4000000
namespace Go.Proofs.YtkncjjdpjaapaaaGreat
open K Go Go.Proofs Go.Conc
section
variable {p:Gp}{T:Tq}{mn:Bool}{s:Ph}{c0 c1 c2 c3 c4 c5:Value}{S:FS}{w0:VW}{X:Nat→Prop}{b1 b2:Nat}{k:Nat}{a0:ai}{a1:Int}{Γ:Ga}{Δ:List D}{a:Act}{v:VW}{M:Md Tryz.prog}{kd:CallKind}{cs:List Frame}{kk:List Item}
theorem AO{P:Program}{s:Ph}(hq:s.q=false):Mv P p.Kf mn (Ww P p T mn s):=fun v fr fr' cs cs' h1 h=>Ww.move hq (fun w hl=>h1 w hl) h
theorem Nh(hok:p.Ok)(hs:s.Run)(hm:p.m0= #[c0,c1,c2,c3,c4,c5])(hkd:kd≠.early){c:Nat}{fd:Bool}(st:St (mV M S w0 X []) ((6,.eq (.bool fd))::rY p.bm c0 c1 c2 c3 c4 c5 a0 a1 b1 b2) Δ a (v.ub p))(hsh:∀b,p.sh b→v.A b)(hA:¬v.A p.bk)(hR:∃o,v.heap[p.bk]? =some o∧p.R o)(hlt:p.bk < v.heap.size)
 (next:∀a' v',St (mV M S w0 X []) ((6,.eq (.bool fd))::rY p.bm c0 c1 c2 c3 c4 c5 a0 a1 b1 b2) Δ a' (v'.ub p)→VR p v v'→v'.A p.bk→Ww Tryz.prog p T mn (s.set { phi:=c }) v' ((xA kd).atR a' kk) cs):
 Ww Tryz.prog p T mn (s.set { hd:=1,dt:=1,phi:=c+4 }) v ((xA kd).atR a (.code (G7 3)::kk)) cs:=by
 have bc:BC Tryz.prog (Ww Tryz.prog p T mn (s.set { hd:=1,dt:=1,phi:=c+4 })):=Ww.bc hs.q hs.nr
 have h0:a.tmps.getD 0 undef= .pointer (some ⟨p.bm,0,none⟩):=oc st (s:=0) rfl
 have emu:p.muA=⟨p.bm,6,none⟩:=by simp [Gp.muA,hm]
 have hla:=fun c1=>zH (p:=p) (T:=T) (mn:=mn) (s:=s) (v0:=v) (cs:=cs) (c1:=c1) hok hs (c:=c)
 rw [emu] at hla
 refine bc.move (fun _ _=>eH) ?_
 rw [fC rfl]
 refine(?_:Qt (GV v Tryz.prog p T mn (s.set { hd:=1,dt:=1,phi:=c+4 })) v (xA kd) cs 64 [] _ ((0,.pointer (some ⟨p.bm,0,none⟩))::cL ((6,.eq (.bool fd))::rY p.bm c0 c1 c2 c3 c4 c5 a0 a1 b1 b2) a)) a (st.toQ.know h0) (VR.refl hsh hlt) hA hR
 have hT:Mv Tryz.prog p.Kf mn (GV v Tryz.prog p T mn (s.set { hd:=1,dt:=1,phi:=c+4 })):=qW hs.q
 refine Qt.op hT rfl (dk rfl rfl) ?_ (hk:=hkd)
 refine Qt.op hT rfl (fG rfl rfl) ?_ (hk:=hkd)
 refine Qt.op hT rfl (bA (k:=6) rfl Bq rfl) ?_ (hk:=hkd)
 refine Qt.call (cL:=[.pointer (some ⟨p.bm,6,none⟩)]) hT rfl rfl Tryz.func54 (by kernel_rfl) rfl rfl (fun cc hk2=>?_) (hk:=hkd)
 refine hla _ (fun v'=>?_) v
 refine hk2 _ v' _ fun a2 q2 hv hA'=>?_
 have bc2:BC Tryz.prog (Ww Tryz.prog p T mn (s.set { phi:=c })):=Ww.bc hs.q hs.nr
 rw [←fC rfl]
 refine bc2.move (fun _ _=>cN) ?_
 exact next a2 v' (lb (st.vr hv) ((((uH.base.know h0).new).new).new.new) q2) hv (hA'.2 rfl)
theorem JK(hok:p.Ok)(hs:s.Run)(hm:p.m0= #[c0,c1,c2,c3,c4,c5])(hkd:kd≠.early){c:Nat}(st:St (mV M S w0 X []) (rY p.bm c0 c1 c2 c3 c4 c5 a0 a1 b1 b2) Δ a (v.ub p))(hsh:∀b,p.sh b→v.A b)(hA:v.A p.bk)(hlt:p.bk < v.heap.size)
 (next:∀a' v',St (mV M S w0 X []) (rY p.bm c0 c1 c2 c3 c4 c5 a0 a1 b1 b2) Δ a' (v'.ub p)→VR p v v'→¬v'.A p.bk→(∃o,v'.heap[p.bk]? =some o∧p.R o)→Ww Tryz.prog p T mn (s.set { hd:=1,dt:=1,phi:=c+4 }) v' ((xA kd).atR a' kk) cs):
 Ww Tryz.prog p T mn (s.set { phi:=c+6 }) v ((xA kd).atR a (.code (G7 7)::kk)) cs:=by
 have bc:BC Tryz.prog (Ww Tryz.prog p T mn (s.set { phi:=c+6 })):=Ww.bc hs.q hs.nr
 have h0:a.tmps.getD 0 undef= .pointer (some ⟨p.bm,0,none⟩):=oc st (s:=0) rfl
 have emu:p.muA=⟨p.bm,6,none⟩:=by simp [Gp.muA,hm]
 have hla:=fun c1=>yA (p:=p) (T:=T) (mn:=mn) (s:=s) (v0:=v) (cs:=cs) (c1:=c1) hok hs (c:=c)
 rw [emu] at hla
 refine bc.move (fun _ _=>eH) ?_
 rw [fC rfl]
 refine(?_:Qt (WV v Tryz.prog p T mn (s.set { phi:=c+6 })) v (xA kd) cs 64 [] _ ((0,.pointer (some ⟨p.bm,0,none⟩))::cL (rY p.bm c0 c1 c2 c3 c4 c5 a0 a1 b1 b2) a)) a (st.toQ.know h0) (VR.refl hsh hlt) ⟨fun _=>rfl,fun _=>hA⟩
 have hT:Mv Tryz.prog p.Kf mn (WV v Tryz.prog p T mn (s.set { phi:=c+6 })):=bg hs.q
 refine Qt.op hT rfl (dk rfl rfl) ?_ (hk:=hkd)
 refine Qt.op hT rfl (fG rfl rfl) ?_ (hk:=hkd)
 refine Qt.op hT rfl (bA (k:=6) rfl Bq rfl) ?_ (hk:=hkd)
 refine Qt.call (cL:=[.pointer (some ⟨p.bm,6,none⟩)]) hT rfl rfl Tryz.func53 (by kernel_rfl) rfl rfl (fun cc hk2=>?_) (hk:=hkd)
 refine hla _ (fun v'=>?_) v
 refine hk2 _ v' _ fun a2 q2 hv hA' hR=>?_
 have bc2:BC Tryz.prog (Ww Tryz.prog p T mn (s.set { hd:=1,dt:=1,phi:=c+4 })):=Ww.bc hs.q hs.nr
 rw [←fC rfl]
 refine bc2.move (fun _ _=>cN) ?_
 exact next a2 v' (lb (st.vr hv) ((((uH.base.know h0).new).new).new.new) q2) hv hA' hR
theorem JJ(hs:s.Run)(hkd:kd≠.early){l:qc}(st:St (mV M S w0 X []) (rY p.bm c0 c1 c2 c3 c4 c5 a0 a1 b1 b2) Δ a v)
 (next:∀a',St (mV M S w0 X [dcall 54 #[.pointer (some ⟨p.bm,6,none⟩)]]) (rY p.bm c0 c1 c2 c3 c4 c5 a0 a1 b1 b2) Δ a' v→Ww Tryz.prog p T mn (s.set l) v ((xA kd).atR a' kk) cs):
 Ww Tryz.prog p T mn (s.set l) v ((xA kd).atR a (.code (G7 8)::kk)) cs:=by
 have bc:BC Tryz.prog (Ww Tryz.prog p T mn (s.set l)):=Ww.bc hs.q hs.nr
 have h0:a.tmps.getD 0 undef= .pointer (some ⟨p.bm,0,none⟩):=oc st (s:=0) rfl
 refine bc.move (fun _ _=>eH) ?_
 rw [fC rfl]
 refine(?_:Qt (Ww Tryz.prog p T mn (s.set l)) v (xA kd) cs 64 [] _ ((0,.pointer (some ⟨p.bm,0,none⟩))::cL (rY p.bm c0 c1 c2 c3 c4 c5 a0 a1 b1 b2) a)) a (st.toQ.know h0)
 have hT:Mv Tryz.prog p.Kf mn (Ww Tryz.prog p T mn (s.set l)):=AO hs.q
 refine Qt.op hT rfl (dk rfl rfl) ?_ (hk:=hkd)
 refine Qt.op hT rfl (fG rfl rfl) ?_ (hk:=hkd)
 refine Qt.op hT rfl (bA (k:=6) rfl Bq rfl) ?_ (hk:=hkd)
 refine Qt.defer (cL:=[.pointer (some ⟨p.bm,6,none⟩)]) hT rfl rfl rfl (fun a2 q2=>?_) (hk:=hkd)
 rw [←fC rfl]
 refine bc.move (fun _ _=>cN) ?_
 exact next a2 (lb st (((uH.base.know h0).new).new.new) q2)
theorem JL(hok:p.Ok)(hs:s.Run)(hm:p.m0= #[c0,c1,c2,c3,c4,c5]){c:Nat}{todo:List Item}(st:St (mV M S w0 X [dcall 54 #[.pointer (some ⟨p.bm,6,none⟩)]]) Γ Δ a (v.ub p))(hsh:∀b,p.sh b→v.A b)(hA:¬v.A p.bk)(hR:∃o,v.heap[p.bk]? =some o∧p.R o)(hlt:p.bk < v.heap.size)
 (next:∀a' todo v',St (mV M S w0 X []) Γ Δ a' (v'.ub p)→VR p v v'→v'.A p.bk→Ww Tryz.prog p T mn (s.set { phi:=c }) v' { (xA kd).atR a' todo with mode:=.returning } cs):
 Ww Tryz.prog p T mn (s.set { hd:=1,dt:=1,phi:=c+4 }) v { (xA kd).atR a todo with mode:=.returning } cs:=by
 have emu:p.muA=⟨p.bm,6,none⟩:=by simp [Gp.muA,hm]
 have hla:=fun c1=>zG (p:=p) (T:=T) (mn:=mn) (s:=s) (v0:=v) (cs:=cs) (c1:=c1) hok hs (c:=c)
 rw [emu] at hla
 rw [fC rfl]
 refine(?_:Qr (GV v Tryz.prog p T mn (s.set { hd:=1,dt:=1,phi:=c+4 })) v (xA kd) cs 64 [dcall 54 #[.pointer (some ⟨p.bm,6,none⟩)]] (cL Γ a)) a todo st.toQ (VR.refl hsh hlt) hA hR
 have hT:Mv Tryz.prog p.Kf mn (GV v Tryz.prog p T mn (s.set { hd:=1,dt:=1,phi:=c+4 })):=qW hs.q
 refine Qr.enter (cL:=[.pointer (some ⟨p.bm,6,none⟩)]) hT Tryz.func54 (by kernel_rfl) rfl rfl fun cc hmo hk=>?_
 refine hla _ hmo (fun v'=>?_) v
 refine hk _ v' fun a2 todo2 q2 hv hA'=>?_
 rw [←fC rfl]
 exact next a2 todo2 v' (lb (st.vr hv) uH.base q2) hv (hA'.2 rfl)
end
end Go.Proofs.YtkncjjdpjaapaaaGreat
set_option linter.unusedVariables false
set_option maxRecDepth 20000
set_option maxHeartbeats 4000000
namespace Go.Proofs.YtkncjjdpjaapaaaGreat
open K Go Go.Proofs Go.Conc
section
variable {p:Gp}{T:Tq}{mn:Bool}{s:Ph}{c0 c1 c2 c3 c4 c5:Value}{S:FS}{w0:VW}{X:Nat→Prop}{df:List Deferred}{b1 b2:Nat}{k:Nat}{a0:ai}{a1:Int}{Γ:Ga}{Δ:List D}{a:Act}{v:VW}{M:Md Tryz.prog}{kd:CallKind}{cs:List Frame}{kk:List Item}
def RN(M:Md Tryz.prog)(S:FS)(w0:VW)(X:Nat→Prop)(Γ:Ga)(b1 b2:Nat)(y:List (List Int))(fd:Bool):Exit→Act→VW→Prop
 | .normal,a,w=>fd=false∧St (mV M S w0 X []) Γ (zx b1 b2 y) a w
 | .ret,a,w=>fd=true∧St (mV M S w0 X []) Γ [.obj b1 69 (.rep (.arr 7 (.arr 5 (.int .i64))) y),.obj b2 69 (.rep (.arr 7 (.arr 5 (.int .i64))) y)] a w
 |_,_,_=>False
theorem Nc{y:List (List Int)}{fd:Bool}{bm:Nat}:JC (mV M S w0 X []) (G7 4) (RN M S w0 X (rY bm c0 c1 c2 c3 c4 c5 a0 a1 b1 b2) b1 b2 y fd) ((6,.eq (.bool fd))::rY bm c0 c1 c2 c3 c4 c5 a0 a1 b1 b2) (zx b1 b2 y):=by
 refine am ?_;refine ag ?_;refine gA rfl rfl ?_;refine aE (ap ?_);show JC _ _ _ _ _;refine iW rfl (fun hb=>?_) (fun hb=>?_)
 ·refine am ?_;refine ag ?_;refine jS 1 rfl ?_;refine lQ rfl rfl rfl (aD rfl kZ (qD) rfl) ⟨rfl,trivial⟩ ?_;refine jS 1 rfl ?_;refine aU rfl rfl (aR rfl kZ rfl rfl rfl) ⟨rfl,rfl,trivial⟩ ?_;refine aE (ap ?_);refine aC ?_;exact fun a w st=>⟨hb,(iU (junk:=[]) (by repeat (first |exact trivial |refine⟨rfl,?_⟩)) (List.Perm.refl _)) a w st⟩
 ·refine bh ?_;exact fun a w st=>⟨hb,(iU (junk:=[]) (by repeat (first |exact trivial |refine⟨rfl,?_⟩)) (List.Perm.refl _)) a w st⟩
theorem St.subA{c:Cx}(st:St c Γ Δ a v){b:Nat}(h:c.w0.A b):v.A b:=by
 obtain⟨_,_,S,h3,_⟩:=st;exact h3.subA b h
theorem Ht{c:Cx}(st:St c Γ Δ a v):v.Z=c.w0.Z:=by
 obtain⟨_,_,S,h3,_⟩:=st;exact h3.Z
theorem sa{c:Cx}(st:St c Γ Δ a v){b:Nat}(h:v.A b):b < v.heap.size:=by
 obtain⟨_,_,S,_,_,h5,_⟩:=st;exact h5.domA b h
theorem Kq{c:Cx}{y:List (List Int)}(st:St c Γ Δ a v)(h:D.obj b2 69 (.rep (.arr 7 (.arr 5 (.int .i64))) y)∈Δ):iT y:=by
 obtain⟨_,_,S,_,_,h5,_⟩:=st;obtain⟨cs,_,h1,h2⟩:=h5.holds _ h;exact⟨h1,(qo.1 h2).1⟩
@[reducible] noncomputable def AH (S:FS) (w:VW) (r:List (List Int)):Ending→VW→Prop:=dj S w [] (fun _:Unit=>(bI [.rep (.arr 7 (.arr 5 (.int .i64))) r],[]))
theorem JH{bm:Nat}{r:List (List Int)}{w:VW}(st:St (mV M S w (au []) []) (rY bm c0 c1 c2 c3 c4 c5 a0 a1 b1 b2) [.obj b1 69 (.rep (.arr 7 (.arr 5 (.int .i64))) r),.obj b2 69 (.rep (.arr 7 (.arr 5 (.int .i64))) r)] a v):K.bS Tryz.prog Tryz.f29 (AH S w r) .ret a v:=
 by
 refine(?_:JN (mV M S w (au []) []) (K.bS Tryz.prog Tryz.f29 (AH S w r) .ret) (rY bm c0 c1 c2 c3 c4 c5 a0 a1 b1 b2) [.obj b1 69 (.rep (.arr 7 (.arr 5 (.int .i64))) r),.obj b2 69 (.rep (.arr 7 (.arr 5 (.int .i64))) r)]) a v st
 exact aM () [.rep (.arr 7 (.arr 5 (.int .i64))) r] 0 ⟨⟨_,_,_,_,_,rfl,(.head _),kZ,(qD),rfl⟩,trivial⟩ rfl
theorem yQ(hok:p.Ok)(hs:s.Run)(hm:p.m0= #[c0,c1,c2,c3,c4,c5])(hR:p.R=aI k a0)(hkd:kd≠.early){c:Nat}{r:List (List Int)}(h:lu k a0 a1=some r){w:VW}{vs:List Value}(hd:∀b,S b→b < w.heap.size)
 (hall:fe S w [.rep (.mo (.pointer (some ⟨p.bm,0,none⟩)) [c0,c1,c2,c3,c4,c5] ab) a0,.eq (.int .u8 a1)] vs) (hO:aQ [] S w) (hsh:∀b,p.sh b→w.A b) (hA:w.A p.bk) (hZ:¬w.Z p.bk)
 (hc:∀c' v' fr u,c≤c'→AH S w r (.returned u) v'→fr.fn=29→fr.kind=kd→Lv Tryz.prog fr v' (.returned u)→v'.A p.bk→Ww Tryz.prog p T mn (s.set { phi:=c' }) v' fr cs):
 Ww Tryz.prog p T mn (s.set { phi:=c+12 }) w (Frame.enter Tryz.prog 29 vs.toArray kd) cs:=by
 have bc:∀l,BC Tryz.prog (Ww Tryz.prog p T mn (s.set l)):=fun l=>Ww.bc hs.q hs.nr
 have hok':∀l,(MW Tryz.prog p T).ok (Ww Tryz.prog p T mn (s.set l)):=fun l=>⟨mn,s.set l,hs.q,hs.nr,rfl⟩
 have hne:∀b,p.sh b→b≠p.bk:=fun b hb=>by
  rcases hb with e |⟨hc,e |e⟩
  ·rw [e];exact hok.mb
  ·rw [e];exact(hok.wm hc).2.1
  ·rw [e];exact(hok.cm hc).2
 have hK:Kn (MW Tryz.prog p T) p.bm 0 [c0,c1,c2,c3,c4,c5]:=Lc hm
 have hK8:Kn (MW Tryz.prog p T) p.bm 8 [.map (some p.bk)]:=NF hm
 obtain⟨u0,e0,h'⟩:=Option.bind_eq_some_iff.1 h
 have hs1:0≤a1∧a1 < 256:=ao e0
 unfold jh at h'
 obtain⟨r3,e3,h'⟩:=Option.bind_eq_some_iff.1 h'
 obtain⟨u1,_,h'⟩:=Option.bind_eq_some_iff.1 h'
 obtain⟨r5,e5,h'⟩:=Option.bind_eq_some_iff.1 h'
 obtain rfl:r5=r:=Option.some.inj h'
 have retn:∀c' b1 b2 a todo v',c≤c'→St (mV (MW Tryz.prog p T) S w (au []) []) (rY p.bm c0 c1 c2 c3 c4 c5 a0 a1 b1 b2) [.obj b1 69 (.rep (.arr 7 (.arr 5 (.int .i64))) r5),.obj b2 69 (.rep (.arr 7 (.arr 5 (.int .i64))) r5)] a v'→v'.A p.bk→Ww Tryz.prog p T mn (s.set { phi:=c' }) v' { (xA kd).atR a todo with mode:=.returning } cs:=fun c' b1 b2 a todo v' hle st hA'=>by
  obtain⟨q1,x,q2,q3⟩:=JH st;exact hc c' v' _ x hle q3 rfl rfl ⟨rfl,q1,_,Tryz.func29,q2⟩ hA'
 have st0:St (mV (MW Tryz.prog p T) S w (au []) []) (entry 0 [.rep (.mo (.pointer (some ⟨p.bm,0,none⟩)) [c0,c1,c2,c3,c4,c5] ab) a0,.eq (.int .u8 a1)]) [] { tmps:=vs.toArray++Array.replicate (64 - vs.toArray.size) undef,defers:=[] } w:=St.entry rfl hd hall hO
 rw [show Frame.enter Tryz.prog 29 vs.toArray kd=Frame.atR (xA kd) { tmps:=vs.toArray++Array.replicate (64 - vs.toArray.size) undef,defers:=[] } [.code (Tryz.f29.body.getD .skip)] from enter_at Tryz.func29 rfl]
 refine(bc _).move (fun _ _=>du) ?_
 refine dV (c:=mV (MW Tryz.prog p T) S w (au []) []) (hok' _) rfl st0 Nk fun a1' v1 ⟨b1,st1⟩=>?_
 have hA1:v1.A p.bk:=St.subA st1 hA
 have st1':=st1
 rw [←ju hA1] at st1'
 refine(bc _).move (fun _ _=>du) ?_
 refine Nj (c:=c+6) hok hs hm hkd st1' (fun b hb=>St.subA st1 (hsh b hb)) hA1 (sa st1 hA1) fun a2 v2 st2 hv2 hA2 hR2=>?_
 have hZ2:¬v2.Z p.bk:=by
  have e1:v2.Z=v1.Z:=hv2.1.Z;rw [e1,Ht st1];exact hZ
 obtain⟨S2,hd2,st2'⟩:=Ci (M':=MW Tryz.prog p T) st2 hA2 hR2 hZ2
 rw [hR] at st2'
 refine(bc _).move (fun _ _=>du) ?_
 refine dV (c:=mV (MW Tryz.prog p T) S2 v2 _ []) (hok' _) rfl st2' (Ni hK8 hs1) fun a3 v3 ⟨b2,y,fd,hy1,hy2,st3⟩=>?_
 rw [←hR] at st3
 obtain⟨st3f,hA3,hR3,hv3⟩:=zg (M:=MW Tryz.prog p T) hd2 hA hsh hne st3
 refine(bc _).move (fun _ _=>du) ?_
 refine Nh (c:=c+6) hok hs hm hkd st3f hv3.2.1 hA3 hR3 hv3.2.2 fun a4 v4 st4 hv4 hA4=>?_
 rw [ju hA4] at st4
 refine(bc _).move (fun _ _=>du) ?_
 refine xp (c:=mV (MW Tryz.prog p T) S w (au []) []) (Q:=RN (MW Tryz.prog p T) S w (au []) (rY p.bm c0 c1 c2 c3 c4 c5 a0 a1 b1 b2) b1 b2 y fd) (hok' _) rfl st4 Nc fun e a5 v5 q5=>?_
 cases e with
 |ret=>
  obtain⟨hf,st5⟩:=q5;obtain rfl:y=r5:=Option.some.inj ((hy1 hf).symm.trans h);exact⟨fun _ todo=>retn (c+6) b1 b2 a5 todo v5 (Nat.le_add_right _ _) st5 (St.subA st5 hA),fun e=>(by cases e)⟩
 |normal=>
  obtain⟨hf,st5⟩:=q5;obtain rfl:=hy2 hf;show Ww Tryz.prog p T mn (s.set { phi:=c+6 }) v5 ((xA kd).atR a5 _) cs;refine(bc _).move (fun _ _=>du) ?_;refine dV (c:=mV (MW Tryz.prog p T) S w (au []) []) (hok' _) rfl st5 (DC hK e3) fun a6 v6 st6=>?_;refine(bc _).move (fun _ _=>du) ?_;refine dV (c:=mV (MW Tryz.prog p T) S w (au []) []) (hok' _) rfl st6 (G4 hK e5) fun a7 v7 st7=>?_;have hA7:v7.A p.bk:=St.subA st7 hA;have st7':=st7;rw [←ju hA7] at st7';refine(bc _).move (fun _ _=>du) ?_;refine JK (c:=c) hok hs hm hkd st7' (fun b hb=>St.subA st7 (hsh b hb)) hA7 (sa st7 hA7) fun a8 v8 st8 hv8 hA8 hR8=>?_;have hg:iT r5:=Kq (b2:=b2) st8 (by simp [zx])
  have hZ8:¬v8.Z p.bk:=by
   have e1:v8.Z=v7.Z:=hv8.1.Z;rw [e1,Ht st7];exact hZ
  obtain⟨S8,hd8,st8'⟩:=Ci (M':=MW Tryz.prog p T) st8 hA8 hR8 hZ8;refine(bc _).move (fun _ _=>du) ?_;refine JJ hs hkd st8' fun a9 st9=>?_;rw [hR] at st9;refine(bc _).move (fun _ _=>du) ?_;refine dV (c:=mV (MW Tryz.prog p T) S8 v8 _ _) (hok' _) rfl st9 (JI hK8 hs1 h hg) fun a10 v10 st10=>?_;rw [←hR] at st10;have st10':St (mV (MW Tryz.prog p T) S8 v8 (au (.inv p.bk p.R::zx b1 b2 r5)) [dcall 54 #[.pointer (some ⟨p.bm,6,none⟩)]]) (rY p.bm c0 c1 c2 c3 c4 c5 a0 a1 b1 b2) (zx b1 b2 r5++[.inv p.bk p.R]) a10 v10:=(iU (junk:=[]) (by repeat (first |exact trivial |refine⟨rfl,?_⟩)) (by rw [List.append_nil];exact List.perm_append_comm (l₁:=[.inv p.bk p.R]) (l₂:=zx b1 b2 r5))) a10 v10 st10
  refine xp (c:=mV (MW Tryz.prog p T) S8 v8 _ _) (Q:=fun e a v=>match e with
   | .ret=>St (mV (MW Tryz.prog p T) S8 v8 (au (.inv p.bk p.R::zx b1 b2 r5)) [dcall 54 #[.pointer (some ⟨p.bm,6,none⟩)]]) (rY p.bm c0 c1 c2 c3 c4 c5 a0 a1 b1 b2) ([.inv p.bk p.R]++[.obj b1 69 (.rep (.arr 7 (.arr 5 (.int .i64))) r5),.obj b2 69 (.rep (.arr 7 (.arr 5 (.int .i64))) r5)]) a v
   |_=>False) (hok' _) rfl st10' (JQ fun a w st=>st) fun e a11 v11 q11=>?_
  cases e with
  |ret=>
   refine⟨fun _ todo=>?_,fun e=>(by cases e)⟩;have q11:St (mV (MW Tryz.prog p T) S8 v8 (au (.inv p.bk p.R::zx b1 b2 r5)) [dcall 54 #[.pointer (some ⟨p.bm,6,none⟩)]]) (rY p.bm c0 c1 c2 c3 c4 c5 a0 a1 b1 b2) (.inv p.bk p.R::[.obj b1 69 (.rep (.arr 7 (.arr 5 (.int .i64))) r5),.obj b2 69 (.rep (.arr 7 (.arr 5 (.int .i64))) r5)]) a11 v11:=q11;obtain⟨stf,hAf,hRf,hvf⟩:=zg (M:=MW Tryz.prog p T) hd8 hA hsh hne q11;refine JL (c:=c) hok hs hm stf hvf.2.1 hAf hRf hvf.2.2 fun a12 todo2 v12 st12 hv12 hA12=>?_;rw [ju hA12] at st12;exact retn c b1 b2 a12 todo2 v12 (Nat.le_refl _) st12 hA12
  |_=>exact q11.elim
 |_=>exact q5.elim
end
end Go.Proofs.YtkncjjdpjaapaaaGreat
set_option linter.unusedVariables false
namespace Go.Proofs.YtkncjjdpjaapaaaGreat
namespace K
open Go Go.Conc
section
variable {P:Program}{p:Gp}{T:Tq}{s:Ph}{q:c9}
theorem yf(hp:lL p true s q)(hal:s.al=true)(h:s.hd=0∧s.dt=0∧s.aw=0∧s.rn=0∧s.qu=0∧s.tk=0∧s.rh=0):q.word=0∧q.T=0∧q.h=0:=by
 obtain⟨n,sg,i,hi,hm,e,hb⟩:=hp;have hi0:i=0:=hm.1 rfl;subst hi0;have hg:=hb.gone (by rw [e];exact hal)
 have hz:∀f:Ph→Nat,f .quit=0→f s=0→al n sg f=0:=fun f hf h0=>by
  refine rR fun j hj=>?_;rcases Nat.eq_zero_or_pos j with ej |ej
  ·subst ej;rw [e];exact h0
  ·rw [(hb.ok j hj).quit (hg j ej hj)];exact hf
 obtain⟨h1,h2,h3,h4,h5,h6,h7⟩:=h;have a1:=hb.hd;rw [hz Ph.hd rfl h1] at a1;have a2:=hb.h;rw [hz Ph.dt rfl h2] at a2;have a3:=hb.s0;rw [hz Ph.aw rfl h3,hz Ph.rn rfl h4,hz Ph.tk rfl h6,hz Ph.qu rfl h5,hz Ph.rh rfl h7] at a3;have a4:=hb.s1;rw [hz Ph.aw rfl h3,hz Ph.rn rfl h4,hz Ph.tk rfl h6,hz Ph.qu rfl h5,hz Ph.rh rfl h7] at a4;have a5:=hb.le;simp only [c9.word];refine⟨?_,?_,a2⟩
 ·rcases(show q.S=0∨q.S=1 by omega) with x |x
  ·have:=a3 x;omega
  ·have:=a4 x;omega
 ·rcases(show q.S=0∨q.S=1 by omega) with x |x
  ·have:=a3 x;omega
  ·have:=a4 x;omega
theorem Ww.fin{v:VW}{fr:Frame}{cs:List Frame}(hq:s.q=false)(h:RR p T true s v fr cs):Ww P p T true s v fr cs:=.of ⟨hq,.inr (.inr (.inr (.inr (.inr (.inr h)))))⟩
end
end K
end Go.Proofs.YtkncjjdpjaapaaaGreat
set_option linter.unusedVariables false
set_option maxRecDepth 20000
set_option maxHeartbeats 4000000
namespace Go.Proofs.YtkncjjdpjaapaaaGreat
open K Go Go.Proofs Go.Conc
@[reducible] def f6(a0:ai)(bk:Nat):A:=.pair (.rep ab a0) (.pair (.eq (.int .i32 0)) (.pair (.eq (.int .u32 0)) (.eq (.map (some bk)))))
section
variable {S:FS}{bm bk:Nat}{k:Nat}{a0:ai}{a1:Int}
theorem nN{w:World}{cs:List Value}(h:(f6 a0 bk).cells S w cs):∃c0 c1 c2 c3 c4 c5,cs=[c0,c1,c2,c3,c4,c5,.int .i32 0,.int .u32 0,.map (some bk)]∧rd S w ab a0 [c0,c1,c2,c3,c4,c5]:=by
 obtain⟨m,x1,rfl,h1,y1,x2,rfl,⟨rfl,_⟩,y2,x3,rfl,⟨rfl,_⟩,⟨rfl,_⟩⟩:=h;have hl:=aP ab h1;have hl:m.length=6:=hl;match m,hl with
 |[c0,c1,c2,c3,c4,c5],_=>exact⟨c0,c1,c2,c3,c4,c5,rfl,h1⟩
@[reducible] def sx(bm bk:Nat)(m:Array Value)(R:Obj→Prop):Gp:=⟨false,0,0,0,bm,109,m,bk,R,fun _=>False,fun _ _ _ _ _=>False⟩
theorem Jc{f:Nat}{uz:List A}{RA:A}(hw:∀(c0 c1 c2 c3 c4 c5:Value) (T:Tq) (S:FS) (w:VW) (vs:List Value) (kd:CallKind) (cs:List Frame),kd≠.early→(∀b,S b→b < w.heap.size)→fe S w (.rep (.mo (.pointer (some ⟨bm,0,none⟩)) [c0,c1,c2,c3,c4,c5] ab) a0::uz) vs→aQ [] S w→
 (sx bm bk #[c0,c1,c2,c3,c4,c5] (aI k a0)).Ok→(∀b,(sx bm bk #[c0,c1,c2,c3,c4,c5] (aI k a0)).sh b→w.A b)→w.A bk→¬w.Z bk→
 (∀c' v' fr u,dj S w [] (fun _:Unit=>(RA,[])) (.returned u) v'→fr.fn=f→fr.kind=kd→Lv Tryz.prog fr v' (.returned u)→v'.A bk→Ww Tryz.prog (sx bm bk #[c0,c1,c2,c3,c4,c5] (aI k a0)) T true (Ph.set { al:=true,jn:=true } { phi:=c' }) v' fr cs)→
 Ww Tryz.prog (sx bm bk #[c0,c1,c2,c3,c4,c5] (aI k a0)) T true (Ph.set { al:=true,jn:=true } { phi:=12 }) w (Frame.enter Tryz.prog f vs.toArray kd) cs):
 bX (dE Tryz.prog) f (.eq (.pointer (some ⟨bm,0,none⟩))::uz) [.obj bm 109 (f6 a0 bk),.inv bk (aI k a0)] (fun _:Unit=>(RA,[.obj bm 109 (f6 a0 bk),.inv bk (aI k a0)])):=by
 intro kd hkd S w vs hd hall hO T hT cs hc
 refine hT.2 _ _ _ fun Gd hG v1 hr gs sl t kq hL=>?_
 have hO1:aQ [.obj bm 109 (f6 a0 bk),.inv bk (aI k a0)] S v1:=hO.rely hd hr
 have hd1:∀b,S b→b < v1.heap.size:=fun b hb=>Nat.lt_of_lt_of_le (hd b hb) hr.size
 have fm:au [D.obj bm 109 (f6 a0 bk),.inv bk (aI k a0)] bm:=⟨_,List.mem_cons_self,rfl⟩
 have fk:au [D.obj bm 109 (f6 a0 bk),.inv bk (aI k a0)] bk:=⟨_,List.mem_cons_of_mem _ List.mem_cons_self,rfl⟩
 have hne:bm≠bk:=fun e=>(List.pairwise_cons.1 hO1.apart).1 _ List.mem_cons_self bm rfl (by rw [e];rfl)
 obtain⟨cells,hcl,hce⟩:=hO1.holds _ List.mem_cons_self
 obtain⟨c0,c1,c2,c3,c4,c5,rfl,hrd⟩:=nN hce
 have hall1:fe S v1 (.eq (.pointer (some ⟨bm,0,none⟩))::uz) vs:=fe.rely (eW hd hO.sees hr) hall
 have hat:(sx bm bk #[c0,c1,c2,c3,c4,c5] (aI k a0)).At v1.toWorld { f:=12 }:=⟨fun e=>(by cases e),fun e=>(by cases e),hcl,fun _=>hO1.holds _ (List.mem_cons_of_mem _ List.mem_cons_self)⟩
 have hpok:(sx bm bk #[c0,c1,c2,c3,c4,c5] (aI k a0)).Ok:=⟨hne,fun e=>(by cases e),fun e=>(by cases e)⟩
 have hsh:∀b,(sx bm bk #[c0,c1,c2,c3,c4,c5] (aI k a0)).sh b→b=bm:=fun b hb=>hb.elim id fun e=>by cases e.1
 refine ze hG (fun _ _ _ _ _ h=>h.elim) (p:=sx bm bk #[c0,c1,c2,c3,c4,c5] (aI k a0)) (T:=T) (q:={ f:=12 }) (s:={ phi:=12,al:=true,jn:=true }) hpok hL hO1.domA hO1.domZ (hO1.far _ fk).2 hat (fun b hb=>?_) rfl rfl (fun e=>by cases e) rfl ?_
 ·
  rcases hb with hb |hb
  ·rw [hsh b hb];exact(hO1.far _ fm).1
  ·rw [hb];exact(hO1.far _ fk).1
 refine hw c0 c1 c2 c3 c4 c5 T S _ vs kd cs hkd hd1 ?_ ⟨fun d hd=>by simp at hd,fun b hb=>(bY hb).elim,List.Pairwise.nil,fun b hb=>(bY hb).elim,fun b hb hA=>?_,fun b hb=>?_,hO1.domZ⟩ hpok (fun b hb=>.inr (.inl hb)) (.inr (.inr rfl)) (hO1.far _ fk).2 fun c' v' fr u hpo hf1 hf2 hlv hA'=>?_
 ·
  obtain⟨x,vs',e,hx,hx2⟩:=hall1;have hx:x= .pointer (some ⟨bm,0,none⟩):=hx;subst hx;exact⟨_,vs',e,tP hrd,hx2⟩
 ·
  rcases hA with hA |hA |hA
  ·exact hO1.sees b hb hA
  ·rw [hsh b hA] at hb;exact(hO1.own _ fm).1 hb
  ·rw [hA] at hb;exact(hO1.own _ fk).1 hb
 ·
  rcases hb with hb |hb |hb
  ·exact hO1.domA b hb
  ·rw [hsh b hb];exact(hO1.own _ fm).2
  ·rw [hb];exact(hO1.own _ fk).2
 ·
  obtain⟨x,S',u',e,hcs,hres,hOw,_⟩:=hpo;cases e;have hAm:v'.A bm:=hcs.subA bm (.inr (.inl (.inl rfl)));have hAk:v'.A bk:=hA';refine Ww.fin rfl ⟨rfl,rfl,rfl,rfl,rfl,w.Z,fun v2 q hr2 hat2 hpre2=>?_⟩;obtain⟨g1,g2,g3⟩:=yf hpre2 rfl ⟨rfl,rfl,rfl,rfl,rfl,rfl,rfl⟩
  have hmu:v2.heap[bm]? =some (.cells #[c0,c1,c2,c3,c4,c5,.int .i32 0,.int .u32 0,.map (some bk)] 109):=by
   have:=hat2.mu;rw [g1,g2] at this;exact this
  have hmp:∃o,v2.heap[bk]? =some o∧aI k a0 o:=hat2.mp g3;have hZ2:v2.Z=w.Z:=by rw [hr2.Z,hcs.Z];exact hr.Z
  have old2:∀b,v2.A b→v'.A b∨v'.heap.size≤b:=hr2.old
  have oldw:∀b,v'.A b→b≠bm→b≠bk→w.A b∨w.heap.size≤b:=fun b hb h1 h2=>by
   rcases hcs.oldA b hb with(hb |hb |hb) |hb
   ·exact hr.old b hb
   ·exact absurd (hsh b hb) h1
   ·exact absurd hb h2
   ·exact .inr (Nat.le_trans hr.size hb)
  have keepv:∀b,b < v1.heap.size→¬v1.A b→b≠bm→b≠bk→v2.heap[b]? =v1.heap[b]? :=fun b hb ha h1 h2=>by
   have e1:=hcs.keep b hb (by
    rintro(h |h |h)
    ·exact ha h
    ·exact h1 (hsh b h)
    ·exact h2 h) (fun h=>(bY h).elim)
   have e2:=hr2.keep b (Nat.lt_of_lt_of_le hb hcs.size) (fun h=>by
    rcases hcs.oldA b h with(h |h |h) |h
    ·exact ha h
    ·exact h1 (hsh b h)
    ·exact h2 h
    ·exact absurd hb (Nat.not_lt.2 h))
   exact e2.trans e1
  have hsz:w.heap.size≤v2.heap.size:=Nat.le_trans hr.size (Nat.le_trans hcs.size hr2.size);have hKs:fL S v1 v2:=fun b hb=>keepv b (hd1 b hb) (hO1.sees b hb) (fun e=>(hO1.own _ fm).1 (e▸hb)) (fun e=>(hO1.own _ fk).1 (e▸hb))
  have hfe:∀b,au [D.obj bm 109 (f6 a0 bk),.inv bk (aI k a0)] b→b=bm∨b=bk:=fun b ⟨d,hd',e⟩=>by
   rcases List.mem_cons.1 hd' with rfl |hd'
   ·exact .inl (Option.some.inj e).symm
   ·rw [List.mem_singleton.1 hd'] at e;exact .inr (Option.some.inj e).symm
  refine hc (.returned u) _ fr ⟨(),S',u,rfl,⟨fun b hb=>hcs.sub b hb,fun b hb=>?_,fun b hb=>Nat.lt_of_lt_of_le (hcs.dom b hb) hr2.size,hsz,fun b hb ha hx=>?_,(hr2.os.trans hcs.os).trans hr.os,(hr2.tape.trans hcs.tape).trans hr.tape,(hr2.output.trans hcs.output).trans hr.output,fun b hb=>?_,fun b hb=>?_,rfl⟩,A.mono (fun _ h=>h) (eW hcs.dom hOw.sees hr2) _ hres,⟨fun d hd'=>?_,fun b hb=>?_,hO.apart,fun b hb=>⟨fun h=>?_,(hO.far b hb).2⟩,fun b hb h=>?_,fun b h=>hr2.dom hOw.domA b h.1,fun b h=>Nat.lt_of_lt_of_le (hO.domZ b h) hsz⟩,fun b hb=>.inl hb⟩ hf1 hf2 ?_
  ·rcases hcs.new b hb with h |h |h
   ·exact .inl h
   ·exact .inr (.inl (Nat.le_trans hr.size h))
   ·exact(bY h).elim
  ·have e1:=hr.keep b hb ha;have e2:=keepv b (Nat.lt_of_lt_of_le hb hr.size) (fun h=>(hr.old b h).elim ha fun h=>absurd hb (Nat.not_lt.2 h)) (fun e=>hx (e▸fm)) (fun e=>hx (e▸fk));exact e2.trans e1
  ·refine⟨hr2.sub b (hcs.subA b (.inl (hr.sub b hb))),fun e=>?_,fun e=>?_⟩
   ·have e:b=bm:=e;rw [e] at hb;exact(hO.far _ fm).1 hb
   ·have e:b=bk:=e;rw [e] at hb;exact(hO.far _ fk).1 hb
  ·obtain⟨h1,h2,h3⟩:=hb;rcases old2 b h1 with h |h
   ·exact oldw b h h2 h3
   ·exact .inr (Nat.le_trans (Nat.le_trans hr.size hcs.size) h)
  ·rcases List.mem_cons.1 hd' with rfl |hd'
   ·exact⟨_,hmu,[c0,c1,c2,c3,c4,c5],_,rfl,dF (fun b hb=>hcs.sub b hb) hKs ab hrd,[_],_,rfl,⟨rfl,rfl⟩,[_],_,rfl,⟨rfl,rfl⟩,⟨rfl,rfl⟩⟩
   ·rw [List.mem_singleton.1 hd'];exact hmp
  ·rcases hfe b hb with rfl |rfl
   ·exact⟨fun h=>hOw.sees _ h hAm,(Array.getElem?_eq_some_iff.1 hmu).1⟩
   ·obtain⟨o,ho,_⟩:=hmp;exact⟨fun h=>hOw.sees _ h hAk,(Array.getElem?_eq_some_iff.1 ho).1⟩
  ·rcases hfe b hb with rfl |rfl
   ·exact h.2.1 rfl
   ·exact h.2.2 rfl
  ·rcases old2 b h.1 with h' |h'
   ·exact hOw.sees b hb h'
   ·exact absurd (hcs.dom b hb) (Nat.not_lt.2 h')
  ·obtain⟨l1,l2,fn,l3,l4⟩:=hlv;refine⟨l1,l2,fn,l3,fun v3 hr3=>?_⟩
   have hrel:bi v' ⟨v3.toWorld,fun b=>v3.A b∨b=bm∨b=bk,v'.Z⟩:=by
    refine⟨fun b hb ha=>?_,Nat.le_trans hr2.size hr3.size,fun b hb=>?_,fun b hb=>?_,fun hdm b hb=>?_,rfl,hr3.os.trans hr2.os,hr3.tape.trans hr2.tape,hr3.output.trans hr2.output⟩
    ·have e1:=hr2.keep b hb ha;have e2:=hr3.keep b (Nat.lt_of_lt_of_le hb hr2.size) (fun h=>(old2 b h.1).elim ha fun h=>absurd hb (Nat.not_lt.2 h));exact e2.trans e1
    ·by_cases e1:b=bm
     ·exact .inr (.inl e1)
     ·by_cases e2:b=bk
      ·exact .inr (.inr e2)
      ·exact .inl (hr3.sub b ⟨hr2.sub b hb,e1,e2⟩)
    ·rcases hb with hb |rfl |rfl
     ·rcases hr3.old b hb with h |h
      ·exact old2 b h.1
      ·exact .inr (Nat.le_trans hr2.size h)
     ·exact .inl hAm
     ·exact .inl hAk
    ·have hm2:bm < v2.heap.size:=(Array.getElem?_eq_some_iff.1 hmu).1;have hk2:bk < v2.heap.size:=by obtain⟨o,ho,_⟩:=hmp;exact(Array.getElem?_eq_some_iff.1 ho).1
     rcases hb with hb |rfl |rfl
     ·exact hr3.dom (fun b h=>hr2.dom hOw.domA b h.1) b hb
     ·exact Nat.lt_of_lt_of_le hm2 hr3.size
     ·exact Nat.lt_of_lt_of_le hk2 hr3.size
   obtain⟨q1,q2⟩:=l4 _ hrel;refine⟨q1,⟨fun _ _ _=>rfl,Nat.le_refl _,.refl _,rfl,rfl,fun ev hev=>?_⟩⟩;have:=q2.evs ev hev;have hz3:v3.Z=v'.Z:=by rw [hr3.Z,hcs.Z];exact hr.Z.symm
   unfold lj at this⊢;rw [hz3];split at this
   ·exact⟨this.1,this.2.1,fun h=>this.2.2.1 (.inl h),this.2.2.2⟩
   ·exact⟨this.1,this.2.1,fun h=>this.2.2.1 (.inl h),this.2.2.2⟩
   ·exact this
   ·exact this
theorem yR{r:List (List Int)}(h:lu k a0 a1=some r):
 bX (dE Tryz.prog) 29 [.eq (.pointer (some ⟨bm,0,none⟩)),.eq (.int .u8 a1)] [.obj bm 109 (f6 a0 bk),.inv bk (aI k a0)] (fun _:Unit=>(bI [.rep (.arr 7 (.arr 5 (.int .i64))) r],[.obj bm 109 (f6 a0 bk),.inv bk (aI k a0)])):=
 Jc fun c0 c1 c2 c3 c4 c5 T S w vs kd cs hkd hd hall hO hok hsh hA hZ hc=>yQ (s:={ al:=true,jn:=true }) (c:=0) hok ⟨rfl,rfl,rfl,fun _=>rfl⟩ rfl rfl hkd h hd hall hO hsh hA hZ fun c' v' fr u _=>hc c' v' fr u
end
end Go.Proofs.YtkncjjdpjaapaaaGreat
set_option linter.unusedVariables false
namespace Go.Proofs.YtkncjjdpjaapaaaGreat
namespace K
open Go Go.Conc
section
variable {P:Program}{p:Gp}{T:Tq}{s:Ph}{v:VW}{fr:Frame}{cs:List Frame}
theorem Hm{z:Value}(hcr:p.cr=true)(hnw:s.nw=1)(hq:s.q=false)(hmx:s.mx=0)(hrg:s.rg=false)(hst:∀w:World,stepG P false (Gr fr cs) w= .comm (Gr fr cs) #[rcase p.bc z] true (.recv true) w #[])
 (h1:∀v1 x,bi v v1→p.vok x→s={ ac:=1,nw:=1,phi:=s.phi }∧p.lp (s.phi+12) x v1 (fr.finish (.tuple #[x,.bool true])) cs) (h2:∀v1,bi v v1→Ww P p T false { s with nw:=0 } v1 (fr.finish (.tuple #[z,.bool false])) cs):Ww P p T false s v fr cs:=
 .of ⟨hq,.inr (.inr (.inr (.inl ⟨z,hcr,rfl,hnw,hq,hmx,hrg,hst,h1,fun v1 hr=>⟨{},undef,true,h2 v1 hr⟩⟩)))⟩
theorem Hl{x z:Value}(hcr:p.cr=true)(hop:s.op=true)(hsp:0 < s.sp)(hphi:12≤s.phi)(hq:s.q=false)(hmx:s.mx=0)(hrg:s.rg=false)(hx:p.vok x)(hst:∀w:World,stepG P true (Gr fr cs) w= .comm (Gr fr cs) #[scase p.bc x z] true .send w #[])
 (h:∀v1,bi v v1→Ww P p T true { s with phi:=s.phi - 12 } v1 (fr.finish undef) cs):Ww P p T true s v fr cs:=
 .of ⟨hq,.inr (.inr (.inr (.inr (.inl ⟨x,z,hcr,rfl,hop,hsp,hphi,hq,hmx,hrg,hx,hst,fun v1 hr=>⟨{},undef,true,h v1 hr⟩⟩))))⟩
theorem DY{fr' fc:Frame}{Sh:Nat→Prop}(hcr:p.cr=true)(hq:s.q=false)(hpd:s.pd=1)(hdf:s.df=0)(hrg:s.rg=false)(hop:s.op=true)(hsp:s.sp < 100)(hst:∀w:World,stepG P true (Gr fr cs) w= .spawn (Gr fr' cs) (Gr fc []) w #[])(hSh:∀b,Sh b→b < v.heap.size∧¬v.A b∧b≠p.bk)
 (h1:∀v1,bi v v1→Ww P p T false .wk0 ⟨v1.toWorld,fun b=>b < v1.heap.size∧¬Sh b,Sh⟩ fc []) (h2:∀v1,bi v v1→Ww P p T true { s with pd:=0,sp:=s.sp+1,al:=false,jn:=false } ⟨v1.toWorld,v1.A,fun b=>v1.Z b∨Sh b⟩ fr' cs):Ww P p T true s v fr cs:=
 .of ⟨hq,.inr (.inr (.inr (.inr (.inr (.inl ⟨hcr,rfl,hpd,hdf,hrg,hop,hsp,fr',fc,Sh,hst,hSh,fun v1 hr=>⟨{},undef,true,h1 v1 hr⟩,fun v1 hr=>⟨{},undef,true,h2 v1 hr⟩⟩)))))⟩
theorem E0{q:c9}(hs:s.Stt)(hrg:s.rg=false)(hp:lL p true s q):Sv p true s q { s with op:=false,cd:=true,cb:=some 102 } { q with cl:=true }:=by
 have hc:q.c≤102:=by obtain⟨_,_,_,_,_,_,_,_,_,_,h,_⟩:=hp.get;exact h
 refine Sv.mk (fun a b z ha hpt hb hz _ _ _ _=>?_) hs.q (.inr ⟨rfl,rfl⟩) (fun ow φ e=>by rw [show({ s with op:=false,cd:=true,cb:=some 102 }:Ph).se=none from hs.se] at e;cases e) (fun x h1 h2 _=>⟨h1,h2⟩) (fun _ _ _ _ _=>by rw [show({ s with op:=false,cd:=true,cb:=some 102 }:Ph).nb=0 from hs.nb];exact⟨Nat.zero_le _,.inl rfl⟩) (fun i hi ho=>⟨ho.one,ho.rg,ho.lv,fun e=>?_,ho.dt,ho.main,ho.work⟩) (fun _ e=>.inl e)
 ·rw [if_pos rfl];have hz:=hz rfl;subst hz;have r1:b.ac=a.ac:=Nat.add_right_cancel hb.ac;have r2:b.w1=a.w1:=Nat.add_right_cancel hb.w1;have r3:b.w2=a.w2:=Nat.add_right_cancel hb.w2;have r5:b.hd=a.hd:=Nat.add_right_cancel hb.hd;have r6:b.dt=a.dt:=Nat.add_right_cancel hb.dt;have r7:b.aw=a.aw:=Nat.add_right_cancel hb.aw;have r8:b.rn=a.rn:=Nat.add_right_cancel hb.rn;have r9:b.qu=a.qu:=Nat.add_right_cancel hb.qu;have r10:b.tk=a.tk:=Nat.add_right_cancel hb.tk;have r11:b.rh=a.rh:=Nat.add_right_cancel hb.rh;have r12:b.ty=a.ty:=Nat.add_right_cancel hb.ty;have r13:b.phi=a.phi:=Nat.add_right_cancel hb.phi;have r14:b.lv=a.lv:=Nat.add_right_cancel hb.lv;refine⟨by rw [r1];exact ha.c,by rw [r2,r3];exact ha.un,by rw [r2,r3];exact ha.re,ha.pd,fun _=>rfl,fun e=>(by cases e),fun e=>(by cases e),ha.le,by rw [r5];exact ha.hd,by rw [r7,r8,r9,r10,r11,r12];exact ha.s0,by rw [r7,r8,r9,r10,r11];exact ha.s1,by rw [r6];exact ha.h,by rw [r13];exact ha.f,by rw [r14];exact ha.lv,fun B e=>(by cases e;exact hc)⟩
 ·have e:s.q=true:=e;rw [hs.q] at e;cases e
end
end K
end Go.Proofs.YtkncjjdpjaapaaaGreat
set_option linter.unusedVariables false
namespace Go.Proofs.YtkncjjdpjaapaaaGreat
namespace K
open Go Go.Conc
section
variable {P:Program}{main:Bool}{b:Frame}{a:Act}{k:List Item}{cs:List Frame}{ops:Array Oper}{i:Nat}{rest:List Nat}{o:Oper}{w:World}
theorem MN{ct e:TypeId}{dir:ChanDir}{x:Operand}{z:Value}{c:Nat}(ho:ops[i]? =some o)(hw:Region.wanted o (yielded ops a.tmps)=true)(hop:o.op= .recv ct x true)(hT:P.underlying ct=some (.chan dir e))(hz:∀w,(zeroValue e).run P w= .ok z w)(hx:a.eval x= .chan (some c)):
 stepG P main (Gr (b.atR a (.inRegion ops (i::rest)::k)) cs) w= .comm (Gr (b.atR a (.inRegion ops (i::rest)::k)) cs) #[rcase c z] true (.recv true) w #[]:=by
 have hr:(execOp a.eval o).run P w= .ok (.comm #[rcase c z] true (.recv true)) w:=by
  simp [execOp,hop,run_underlying hT,hz,hx,rcase]
 have he:(execOp a.eval o).events P w #[]= #[]:=by
  simp [execOp,hop,run_underlying hT,hz,hx,rcase]
 have hT':(execOp a.eval o).runT P w #[]=(.ok (.comm #[rcase c z] true (.recv true)) w, #[]):=Prod.ext (by rw [Sem.runT_fst];exact hr) he
 rw [t3 ho hw,Oper.semAt_eq _ _ _ (by simp [hop])]
 simp only [stepG.apply,if_true,hT',tZ,kK,GStep.after]
 try simp
theorem MM{x y:Operand}{u:Value}{c:Nat}(ho:ops[i]? =some o)(hw:Region.wanted o (yielded ops a.tmps)=true)(hop:o.op= .send x y)(hx:a.eval x= .chan (some c))(hy:a.eval y=u):
 stepG P main (Gr (b.atR a (.inRegion ops (i::rest)::k)) cs) w= .comm (Gr (b.atR a (.inRegion ops (i::rest)::k)) cs) #[scase c u (.tuple #[])] true .send w #[]:=by
 have he:execOp a.eval o=pure (.comm #[scase c u (.tuple #[])] true .send):=by
  simp [execOp,hop,hx,hy,scase]
 have hT':(execOp a.eval o).runT P w #[]=(.ok (.comm #[scase c u (.tuple #[])] true .send) w, #[]):=by rw [he];rfl
 rw [t3 ho hw,Oper.semAt_eq _ _ _ (by simp [hop])]
 simp only [stepG.apply,if_true,hT',tZ,kK,GStep.after]
 try simp
end
section
variable {P:Program}{p:Gp}{T:Tq}{s:Ph}{v:VW}{fr fr':Frame}{cs cs':List Frame}
theorem DZ(hok:p.Ok)(hcr:p.cr=true)(hs:s.Stt)(hrg:s.rg=false)(hop:s.op=true)(hjn:s.jn=true→s.al=true)(hwk:mayWake P (Gr fr cs)=true)(hsh:∀b,p.sh b→v.A b)(hA:v.A p.bk)(hlt:p.bk < v.heap.size)
 (hst:∀(w:World) (q:c9),p.At w q→q.cl=false→stepG P true (Gr fr cs) w= .go (Gr fr' cs') { w with heap:=w.heap.setIfInBounds p.bc (.chan 0 #[] true q.cs q.cs false) } #[⟨.obj p.bc,false,true⟩,⟨.obj p.bc,true,true⟩])
 (h:∀v',VR p v v'→v'.A p.bk→Ww P p T true { s with op:=false,cd:=true,cb:=some 102 } v' fr' cs'):Ww P p T true s v fr cs:=by
 refine oN hs.q fun v1 q hr hat hp=>?_
 have hcl:q.cl=false:=by
  obtain⟨a,z,ha,_,hz,_⟩:=hp.get;have hz:=hz rfl;subst hz;exact ha.op hop
 have hlc:=(Array.getElem?_eq_some_iff.1 (hat.ch hcr)).1
 have g:∀x b,b≠p.bc→(v1.heap.setIfInBounds p.bc x)[b]? =v1.heap[b]? :=fun x b hb=>Array.getElem?_setIfInBounds_ne fun e=>hb e.symm
 have heff:p.Eff v1.toWorld { v1.toWorld with heap:=v1.heap.setIfInBounds p.bc (.chan 0 #[] true q.cs q.cs false) } { q with cl:=true }:=by
  refine⟨⟨fun _=>(g _ _ (hok.wm hcr).2.2).trans (hat.wg hcr),fun _=>Array.getElem?_setIfInBounds_self_of_lt hlc,(g _ _ (hok.cm hcr).1.symm).trans hat.mu,fun e=>?_⟩,fun b hb=>g _ _ fun e=>hb (.inr ⟨hcr,.inr e⟩),by simp,rfl,rfl,rfl⟩;obtain⟨o,ho,hro⟩:=hat.mp e;exact⟨o,(g _ _ (hok.cm hcr).2.symm).trans ho,hro⟩
 have hwc:p.wc (.obj p.bc):=.inr (.inr ⟨hcr,.inr (.inr rfl)⟩)
 refine⟨{ s with op:=false,cd:=true,cb:=some 102 },{ q with cl:=true },fr',cs',_,_,hst _ q hat hcl,heff,E0 hs hrg hp,⟨fun e he=>?_,?_,fun e=>(by cases e),fun e=>absurd rfl e,fun e=>absurd rfl e,?_,fun _ e=>?_,fun e=>e,fun e=>⟨hjn e,.inl e⟩,fun e=>(by cases e)⟩,fun _=>hwk,fun _=>rfl,fun _=>⟨q,undef,true,?_⟩,fun e=>?_⟩
 ·
  simp at he;rcases he with rfl |rfl <;> exact .inl ⟨_,_,rfl,hwc⟩
 ·
  rw [if_neg (by rw [show({ s with op:=false,cd:=true,cb:=some 102 }:Ph).q=s.q from rfl,hs.q];simp)];rfl
 ·
  show s.dt≤1;rw [hs.dt];exact Nat.zero_le _
 ·
  have e:s.nr=false:=e;rw [hs.nr] at e;cases e
 ·
  exact h _ ((VR.refl hsh hlt).rely hr |>.put hok heff) (pr.2 hs.dt)
 ·
  have e:s.q=true:=e;rw [hs.q] at e;cases e
end
end K
end Go.Proofs.YtkncjjdpjaapaaaGreat
set_option linter.unusedVariables false
namespace Go.Proofs.YtkncjjdpjaapaaaGreat
namespace K
open Go Go.Conc
theorem Fz{P:Program}{M:Md P}{rd:Option Nat}{Q:Exit→Act→VW→Prop}{K:Act→VW→Prop}{a:Act}{v:VW}{ops:Array Oper}{i:Nat}{rest:List Nat}{o:Oper}(ho:ops[i]? =some o)(hw:Region.wanted o (yielded ops a.tmps)=true)(h:o.wk M rd a v K Q)
 {T:Tq} (hT:M.ok T) {b:Frame} {k:List Item} {cs:List Frame} (hb:b.roundOf=rd) (hK:∀a' v',K a' v'→T v' (b.atR a' (.inRegion ops rest::k)) cs) (hQ:∀ch a' v',Q (.panic ch) a' v'→mi T b k cs (.panic ch) a' v'):
 T v (b.atR a (.inRegion ops (i::rest)::k)) cs:=by
 have B:=M.bc T hT
 subst hb
 refine M.st T hT _ _ _ fun v1 hr hkf=>?_
 obtain⟨hS,hU⟩:=h v1 hr hkf
 generalize hres:(o.semAt b.roundOf a.eval).run P v1.toWorld=r at hU
 cases r with
 |ok x w'=>
  have hG:=hS.ok hres;cases x with
  |value x=>
   obtain⟨es,h1,h2⟩:=BD (b:=b) (k:=k) (cs:=cs) (rest:=rest) ho hw hres;exact⟨_,_,w',es,h2,hG.sub h1,hK _ _ hU⟩
  |skip=>
   obtain⟨es,h1,h2⟩:=GM (b:=b) (k:=k) (cs:=cs) (rest:=rest) ho hw hres;exact⟨_,_,w',es,h2,hG.sub h1,hK _ _ hU⟩
  |«defer» d=>
   obtain⟨es,h1,h2⟩:=BI (b:=b) (k:=k) (cs:=cs) (rest:=rest) ho hw hres;exact⟨_,_,w',es,h2,hG.sub h1,hK _ _ hU⟩
  |enter f args=>
   obtain⟨es,h1,h2⟩:=wS (b:=b) (k:=k) (cs:=cs) (rest:=rest) ho hw hres;refine⟨_,_,w',es,h2,hG.sub h1,hU T hT _ fun e v' fr q hf hk hl=>?_⟩;cases e with
   |returned x=>
    refine oC B hl hk ?_;have hfin:(b.atR a (.inRegion ops (i::rest)::k)).finish x=b.atR (a.put o.dst x) (.inRegion ops rest::k):=by rw [Frame.finish_atR,ho];rfl
    rw [hfin];exact hK _ _ q
   |panicked chain=>exact sB B hl (by rw [Frame.raise_atR];exact hQ _ _ _ q _)
   |outgrown=>exact q.elim
  |round l f tmps assign body=>
   obtain⟨es,h1,h2⟩:=BE (b:=b) (k:=k) (cs:=cs) (rest:=rest) ho hw hres;refine⟨_,_,w',es,h2,hG.sub h1,hU T hT _ _ (fun x v' q=>?_) (fun ch v' q=>by rw [Frame.raise_atR];exact hQ _ _ _ q _) (fun v' q=>q)⟩;have hfin:(b.atR a (.inRegion ops (i::rest)::k)).finish x=b.atR (a.put o.dst x) (.inRegion ops rest::k):=by rw [Frame.finish_atR,ho];rfl
   rw [hfin];exact hK _ _ q
  |_=>exact hU.elim
 |halt x w'=>
  have hG:=hS.halt hres;cases x with
  |panic x=>
   obtain⟨es,h1,h2⟩:=BF (b:=b) (k:=k) (cs:=cs) (rest:=rest) ho hw hres;exact⟨_,_,w',es,h2,hG.sub h1,hQ _ _ _ hU _⟩
  |_=>exact hU.elim
theorem ie{c:Cx}{ops:Array Oper}{o:Oper}{i:Nat}{rest:List Nat}{Γ Γ':Ga}{Δ Δ':List D}{a:Act}{v:VW}{T:Tq}{b:Frame}{k:List Item}{cs:List Frame}(hT:c.M.ok T)(hb:b.roundOf=c.rd)(st:St c Γ Δ a v)(ho:ops[i]? =some o)(hg:o.guard=none)
 (h:JO c ops [o] (bK (fun a w=>St c Γ' Δ' a w) (fun _ _ _=>False)) Γ Δ) (hK:∀a' v',St c Γ' Δ' a' v'→T v' (b.atR a' (.inRegion ops rest::k)) cs):T v (b.atR a (.inRegion ops (i::rest)::k)) cs:=by
 have h1:=h a v st
 simp only [CZ] at h1
 rw [if_pos (ae hg _)] at h1
 exact Fz ho (ae hg _) h1 hT hb (fun a' v' q=>hK a' v' q) fun ch a' v' q=>q.elim
theorem St.know{c:Cx}{Γ:Ga}{Δ:List D}{a:Act}{v:VW}{d:Nat}{u:Value}(st:St c Γ Δ a v)(h:a.tmps.getD d undef=u):St c ((d,.eq u)::Γ) Δ a v:=by
 obtain⟨h1,h2,S,h3,h4,h5,h6⟩:=st;refine⟨h1,h2,S,h3,h4,h5,fun s r hl=>?_⟩;simp only [lk] at hl;split at hl
 ·rename_i e;subst e;cases hl;exact h
 ·exact h6 s r hl
theorem St.base{P:Program}{N:Nat}{S0:FS}{w0:VW}{rd:Option Nat}{df:List Deferred}{M M':Md P}{Γ:Ga}{a:Act}{v:VW}(st:St ⟨P,N,S0,w0,au [],rd,df,M⟩ Γ [] a v):∃S,(∀b,S b→b < v.heap.size)∧aQ [] S v∧St ⟨P,N,S,v,au [],rd,df,M'⟩ Γ [] a v:=by
 obtain⟨h1,h2,S,h3,h4,h5,h6⟩:=st;exact⟨S,h3.dom,h5,h1,h2,S,bz.refl h3.dom,fun b hb=>.inl hb,h5,h6⟩
theorem BC.call{P:Program}{T:Tq}(h:BC P T){b:Frame}{a:Act}{k:List Item}{cs:List Frame}{ops:Array Oper}{i:Nat}{rest:List Nat}{o:Oper}{f:Nat}{fn:Func}{C:Code}{xs:Array Operand}{ts:Array TypeId}{cL:List Value}{v:VW}
 (ho:ops[i]? =some o) (hg:o.guard=none) (hop:o.op= .call { callee:=.value (.func f),args:=xs,argTypes:=ts }) (hf:P.funcs[f]? =some fn) (hname:(fn.name == "runtime.NumGoroutine")=false) (hb:fn.body=some C) (hm:xs.map a.eval=cL.toArray)
 (ht:T v (Frame.enter P f cL.toArray .normal) (b.atR a (.inRegion ops (i::rest)::k)::cs)):T v (b.atR a (.inRegion ops (i::rest)::k)) cs:=by
 have ef:a.eval (.func f)= .func (.func f) #[] #[]:=rfl
 have hn:¬fn.name= "runtime.NumGoroutine" :=by simpa using hname
 have e1:o.semAt b.roundOf a.eval=execOp a.eval o:=Oper.semAt_eq _ _ _ fun c e=>by rw [hop] at e;cases e
 have hr:∀w,(execOp a.eval o).runT P w #[]=(.ok (.enter f cL.toArray) w, #[]):=fun w=>by
  unfold execOp;simp [hop,resolve,Deferred.ofValue,ef,invoke,callFunc,hf,hn,hb,hm]
 refine h.step _ _ _ fun v1 hr1=>?_
 have h1:(o.semAt b.roundOf a.eval).run P v1.toWorld= .ok (.enter f cL.toArray) v1.toWorld:=by rw [e1,←Sem.runT_fst P _ _ #[],hr]
 obtain⟨es,h2,h3⟩:=wS (b:=b) (k:=k) (cs:=cs) (rest:=rest) ho (ae hg _) h1
 refine⟨_,_,_,es,h3,(dW.refl v1).sub fun e he=>?_,h.rely _ _ _ _ hr1 ht⟩
 have:=h2 e he
 rw [e1] at this
 unfold Sem.events at this
 rw [hr] at this
 exact this
end K
end Go.Proofs.YtkncjjdpjaapaaaGreat
namespace Go.Proofs.YtkncjjdpjaapaaaGreat
open K Go Go.Proofs Go.Conc Go.Conc.Lib
abbrev Lu:Go.Conc.Lib.WgLink:={ add:=70,done:=72,wait:=73,relMerge:=84,disable:=85,enable:=86,inBubble:=87,associate:=88,fatal:=89,uOr:=90,uAdd:=91,raceRead:=92,uLoad:=93,uStore:=94,disassociate:=95,semrelease:=96,acquire:=97,isAssociated:=98,uCas:=99,raceWrite:=100,semacquire:=101,orU64:=107,addU64:=108,loadU64:=109,storeU64:=110,casU64:=111,tWgP:=150,tUP:=152,tAssoc:=153,tWg:=133,tAU:=131,tU64:=54,tUint:=123,tU32:=102,tPU32:=157,tPAU:=170,tPU64:=172,tNoCopy:=101,tANoCopy:=128,tAlign64:=129 }
theorem xJ:Go.Conc.Lib.WgLib Tryz.prog Lu:=
 ⟨Tryz.func70,Tryz.func72,Tryz.func73,Tryz.func84,Tryz.func85,Tryz.func86,Tryz.func87,Tryz.func88,Tryz.func89,Tryz.func90,Tryz.func91,Tryz.func92,Tryz.func93,Tryz.func94,Tryz.func95,Tryz.func96,Tryz.func97,Tryz.func98,Tryz.func99,Tryz.func100,Tryz.func101,Tryz.func107,Tryz.func108,Tryz.func109,Tryz.func110,Tryz.func111,Tryz.underlying150,Tryz.runUnderlying150,Tryz.sizeOf150,Tryz.isAgg150,Tryz.zeroValue150,Tryz.underlying152,Tryz.runUnderlying152,Tryz.sizeOf152,Tryz.isAgg152,Tryz.zeroValue152,Tryz.underlying153,Tryz.runUnderlying153,Tryz.sizeOf153,Tryz.isAgg153,Tryz.zeroValue153,Tryz.underlying133,Tryz.runUnderlying133,Tryz.sizeOf133,Tryz.isAgg133,Tryz.zeroValue133,Tryz.underlying131,Tryz.runUnderlying131,Tryz.sizeOf131,Tryz.isAgg131,Tryz.zeroValue131,Tryz.underlying54,Tryz.runUnderlying54,Tryz.sizeOf54,Tryz.isAgg54,Tryz.zeroValue54,Tryz.underlying123,Tryz.runUnderlying123,Tryz.sizeOf123,Tryz.isAgg123,Tryz.zeroValue123,Tryz.underlying102,Tryz.runUnderlying102,Tryz.sizeOf102,Tryz.isAgg102,Tryz.zeroValue102,Tryz.underlying157,Tryz.runUnderlying157,Tryz.sizeOf157,Tryz.isAgg157,Tryz.zeroValue157,Tryz.underlying170,Tryz.runUnderlying170,Tryz.sizeOf170,Tryz.isAgg170,Tryz.zeroValue170,Tryz.underlying172,Tryz.runUnderlying172,Tryz.sizeOf172,Tryz.isAgg172,Tryz.zeroValue172,Tryz.underlying0,Tryz.runUnderlying0,Tryz.sizeOf0,Tryz.isAgg0,Tryz.zeroValue0,Tryz.underlying3,Tryz.runUnderlying3,Tryz.sizeOf3,Tryz.isAgg3,Tryz.zeroValue3,Tryz.underlying4,Tryz.runUnderlying4,Tryz.sizeOf4,Tryz.isAgg4,Tryz.zeroValue4,Tryz.underlying9,Tryz.runUnderlying9,Tryz.sizeOf9,Tryz.isAgg9,Tryz.zeroValue9,Tryz.underlying20,Tryz.runUnderlying20,Tryz.sizeOf20,Tryz.isAgg20,Tryz.zeroValue20,Tryz.underlying21,Tryz.runUnderlying21,Tryz.sizeOf21,Tryz.isAgg21,Tryz.zeroValue21,(by kernel_rfl),(by kernel_rfl)⟩
end Go.Proofs.YtkncjjdpjaapaaaGreat
set_option linter.unusedVariables false
set_option maxRecDepth 20000
set_option maxHeartbeats 4000000
namespace Go.Proofs.YtkncjjdpjaapaaaGreat
open K Go Go.Proofs Go.Conc
theorem DD:ah Tryz.prog 71:=ah.of Tryz.func71 (by kernel_rfl) (by kernel_rfl)
theorem oH:dL Tryz.prog 127 1 false:=⟨fun w=>by kernel_rfl,fun w=>by kernel_rfl⟩
theorem AZ:dL Tryz.prog 62 1 false:=⟨fun w=>by kernel_rfl,fun w=>by kernel_rfl⟩
theorem Ln:∀w,(zeroValue 63).run Tryz.prog w= .ok (.int .u8 0) w:=fun w=>by kernel_rfl
noncomputable def nq:Code:=match Tryz.f71.body with
 |some (.seq _ (.block _ (.loop b)))=>b
 |_=>.skip
noncomputable def xH:Array Oper:=match nq with
 | .block _ (.seq (.region _ ops _) _)=>ops
 |_=> #[]
noncomputable def o9:Code:=match nq with
 | .block _ (.seq _ c)=>c
 |_=>.skip
noncomputable def Lr:Code:=match o9 with
 | .seq (.seq _ c) _=>c
 |_=>.skip
noncomputable def Lq:Code:=match o9 with
 | .seq _ c=>c
 |_=>.skip
abbrev HW:Frame:={ (default:Frame) with fn:=71,kind:=.deferred }
@[reducible] noncomputable def KI (bw bc bm:Nat) (cl:List Value) (a0:ai):Ga:=[(0,.eq (.pointer (some ⟨bw,0,none⟩))),(1,.at .val (.chan (some bc))),(2,.at (.mo (.pointer (some ⟨bm,0,none⟩)) cl ab) a0)]
@[reducible] noncomputable def zr (M:Md Tryz.prog) (bw:Nat) (S:FS) (v:VW):Cx:=⟨Tryz.prog,15,S,v,au [],none,[dcall 72 #[.pointer (some ⟨bw,0,none⟩)]],M⟩
structure xi(bw bc bm bk:Nat)(v:VW):Prop where
 m:v.A bm
 w:v.A bw
 c:v.A bc
 k:v.A bk
 z:¬v.Z bk
theorem xi.rely{bw bc bm bk:Nat}{v v':VW}(h:xi bw bc bm bk v)(hr:bi v v'):xi bw bc bm bk v':=⟨hr.sub _ h.m,hr.sub _ h.w,hr.sub _ h.c,hr.sub _ h.k,by rw [hr.Z];exact h.z⟩
theorem xi.st{bw bc bm bk:Nat}{c:Cx}{Γ:Ga}{Δ:List D}{a:Act}{v:VW}(h:xi bw bc bm bk c.w0)(st:St c Γ Δ a v):xi bw bc bm bk v:=⟨St.subA st h.m,St.subA st h.w,St.subA st h.c,St.subA st h.k,by rw [Ht st];exact h.z⟩
def Qk(bw bc bm bk:Nat)(cl:List Value)(a0:ai):Nat→Value→VW→Frame→List Frame→Prop:=fun c x v fr cs=>∃a S dd c',c=c'+12∧St (zr (Md.plain Tryz.prog) bw S v) ((6,.eq (.chan (some bc)))::KI bw bc bm cl a0) [] a v∧xi bw bc bm bk v∧
 fr=HW.atR (a.put (some 7) (.tuple #[x,.bool true])) [.inRegion xH [2,3,4,5,6],.code o9,.inBlock 1,.inLoop nq,.inBlock 0]∧cs=[{ dU Tryz.prog dd with defers:=[] }]
@[reducible] def cX(bw bc bm bk:Nat)(c0 c1 c2 c3 c4 c5:Value)(k:Nat)(a0:ai):Gp:=⟨true,bw,133,bc,bm,109, #[c0,c1,c2,c3,c4,c5],bk,aI k a0,fun x=>∃s r,x= .int .u8 s∧lu k a0 s=some r,Qk bw bc bm bk [c0,c1,c2,c3,c4,c5] a0⟩
section
variable {bw bc bm bk:Nat}{c0 c1 c2 c3 c4 c5:Value}{k:Nat}{a0:ai}{T:Tq}{M:Md Tryz.prog}{S:FS}{v w0:VW}{a:Act}{dd:Deferred}{Γ:Ga}
theorem xF{v:VW}(h:xi bw bc bm bk v):∀b,(cX bw bc bm bk c0 c1 c2 c3 c4 c5 k a0).sh b→v.A b:=by
 rintro b (rfl |⟨_,rfl |rfl⟩)
 ·exact h.m
 ·exact h.w
 ·exact h.c
theorem Lp{S:FS}{w:World}{x y:Value}:(A.tup (.pair (.eq x) (.pair (.eq y) .any))).holds S w (.tuple #[x,y]):=⟨[x,y],rfl,x,[y],rfl,rfl,y,[],rfl,rfl,rfl⟩
theorem K.St.see{c:Cx}{Γ:Ga}{Δ:List D}{a:Act}{v:VW}{d:Nat}{r:A}(st:St c Γ Δ a v)(h:∀S:FS,r.holds S v (a.tmps.getD d undef)):St c ((d,r)::Γ) Δ a v:=by
 obtain⟨h1,h2,S,h3,h4,h5,h6⟩:=st;refine⟨h1,h2,S,h3,h4,h5,fun s r hl=>?_⟩;simp only [lk] at hl;split at hl
 ·rename_i e;subst e;cases hl;exact h S
 ·exact h6 s r hl
theorem uY{s:Ph}(hq:s.q=false)(hn:s.nr=true):BC Tryz.prog (Ww Tryz.prog (cX bw bc bm bk c0 c1 c2 c3 c4 c5 k a0) T false s):=Ww.bc hq hn
theorem A1{s:Ph}(hq:s.q=false)(hn:s.nr=true):(MW Tryz.prog (cX bw bc bm bk c0 c1 c2 c3 c4 c5 k a0) T).ok (Ww Tryz.prog (cX bw bc bm bk c0 c1 c2 c3 c4 c5 k a0) T false s):=⟨false,s,hq,hn,rfl⟩
theorem xG{x:Value}{is:Bool}{s:Ph}(hq:s.q=false)(hn:s.nr=true){kk:List Item}{cs:List Frame}(st:St (zr (MW Tryz.prog (cX bw bc bm bk c0 c1 c2 c3 c4 c5 k a0) T) bw S w0) ((6,.eq (.chan (some bc)))::KI bw bc bm [c0,c1,c2,c3,c4,c5] a0) [] a v)
 (hc:∀a' v',St (zr (MW Tryz.prog (cX bw bc bm bk c0 c1 c2 c3 c4 c5 k a0) T) bw S w0) ((11,.eq (.bool !is))::(3,.eq x)::KI bw bc bm [c0,c1,c2,c3,c4,c5] a0) [] a' v'→Ww Tryz.prog (cX bw bc bm bk c0 c1 c2 c3 c4 c5 k a0) T false s v' (HW.atR a' (.code Lr:: .code Lq::kk)) cs):
 Ww Tryz.prog (cX bw bc bm bk c0 c1 c2 c3 c4 c5 k a0) T false s v (HW.atR (a.put (some 7) (.tuple #[x,.bool is])) (.inRegion xH [2,3,4,5,6]:: .code o9::kk)) cs:=by
 have B:=uY (bw:=bw) (bc:=bc) (bm:=bm) (bk:=bk) (c0:=c0) (c1:=c1) (c2:=c2) (c3:=c3) (c4:=c4) (c5:=c5) (k:=k) (a0:=a0) (T:=T) hq hn
 have hT:=A1 (bw:=bw) (bc:=bc) (bm:=bm) (bk:=bk) (c0:=c0) (c1:=c1) (c2:=c2) (c3:=c3) (c4:=c4) (c5:=c5) (k:=k) (a0:=a0) (T:=T) hq hn
 have q1:=st.toQ.put (d:=7) (x:=.tuple #[x,.bool is]) rfl
 have st1:=(lb st (uH.base.new) q1).see (d:=7) (r:=.tup (.pair (.eq x) (.pair (.eq (.bool is)) .any))) fun S=>by rw [q1.val 7 _ rfl];exact Lp
 refine ie (c:=zr (MW Tryz.prog (cX bw bc bm bk c0 c1 c2 c3 c4 c5 k a0) T) bw S w0) (i:=2) (rest:=[3,4,5,6]) hT rfl st1 rfl rfl (bU rfl (bM rfl) ⟨rfl,trivial⟩ (aE (ap fun _ _ h=>h))) fun a2 v2 st2=>?_
 refine ie (c:=zr (MW Tryz.prog (cX bw bc bm bk c0 c1 c2 c3 c4 c5 k a0) T) bw S w0) (i:=3) (rest:=[4,5,6]) hT rfl st2 rfl rfl (bU rfl (l7 rfl rfl) ⟨rfl,trivial⟩ (aE (ap fun _ _ h=>h))) fun a3 v3 st3=>?_
 refine ie (c:=zr (MW Tryz.prog (cX bw bc bm bk c0 c1 c2 c3 c4 c5 k a0) T) bw S w0) (i:=4) (rest:=[5,6]) hT rfl st3 rfl rfl (bU rfl (l7 rfl rfl) ⟨rfl,trivial⟩ (aE (ap fun _ _ h=>h))) fun a4 v4 st4=>?_
 refine ie (c:=zr (MW Tryz.prog (cX bw bc bm bk c0 c1 c2 c3 c4 c5 k a0) T) bw S w0) (i:=5) (rest:=[6]) hT rfl st4 rfl rfl (bU rfl (qy rfl) ⟨rfl,trivial⟩ (aE (ap fun _ _ h=>h))) fun a5 v5 st5=>?_
 refine ie (c:=zr (MW Tryz.prog (cX bw bc bm bk c0 c1 c2 c3 c4 c5 k a0) T) bw S w0) (i:=6) (rest:=[]) hT rfl st5 rfl rfl (bU rfl (qy rfl) ⟨rfl,trivial⟩ (aE (ap fun _ _ h=>h))) fun a6 v6 st6=>?_
 refine B.move (fun _ _=>cN) ?_
 refine B.move (fun _ _=>du) ?_
 refine B.move (fun _ _=>du) ?_
 refine dV (c:=zr (MW Tryz.prog (cX bw bc bm bk c0 c1 c2 c3 c4 c5 k a0) T) bw S w0) (Q:=fun a w=>St (zr (MW Tryz.prog (cX bw bc bm bk c0 c1 c2 c3 c4 c5 k a0) T) bw S w0) ((11,.eq (.bool !is))::(3,.eq x)::KI bw bc bm [c0,c1,c2,c3,c4,c5] a0) [] a w) hT rfl st6 ?_ fun a7 v7 st7=>hc a7 v7 st7
 refine ag ?_
 refine gA rfl rfl ?_
 refine bU rfl (gJ rfl) ⟨rfl,trivial⟩ ?_
 refine aE (ap ?_)
 exact iU (junk:=[]) (by repeat (first |exact trivial |refine⟨rfl,?_⟩)) tB
theorem A2(hok:(cX bw bc bm bk c0 c1 c2 c3 c4 c5 k a0).Ok){c:Nat}(hA:xi bw bc bm bk w0)(st:St (zr (MW Tryz.prog (cX bw bc bm bk c0 c1 c2 c3 c4 c5 k a0) T) bw S w0) (KI bw bc bm [c0,c1,c2,c3,c4,c5] a0) [] a v):
 Ww Tryz.prog (cX bw bc bm bk c0 c1 c2 c3 c4 c5 k a0) T false { ac:=1,nw:=1,phi:=c } v (HW.atR a [.code nq,.inLoop nq,.inBlock 0]) [{ dU Tryz.prog dd with defers:=[] }]:=by
 have B:BC Tryz.prog (Ww Tryz.prog (cX bw bc bm bk c0 c1 c2 c3 c4 c5 k a0) T false { ac:=1,nw:=1,phi:=c }):=uY rfl rfl
 refine B.move (fun _ _=>mR) ?_
 refine B.move (fun _ _=>du) ?_
 refine B.move (fun _ _=>eH) ?_
 refine ie (c:=zr (MW Tryz.prog (cX bw bc bm bk c0 c1 c2 c3 c4 c5 k a0) T) bw S w0) (i:=0) (rest:=[1,2,3,4,5,6]) (Γ':=(6,.eq (.chan (some bc)))::KI bw bc bm [c0,c1,c2,c3,c4,c5] a0) (Δ':=[]) (A1 rfl rfl) rfl st rfl rfl (bU rfl (av (t:=.val) rfl oH rfl) ⟨rfl,trivial⟩ (aE (ap fun _ _ h=>h))) fun a1 v1 st1=>?_
 have hfin:∀u,(HW.atR a1 (.inRegion xH (1::[2,3,4,5,6])::[.code o9,.inBlock 1,.inLoop nq,.inBlock 0])).finish u=HW.atR (a1.put (some 7) u) [.inRegion xH [2,3,4,5,6],.code o9,.inBlock 1,.inLoop nq,.inBlock 0]:=fun u=>by rw [Frame.finish_atR];rfl
 refine Hm (fr:=HW.atR a1 (.inRegion xH (1::[2,3,4,5,6])::[.code o9,.inBlock 1,.inLoop nq,.inBlock 0])) (z:=.int .u8 0) rfl rfl rfl rfl rfl (fun w=>MN rfl (ae rfl _) rfl Tryz.underlying127 Ln (fS st1 (s:=6) rfl)) (fun v2 x hr hx=>⟨rfl,?_⟩) (fun v2 hr=>?_)
 ·
  obtain⟨S',h1,h2,h3⟩:=St.base (M':=Md.plain Tryz.prog) (st1.rely hr);exact⟨a1,S',dd,c,rfl,h3,(hA.st st1).rely hr,hfin _,rfl⟩
 ·
  rw [hfin];have B':BC Tryz.prog (Ww Tryz.prog (cX bw bc bm bk c0 c1 c2 c3 c4 c5 k a0) T false (If c)):=uY rfl rfl;refine xG (s:=If c) rfl rfl (st1.rely hr) fun a3 v3 st3=>?_;refine B'.move (fun _ _=>pQ (t:=true) (fS st3 (s:=11) rfl)) ?_;rw [if_pos rfl];have hA3:=hA.st st3;rw [fC rfl];exact(Qt.ret (T:=WV v3 Tryz.prog (cX bw bc bm bk c0 c1 c2 c3 c4 c5 k a0) T false (If c)) (bg rfl) (yN xJ hok rfl fun v'=>HA rfl Tryz.func71 rfl):Qt (WV v3 Tryz.prog (cX bw bc bm bk c0 c1 c2 c3 c4 c5 k a0) T false (If c)) v3 HW [{ dU Tryz.prog dd with defers:=[] }] 15 [dcall 72 #[.pointer (some (cX bw bc bm bk c0 c1 c2 c3 c4 c5 k a0).stA)]] _ (cL _ a3)) a3 st3.toQ (VR.refl (xF hA3) (sa st3 hA3.k)) ⟨fun _=>rfl,fun _=>hA3.k⟩
theorem N5(hok:(cX bw bc bm bk c0 c1 c2 c3 c4 c5 k a0).Ok):D4 Tryz.prog (cX bw bc bm bk c0 c1 c2 c3 c4 c5 k a0) T:=by
 rintro _ x v fr cs ⟨a,S,dd,c,rfl,st,hA,rfl,rfl⟩ ⟨s,r,rfl,hcr⟩;obtain⟨S',h1,h2,h3⟩:=St.base (M':=MW Tryz.prog (cX bw bc bm bk c0 c1 c2 c3 c4 c5 k a0) T) st;have B:BC Tryz.prog (Ww Tryz.prog (cX bw bc bm bk c0 c1 c2 c3 c4 c5 k a0) T false { ac:=1,nw:=1,phi:=c+12 }):=uY rfl rfl;refine xG (s:={ ac:=1,nw:=1,phi:=c+12 }) rfl rfl h3 fun a1 v1 st1=>?_;refine B.move (fun _ _=>pQ (t:=false) (fS st1 (s:=11) rfl)) ?_;rw [if_neg (by decide)];refine B.move (fun _ _=>wQ) ?_;refine B.move (fun _ _=>eH) ?_;refine ie (c:=zr (MW Tryz.prog (cX bw bc bm bk c0 c1 c2 c3 c4 c5 k a0) T) bw S' v) (i:=0) (rest:=[1,2]) (A1 rfl rfl) rfl st1 rfl rfl (bU rfl (av (t:=.mo (.pointer (some ⟨bm,0,none⟩)) [c0,c1,c2,c3,c4,c5] ab) rfl AZ rfl) ⟨rfl,trivial⟩ (aE (ap fun _ _ h=>h))) fun a2 v2 st2=>?_;refine ie (c:=zr (MW Tryz.prog (cX bw bc bm bk c0 c1 c2 c3 c4 c5 k a0) T) bw S' v) (i:=1) (rest:=[2]) (A1 rfl rfl) rfl st2 rfl rfl (bU rfl (bM rfl) ⟨rfl,trivial⟩ (aE (ap fun _ _ h=>h))) fun a3 v3 st3=>?_;have hA3:=hA.st st3;have e12:a3.tmps.getD 12 undef= .pointer (some ⟨bm,0,none⟩):=oc st3 (s:=12) rfl;have e13:a3.eval (.tmp 13)= .int .u8 s:=fS st3 (s:=13) rfl
 refine BC.call (cL:=[.pointer (some ⟨bm,0,none⟩),.int .u8 s]) B rfl rfl rfl Tryz.func29 (by kernel_rfl) rfl (by
  have e12':a3.eval (.tmp 12)= .pointer (some ⟨bm,0,none⟩):=e12;simp [e12',e13]) ?_
 obtain⟨g1,g2,S3,g3,g4,g5,g6⟩:=id st3
 have hall:fe S3 v3 [.rep (.mo (.pointer (some ⟨bm,0,none⟩)) [c0,c1,c2,c3,c4,c5] ab) a0,.eq (.int .u8 s)] [.pointer (some ⟨bm,0,none⟩),.int .u8 s]:=by
  have k12:=g6 12 _ rfl;rw [e12] at k12;exact⟨_,_,rfl,k12,_,_,rfl,rfl,rfl⟩
 refine yQ (p:=cX bw bc bm bk c0 c1 c2 c3 c4 c5 k a0) (s:={ ac:=1,nw:=1 }) (mn:=false) (kd:=.normal) (c:=c) hok ⟨rfl,rfl,rfl,fun e=>(by cases e)⟩ rfl rfl (fun e=>nomatch e) hcr (S:=S3) g3.dom hall g5 (xF hA3) hA3.k hA3.z fun c' v4 fr u hle hpo hf1 hf2 hlv hA'=>?_;have B':BC Tryz.prog (Ww Tryz.prog (cX bw bc bm bk c0 c1 c2 c3 c4 c5 k a0) T false { ac:=1,nw:=1,phi:=c' }):=uY rfl rfl;obtain⟨x,S4,u',e,hcs,hres,hOw,_⟩:=hpo;cases e;have hKs:fL S3 v3 v4:=fun b hb=>hcs.keep b (g3.dom b hb) (fun h=>g5.sees b hb h) fun h=>(bY h).elim
 have stB:St (zr (MW Tryz.prog (cX bw bc bm bk c0 c1 c2 c3 c4 c5 k a0) T) bw S4 v4) (KI bw bc bm [c0,c1,c2,c3,c4,c5] a0) [] a3 v4:=⟨g1,g2,S4,bz.refl hcs.dom,fun b hb=>.inl hb,hOw,fun s r hl=>A.mono (fun b hb=>hcs.sub b hb) hKs r (g6 s r (by
  simp only [lk] at hl⊢;split at hl
  ·rename_i e;subst e;simpa using hl
  ·split at hl
   ·rename_i e;subst e;simpa using hl
   ·split at hl
    ·rename_i e;subst e;simpa using hl
    ·cases hl))⟩
 have hA4:xi bw bc bm bk v4:=⟨hcs.subA _ hA3.m,hcs.subA _ hA3.w,hcs.subA _ hA3.c,hcs.subA _ hA3.k,by rw [hcs.Z];exact hA3.z⟩;refine oC B' hlv hf2 ?_;rw [Frame.finish_atR];refine B'.move (fun _ _=>cN) ?_;refine B'.move (fun _ _=>oD) ?_;refine B'.move (fun _ _=>qL) ?_;exact A2 hok hA4 (lb stB uH.base.new (stB.toQ.put (d:=14) (x:=u) rfl))
theorem CV(hok:(cX bw bc bm bk c0 c1 c2 c3 c4 c5 k a0).Ok){p0 p1 p2:Value}(hd:∀b,S b→b < v.heap.size)(hO:aQ [] S v)(hA:xi bw bc bm bk v)
 (hall:fe S v [.eq (.pointer (some ⟨bw,0,none⟩)),.at .val (.chan (some bc)),.at (.mo (.pointer (some ⟨bm,0,none⟩)) [c0,c1,c2,c3,c4,c5] ab) a0] [p0,p1,p2]):
 Ww Tryz.prog (cX bw bc bm bk c0 c1 c2 c3 c4 c5 k a0) T false .wk0 v (dU Tryz.prog { target:=.fn (.func 71) #[p0,p1,p2],args:= #[] }) []:=by
 have B:BC Tryz.prog (Ww Tryz.prog (cX bw bc bm bk c0 c1 c2 c3 c4 c5 k a0) T false .wk0):=uY rfl rfl
 refine B.move (fun m w=>wT DD) ?_
 rw [enter_at Tryz.func71 rfl]
 have st0:St ⟨Tryz.prog,15,S,v,au [],none,[],MW Tryz.prog (cX bw bc bm bk c0 c1 c2 c3 c4 c5 k a0) T⟩ (entry 0 [.eq (.pointer (some ⟨bw,0,none⟩)),.at .val (.chan (some bc)),.at (.mo (.pointer (some ⟨bm,0,none⟩)) [c0,c1,c2,c3,c4,c5] ab) a0]) [] { tmps:= #[p0,p1,p2]++Array.replicate (15 - 3) undef,defers:=[] } v:=St.entry (vs:=[p0,p1,p2]) rfl hd hall hO
 have key:∀a0',St ⟨Tryz.prog,15,S,v,au [],none,[],MW Tryz.prog (cX bw bc bm bk c0 c1 c2 c3 c4 c5 k a0) T⟩ (entry 0 [.eq (.pointer (some ⟨bw,0,none⟩)),.at .val (.chan (some bc)),.at (.mo (.pointer (some ⟨bm,0,none⟩)) [c0,c1,c2,c3,c4,c5] ab) a0]) [] a0' v→Ww Tryz.prog (cX bw bc bm bk c0 c1 c2 c3 c4 c5 k a0) T false .wk0 v (HW.atR a0' [.code (Tryz.f71.body.getD .skip)]) [{ dU Tryz.prog { target:=.fn (.func 71) #[p0,p1,p2],args:= #[] } with defers:=[] }]:=by
  intro a0' st0;have e0:a0'.tmps.getD 0 undef= .pointer (some ⟨bw,0,none⟩):=fS st0 (s:=0) rfl;refine B.move (fun _ _=>du) ?_;refine B.move (fun _ _=>eH) ?_;rw [fC rfl];refine(Qt.defer (cL:=[.pointer (some ⟨bw,0,none⟩)]) (T:=Ww Tryz.prog (cX bw bc bm bk c0 c1 c2 c3 c4 c5 k a0) T false .wk0) (AO rfl) rfl rfl rfl (fun a1 q1=>?_):Qt (Ww Tryz.prog (cX bw bc bm bk c0 c1 c2 c3 c4 c5 k a0) T false .wk0) v HW _ 15 [] _ ((0,.pointer (some ⟨bw,0,none⟩))::cL (entry 0 [.eq (.pointer (some ⟨bw,0,none⟩)),.at .val (.chan (some bc)),.at (.mo (.pointer (some ⟨bm,0,none⟩)) [c0,c1,c2,c3,c4,c5] ab) a0]) a0')) a0' (st0.toQ.know e0);have st1:St (zr (MW Tryz.prog (cX bw bc bm bk c0 c1 c2 c3 c4 c5 k a0) T) bw S v) (KI bw bc bm [c0,c1,c2,c3,c4,c5] a0) [] a1 v:=lb st0 (uH.base.know e0) q1;rw [←fC rfl];refine B.move (fun _ _=>cN) ?_;refine B.move (fun _ _=>mR) ?_;refine B.move (fun _ _=>wR) ?_;exact A2 (c:=0) hok hA st1
 exact key _ st0
end
end Go.Proofs.YtkncjjdpjaapaaaGreat
set_option linter.unusedVariables false
set_option maxRecDepth 20000
set_option maxHeartbeats 4000000
namespace Go.Proofs.YtkncjjdpjaapaaaGreat
open K Go Go.Proofs Go.Conc
theorem HC{P:Program}{Wl:World→Prop}{Γ:Gv}{o:Oper}{f:FuncId}{cs:Array Operand}{us:List Value}(ho:o.op= .makeFunc (.func f) #[] cs)(h:cs.toList.map (ev Γ)=us.map some):OV P Wl o Γ (.func (.func f) #[] us.toArray):=fun N df a ha w hl=>by
 have hm:=xd ha h
 simp [execOp,ho,Instr.makeFunc,hm]
@[reducible] def K.ez(v:VW):VW:=⟨v.toWorld,v.A,fun _=>False⟩
theorem K.bi.ez{v v':VW}(h:bi v v'):bi (K.ez v) (K.ez v'):=⟨h.keep,h.size,h.sub,h.old,h.dom,rfl,h.os,h.tape,h.output⟩
theorem K.bz.ez{X:Nat→Prop}{S S':FS}{v v':VW}(h:bz X S v S' v'):bz X S (K.ez v) S' (K.ez v'):=⟨h.sub,h.new,h.dom,h.size,h.keep,h.os,h.tape,h.output,h.subA,h.oldA,rfl⟩
theorem K.St.pop{c:Cx}{Γ:Ga}{Δ:List D}{a:Act}{v:VW}{d:Nat}{r:A}(st:St c ((d,r)::Γ) Δ a v)(hd:lk Γ d=none:=by exact rfl):St c Γ Δ a v:=by
 obtain⟨h1,h2,S,h3,h4,h5,h6⟩:=st;refine⟨h1,h2,S,h3,h4,h5,fun s r hl=>h6 s r ?_⟩;simp only [lk];split
 ·rename_i e;subst e;rw [hd] at hl;cases hl
 ·exact hl
noncomputable def H7:Code:=match Tryz.f52.body with
 |some (.seq _ (.seq _ (.seq _ (.seq (.seq _ (.block _ (.loop b))) _))))=>b
 |_=>.skip
noncomputable def Qj:Code:=match Tryz.f52.body with
 |some (.seq _ (.seq _ (.seq _ (.seq _ (.seq (.seq r _) _)))))=>r
 |_=>.skip
noncomputable def Lm:Code:=match Tryz.f52.body with
 |some (.seq _ (.seq _ (.seq _ (.seq _ (.seq (.seq _ (.block _ (.loop b))) _)))))=>b
 |_=>.skip
noncomputable def KH:Code:=match Tryz.f52.body with
 |some (.seq _ (.seq _ (.seq _ (.seq _ (.seq _ c)))))=>c
 |_=>.skip
@[reducible] noncomputable def oP (M:Md Tryz.prog) (S:FS) (v:VW):Cx:=⟨Tryz.prog,26,S,v,au [],none,[],M⟩
@[reducible] noncomputable def xz (bw bc bm:Nat) (cl:List Value) (a0:ai):Ga:=[(1,.at (.mo (.pointer (some ⟨bm,0,none⟩)) cl ab) a0),(2,.at .val (.chan (some bc))),(3,.eq (.pointer (some ⟨bw,0,none⟩)))]
def NI(v0:VW)(S0:FS)(Γ:Ga)(a:Act)(v:VW):Prop:=∃S,a.defers=[]∧a.tmps.size=26∧bz (au []) S0 (ez v0) S (ez v)∧aQ [] S v∧∀s r,lk Γ s=some r→r.holds S v (a.tmps.getD s undef)
theorem NI.st{v0 v:VW}{S0:FS}{Γ:Ga}{a:Act}(M:Md Tryz.prog)(h:NI v0 S0 Γ a v):∃S,St (oP M S v) Γ [] a v∧bz (au []) S0 (ez v0) S (ez v)∧∀{M':Md Tryz.prog} {Γ':Ga} {a':Act} {v':VW},St (oP M' S v) Γ' [] a' v'→NI v0 S0 Γ' a' v':=by
 obtain⟨S,i1,i2,i3,i4,i5⟩:=h;refine⟨S,⟨i1,i2,S,bz.refl i3.dom,fun b hb=>.inl hb,i4,i5⟩,i3,fun {M' Γ' a' v'} st=>?_⟩;obtain⟨k1,k2,S6,k3,k4,k5,k6⟩:=st;exact⟨S6,k1,k2,i3.trans k3.ez fun b hb=>.inl hb,k5,k6⟩
@[reducible] def sS(Φ i:Nat)(al jn:Bool):Ph:={ phi:=Φ,op:=true,sp:=i,al:=al,jn:=jn }
theorem E8{Φ i:Nat}{al jn:Bool}:(sS Φ i al jn).Stt:=⟨rfl,rfl,rfl,rfl,rfl,rfl⟩
section
variable {bw bc bm bk:Nat}{c0 c1 c2 c3 c4 c5:Value}{k:Nat}{a0:ai}{T:Tq}{v v0:VW}{S0:FS}{a:Act}{b:Frame}{kk:List Item}{cs:List Frame}
theorem lU{s:Ph}(hq:s.q=false)(hn:s.nr=true):BC Tryz.prog (Ww Tryz.prog (cX bw bc bm bk c0 c1 c2 c3 c4 c5 k a0) T true s):=Ww.bc hq hn
theorem na{s:Ph}(hq:s.q=false)(hn:s.nr=true):(MW Tryz.prog (cX bw bc bm bk c0 c1 c2 c3 c4 c5 k a0) T).ok (Ww Tryz.prog (cX bw bc bm bk c0 c1 c2 c3 c4 c5 k a0) T true s):=⟨true,s,hq,hn,rfl⟩
theorem Em(hok:(cX bw bc bm bk c0 c1 c2 c3 c4 c5 k a0).Ok){i Φ:Nat}{al jn:Bool}(hjn:jn=true→al=true)(hi:i < 4)(hb:b.roundOf=none)(hbk:b.kind≠.early)(hA:xi bw bc bm bk v)(hI:NI v0 S0 ((6,.eq (.int .i64 (i:Int)))::xz bw bc bm [c0,c1,c2,c3,c4,c5] a0) a v)
 (next:∀a' v',xi bw bc bm bk v'→NI v0 S0 ((6,.eq (.int .i64 ((i+1:Nat):Int)))::xz bw bc bm [c0,c1,c2,c3,c4,c5] a0) a' v'→Ww Tryz.prog (cX bw bc bm bk c0 c1 c2 c3 c4 c5 k a0) T true (sS Φ (i+1) false false) v' (b.atR a' kk) cs):
 Ww Tryz.prog (cX bw bc bm bk c0 c1 c2 c3 c4 c5 k a0) T true (sS Φ i al jn) v (b.atR a (.code H7::kk)) cs:=by
 have B:BC Tryz.prog (Ww Tryz.prog (cX bw bc bm bk c0 c1 c2 c3 c4 c5 k a0) T true (sS Φ i al jn)):=lU rfl rfl
 have B1:BC Tryz.prog (Ww Tryz.prog (cX bw bc bm bk c0 c1 c2 c3 c4 c5 k a0) T true ((sS Φ i al jn).stt 0 1 false none al jn)):=lU rfl rfl
 obtain⟨S,st,hcs,hback⟩:=hI.st (MW Tryz.prog (cX bw bc bm bk c0 c1 c2 c3 c4 c5 k a0) T)
 refine B.move (fun _ _=>du) ?_
 refine dV (c:=oP (MW Tryz.prog (cX bw bc bm bk c0 c1 c2 c3 c4 c5 k a0) T) S v) (Q:=fun a w=>St (oP (MW Tryz.prog (cX bw bc bm bk c0 c1 c2 c3 c4 c5 k a0) T) S v) ((7,.eq (.bool true))::(6,.eq (.int .i64 (i:Int)))::xz bw bc bm [c0,c1,c2,c3,c4,c5] a0) [] a w) (na rfl rfl) hb st ?_ fun a1 v1 st1=>?_
 ·
  refine ag ?_;refine bU rfl (bG rfl) ⟨rfl,rfl,trivial⟩ ?_;refine aE (ap ?_);rw [decide_eq_true (by omega)];exact fun _ _ h=>h
 refine B.move (fun _ _=>du) ?_
 refine B.move (fun _ _=>pQ (t:=true) (fS st1 (s:=7) rfl)) ?_
 rw [if_pos rfl]
 refine B.move (fun _ _=>wQ) ?_
 refine B.move (fun _ _=>du) ?_
 refine B.move (fun _ _=>mR) ?_
 refine B.move (fun _ _=>du) ?_
 refine B.move (fun _ _=>eH) ?_
 have hA1:=hA.st (c:=oP (MW Tryz.prog (cX bw bc bm bk c0 c1 c2 c3 c4 c5 k a0) T) S v) st1
 have h3:a1.tmps.getD 3 undef= .pointer (some ⟨bw,0,none⟩):=fS st1 (s:=3) rfl
 rw [fC hb]
 refine(Qt.call (cL:=[.pointer (some ⟨bw,0,none⟩),.int .i64 1]) (T:=WV v1 Tryz.prog (cX bw bc bm bk c0 c1 c2 c3 c4 c5 k a0) T true ((sS Φ i al jn).stt 0 0 false none al jn)) (bg rfl) rfl rfl xJ.f_add (by kernel_rfl) rfl rfl (fun c hk=>?_) (hk:=hbk):Qt (WV v1 Tryz.prog (cX bw bc bm bk c0 c1 c2 c3 c4 c5 k a0) T true ((sS Φ i al jn).stt 0 0 false none al jn)) v1 b cs 26 [] _ ((3,.pointer (some ⟨bw,0,none⟩))::cL ((7,.eq (.bool true))::(6,.eq (.int .i64 (i:Int)))::xz bw bc bm [c0,c1,c2,c3,c4,c5] a0) a1)) a1 (st1.toQ.know h3) (VR.refl (xF hA1) (sa st1 hA1.k)) ⟨fun _=>rfl,fun _=>hA1.k⟩
 refine J2 xJ hok rfl E8 hjn fun v3=>?_
 refine hk _ _ _ fun a3 q3 hv3 hA3'=>?_
 have hA3k:=hA3'.2 rfl
 have st1':=st1
 rw [←ju (p:=cX bw bc bm bk c0 c1 c2 c3 c4 c5 k a0) hA1.k] at st1'
 have st3:=lb (st1'.vr hv3) ((uH.base.know h3).new) q3
 rw [ju (p:=cX bw bc bm bk c0 c1 c2 c3 c4 c5 k a0) hA3k] at st3
 have hA3:=hA.st (c:=oP (MW Tryz.prog (cX bw bc bm bk c0 c1 c2 c3 c4 c5 k a0) T) S v) st3
 rw [←fC hb]
 refine B1.move (fun _ _=>cN) ?_
 refine B1.move (fun _ _=>eH) ?_
 rw [fC hb]
 refine(Qt.op (T:=Ww Tryz.prog (cX bw bc bm bk c0 c1 c2 c3 c4 c5 k a0) T true ((sS Φ i al jn).stt 0 1 false none al jn)) (AO rfl) rfl (HC (us:=[a3.tmps.getD 3 undef,a3.tmps.getD 2 undef,a3.tmps.getD 1 undef]) rfl rfl) (fun a4 q4=>?_) (hk:=hbk):Qt (Ww Tryz.prog (cX bw bc bm bk c0 c1 c2 c3 c4 c5 k a0) T true ((sS Φ i al jn).stt 0 1 false none al jn)) v3 b cs 26 [] _ (cL ((7,.eq (.bool true))::(6,.eq (.int .i64 (i:Int)))::xz bw bc bm [c0,c1,c2,c3,c4,c5] a0) a3)) a3 st3.toQ
 have st4:=lb st3 (uH.base.new) q4
 have hx:=q4.val 9 _ rfl
 have hv:∀s r,lk ((7,.eq (.bool true))::(6,.eq (.int .i64 (i:Int)))::xz bw bc bm [c0,c1,c2,c3,c4,c5] a0) s=some r→a4.tmps.getD s undef=a3.tmps.getD s undef:=fun s r hl=>q4.val s _ ((uH.base.new (d:=9) (u:=.func (.func 71) #[] [a3.tmps.getD 3 undef,a3.tmps.getD 2 undef,a3.tmps.getD 1 undef].toArray)) s r hl)
 obtain⟨g1,g2,S2,g3,g4,g5,g6⟩:=id st4
 rw [←fC hb]
 refine DY (Sh:=S2) (fc:=dU Tryz.prog { target:=.fn (.func 71) #[a3.tmps.getD 3 undef,a3.tmps.getD 2 undef,a3.tmps.getD 1 undef],args:= #[] }) rfl rfl rfl rfl rfl rfl (show i < 100 by omega) (fun w0=>QL (i:=1) (rest:=[]) rfl (ae rfl _) rfl rfl hx) (fun y hy=>⟨g3.dom y hy,g5.sees y hy,fun e=>g5.sees y hy (e▸hA3.k)⟩) (fun v4 hr4=>?_) (fun v4 hr4=>?_)
 ·
  have hd4:∀y,S2 y→y < v4.heap.size:=fun y hy=>Nat.lt_of_lt_of_le (g3.dom y hy) hr4.size
  have h64:∀s r,lk ((7,.eq (.bool true))::(6,.eq (.int .i64 (i:Int)))::xz bw bc bm [c0,c1,c2,c3,c4,c5] a0) s=some r→r.holds S2 v4 (a3.tmps.getD s undef):=fun s r hl=>by
   rw [←hv s r hl];exact A.mono (fun _ h=>h) (eW g3.dom g5.sees hr4) r (g6 s r hl)
  have hA4:=hA3.rely hr4;have hin:∀y,v4.A y→y < v4.heap.size∧¬S2 y:=fun y hy=>⟨hr4.dom g5.domA y hy,fun hS=>(hr4.old y hy).elim (g5.sees y hS) fun x=>Nat.lt_irrefl _ (Nat.lt_of_lt_of_le (g3.dom y hS) x)⟩
  exact CV hok (v:=⟨v4.toWorld,fun b=>b < v4.heap.size∧¬S2 b,S2⟩) hd4 ⟨fun _ h=>by simp at h,fun _ hb=>(bY hb).elim,List.Pairwise.nil,fun _ hb=>(bY hb).elim,fun y hy h=>h.2 hy,fun _ h=>h.1,hd4⟩
   ⟨hin _ hA4.m,hin _ hA4.w,hin _ hA4.c,hin _ hA4.k,fun hS=>g5.sees _ hS hA3.k⟩ ⟨_,_,rfl,h64 3 _ rfl,_,_,rfl,h64 2 _ rfl,_,_,rfl,h64 1 _ rfl,rfl⟩
 ·
  have B':BC Tryz.prog (Ww Tryz.prog (cX bw bc bm bk c0 c1 c2 c3 c4 c5 k a0) T true (sS Φ (i+1) false false)):=lU rfl rfl;refine B'.move (fun _ _=>cN) ?_;refine B'.move (fun _ _=>oD) ?_;have hO4:=g5.rely g3.dom hr4;have hd4:∀y,S2 y→y < v4.heap.size:=fun y hy=>Nat.lt_of_lt_of_le (g3.dom y hy) hr4.size
  have hI':NI v0 S0 ((6,.eq (.int .i64 (i:Int)))::xz bw bc bm [c0,c1,c2,c3,c4,c5] a0) (a4.put none undef) ⟨v4.toWorld,v4.A,fun b=>v4.Z b∨S2 b⟩:=by
   refine⟨S2,g1,g2,(hcs.trans g3.ez fun b hb=>.inl hb).trans (bz.rely (X:=au []) (v:=ez v3) (v1:=ez v4) g3.dom hr4.ez) fun b hb=>.inl hb,⟨fun _ h=>by simp at h,fun _ hb=>(bY hb).elim,List.Pairwise.nil,fun _ hb=>(bY hb).elim,hO4.sees,hO4.domA,fun y hy=>hy.elim (hO4.domZ y) (hd4 y)⟩,fun s r hl=>?_⟩;have hs:s≠7:=fun e=>by subst e;simp [lk] at hl
   exact A.mono (fun _ h=>h) (eW g3.dom g5.sees hr4) r (g6 s r (by simp only [lk] at hl⊢;rw [if_neg (fun e=>hs e.symm)];exact hl))
  obtain⟨S6,st6,_,hback6⟩:=hI'.st (MW Tryz.prog (cX bw bc bm bk c0 c1 c2 c3 c4 c5 k a0) T);have hA4:=hA3.rely hr4;have hA6:xi bw bc bm bk ⟨v4.toWorld,v4.A,fun b=>v4.Z b∨S2 b⟩:=⟨hA4.m,hA4.w,hA4.c,hA4.k,fun h=>h.elim hA4.z fun h=>g5.sees _ h hA3.k⟩;refine dV (c:=oP (MW Tryz.prog (cX bw bc bm bk c0 c1 c2 c3 c4 c5 k a0) T) S6 ⟨v4.toWorld,v4.A,fun b=>v4.Z b∨S2 b⟩) (Q:=fun a w=>St (oP (MW Tryz.prog (cX bw bc bm bk c0 c1 c2 c3 c4 c5 k a0) T) S6 ⟨v4.toWorld,v4.A,fun b=>v4.Z b∨S2 b⟩) ((6,.eq (.int .i64 ((i+1:Nat):Int)))::xz bw bc bm [c0,c1,c2,c3,c4,c5] a0) [] a w) (na rfl rfl) hb st6 ?_ fun a7 v7 st7=>next a7 v7 (hA6.st (c:=oP (MW Tryz.prog (cX bw bc bm bk c0 c1 c2 c3 c4 c5 k a0) T) S6 ⟨v4.toWorld,v4.A,fun b=>v4.Z b∨S2 b⟩) st7) (hback6 st7);refine ag ?_;refine bU rfl (bB rfl (q:=((i+1:Nat):Int)) (by unfold ck;rw [if_pos (by omega)];congr 1)) ⟨rfl,rfl,trivial⟩ ?_;refine gA rfl rfl ?_;refine aE (ap ?_);exact iU (junk:=[]) (by repeat (first |exact trivial |refine⟨rfl,?_⟩)) tB
theorem CU(hok:(cX bw bc bm bk c0 c1 c2 c3 c4 c5 k a0).Ok){Φ:Nat}(hb:b.roundOf=none)(hbk:b.kind≠.early)
 (next:∀a' v',xi bw bc bm bk v'→NI v0 S0 (xz bw bc bm [c0,c1,c2,c3,c4,c5] a0) a' v'→Ww Tryz.prog (cX bw bc bm bk c0 c1 c2 c3 c4 c5 k a0) T true (sS Φ 4 false false) v' (b.atR a' kk) cs):∀(r i:Nat),i+r=4→∀(al jn:Bool),(jn=true→al=true)→(i=4→al=false∧jn=false)→∀(a:Act) (v:VW),xi bw bc bm bk v→NI v0 S0 ((6,.eq (.int .i64 (i:Int)))::xz bw bc bm [c0,c1,c2,c3,c4,c5] a0) a v→
 Ww Tryz.prog (cX bw bc bm bk c0 c1 c2 c3 c4 c5 k a0) T true (sS Φ i al jn) v (b.atR a (.code H7:: .inLoop H7:: .inBlock 0::kk)) cs:=fun r=>by
 induction r with
 |zero=>
  intro i hi al jn hjn h4 a v hA hI
  obtain rfl:i=4:=by omega
  obtain⟨rfl,rfl⟩:=h4 rfl
  have B:BC Tryz.prog (Ww Tryz.prog (cX bw bc bm bk c0 c1 c2 c3 c4 c5 k a0) T true (sS Φ 4 false false)):=lU rfl rfl
  obtain⟨S,st,_,hback⟩:=hI.st (MW Tryz.prog (cX bw bc bm bk c0 c1 c2 c3 c4 c5 k a0) T)
  refine B.move (fun _ _=>du) ?_
  refine dV (c:=oP (MW Tryz.prog (cX bw bc bm bk c0 c1 c2 c3 c4 c5 k a0) T) S v) (Q:=fun a w=>St (oP (MW Tryz.prog (cX bw bc bm bk c0 c1 c2 c3 c4 c5 k a0) T) S v) ((7,.eq (.bool false))::xz bw bc bm [c0,c1,c2,c3,c4,c5] a0) [] a w) (na rfl rfl) hb st ?_ fun a1 v1 st1=>?_
  ·
   refine ag ?_
   refine bU rfl (bG rfl) ⟨rfl,rfl,trivial⟩ ?_
   refine aE (ap ?_)
   rw [decide_eq_false (by omega)]
   exact iU (junk:=[]) (by repeat (first |exact trivial |refine⟨rfl,?_⟩)) tB
  refine B.move (fun _ _=>du) ?_
  refine B.move (fun _ _=>pQ (t:=false) (fS st1 (s:=7) rfl)) ?_
  rw [if_neg (by decide)]
  refine B.move (fun _ _=>Au rfl) ?_
  exact next a1 v1 (hA.st (c:=oP (MW Tryz.prog (cX bw bc bm bk c0 c1 c2 c3 c4 c5 k a0) T) S v) st1) (hback st1.pop)
 |succ r ih=>
  intro i hi al jn hjn h4 a v hA hI
  refine Em hok hjn (by omega) hb hbk hA hI fun a' v' hA' hI'=>?_
  have B:BC Tryz.prog (Ww Tryz.prog (cX bw bc bm bk c0 c1 c2 c3 c4 c5 k a0) T true (sS Φ (i+1) false false)):=lU rfl rfl
  refine B.move (fun _ _=>qL) ?_
  exact ih (i+1) (by omega) false false (fun e=>e) (fun _=>⟨rfl,rfl⟩) a' v' hA' hI'
end
end Go.Proofs.YtkncjjdpjaapaaaGreat
