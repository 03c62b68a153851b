import Derived.Test.YtddneonghpmidaaGreatDoorSBB7
import Derived.Conc.WgLib
import Derived.Conc.AtomicLaws2
import Derived.Conc.SmallLaws
set_option linter.unusedVariables false
set_option linter.unusedSimpArgs false
namespace Go.Proofs.YtddneonghpmidaaGreatDoor
namespace K
open Go Go.Conc
def Wd(P:Program)(Wl:World→Prop)(main:Bool)(es:Array Event)(T T':Tq):Prop:=∀v fr fr' cs cs',(∀w:World,Wl w→stepG P main (Gr fr cs) w= .go (Gr fr' cs') w es)→T' v fr' cs'→T v fr cs
def ent:Nat→List Value→Gv
 |_,[]=>[]
 |i,x::l=>(i,x)::ent (i+1) l
theorem OR{d5:List Value}{s:Nat}{x:Value}:∀{i:Nat},lv (ent i d5) s=some x→i≤s∧d5[s - i]? =some x:=by
 induction d5 with
 |nil=>intro i h;cases h
 |cons y l ih=>
  intro i h;simp only [ent,lv] at h;split at h
  ·rename_i e;subst e;cases h;exact⟨Nat.le_refl _,by simp⟩
  ·rename_i e;obtain⟨h1,h2⟩:=ih h;refine⟨by omega,?_⟩;rw [show s - i=(s - (i+1))+1 by omega];simpa using h2
theorem QS.enter{d5:List Value}{N:Nat}(h:d5.length≤N):QS N [] (ent 0 d5) { tmps:=d5.toArray++Array.replicate (N - d5.toArray.size) undef,defers:=[] }:=by
 refine⟨by simp;omega,rfl,fun s x hl=>?_⟩;obtain⟨_,h2⟩:=OR hl;have hlt:s < d5.length:=(List.getElem?_eq_some_iff.1 (by simpa using h2)).1;simp only [Array.getD_eq_getD_getElem?];rw [Array.getElem?_append_left (by simpa using hlt)];simp at h2⊢;rw [h2];rfl
section
variable {P:Program}{Wl:World→Prop}{main:Bool}{T T':Tq}{v:VW}{b:Frame}{cs:List Frame}{N:Nat}{df:List Deferred}{Γ:Gv}{k:List Item}{x y:Code}
variable {ops:Array Oper}{i d f:Nat}{rest:List Nat}{o:Oper}{fn:Func}{C:Code}{xs:Array Operand}{ts:Array TypeId}{d5:List Value}
theorem ER{a:Act}(ha:QS N df Γ a):∀{xs:List Operand} {d5:List Value},xs.map (ev Γ)=d5.map some→xs.map a.eval=d5
 |[],[],_=>rfl
 |x::xs,[],h=>by cases h
 |[],_::_,h=>by cases h
 |x::xs,u::us,h=>by
  simp only [List.map_cons,List.cons.injEq] at h
  rw [List.map_cons,ha.ev h.1,ER ha h.2]
theorem zD{a:Act}(ha:QS N df Γ a)(h:xs.toList.map (ev Γ)=d5.map some):xs.map a.eval=d5.toArray:=by
 have:=ER ha h;apply Array.ext';simpa using this
theorem Qt.call(hT:Mv P Wl main T)(ho:ops[i]? =some o)(hop:o.op= .call { callee:=.value (.func f),args:=xs,argTypes:=ts })(hf:P.funcs[f]? =some fn)(hname:(fn.name == "runtime.NumGoroutine")=false)(hb:fn.body=some C)(hxs:xs.toList.map (ev Γ)=d5.map some)
 (h:∀c,(∀(T':Tq) v' u,Qt T' v' b cs N df (.inRegion ops rest::k) ((d,u)::Γ)→T' v' (c.finish u) cs)→Qt T v (base f) (c::cs) fn.ntmps [] [.code C] (ent 0 d5)) (hlen:Nat.ble d5.length fn.ntmps=true:=by exact rfl)
 (hg:o.guard=none:=by exact rfl) (hd:o.dst=some d:=by exact rfl) (hN:Nat.blt d N=true:=by exact rfl) (hk:b.kind≠.early:=by exact fun h=>nomatch h):Qt T v b cs N df (.inRegion ops (i::rest)::k) Γ:=fun a ha=>by
 have hm:=zD ha hxs
 have ef:a.eval (.func f)= .func (.func f) #[] #[]:=rfl
 have hn:¬fn.name= "runtime.NumGoroutine" :=by simpa using hname
 have hr:∀w,(execOp a.eval o).run P w= .ok (.enter f d5.toArray) w:=fun w=>by
  unfold execOp
  simp [hop,resolve,Deferred.ofValue,ef,invoke,callFunc,hf,hn,hb,hm]
 have he:∀w,listed P b.fn a o w= #[]:=fun w=>by
  unfold listed
  have:(execOp a.eval o).events P w #[]= #[]:=by
   unfold execOp;simp [hop,resolve,Deferred.ofValue,ef,invoke,callFunc,hf,hn,hb]
  rw [this,pG]
 refine hT _ _ _ _ _ (fun w _=>by have:=stepG_enter (main:=main) (b:=b) (k:=k) (cs:=cs) (rest:=rest) ho (aA hg _) hk (hr w);rw [he w] at this;exact this) ?_
 rw [Conc.enter_at _ hf hb]
 exact h _ (fun T' v' u hq=>by
  have hfin:(b.at a (.inRegion ops (i::rest)::k)).finish u=b.at (a.put o.dst u) (.inRegion ops rest::k):=by rw [Frame.finish_at,ho];rfl
  rw [hfin,hd];exact hq _ (ha.put hN)) _ (QS.enter (Nat.ble_eq▸hlen))
theorem gV{c:Frame}{s:Nat}{u:Value}(hT:Mv P Wl main T)(hn:b.kind= .normal)(hf:P.funcs[b.fn]? =some fn)(hr:fn.results= #[.tmp s])(hl:lv Γ s=some u)(h:T v (c.finish u) cs):Qr T v b (c::cs) N [] Γ:=fun a todo ha=>by
 refine hT _ _ _ _ _ (fun w _=>stepG_leave hn ha.defers hf (results_tmp hr _ P w) (events_results_tmp hr _ _)) ?_
 rw [ha.val s u hl]
 exact h
theorem l9{c:Frame}(hT:Mv P Wl main T)(hn:b.kind= .normal)(hf:P.funcs[b.fn]? =some fn)(hr:fn.results= #[])(h:T v (c.finish (.tuple #[])) cs):Qr T v b (c::cs) N [] Γ:=fun a todo ha=>
 hT _ _ _ _ _ (fun w _=>stepG_leave hn ha.defers hf (results_none hr _ P w) (events_results_none hr _ _)) h
theorem GR{c:Frame}(hT:Mv P Wl main T)(hn:b.kind= .deferred)(hf:P.funcs[b.fn]? =some fn)(hr:fn.results= #[])(hc:c.mode= .returning)(h:T v c cs):Qr T v b (c::cs) N [] Γ:=fun a todo ha=>
 hT _ _ _ _ _ (fun w _=>stepG_leave_deferred hn ha.defers hf (results_none hr _ P w) (events_results_none hr _ _) hc) h
theorem Qt.defer(hT:Mv P Wl main T)(ho:ops[i]? =some o)(hop:o.op= .defer { callee:=.value (.func f),args:=xs,argTypes:=ts })(hxs:xs.toList.map (ev Γ)=d5.map some)(h:Qt T v b cs N (dcall f d5.toArray::df) (.inRegion ops rest::k) Γ)
 (hg:o.guard=none:=by exact rfl) (hd:o.dst=none:=by exact rfl) (hk:b.kind≠.early:=by exact fun h=>nomatch h):Qt T v b cs N df (.inRegion ops (i::rest)::k) Γ:=fun a ha=>by
 refine hT _ _ _ _ _ (fun w _=>stepG_defer ho (aA hg _) hk hop) ?_
 rw [hd,zD ha hxs]
 refine h _ ⟨ha.size,?_,ha.val⟩
 show _::a.defers=_
 rw [ha.defers]
theorem Qr.enter(hT:Mv P Wl main T)(hf:P.funcs[f]? =some fn)(hname:(fn.name == "runtime.NumGoroutine")=false)(hb:fn.body=some C)(hlen:Nat.ble d5.length fn.ntmps=true)
 (h:∀c,c.mode= .returning→(∀(T':Tq) v',Qr T' v' b cs N df Γ→T' v' c cs)→Qt T v (baseD f) (c::cs) fn.ntmps [] [.code C] (ent 0 d5)):Qr T v b cs N (dcall f d5.toArray::df) Γ:=fun a todo ha=>by
 refine hT _ _ _ _ _ (fun w _=>stepG_unwind_enter ha.defers hf hname hb) ?_
 exact h _ rfl (fun T' v' hq=>hq ⟨a.tmps,df⟩ todo ⟨ha.size,rfl,ha.val⟩) _ (QS.enter (Nat.ble_eq▸hlen))
theorem D8{es:Array Event}{u:Value}(hW:Wd P Wl main es T T')(ho:ops[i]? =some o)(hs:∀a,QS N df Γ a→∀w,Wl w→stepG P main (G (b.at a (.inRegion ops (i::rest)::k)) cs) w= .go (G (b.at (a.put o.dst u) (.inRegion ops rest::k)) cs) w es)
 (h:Qt T' v b cs N df (.inRegion ops rest::k) ((d,u)::Γ)) (hd:o.dst=some d:=by exact rfl) (hN:Nat.blt d N=true:=by exact rfl):Qt T v b cs N df (.inRegion ops (i::rest)::k) Γ:=fun a ha=>
 hW _ _ _ _ _ (hs a ha) (by rw [hd];exact h _ (ha.put hN))
structure E5(P:Program)(f:Nat)(m:Mark):Prop where
 ex:∃fn,P.funcs[f]? =some fn∧(fn.name == "runtime.NumGoroutine")=false∧fn.body.isNone=true∧Extern.findNext fn=none∧Extern.find fn=some (fun _=>do mark m;pure Extern.Race.none_)
 ne:∀g,m≠.extern g
structure BU(P:Program)(f:Nat)(mk:Addr→Mark):Prop where
 ex:∃fn,P.funcs[f]? =some fn∧(fn.name == "runtime.NumGoroutine")=false∧fn.body.isNone=true∧Extern.findNext fn=none∧Extern.find fn=some (Extern.Race.marked mk)
 ne:∀a g,mk a≠.extern g
structure NU(P:Program)(f:Nat)(u:Value):Prop where
 ex:∃fn,P.funcs[f]? =some fn∧(fn.name == "runtime.NumGoroutine")=false∧fn.body.isNone=true∧Extern.findNext fn=none∧Extern.find fn=some (fun _=>pure u)
theorem qu{m:Mark}(hW:Wd P Wl main #[kP m] T T')(hM:E5 P f m)(ho:ops[i]? =some o)(hop:o.op= .call { callee:=.value (.func f),args:=xs,argTypes:=ts })(h:Qt T' v b cs N df (.inRegion ops rest::k) ((d,.tuple #[])::Γ))
 (hg:o.guard=none:=by exact rfl) (hd:o.dst=some d:=by exact rfl) (hN:Nat.blt d N=true:=by exact rfl) (hk:b.kind≠.early:=by exact fun h=>nomatch h):Qt T v b cs N df (.inRegion ops (i::rest)::k) Γ:=by
 obtain⟨⟨fn,h1,h2,h3,h4,h5⟩,h6⟩:=hM
 exact D8 hW ho (fun a ha w _=>stepG_mark0 m h6 ho (aA hg _) hk hop h1 h2 h3 h4 h5) h hd hN
theorem qs{mk:Addr→Mark}{x:Operand}{ad:Addr}(hW:Wd P Wl main #[kP (mk ad)] T T')(hM:BU P f mk)(ho:ops[i]? =some o)(hop:o.op= .call { callee:=.value (.func f),args:= #[x],argTypes:=ts })(hx:ev Γ x=some (.pointer (some ad)))(h:Qt T' v b cs N df (.inRegion ops rest::k) ((d,.tuple #[])::Γ))
 (hg:o.guard=none:=by exact rfl) (hd:o.dst=some d:=by exact rfl) (hN:Nat.blt d N=true:=by exact rfl) (hk:b.kind≠.early:=by exact fun h=>nomatch h):Qt T v b cs N df (.inRegion ops (i::rest)::k) Γ:=by
 obtain⟨⟨fn,h1,h2,h3,h4,h5⟩,h6⟩:=hM
 exact D8 hW ho (fun a ha w _=>stepG_markAt mk h6 ho (aA hg _) hk hop h1 h2 h3 h4 h5 (by simp [ha.ev hx])) h hd hN
theorem BR{u:Value}(hT:Mv P Wl main T)(hM:NU P f u)(ho:ops[i]? =some o)(hop:o.op= .call { callee:=.value (.func f),args:=xs,argTypes:=ts })(h:Qt T v b cs N df (.inRegion ops rest::k) ((d,u)::Γ))
 (hg:o.guard=none:=by exact rfl) (hd:o.dst=some d:=by exact rfl) (hN:Nat.blt d N=true:=by exact rfl) (hk:b.kind≠.early:=by exact fun h=>nomatch h):Qt T v b cs N df (.inRegion ops (i::rest)::k) Γ:=by
 obtain⟨fn,h1,h2,h3,h4,h5⟩:=hM
 exact D8 hT ho (fun a ha w _=>stepG_entry_pure u ho (aA hg _) hk hop h1 h2 h3 h4 h5) h hd hN
theorem Qr.mark{m:Mark}{us:Array Value}(hW:Wd P Wl main #[kP m] T T')(hM:E5 P f m)(h:Qr T' v b cs N df Γ):Qr T v b cs N (dcall f us::df) Γ:=fun a todo ha=>by
 obtain⟨⟨fn,h1,h2,h3,h4,h5⟩,h6⟩:=hM
 refine hW _ _ _ _ _ (fun w _=>stepG_unwind_entry (v:=.tuple #[]) ha.defers h1 h2 h3 h4 h5 (by simp [Extern.Race.none_]) (by simp [kP]) (by
  intro x hx
  simp at hx
  subst hx
  exact⟨rfl,fun g h=>h6 g (Loc.mark.inj h)⟩)) ?_
 exact h ⟨a.tmps,df⟩ todo ⟨ha.size,rfl,ha.val⟩
theorem qa{G G':Prop}(k:G')(h:G'→G:=by
 intro k
 repeat (first
  |refine Qt.seq hT ?_ |refine Qt.region hT ?_ |refine zG hT ?_ |refine Qt.op hT rfl (ni rfl rfl) ?_ |refine Qt.op hT rfl (vz rfl rfl) ?_ |refine Qt.skip hT ?_ |refine Qt.block hT ?_ |refine Qt.inBlock hT ?_)
 exact k):G:=h k
theorem qb{G G':Prop}(k:G')(h:G'→G:=by
 intro k
 repeat (first
  |refine Qt.seq hT ?_ |refine Qt.region hT ?_ |refine zG hT ?_ |refine Qt.op hT rfl (ni rfl rfl) ?_ |refine Qt.op hT rfl (vz rfl rfl) ?_ |refine Qt.skip hT ?_ |refine Qt.block hT ?_ |refine Qt.inBlock hT ?_
  |refine PQ hT rfl ?_ |refine sf hT rfl (ni rfl rfl) ?_ |refine Qt.op hT rfl (gX (u:=.bool true) rfl rfl rfl rfl) ?_ |refine Qt.op hT rfl (gX (u:=.bool false) rfl rfl rfl rfl) ?_ |refine sf hT rfl (gX (u:=.bool true) rfl rfl rfl rfl) ?_ |refine sf hT rfl (gX (u:=.bool false) rfl rfl rfl rfl) ?_
  |refine Qt.op hT rfl (Hj rfl true rfl rfl) ?_ |refine Qt.op hT rfl (Hj rfl false rfl rfl) ?_ |refine Qt.cond hT true ?_ |refine Qt.cond hT false ?_ |refine Qt.op hT rfl (Hk rfl rfl) ?_)
 exact k):G:=h k
def TQ(P:Program)(d:Nat):Tq:=fun _ fr cs=>∃m,QuitsD P m d (Gr fr cs)
theorem wT{d:Nat}:Mv P (fun _=>True) false (TQ P d):=fun v fr fr' cs cs' hs ⟨m,hm⟩=>⟨m+1,.ctl rfl (fun w=>hs w trivial) hm⟩
theorem SJ{d:Nat}:Wd P (fun _=>True) false #[kP .enable] (TQ P (d+1)) (TQ P d):=fun v fr fr' cs cs' hs ⟨m,hm⟩=>⟨m+1,.said (kP .enable) rfl rfl (fun w=>hs w trivial) (by exact hm)⟩
end
end K
