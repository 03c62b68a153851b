import Derived.Test.YtcnpijmfgfnpiaaGreatDoorB6
import Derived.Conc.WgLib
import Derived.Conc.AtomicLaws2
import Derived.Conc.SmallLaws
import Derived.KernelRfl
import Derived.Conc.WgArith
import Derived.Laws.DeepBits32
import Derived.Laws.BitsLemmas
import Derived.Test.YtcnpijmfgfnpiaaGreatDoorB4
import Derived.Test.YtcnpijmfgfnpiaaGreatDoorB5
import Derived.Test.YtcnpijmfgfnpiaaGreatDoorProg
import Derived.Stop.Asserts
set_option linter.unusedSimpArgs false
set_option linter.unusedVariables false
namespace Go.Proofs.YtcnpijmfgfnpiaaGreatDoor
namespace K
open Go Go.Conc
def Wd(P:Program)(Wl:World→Prop)(main:Bool)(es:Array Event)(T T':Tq):Prop:=∀v fr fr' cs cs',(∀w:World,Wl w→stepG P main (Gr fr cs) w= .go (Gr fr' cs') w es)→T' v fr' cs'→T v fr cs
def ent:Nat→List Value→Gv
 |_,[]=>[]
 |i,x::l=>(i,x)::ent (i+1) l
theorem LH{dL:List Value}{s:Nat}{x:Value}:∀{i:Nat},lv (ent i dL) s=some x→i≤s∧dL[s - i]? =some x:=by
 induction dL with
 |nil=>intro i h;cases h
 |cons y l ih=>
  intro i h;simp only [ent,lv] at h;split at h
  ·rename_i e;subst e;cases h;exact⟨Nat.le_refl _,by simp⟩
  ·rename_i e;obtain⟨h1,h2⟩:=ih h;refine⟨by omega,?_⟩;rw [show s - i=(s - (i+1))+1 by omega];simpa using h2
theorem QS.enter{dL:List Value}{N:Nat}(h:dL.length≤N):QS N [] (ent 0 dL) { tmps:=dL.toArray++Array.replicate (N - dL.toArray.size) undef,defers:=[] }:=by
 refine⟨by simp;omega,rfl,fun s x hl=>?_⟩;obtain⟨_,h2⟩:=LH hl;have hlt:s < dL.length:=(List.getElem?_eq_some_iff.1 (by simpa using h2)).1;simp only [Array.getD_eq_getD_getElem?];rw [Array.getElem?_append_left (by simpa using hlt)];simp at h2⊢;rw [h2];rfl
section
variable {P:Program}{Wl:World→Prop}{main:Bool}{T T':Tq}{v:VW}{b:Frame}{cs:List Frame}{N:Nat}{df:List Deferred}{Γ:Gv}{k:List Item}{x y:Code}
variable {ops:Array Oper}{i d f:Nat}{rest:List Nat}{o:Oper}{fn:Func}{C:Code}{xs:Array Operand}{ts:Array TypeId}{dL:List Value}
theorem BV{a:Act}(ha:QS N df Γ a):∀{xs:List Operand} {dL:List Value},xs.map (ev Γ)=dL.map some→xs.map a.eval=dL
 |[],[],_=>rfl
 |x::xs,[],h=>by cases h
 |[],_::_,h=>by cases h
 |x::xs,u::us,h=>by
  simp only [List.map_cons,List.cons.injEq] at h
  rw [List.map_cons,ha.ev h.1,BV ha h.2]
theorem xB{a:Act}(ha:QS N df Γ a)(h:xs.toList.map (ev Γ)=dL.map some):xs.map a.eval=dL.toArray:=by
 have:=BV ha h;apply Array.ext';simpa using this
theorem Qt.call(hT:Mv P Wl main T)(ho:ops[i]? =some o)(hop:o.op= .call { callee:=.value (.func f),args:=xs,argTypes:=ts })(hf:P.funcs[f]? =some fn)(hname:(fn.name == "runtime.NumGoroutine")=false)(hb:fn.body=some C)(hxs:xs.toList.map (ev Γ)=dL.map some)
 (h:∀c,(∀(T':Tq) v' u,Qt T' v' b cs N df (.inRegion ops rest::k) ((d,u)::Γ)→T' v' (c.finish u) cs)→Qt T v (base f) (c::cs) fn.ntmps [] [.code C] (ent 0 dL)) (hlen:Nat.ble dL.length fn.ntmps=true:=by exact rfl)
 (hg:o.guard=none:=by exact rfl) (hd:o.dst=some d:=by exact rfl) (hN:Nat.blt d N=true:=by exact rfl) (hk:b.kind≠.early:=by exact fun h=>nomatch h):Qt T v b cs N df (.inRegion ops (i::rest)::k) Γ:=fun a ha=>by
 have hm:=xB ha hxs
 have ef:a.eval (.func f)= .func (.func f) #[] #[]:=rfl
 have hn:¬fn.name= "runtime.NumGoroutine" :=by simpa using hname
 have hr:∀w,(execOp a.eval o).run P w= .ok (.enter f dL.toArray) w:=fun w=>by
  unfold execOp
  simp [hop,resolve,Deferred.ofValue,ef,invoke,callFunc,hf,hn,hb,hm]
 have he:∀w,listed P b.fn a o w= #[]:=fun w=>by
  unfold listed
  have:(execOp a.eval o).events P w #[]= #[]:=by
   unfold execOp;simp [hop,resolve,Deferred.ofValue,ef,invoke,callFunc,hf,hn,hb]
  rw [this,oe]
 refine hT _ _ _ _ _ (fun w _=>by have:=stepG_enter (main:=main) (b:=b) (k:=k) (cs:=cs) (rest:=rest) ho (av hg _) hk (hr w);rw [he w] at this;exact this) ?_
 rw [Conc.enter_at _ hf hb]
 exact h _ (fun T' v' u hq=>by
  have hfin:(b.at a (.inRegion ops (i::rest)::k)).finish u=b.at (a.put o.dst u) (.inRegion ops rest::k):=by rw [Frame.finish_at,ho];rfl
  rw [hfin,hd];exact hq _ (ha.put hN)) _ (QS.enter (Nat.ble_eq▸hlen))
theorem gi{c:Frame}{s:Nat}{u:Value}(hT:Mv P Wl main T)(hn:b.kind= .normal)(hf:P.funcs[b.fn]? =some fn)(hr:fn.results= #[.tmp s])(hl:lv Γ s=some u)(h:T v (c.finish u) cs):Qr T v b (c::cs) N [] Γ:=fun a todo ha=>by
 refine hT _ _ _ _ _ (fun w _=>stepG_leave hn ha.defers hf (results_tmp hr _ P w) (events_results_tmp hr _ _)) ?_
 rw [ha.val s u hl]
 exact h
theorem lb{c:Frame}(hT:Mv P Wl main T)(hn:b.kind= .normal)(hf:P.funcs[b.fn]? =some fn)(hr:fn.results= #[])(h:T v (c.finish (.tuple #[])) cs):Qr T v b (c::cs) N [] Γ:=fun a todo ha=>
 hT _ _ _ _ _ (fun w _=>stepG_leave hn ha.defers hf (results_none hr _ P w) (events_results_none hr _ _)) h
theorem Eg{c:Frame}(hT:Mv P Wl main T)(hn:b.kind= .deferred)(hf:P.funcs[b.fn]? =some fn)(hr:fn.results= #[])(hc:c.mode= .returning)(h:T v c cs):Qr T v b (c::cs) N [] Γ:=fun a todo ha=>
 hT _ _ _ _ _ (fun w _=>stepG_leave_deferred hn ha.defers hf (results_none hr _ P w) (events_results_none hr _ _) hc) h
theorem Qt.defer(hT:Mv P Wl main T)(ho:ops[i]? =some o)(hop:o.op= .defer { callee:=.value (.func f),args:=xs,argTypes:=ts })(hxs:xs.toList.map (ev Γ)=dL.map some)(h:Qt T v b cs N (dcall f dL.toArray::df) (.inRegion ops rest::k) Γ)
 (hg:o.guard=none:=by exact rfl) (hd:o.dst=none:=by exact rfl) (hk:b.kind≠.early:=by exact fun h=>nomatch h):Qt T v b cs N df (.inRegion ops (i::rest)::k) Γ:=fun a ha=>by
 refine hT _ _ _ _ _ (fun w _=>stepG_defer ho (av hg _) hk hop) ?_
 rw [hd,xB ha hxs]
 refine h _ ⟨ha.size,?_,ha.val⟩
 show _::a.defers=_
 rw [ha.defers]
theorem Qr.enter(hT:Mv P Wl main T)(hf:P.funcs[f]? =some fn)(hname:(fn.name == "runtime.NumGoroutine")=false)(hb:fn.body=some C)(hlen:Nat.ble dL.length fn.ntmps=true)
 (h:∀c,c.mode= .returning→(∀(T':Tq) v',Qr T' v' b cs N df Γ→T' v' c cs)→Qt T v (baseD f) (c::cs) fn.ntmps [] [.code C] (ent 0 dL)):Qr T v b cs N (dcall f dL.toArray::df) Γ:=fun a todo ha=>by
 refine hT _ _ _ _ _ (fun w _=>stepG_unwind_enter ha.defers hf hname hb) ?_
 exact h _ rfl (fun T' v' hq=>hq ⟨a.tmps,df⟩ todo ⟨ha.size,rfl,ha.val⟩) _ (QS.enter (Nat.ble_eq▸hlen))
theorem Bg{es:Array Event}{u:Value}(hW:Wd P Wl main es T T')(ho:ops[i]? =some o)(hs:∀a,QS N df Γ a→∀w,Wl w→stepG P main (G (b.at a (.inRegion ops (i::rest)::k)) cs) w= .go (G (b.at (a.put o.dst u) (.inRegion ops rest::k)) cs) w es)
 (h:Qt T' v b cs N df (.inRegion ops rest::k) ((d,u)::Γ)) (hd:o.dst=some d:=by exact rfl) (hN:Nat.blt d N=true:=by exact rfl):Qt T v b cs N df (.inRegion ops (i::rest)::k) Γ:=fun a ha=>
 hW _ _ _ _ _ (hs a ha) (by rw [hd];exact h _ (ha.put hN))
structure Ci(P:Program)(f:Nat)(m:Mark):Prop where
 ex:∃fn,P.funcs[f]? =some fn∧(fn.name == "runtime.NumGoroutine")=false∧fn.body.isNone=true∧Extern.findNext fn=none∧Extern.find fn=some (fun _=>do mark m;pure Extern.Race.none_)
 ne:∀g,m≠.extern g
structure zP(P:Program)(f:Nat)(mk:Addr→Mark):Prop where
 ex:∃fn,P.funcs[f]? =some fn∧(fn.name == "runtime.NumGoroutine")=false∧fn.body.isNone=true∧Extern.findNext fn=none∧Extern.find fn=some (Extern.Race.marked mk)
 ne:∀a g,mk a≠.extern g
structure KD(P:Program)(f:Nat)(u:Value):Prop where
 ex:∃fn,P.funcs[f]? =some fn∧(fn.name == "runtime.NumGoroutine")=false∧fn.body.isNone=true∧Extern.findNext fn=none∧Extern.find fn=some (fun _=>pure u)
theorem oP{m:Mark}(hW:Wd P Wl main #[jQ m] T T')(hM:Ci P f m)(ho:ops[i]? =some o)(hop:o.op= .call { callee:=.value (.func f),args:=xs,argTypes:=ts })(h:Qt T' v b cs N df (.inRegion ops rest::k) ((d,.tuple #[])::Γ))
 (hg:o.guard=none:=by exact rfl) (hd:o.dst=some d:=by exact rfl) (hN:Nat.blt d N=true:=by exact rfl) (hk:b.kind≠.early:=by exact fun h=>nomatch h):Qt T v b cs N df (.inRegion ops (i::rest)::k) Γ:=by
 obtain⟨⟨fn,h1,h2,h3,h4,h5⟩,h6⟩:=hM
 exact Bg hW ho (fun a ha w _=>stepG_mark0 m h6 ho (av hg _) hk hop h1 h2 h3 h4 h5) h hd hN
theorem oO{mk:Addr→Mark}{x:Operand}{ad:Addr}(hW:Wd P Wl main #[jQ (mk ad)] T T')(hM:zP P f mk)(ho:ops[i]? =some o)(hop:o.op= .call { callee:=.value (.func f),args:= #[x],argTypes:=ts })(hx:ev Γ x=some (.pointer (some ad)))(h:Qt T' v b cs N df (.inRegion ops rest::k) ((d,.tuple #[])::Γ))
 (hg:o.guard=none:=by exact rfl) (hd:o.dst=some d:=by exact rfl) (hN:Nat.blt d N=true:=by exact rfl) (hk:b.kind≠.early:=by exact fun h=>nomatch h):Qt T v b cs N df (.inRegion ops (i::rest)::k) Γ:=by
 obtain⟨⟨fn,h1,h2,h3,h4,h5⟩,h6⟩:=hM
 exact Bg hW ho (fun a ha w _=>stepG_markAt mk h6 ho (av hg _) hk hop h1 h2 h3 h4 h5 (by simp [ha.ev hx])) h hd hN
theorem zO{u:Value}(hT:Mv P Wl main T)(hM:KD P f u)(ho:ops[i]? =some o)(hop:o.op= .call { callee:=.value (.func f),args:=xs,argTypes:=ts })(h:Qt T v b cs N df (.inRegion ops rest::k) ((d,u)::Γ))
 (hg:o.guard=none:=by exact rfl) (hd:o.dst=some d:=by exact rfl) (hN:Nat.blt d N=true:=by exact rfl) (hk:b.kind≠.early:=by exact fun h=>nomatch h):Qt T v b cs N df (.inRegion ops (i::rest)::k) Γ:=by
 obtain⟨fn,h1,h2,h3,h4,h5⟩:=hM
 exact Bg hT ho (fun a ha w _=>stepG_entry_pure u ho (av hg _) hk hop h1 h2 h3 h4 h5) h hd hN
theorem Qr.mark{m:Mark}{us:Array Value}(hW:Wd P Wl main #[jQ m] T T')(hM:Ci P f m)(h:Qr T' v b cs N df Γ):Qr T v b cs N (dcall f us::df) Γ:=fun a todo ha=>by
 obtain⟨⟨fn,h1,h2,h3,h4,h5⟩,h6⟩:=hM
 refine hW _ _ _ _ _ (fun w _=>stepG_unwind_entry (v:=.tuple #[]) ha.defers h1 h2 h3 h4 h5 (by simp [Extern.Race.none_]) (by simp [jQ]) (by
  intro x hx
  simp at hx
  subst hx
  exact⟨rfl,fun g h=>h6 g (Loc.mark.inj h)⟩)) ?_
 exact h ⟨a.tmps,df⟩ todo ⟨ha.size,rfl,ha.val⟩
theorem qa{G G':Prop}(k:G')(h:G'→G:=by
 intro k
 repeat (first
  |refine Qt.seq hT ?_ |refine Qt.region hT ?_ |refine xF hT ?_ |refine Qt.op hT rfl (mi rfl rfl) ?_ |refine Qt.op hT rfl (tH rfl rfl) ?_ |refine Qt.skip hT ?_ |refine Qt.block hT ?_ |refine Qt.inBlock hT ?_)
 exact k):G:=h k
theorem qb{G G':Prop}(k:G')(h:G'→G:=by
 intro k
 repeat (first
  |refine Qt.seq hT ?_ |refine Qt.region hT ?_ |refine xF hT ?_ |refine Qt.op hT rfl (mi rfl rfl) ?_ |refine Qt.op hT rfl (tH rfl rfl) ?_ |refine Qt.skip hT ?_ |refine Qt.block hT ?_ |refine Qt.inBlock hT ?_
  |refine MG hT rfl ?_ |refine qw hT rfl (mi rfl rfl) ?_ |refine Qt.op hT rfl (gr (u:=.bool true) rfl rfl rfl rfl) ?_ |refine Qt.op hT rfl (gr (u:=.bool false) rfl rfl rfl rfl) ?_ |refine qw hT rfl (gr (u:=.bool true) rfl rfl rfl rfl) ?_ |refine qw hT rfl (gr (u:=.bool false) rfl rfl rfl rfl) ?_
  |refine Qt.op hT rfl (EK rfl true rfl rfl) ?_ |refine Qt.op hT rfl (EK rfl false rfl rfl) ?_ |refine Qt.cond hT true ?_ |refine Qt.cond hT false ?_ |refine Qt.op hT rfl (EL rfl rfl) ?_)
 exact k):G:=h k
def TQ(P:Program)(d:Nat):Tq:=fun _ fr cs=>∃m,QuitsD P m d (Gr fr cs)
theorem uM{d:Nat}:Mv P (fun _=>True) false (TQ P d):=fun v fr fr' cs cs' hs ⟨m,hm⟩=>⟨m+1,.ctl rfl (fun w=>hs w trivial) hm⟩
theorem PL{d:Nat}:Wd P (fun _=>True) false #[jQ .enable] (TQ P (d+1)) (TQ P d):=fun v fr fr' cs cs' hs ⟨m,hm⟩=>⟨m+1,.said (jQ .enable) rfl rfl (fun w=>hs w trivial) (by exact hm)⟩
end
end K
end Go.Proofs.YtcnpijmfgfnpiaaGreatDoor
set_option linter.unusedVariables false
namespace Go.Proofs.YtcnpijmfgfnpiaaGreatDoor
namespace K
open Go Go.Conc Go.Conc.Lib
section
variable {P:Program}{L:WgLink}(H:WgLib P L)
include H
theorem Gh:Ci P L.disable .disable:=⟨⟨_,H.f_disable,by kernel_rfl,by kernel_rfl,by kernel_rfl,by kernel_rfl⟩,fun g h=>by cases h⟩
theorem Gg:Ci P L.enable .enable:=⟨⟨_,H.f_enable,by kernel_rfl,by kernel_rfl,by kernel_rfl,by kernel_rfl⟩,fun g h=>by cases h⟩
theorem NH:zP P L.relMerge .releaseMerge:=⟨⟨_,H.f_relMerge,by kernel_rfl,by kernel_rfl,by kernel_rfl,by kernel_rfl⟩,fun a g h=>by cases h⟩
theorem J4:zP P L.acquire .acquire:=⟨⟨_,H.f_acquire,by kernel_rfl,by kernel_rfl,by kernel_rfl,by kernel_rfl⟩,fun a g h=>by cases h⟩
theorem Qg:zP P L.raceRead .read:=⟨⟨_,H.f_raceRead,by kernel_rfl,by kernel_rfl,by kernel_rfl,by kernel_rfl⟩,fun a g h=>by cases h⟩
theorem Qf:zP P L.raceWrite .write:=⟨⟨_,H.f_raceWrite,by kernel_rfl,by kernel_rfl,by kernel_rfl,by kernel_rfl⟩,fun a g h=>by cases h⟩
theorem J3:KD P L.inBubble (.bool false):=⟨_,H.f_inBubble,by kernel_rfl,by kernel_rfl,by kernel_rfl,by kernel_rfl⟩
end
theorem de{P:Program}{T f b off n k t:Nat}{fs:Array Field}(hU:P.underlying T=some (.struct fs))(hf:(fs[f]?).map (fun d=>(d.offset,d.type))=some (k,t))(hs:∀w,(sizeOf t).run P w= .ok (n+1) w)(w:World):(Instr.fieldAt T (.pointer (some ⟨b,off,none⟩)) f).runT P w #[]=(.ok (.pointer (some ⟨b,off+k,none⟩)) w, #[]):=by
 obtain⟨fld,hf',e⟩:=Option.map_eq_some_iff.1 hf;clear hf;simp only [Prod.mk.injEq] at e;obtain⟨rfl,rfl⟩:=e;have hf:=hf'
 have h1:(Instr.fieldAt T (.pointer (some ⟨b,off,none⟩)) f).run P w= .ok (.pointer (some ⟨b,off+fld.offset,none⟩)) w:=by
  simp [Instr.fieldAt,run_underlying hU,hf,Addr.add,Instr.sureAddr,fieldPlace,hs]
 have h2:(Instr.fieldAt T (.pointer (some ⟨b,off,none⟩)) f).events P w #[]= #[]:=by
  simp [Instr.fieldAt,run_underlying hU,hf,Instr.sureAddr,fieldPlace,hs]
 exact Prod.ext (by rw [Sem.runT_fst];exact h1) h2
theorem mC{P:Program}{p:Gp}{T T' t0 n:Nat}{off:Nat}(hT:P.underlying T=some (.pointer t0))(hT':P.underlying T'=some .unsafePointer)(hs:∀w,(sizeOf t0).run P w= .ok (n+1) w)(ho:off < 2)(w:World)(hl:p.Live w):(convert T T' (.pointer (some ⟨p.bw,off,none⟩))).runT P w #[]=(.ok (.pointer (some ⟨p.bw,off,none⟩)) w, #[]):=by
 obtain⟨q,hq,_⟩:=hl;have h0:¬2≤off:=by omega
 have hv:(viewAt p.bw).run P w= .ok none w:=by simp [viewAt,World.shape?,hq]
 have hv':(viewAt p.bw).events P w #[]= #[]:=by simp [viewAt,World.shape?,hq]
 have h1:(convert T T' (.pointer (some ⟨p.bw,off,none⟩))).run P w= .ok (.pointer (some ⟨p.bw,off,none⟩)) w:=by
  simp [convert,run_underlying hT,run_underlying hT',Conv.unsafePointer,Conv.seenAt,hv,cellsIn,World.shape?,hq,hs,h0]
 have h2:(convert T T' (.pointer (some ⟨p.bw,off,none⟩))).events P w #[]= #[]:=by
  simp [convert,run_underlying hT,run_underlying hT',Conv.unsafePointer,Conv.seenAt,hv,hv',cellsIn,World.shape?,hq,hs,h0]
 exact Prod.ext (by rw [Sem.runT_fst];exact h1) h2
theorem vA{c wt:Nat}(hc:c < 2147483648)(hw:wt≤1):ig .u64 ((c * 4294967296+wt:Nat):Int) 32=(c:Int):=by
 unfold ig;have e:(2:Int) ^ (min (32:Int).toNat IntKind.u64.bits)=4294967296:=by decide
 rw [e,Int.fdiv_eq_ediv_of_nonneg _ (by decide)];omega
theorem vB{c wt:Nat}(hc:c < 2147483648)(hw:wt≤1):vq .u64 ((c * 4294967296+wt:Nat):Int) 2147483648=0:=by
 have:=Go.ConcN.st_flag c wt hc hw;have e:((c * 4294967296+wt:Nat):Int)=(c:Int) * 4294967296+(wt:Int):=by omega
 rw [e];exact this
theorem vz{c wt:Nat}(hc:c < 2147483648)(hw:wt≤1):vq .u64 ((c * 4294967296+wt:Nat):Int) 2147483647=(wt:Int):=by
 have:=Go.ConcN.st_waiters c wt hc hw;have e:((c * 4294967296+wt:Nat):Int)=(c:Int) * 4294967296+(wt:Int):=by omega
 rw [e];exact this
theorem yd{c:Nat}(hc:c < 2147483648):IntKind.i32.wrap (c:Int)=(c:Int):=wrap_i32_small _ (by omega) (by omega)
end K
end Go.Proofs.YtcnpijmfgfnpiaaGreatDoor
set_option linter.unusedVariables false
set_option maxRecDepth 20000
set_option maxHeartbeats 4000000
namespace Go.Proofs.YtcnpijmfgfnpiaaGreatDoor
namespace K
open Go Go.Conc Go.Conc.Lib
theorem rC{P:Program}{p:Gp}{tot:Nat}{s:Ph}(hs:s≠.quit):Mv P p.Live false (Ww P p tot s):=fun v fr fr' cs cs' h1 h=>Ww.move hs (fun w hl=>h1 w hl) h
theorem Ww.rl{P:Program}{p:Gp}{tot m:Nat}(hm:¬m < tot):Wd P p.Live false #[jQ (.releaseMerge p.stA)] (Ww P p tot (.work m)) (Ww P p tot .rel):=fun v fr fr' cs cs' h1 h=>
 .act (by simp) (fun e=>by cases e) (fun _ _=>fr') (fun _ _=>cs') (fun v1 _=>v1.toWorld) (fun v1 q _ hat _=>by rw [show(Ph.work m).evs p tot= #[jQ (.releaseMerge p.stA)] by simp only [Ph.evs,if_neg hm]];exact h1 _ ⟨q,hat⟩)
  (fun v1 q _ hat _=>by rw [show(Ph.work m).eff tot q=q by simp only [Ph.eff,if_neg hm]];exact Gp.Eff.refl hat) fun v1 q hr _ _=>by rw [show(Ph.work m).nx tot q= .rel by simp only [Ph.nx,if_neg hm]];exact h.rely hr
theorem PC{P:Program}{p:Gp}{tot:Nat}:Wd P p.Live false #[jQ .disable] (Ww P p tot .rel) (Ww P p tot .deaf):=fun v fr fr' cs cs' h1 h=>
 .act (by simp) (fun e=>by cases e) (fun _ _=>fr') (fun _ _=>cs') (fun v1 _=>v1.toWorld) (fun v1 q _ hat _=>h1 _ ⟨q,hat⟩) (fun v1 q _ hat _=>Gp.Eff.refl hat) fun v1 q hr _ _=>h.rely hr
section
variable {p:Gp}{w:World}{q:ku}
theorem Gp.At.c0(h:p.At w q):w.cell? p.stA=some (.int .u64 ((q.c * 4294967296+q.wt:Nat):Int)):=by simp [World.cell?,Gp.stA,h.wg]
theorem Gp.At.c1(h:p.At w q):w.cell? p.smA=some (.int .u32 (q.sm:Int)):=by simp [World.cell?,Gp.smA,h.wg]
theorem Gp.At.cx(h:p.At w q):w.cell? p.xA=some (.int .i64 (q.x:Int)):=by simp [World.cell?,Gp.xA,h.sum]
theorem Gp.At.f0(h:p.At w q):w.frozen? p.stA=false:=by simp [World.frozen?,Gp.stA,h.wg]
theorem Gp.At.f1(h:p.At w q):w.frozen? p.smA=false:=by simp [World.frozen?,Gp.smA,h.wg]
theorem Gp.At.fx(h:p.At w q):w.frozen? p.xA=false:=by simp [World.frozen?,Gp.xA,h.sum]
theorem KR{b k:Nat}{cs:Array Value}{T:TypeId}{x:Value}(h:w.heap[b]? =some (.cells cs T)):w.setCell ⟨b,k,none⟩ x={ w with heap:=w.heap.setIfInBounds b (.cells (cs.setIfInBounds k x) T) }:=by
 simp only [World.setCell];congr 1;apply Array.ext_getElem?;intro i;rw [Array.getElem?_modify,Array.getElem?_setIfInBounds];by_cases e:b=i
 ·subst e;have hlt:=(Array.getElem?_eq_some_iff.1 h).1;have h':w.heap[b]= .cells cs T:=by have:=(Array.getElem?_eq_getElem hlt).symm.trans h;exact Option.some.inj this
  simp [hlt,h']
 ·simp [e]
theorem Gp.Eff.st(hne:p.bw≠p.bs)(h:p.At w q){c wt:Nat}:p.Eff w (w.setCell p.stA (.int .u64 ((c * 4294967296+wt:Nat):Int))) { q with c:=c,wt:=wt }:=by
 have hlt:=(Array.getElem?_eq_some_iff.1 h.wg).1;rw [show p.stA=⟨p.bw,0,none⟩ from rfl,KR h.wg];refine⟨⟨?_,?_⟩,fun b hb=>?_,by simp,rfl,rfl,rfl⟩
 ·show(w.heap.setIfInBounds p.bw _)[p.bw]? =_;rw [Array.getElem?_setIfInBounds_self_of_lt hlt];rfl
 ·show(w.heap.setIfInBounds p.bw _)[p.bs]? =_;rw [Array.getElem?_setIfInBounds_ne hne];exact h.sum
 ·show(w.heap.setIfInBounds p.bw _)[b]? =_;rw [Array.getElem?_setIfInBounds_ne fun e=>hb (.inl e.symm)]
theorem Gp.Eff.sm(hne:p.bw≠p.bs)(h:p.At w q){s:Nat}:p.Eff w (w.setCell p.smA (.int .u32 (s:Int))) { q with sm:=s }:=by
 have hlt:=(Array.getElem?_eq_some_iff.1 h.wg).1;rw [show p.smA=⟨p.bw,1,none⟩ from rfl,KR h.wg];refine⟨⟨?_,?_⟩,fun b hb=>?_,by simp,rfl,rfl,rfl⟩
 ·show(w.heap.setIfInBounds p.bw _)[p.bw]? =_;rw [Array.getElem?_setIfInBounds_self_of_lt hlt];rfl
 ·show(w.heap.setIfInBounds p.bw _)[p.bs]? =_;rw [Array.getElem?_setIfInBounds_ne hne];exact h.sum
 ·show(w.heap.setIfInBounds p.bw _)[b]? =_;rw [Array.getElem?_setIfInBounds_ne fun e=>hb (.inl e.symm)]
theorem Gp.Eff.x(hne:p.bw≠p.bs)(h:p.At w q){s:Nat}:p.Eff w (w.setCell p.xA (.int .i64 (s:Int))) { q with x:=s }:=by
 have hlt:=(Array.getElem?_eq_some_iff.1 h.sum).1;rw [show p.xA=⟨p.bs,0,none⟩ from rfl,KR h.sum];refine⟨⟨?_,?_⟩,fun b hb=>?_,by simp,rfl,rfl,rfl⟩
 ·show(w.heap.setIfInBounds p.bs _)[p.bw]? =_;rw [Array.getElem?_setIfInBounds_ne fun e=>hne e.symm];exact h.wg
 ·show(w.heap.setIfInBounds p.bs _)[p.bs]? =_;rw [Array.getElem?_setIfInBounds_self_of_lt hlt];rfl
 ·show(w.heap.setIfInBounds p.bs _)[b]? =_;rw [Array.getElem?_setIfInBounds_ne fun e=>hb (.inr e.symm)]
end
section
variable {P:Program}{p:Gp}{tot:Nat}{v:VW}{b:Frame}{cs:List Frame}{N d i f:Nat}{df:List Deferred}{Γ:Gv}{ops:Array Oper}{rest:List Nat}{k:List Item}{o:Oper}{fn:Func}{xs:Array Operand}{ts:Array TypeId}
theorem Cb{s:Ph}{u:ku→Value}{W:World→ku→World}(hs:s≠.quit)(hm:s= .l3→∀a,QS N df Γ a→mayWake P (G (b.at a (.inRegion ops (i::rest)::k)) cs)=true)
 (step:∀a,QS N df Γ a→∀w q,p.At w q→s.pre tot q→stepG P false (G (b.at a (.inRegion ops (i::rest)::k)) cs) w= .go (G (b.at (a.put (some d) (u q)) (.inRegion ops rest::k)) cs) (W w q) (s.evs p tot))
 (eff:∀w q,p.At w q→s.pre tot q→p.Eff w (W w q) (s.eff tot q)) (h:∀v' q,s.pre tot q→Qt (Ww P p tot (s.nx tot q)) v' b cs N df (.inRegion ops rest::k) ((d,u q)::Γ)) (hN:Nat.blt d N=true:=by exact rfl):
 Qt (Ww P p tot s) v b cs N df (.inRegion ops (i::rest)::k) Γ:=fun a ha=>
 .act hs (fun e=>hm e a ha) (fun v1 q=>b.at (a.put (some d) (u q)) (.inRegion ops rest::k)) (fun _ _=>cs) (fun v1 q=>W v1.toWorld q) (fun v1 q _ hat hp=>step a ha _ q hat hp) (fun v1 q _ hat hp=>eff _ q hat hp) fun v1 q _ _ hp=>h _ q hp _ (ha.put hN)
theorem Ht{its:List Item}(h:Qt (TQ P 1) v b cs N df its Γ):Qt (Ww P p tot .quit) v b cs N df its Γ:=fun a ha=>let ⟨m,hm⟩:=h a ha; .quit m hm
theorem Nj(ho:ops[i]? =some o)(hop:o.op= .call { callee:=.value (.func f),args:=xs,argTypes:=ts })(hf:P.funcs[f]? =some fn)(hb:fn.body.isNone=true)(a:Act):mayWake P (G (b.at a (.inRegion ops (i::rest)::k)) cs)=true:=by
 have hb:fn.body=none:=by simpa using hb
 have he:(b.at a (.inRegion ops (i::rest)::k)).eval (.func f)= .func (.func f) #[] #[]:=rfl;simp only [Frame.at] at he;simp [mayWake,G,Frame.at,ho,hop,he,hf,hb]
end
theorem EJ{P:Program}{Wl:World→Prop}{Γ:Gv}{o:Oper}{p q:Operand}{TT T':TypeId}{k k':IntKind}{n m z:Int}(ho:o.op= .binOp .shl TT p q T')(e1:ev Γ p=some (.int k n))(e2:ev Γ q=some (.int k' m))(h:0≤m)(hz:mV k n m=z):OV P Wl o Γ (.int k z):=hz▸Nl ho e1 e2 h
theorem rM{P:Program}{Wl:World→Prop}{Γ:Gv}{o:Oper}{p q:Operand}{TT T':TypeId}{k k':IntKind}{n m z:Int}(ho:o.op= .binOp .shr TT p q T')(e1:ev Γ p=some (.int k n))(e2:ev Γ q=some (.int k' m))(h:0≤m)(hz:ig k n m=z):OV P Wl o Γ (.int k z):=hz▸Nk ho e1 e2 h
theorem gz{P:Program}{Wl:World→Prop}{Γ:Gv}{o:Oper}{p:Operand}{TT T':TypeId}{k k':IntKind}{n z:Int}(ho:o.op= .convert TT T' p)(hT:P.underlying TT=some (.int k))(hT':P.underlying T'=some (.int k'))(e:ev Γ p=some (.int k n))(hz:k'.wrap n=z):OV P Wl o Γ (.int k' z):=hz▸KI ho hT hT' e
section
variable {P:Program}{L:WgLink}{p:Gp}{tot:Nat}{v:VW}{b:Frame}{cs:List Frame}{N:Nat}{df:List Deferred}{Γ:Gv}
theorem D3{q:ku}{cc:Nat}{its:List Item}(hcc:q.c - 1=cc)(p1:1≤q.c)(p3:q.wt≤1)
 (h1:∀(g:Bool),q7 .gtr .i32 (cc:Int) 0=some (.bool g)→(g=true∨q.wt=0)→∀hT:Mv P (fun _=>True) false (TQ P 1),Qt (TQ P 1) v b cs N df its Γ)
 (h2:q7 .gtr .i32 (cc:Int) 0=some (.bool false)→q.wt=1→∀hT:Mv P p.Live false (Ww P p tot .l1),Qt (Ww P p tot .l1) v b cs N df its Γ):Qt (Ww P p tot (Ph.nx tot .deaf q)) v b cs N df its Γ:=by
 by_cases hd:2≤q.c∨q.wt=0
 ·
  rw [show Ph.nx tot .deaf q= .quit by simp only [Ph.nx,if_pos hd]];by_cases hc0:0 < cc
  ·exact Ht (h1 true (by simp [q7];omega) (.inl rfl) uM)
  ·exact Ht (h1 false (by simp [q7];omega) (.inr (by omega)) uM)
 ·
  rw [show Ph.nx tot .deaf q= .l1 by simp only [Ph.nx,if_neg hd]];exact h2 (by simp [q7];omega) (by omega) (rC (by simp))
theorem zt(H:WgLib P L)(hne:p.bw≠p.bs){m:Nat}(hm:¬m < tot)(hq:∀v',Qr (TQ P 0) v' b cs N [] Γ):Qr (Ww P p tot (.work m)) v b cs N [dcall L.done #[.pointer (some p.stA)]] Γ:=by
 have hT:Mv P p.Live false (Ww P p tot (.work m)):=rC (by simp);refine Qr.enter (dL:=[.pointer (some p.stA)]) hT H.f_done (by kernel_rfl) rfl rfl fun c hc hk=>?_;refine qa ?_;refine Qt.call (dL:=[.pointer (some p.stA),.int .i64 (-1)]) hT rfl rfl H.f_add (by kernel_rfl) rfl rfl fun c1 hk1=>?_
 have fin1:∀v' Γ',Qr (TQ P 1) v' (base L.add) (c1::c::cs) 117 [dcall L.enable #[]] Γ':=fun v' Γ'=>
  Qr.mark PL (Gg H) (lb uM rfl H.f_add rfl (hk1 (TQ P 0) v' _ (xF uM (Qt.fin uM (Eg uM rfl H.f_done rfl hc (hk (TQ P 0) v' (hq v')))))))
 refine qa ?_;refine Qt.cond hT true ?_;refine qa ?_;refine Qt.op hT rfl (gr (u:=.bool true) rfl rfl rfl rfl) ?_;refine qa ?_;refine Qt.cond hT true ?_;refine qa ?_;refine Qt.op hT rfl (nX rfl (mC (off:=0) (n:=1) H.underlying_tWgP H.underlying_tUP H.sizeOf_tWg (by decide)) rfl) ?_;refine oO (Ww.rl hm) (NH H) rfl rfl rfl ?_;replace hT:Mv P p.Live false (Ww P p tot .rel):=rC (by simp);refine qa ?_;refine oP PC (Gh H) rfl rfl ?_;replace hT:Mv P p.Live false (Ww P p tot .deaf):=rC (by simp);refine qa ?_;refine Qt.defer (dL:=[]) hT rfl rfl rfl ?_;refine qa ?_;refine zO hT (J3 H) rfl rfl ?_;refine qa ?_;refine Qt.cond hT false ?_;refine qa ?_;refine Qt.op hT rfl (EL rfl rfl) ?_;refine Qt.op hT rfl (dU (k:=0) rfl (de (n:=0) H.underlying_tWg rfl H.sizeOf_tAU) rfl) ?_;refine qa ?_;refine Qt.op hT rfl (gz (z:=18446744073709551615) rfl H.underlying_t3 H.underlying_tU64 rfl (by decide)) ?_;refine Qt.op hT rfl (EJ (z:=18446744069414584320) rfl rfl rfl (by decide) (by decide)) ?_;refine Qt.call (dL:=[.pointer (some p.stA),.int .u64 18446744069414584320]) hT rfl rfl H.f_uAdd (by kernel_rfl) rfl rfl fun c2 hk2=>?_;refine qa ?_;refine Qt.op hT rfl (EL rfl rfl) ?_;refine Qt.op hT rfl (dU (k:=0) rfl (de (n:=0) H.underlying_tAU rfl H.sizeOf_tU64) rfl) ?_;refine qa ?_;refine Cb (d:=9) (s:=.deaf) (u:=fun q=>.int .u64 (((q.c - 1) * 4294967296+q.wt:Nat):Int)) (W:=fun w q=>w.setCell p.stA (.int .u64 (((q.c - 1) * 4294967296+q.wt:Nat):Int))) (by simp) (fun e=>by cases e) (fun a ha w q hat hp=>?_) (fun w q hat _=>Gp.Eff.st hne hat) fun v' q hp=>?_
 ·obtain⟨p1,p2,p3,p4⟩:=hp;have hw:IntKind.u64.wrap (((q.c * 4294967296+q.wt:Nat):Int)+18446744069414584320)=(((q.c - 1) * 4294967296+q.wt:Nat):Int):=by rw [IntKind.wrap_u64];omega
  refine(stepG_add_atomic rfl (av rfl _) (by exact fun h=>nomatch h) rfl H.f_addU64 (by kernel_rfl) (by kernel_rfl) (by kernel_rfl) .u64 (by kernel_rfl) (ad:=p.stA) (ha.ev rfl) (ha.ev rfl) hat.c0 hat.f0).trans ?_;rw [hw];rfl
 obtain⟨p1,p2,p3,p4⟩:=hp;generalize hcc:q.c - 1=cc;have hlt:cc < 2147483648:=by omega
 refine D3 hcc p1 p3 (fun g hg hw hT=>?_) (fun hg hw hT=>?_)
 ·rcases(show q.wt=0∨q.wt=1 by omega) with hw0 |hw0
  ·rw [hw0];refine qa ?_;refine Qt.ret hT (gi hT rfl H.f_uAdd rfl rfl (hk2 _ _ _ ?_));refine qa ?_;refine Qt.op hT rfl (gr (u:=.int .u64 0) rfl rfl rfl (congrArg (fun z=>some (Value.int .u64 z)) (vB hlt (by decide)))) ?_;refine qb ?_;refine Qt.op hT rfl (rM (z:=cc) rfl rfl rfl (by decide) (vA hlt (by decide))) ?_;refine Qt.op hT rfl (gz (z:=cc) rfl H.underlying_tU64 H.underlying_t21 rfl (yd hlt)) ?_;refine qa ?_;refine Qt.op hT rfl (gr (u:=.int .u64 0) rfl rfl rfl (congrArg (fun z=>some (Value.int .u64 z)) (vz hlt (by decide)))) ?_;refine Qt.op hT rfl (gz (z:=0) rfl H.underlying_tU64 H.underlying_tU32 rfl rfl) ?_;refine qb ?_;refine Qt.op hT rfl (gr (u:=.bool g) rfl rfl rfl hg) ?_;cases g
   ·refine qb ?_;exact Qt.ret hT (fin1 _ _)
   ·refine qb ?_;exact Qt.ret hT (fin1 _ _)
  ·rw [hw0];have hgt:g=true:=hw.elim id fun e=>by omega
   subst hgt;refine qa ?_;refine Qt.ret hT (gi hT rfl H.f_uAdd rfl rfl (hk2 _ _ _ ?_));refine qa ?_;refine Qt.op hT rfl (gr (u:=.int .u64 0) rfl rfl rfl (congrArg (fun z=>some (Value.int .u64 z)) (vB hlt (by decide)))) ?_;refine qb ?_;refine Qt.op hT rfl (rM (z:=cc) rfl rfl rfl (by decide) (vA hlt (by decide))) ?_;refine Qt.op hT rfl (gz (z:=cc) rfl H.underlying_tU64 H.underlying_t21 rfl (yd hlt)) ?_;refine qa ?_;refine Qt.op hT rfl (gr (u:=.int .u64 1) rfl rfl rfl (congrArg (fun z=>some (Value.int .u64 z)) (vz hlt (by decide)))) ?_;refine Qt.op hT rfl (gz (z:=1) rfl H.underlying_tU64 H.underlying_tU32 rfl rfl) ?_;refine qb ?_;refine Qt.op hT rfl (gr (u:=.bool true) rfl rfl rfl hg) ?_;refine qb ?_;exact Qt.ret hT (fin1 _ _)
 ·rw [hw];have hcc0:cc=0:=by simp [q7] at hg;omega
  subst hcc0;refine qa ?_;refine Qt.ret hT (gi hT rfl H.f_uAdd rfl rfl (hk2 _ _ _ ?_));refine qa ?_;refine Qt.op hT rfl (gr (u:=.int .u64 0) rfl rfl rfl (congrArg (fun z=>some (Value.int .u64 z)) (vB hlt (by decide)))) ?_;refine qb ?_;refine Qt.op hT rfl (rM (z:=(0:Nat)) rfl rfl rfl (by decide) (vA hlt (by decide))) ?_;refine Qt.op hT rfl (gz (z:=(0:Nat)) rfl H.underlying_tU64 H.underlying_t21 rfl (yd hlt)) ?_;refine qa ?_;refine Qt.op hT rfl (gr (u:=.int .u64 1) rfl rfl rfl (congrArg (fun z=>some (Value.int .u64 z)) (vz hlt (by decide)))) ?_;refine Qt.op hT rfl (gz (z:=1) rfl H.underlying_tU64 H.underlying_tU32 rfl rfl) ?_;refine qb ?_;refine Qt.op hT rfl (dU (k:=0) rfl (de (n:=0) H.underlying_tWg rfl H.sizeOf_tAU) rfl) ?_;refine Qt.call (dL:=[.pointer (some p.stA)]) hT rfl rfl H.f_uLoad (by kernel_rfl) rfl rfl fun c3 hk3=>?_;refine qb ?_;refine Qt.op hT rfl (dU (k:=0) rfl (de (n:=0) H.underlying_tAU rfl H.sizeOf_tU64) rfl) ?_;refine Cb (d:=6) (s:=.l1) (u:=fun q=>.int .u64 1) (W:=fun w q=>w) (by simp) (fun e=>by cases e) (fun a ha w q hat hp=>?_) (fun w q hat _=>Gp.Eff.refl hat) fun v' q hp=>?_
  ·obtain⟨p1,p2,p3⟩:=hp;have hc0:=hat.c0;rw [p1,p2] at hc0;exact(stepG_load_atomic rfl (av rfl _) (by exact fun h=>nomatch h) rfl H.f_loadU64 (by kernel_rfl) (by kernel_rfl) (by kernel_rfl) .u64 (by kernel_rfl) (ad:=p.stA) (ha.ev rfl) hc0).trans rfl
  replace hT:Mv P p.Live false (Ww P p tot .l2):=rC (by simp);refine qb ?_;refine Qt.ret hT (gi hT rfl H.f_uLoad rfl rfl (hk3 _ _ _ ?_));refine qb ?_;refine Qt.op hT rfl (dU (k:=0) rfl (de (n:=0) H.underlying_tWg rfl H.sizeOf_tAU) rfl) ?_;refine Qt.call (dL:=[.pointer (some p.stA),.int .u64 0]) hT rfl rfl H.f_uStore (by kernel_rfl) rfl rfl fun c4 hk4=>?_;refine qb ?_;refine Qt.op hT rfl (dU (k:=0) rfl (de (n:=0) H.underlying_tAU rfl H.sizeOf_tU64) rfl) ?_;refine qb ?_;refine Cb (d:=8) (s:=.l2) (u:=fun q=>.tuple #[]) (W:=fun w q=>w.setCell p.stA (.int .u64 ((0 * 4294967296+0:Nat):Int))) (by simp) (fun e=>by cases e) (fun a ha w q hat hp=>?_) (fun w q hat _=>Gp.Eff.st hne hat) fun v' q hp=>?_
  ·exact(stepG_store_atomic rfl (av rfl _) (by exact fun h=>nomatch h) rfl H.f_storeU64 (by kernel_rfl) (by kernel_rfl) (by kernel_rfl) (by kernel_rfl) (ad:=p.stA) (k:=.u64) (v:=0) (ha.ev rfl) (ha.ev rfl) hat.c0 hat.f0).trans rfl
  replace hT:Mv P p.Live false (Ww P p tot .l3):=rC (by simp);refine qb ?_;refine Qt.fin hT (lb hT rfl H.f_uStore rfl (hk4 _ _ _ ?_));refine qb ?_;refine Qt.loop hT ?_;refine qb ?_;refine Qt.op hT rfl (dU (k:=1) rfl (de (n:=0) H.underlying_tWg rfl H.sizeOf_tU32) rfl) ?_;refine Cb (d:=116) (s:=.l3) (u:=fun q=>.tuple #[]) (W:=fun w q=>w.setCell p.smA (.int .u32 ((q.sm+1:Nat):Int))) (by simp) (fun _ a ha=>Nj rfl rfl H.f_semrelease (by kernel_rfl) a) (fun a ha w q hat hp=>?_) (fun w q hat _=>Gp.Eff.sm hne hat) fun v' q hp=>?_
  ·obtain⟨p1,p2,p3⟩:=hp;have hw:IntKind.u32.wrap ((q.sm:Int)+1)=((q.sm+1:Nat):Int):=by rw [IntKind.wrap_u32];omega
   refine(stepG_semrelease rfl (av rfl _) (by exact fun h=>nomatch h) rfl H.f_semrelease (by kernel_rfl) (by kernel_rfl) (by kernel_rfl) (by kernel_rfl) (ad:=p.smA) (by rw [Array.getElem?_map];exact congrArg some (ha.ev (x:=.tmp 115) rfl)) hat.c1 hat.f1).trans ?_;rw [hw];rfl
  refine Ht ?_;replace hT:Mv P (fun _=>True) false (TQ P 1):=uM;refine qb ?_;refine Qt.op hT rfl (gr (u:=.int .u32 0) rfl rfl rfl rfl) ?_;refine qb ?_;refine Qt.inLoop hT ?_;refine qb ?_;refine Qt.exit hT rfl ?_;exact Qt.fin hT (fin1 _ _)
end
end K
end Go.Proofs.YtcnpijmfgfnpiaaGreatDoor
set_option linter.unusedVariables false
set_option maxRecDepth 20000
set_option maxHeartbeats 4000000
namespace Go.Proofs.YtcnpijmfgfnpiaaGreatDoor
namespace K
open Go Go.Conc Go.Conc.Lib
section
variable {P:Program}{p:Gp}{tot:Nat→Nat}{n md:Nat}{rg:Bool}{pd:Nat}{jn:Bool}{Iv:(Nat→Ph)→Prop}{Gd:Machine→Trace→Prop}
def Nx(P:Program)(Gd:Machine→Trace→Prop):Prop:=∀m m' t ops,stepT P m=(.next m',ops)→Gd m' (t++ops)→Gd m t
theorem Am(fn:FuncId)(pos:String):kw p 0 (MemOp.ofEvents 0 fn pos #[]):=⟨fun op ho=>by simp [MemOp.ofEvents] at ho,fun op ho=>by simp [MemOp.ofEvents] at ho,fun op ho=>by simp [MemOp.ofEvents] at ho⟩
theorem PI(hnx:Nx P Gd)(hK:Kp tot n Iv):Mv P p.Live true (TW P p tot n md rg pd jn Iv Gd):=fun v fr fr' cs cs' h1 h=>rD hnx hK Am (fun w hl=>h1 w hl) h
theorem MD(hnx:Nx P Gd)(hK:Kp tot n Iv):Wd P p.Live true #[jQ .disable] (TW P p tot n md rg pd jn Iv Gd) (TW P p tot n (md+1) rg pd jn Iv Gd):=fun v fr fr' cs cs' h1 h=>rD hnx hK (pZ rfl fun a e=>by cases e) (fun w hl=>h1 w hl) h
theorem PK(hnx:Nx P Gd)(hK:Kp tot n Iv):Wd P p.Live true #[jQ .enable] (TW P p tot n (md+1) rg pd jn Iv Gd) (TW P p tot n md rg pd jn Iv Gd):=fun v fr fr' cs cs' h1 h=>rD hnx hK (pZ rfl fun a e=>by cases e) (fun w hl=>h1 w hl) h
theorem TW.rd(hnx:Nx P Gd)(hK:Kp tot n Iv){a:Addr}(ha:p.sh a.block):Wd P p.Live true #[jQ (.read a)] (TW P p tot n md rg pd jn Iv Gd) (TW P p tot n md rg pd jn Iv Gd):=fun v fr fr' cs cs' h1 h=>rD hnx hK (tR (wr:=false) ha) (fun w hl=>h1 w hl) h
theorem MB(hnx:Nx P Gd)(hK:Kp tot n Iv){a:Addr}(ha:p.sh a.block):Wd P p.Live true #[jQ (.write a)] (TW P p tot n md rg pd jn Iv Gd) (TW P p tot n md rg pd jn Iv Gd):=fun v fr fr' cs cs' h1 h=>rD hnx hK (tR (wr:=true) ha) (fun w hl=>h1 w hl) h
theorem Jz(hnx:Nx P Gd):Wd P p.Live true #[jQ (.acquire p.stA)] (TW P p tot n 0 rg pd false (sX n) Gd) (TW P p tot n 0 rg pd true (sX n) Gd):=fun v fr fr' cs cs' h1 h=>TW.acq hnx (fun w hl=>h1 w hl) h
variable {v:VW}{b:Frame}{cs:List Frame}{N d i f:Nat}{df:List Deferred}{Γ:Gv}{ops:Array Oper}{rest:List Nat}{k:List Item}
theorem Rf(hnx:Nx P Gd)(hK:Kp tot n Iv){es:ku→Array Event}{u:ku→Value}{W:World→ku→World}{e:ku→ku}{rg':ku→Bool}{pd':ku→Nat}{Iv':ku→(Nat→Ph)→Prop}
 (hu:∀q fn pos,kw p 0 (MemOp.ofEvents 0 fn pos (es q)))
 (step:∀a,QS N df Γ a→∀w q,p.At w q→(∃sg,Bk n tot sg rg pd q∧Iv sg)→stepG P true (G (b.at a (.inRegion ops (i::rest)::k)) cs) w= .go (G (b.at (a.put (some d) (u q)) (.inRegion ops rest::k)) cs) (W w q) (es q))
 (eff:∀w q,p.At w q→p.Eff w (W w q) (e q)) (bks:∀q sg,Bk n tot sg rg pd q→Iv sg→Bk n tot sg (rg' q) (pd' q) (e q)∧Iv' q sg)
 (h:∀v' q,(∃sg,Bk n tot sg rg pd q∧Iv sg)→Qt (TW P p tot n (deafBehind md (es q)) (rg' q) (pd' q) jn (Iv' q) Gd) v' b cs N df (.inRegion ops rest::k) ((d,u q)::Γ)) (hN:Nat.blt d N=true:=by exact rfl):
 Qt (TW P p tot n md rg pd jn Iv Gd) v b cs N df (.inRegion ops (i::rest)::k) Γ:=fun a ha=>
 TW.act hnx hK hu (fun v1 q sg _ hat hbk hiv=>⟨step a ha _ q hat ⟨sg,hbk,hiv⟩,eff _ q hat,bks q sg hbk hiv⟩) fun v1 q _ _ hb=>h _ q hb _ (ha.put hN)
end
def VR(p:Gp)(v0 v:VW):Prop:=bS v0 v∧∀b,p.sh b→v.A b
theorem VR.step{p:Gp}{v0 v v1:VW}{w':World}{q':ku}(h:VR p v0 v)(hr:bS v v1)(he:p.Eff v1.toWorld w' q'):VR p v0 (v1.upd w'):=by
 have hsh:∀b,p.sh b→v1.A b:=fun b hb=>hr.sub b (h.2 b hb);refine⟨(h.1.trans hr).trans ⟨fun b hb ha=>he.keep b fun x=>ha (hsh b x),Nat.le_of_eq he.size.symm,fun _ h=>h,fun _ h=>.inl h,fun h b hb=>?_,rfl,he.os,he.tape,he.output⟩,hsh⟩;show b < w'.heap.size;rw [he.size];exact h b hb
def TV(v0:VW)(P:Program)(p:Gp)(tot:Nat→Nat)(n md:Nat)(rg:Bool)(pd:Nat)(jn:Bool)(Iv:(Nat→Ph)→Prop)(Gd:Machine→Trace→Prop):Tq:=fun v fr cs=>VR p v0 v→TW P p tot n md rg pd jn Iv Gd v fr cs
def WV(v0:VW)(P:Program)(p:Gp)(tot:Nat)(s:Ph):Tq:=fun v fr cs=>VR p v0 v→Ww P p tot s v fr cs
section
variable {P:Program}{p:Gp}{tot:Nat→Nat}{n md:Nat}{rg:Bool}{pd:Nat}{jn:Bool}{Iv:(Nat→Ph)→Prop}{Gd:Machine→Trace→Prop}{v0:VW}
theorem fK(hnx:Nx P Gd)(hK:Kp tot n Iv):Mv P p.Live true (TV v0 P p tot n md rg pd jn Iv Gd):=fun v fr fr' cs cs' h1 h hv=>PI hnx hK v fr fr' cs cs' h1 (h hv)
theorem Hr(hnx:Nx P Gd)(hK:Kp tot n Iv):Wd P p.Live true #[jQ .disable] (TV v0 P p tot n md rg pd jn Iv Gd) (TV v0 P p tot n (md+1) rg pd jn Iv Gd):=fun v fr fr' cs cs' h1 h hv=>MD hnx hK v fr fr' cs cs' h1 (h hv)
theorem Cc(hnx:Nx P Gd)(hK:Kp tot n Iv):Wd P p.Live true #[jQ .enable] (TV v0 P p tot n (md+1) rg pd jn Iv Gd) (TV v0 P p tot n md rg pd jn Iv Gd):=fun v fr fr' cs cs' h1 h hv=>PK hnx hK v fr fr' cs cs' h1 (h hv)
theorem TV.rd(hnx:Nx P Gd)(hK:Kp tot n Iv){a:Addr}(ha:p.sh a.block):Wd P p.Live true #[jQ (.read a)] (TV v0 P p tot n md rg pd jn Iv Gd) (TV v0 P p tot n md rg pd jn Iv Gd):=fun v fr fr' cs cs' h1 h hv=>TW.rd hnx hK ha v fr fr' cs cs' h1 (h hv)
theorem ME(hnx:Nx P Gd)(hK:Kp tot n Iv){a:Addr}(ha:p.sh a.block):Wd P p.Live true #[jQ (.write a)] (TV v0 P p tot n md rg pd jn Iv Gd) (TV v0 P p tot n md rg pd jn Iv Gd):=fun v fr fr' cs cs' h1 h hv=>MB hnx hK ha v fr fr' cs cs' h1 (h hv)
theorem Cd(hnx:Nx P Gd):Wd P p.Live true #[jQ (.acquire p.stA)] (TV v0 P p tot n 0 rg pd false (sX n) Gd) (TV v0 P p tot n 0 rg pd true (sX n) Gd):=fun v fr fr' cs cs' h1 h hv=>Jz hnx v fr fr' cs cs' h1 (h hv)
variable {v:VW}{b:Frame}{cs:List Frame}{N d i f:Nat}{df:List Deferred}{Γ:Gv}{ops:Array Oper}{rest:List Nat}{k:List Item}
theorem zK(hnx:Nx P Gd)(hK:Kp tot n Iv){es:ku→Array Event}{u:ku→Value}{W:World→ku→World}{e:ku→ku}{rg':ku→Bool}{pd':ku→Nat}{Iv':ku→(Nat→Ph)→Prop}
 (hu:∀q fn pos,kw p 0 (MemOp.ofEvents 0 fn pos (es q)))
 (step:∀a,QS N df Γ a→∀w q,p.At w q→(∃sg,Bk n tot sg rg pd q∧Iv sg)→stepG P true (G (b.at a (.inRegion ops (i::rest)::k)) cs) w= .go (G (b.at (a.put (some d) (u q)) (.inRegion ops rest::k)) cs) (W w q) (es q))
 (eff:∀w q,p.At w q→p.Eff w (W w q) (e q)) (bks:∀q sg,Bk n tot sg rg pd q→Iv sg→Bk n tot sg (rg' q) (pd' q) (e q)∧Iv' q sg)
 (h:∀v' q,(∃sg,Bk n tot sg rg pd q∧Iv sg)→Qt (TV v0 P p tot n (deafBehind md (es q)) (rg' q) (pd' q) jn (Iv' q) Gd) v' b cs N df (.inRegion ops rest::k) ((d,u q)::Γ)) (hN:Nat.blt d N=true:=by exact rfl):
 Qt (TV v0 P p tot n md rg pd jn Iv Gd) v b cs N df (.inRegion ops (i::rest)::k) Γ:=fun a ha hv=>
 TW.act hnx hK hu (fun v1 q sg _ hat hbk hiv=>⟨step a ha _ q hat ⟨sg,hbk,hiv⟩,eff _ q hat,bks q sg hbk hiv⟩) fun v1 q hr hat hb=>h _ q hb _ (ha.put hN) (hv.step hr (eff _ q hat))
end
section
variable {P:Program}{p:Gp}{tot:Nat}{v0 v:VW}{b:Frame}{cs:List Frame}{N d i:Nat}{df:List Deferred}{Γ:Gv}{ops:Array Oper}{rest:List Nat}{k:List Item}
theorem Hn{s:Ph}(hs:s≠.quit):Mv P p.Live false (WV v0 P p tot s):=fun v fr fr' cs cs' h1 h hv=>rC hs v fr fr' cs cs' h1 (h hv)
theorem PD{s:Ph}{u:ku→Value}{W:World→ku→World}(hs:s≠.quit)(hm:s= .l3→∀a,QS N df Γ a→mayWake P (G (b.at a (.inRegion ops (i::rest)::k)) cs)=true)
 (step:∀a,QS N df Γ a→∀w q,p.At w q→s.pre tot q→stepG P false (G (b.at a (.inRegion ops (i::rest)::k)) cs) w= .go (G (b.at (a.put (some d) (u q)) (.inRegion ops rest::k)) cs) (W w q) (s.evs p tot))
 (eff:∀w q,p.At w q→s.pre tot q→p.Eff w (W w q) (s.eff tot q)) (h:∀v' q,s.pre tot q→Qt (WV v0 P p tot (s.nx tot q)) v' b cs N df (.inRegion ops rest::k) ((d,u q)::Γ)) (hN:Nat.blt d N=true:=by exact rfl):
 Qt (WV v0 P p tot s) v b cs N df (.inRegion ops (i::rest)::k) Γ:=fun a ha hv=>
 .act hs (fun e=>hm e a ha) (fun v1 q=>b.at (a.put (some d) (u q)) (.inRegion ops rest::k)) (fun _ _=>cs) (fun v1 q=>W v1.toWorld q) (fun v1 q _ hat hp=>step a ha _ q hat hp) (fun v1 q _ hat hp=>eff _ q hat hp) fun v1 q hr hat hp=>h _ q hp _ (ha.put hN) (hv.step hr (eff _ q hat hp))
end
section
variable {P:Program}{L:WgLink}{p:Gp}{tot:Nat→Nat}{n:Nat}{Gd:Machine→Trace→Prop}{v0 v:VW}{c:Frame}{cs:List Frame}
theorem Ju(hnx:Nx P Gd)(H:WgLib P L)(hne:p.bw≠p.bs){j:Nat}(hj:j < 1000)(hk:∀v',TV v0 P p tot n 0 false 1 false (pD n j) Gd v' (c.finish (.tuple #[])) cs):
 Qt (TV v0 P p tot n 0 false 0 false (pD n j) Gd) v (base L.add) (c::cs) 117 [] [.code ((addFn L).body.getD .skip)] (ent 0 [.pointer (some p.stA),.int .i64 1]):=by
 have hT:=fK (v0:=v0) (p:=p) (md:=0) (rg:=false) (pd:=0) (jn:=false) hnx (pC (tot:=tot) (n:=n) (B:=j))
 refine qb ?_
 refine oP (Hr hnx pC) (Gh H) rfl rfl ?_
 replace hT:=fK (v0:=v0) (p:=p) (md:=1) (rg:=false) (pd:=0) (jn:=false) hnx (pC (tot:=tot) (n:=n) (B:=j))
 refine qb ?_
 refine Qt.defer (dL:=[]) hT rfl rfl rfl ?_
 refine qb ?_
 refine zO hT (J3 H) rfl rfl ?_
 refine qb ?_
 refine Qt.op hT rfl (dU (k:=0) rfl (de (n:=0) H.underlying_tWg rfl H.sizeOf_tAU) rfl) ?_
 refine qb ?_
 refine Qt.op hT rfl (gz (z:=1) rfl H.underlying_t3 H.underlying_tU64 rfl (by decide)) ?_
 refine Qt.op hT rfl (EJ (z:=4294967296) rfl rfl rfl (by decide) (by decide)) ?_
 refine Qt.call (dL:=[.pointer (some p.stA),.int .u64 4294967296]) hT rfl rfl H.f_uAdd (by kernel_rfl) rfl rfl fun c2 hk2=>?_
 refine qb ?_
 refine Qt.op hT rfl (dU (k:=0) rfl (de (n:=0) H.underlying_tAU rfl H.sizeOf_tU64) rfl) ?_
 refine qb ?_
 refine zK (d:=9) hnx pC (es:=fun _=> #[tg p.stA,xR p.stA]) (u:=fun q=>.int .u64 (((q.c+1) * 4294967296+0:Nat):Int)) (W:=fun w q=>w.setCell p.stA (.int .u64 (((q.c+1) * 4294967296+0:Nat):Int))) (e:=fun q=>{ q with c:=q.c+1,wt:=0 }) (rg':=fun _=>false) (pd':=fun _=>1) (Iv':=fun _=>pD n j)
  (fun q fn pos=>o0 (fun e he=>by
   simp at he;rcases he with rfl |rfl
   ·exact .inl ⟨_,.inl rfl,.inl rfl⟩
   ·exact .inl ⟨_,.inr rfl,.inl rfl⟩) fn pos) (fun a ha w q hat hb=>?_) (fun w q hat=>Gp.Eff.st hne hat) (fun q sg hb hi=>⟨?_,hi⟩) fun v' q hb=>?_
 ·
  obtain⟨sg,hb,hi⟩:=hb;have hwt:=(hb.un rfl).1;have hc:=hb.c;have hi:al n sg Ph.act≤j:=hi;have hw:IntKind.u64.wrap (((q.c * 4294967296+q.wt:Nat):Int)+4294967296)=(((q.c+1) * 4294967296+0:Nat):Int):=by rw [IntKind.wrap_u64];omega
  refine(stepG_add_atomic rfl (av rfl _) (by exact fun h=>nomatch h) rfl H.f_addU64 (by kernel_rfl) (by kernel_rfl) (by kernel_rfl) .u64 (by kernel_rfl) (ad:=p.stA) (ha.ev rfl) (ha.ev rfl) hat.c0 hat.f0).trans ?_;rw [hw];rfl
 ·
  have hun:=hb.un rfl;have hc:=hb.c;have hi:al n sg Ph.act≤j:=hi;exact⟨hb.x,by show q.c+1=_;omega,fun _=>⟨rfl,hun.2.1,hun.2.2.1,hun.2.2.2⟩,fun e=>(by cases e),hb.le,hb.s0,by show q.c+1 < _;omega,hb.tb⟩
 obtain⟨sg,hb,hi⟩:=hb
 have hc:=hb.c
 have hi:al n sg Ph.act≤j:=hi
 have hlt:q.c+1 < 2147483648:=by omega
 have hpos:0 < q.c+1:=by omega
 replace hT:=fK (v0:=v0) (p:=p) (md:=1) (rg:=false) (pd:=1) (jn:=false) hnx (pC (tot:=tot) (n:=n) (B:=j))
 clear hb
 generalize q.c+1=cc at hlt hpos
 refine qb ?_
 refine Qt.ret hT (gi hT rfl H.f_uAdd rfl rfl (hk2 _ _ _ ?_))
 refine qb ?_
 refine Qt.op hT rfl (gr (u:=.int .u64 0) rfl rfl rfl (congrArg (fun z=>some (Value.int .u64 z)) (vB hlt (by decide)))) ?_
 refine qb ?_
 refine Qt.op hT rfl (rM (z:=cc) rfl rfl rfl (by decide) (vA hlt (by decide))) ?_
 refine Qt.op hT rfl (gz (z:=cc) rfl H.underlying_tU64 H.underlying_t21 rfl (yd hlt)) ?_
 refine qa ?_
 refine Qt.op hT rfl (gr (u:=.int .u64 0) rfl rfl rfl (congrArg (fun z=>some (Value.int .u64 z)) (vz hlt (by decide)))) ?_
 refine Qt.op hT rfl (gz (z:=0) rfl H.underlying_tU64 H.underlying_tU32 rfl rfl) ?_
 refine qb ?_
 refine qw hT rfl (gz (z:=1) rfl H.underlying_t3 H.underlying_t21 rfl (by decide)) ?_
 have hgt:q7 .gtr .i32 (cc:Int) 0=some (.bool true):=by simp [q7];omega
 rcases Decidable.em (cc=1) with h1 |h1
 ·
  refine qw hT rfl (gr (u:=.bool true) rfl rfl rfl (by simp [q7];omega)) ?_;refine qb ?_;refine Qt.op hT rfl (dU (k:=1) rfl (de (n:=0) H.underlying_tWg rfl H.sizeOf_tU32) rfl) ?_;refine Qt.op hT rfl (nX rfl (mC (off:=1) (n:=0) H.underlying_tPU32 H.underlying_tUP H.sizeOf_tU32 (by decide)) rfl) ?_;refine oO (TV.rd hnx pC (.inl rfl)) (Qg H) rfl rfl rfl ?_;refine qb ?_;refine Qt.op hT rfl (gr (u:=.bool true) rfl rfl rfl hgt) ?_;refine qb ?_;exact Qt.ret hT (Qr.mark (Cc hnx pC) (Gg H) (lb (fK hnx pC) rfl H.f_add rfl (hk _)))
 ·
  refine qw hT rfl (gr (u:=.bool false) rfl rfl rfl (by simp [q7];omega)) ?_;refine qb ?_;refine Qt.op hT rfl (gr (u:=.bool true) rfl rfl rfl hgt) ?_;refine qb ?_;exact Qt.ret hT (Qr.mark (Cc hnx pC) (Gg H) (lb (fK hnx pC) rfl H.f_add rfl (hk _)))
end
end K
end Go.Proofs.YtcnpijmfgfnpiaaGreatDoor
set_option linter.unusedVariables false
set_option maxRecDepth 20000
set_option maxHeartbeats 4000000
namespace Go.Proofs.YtcnpijmfgfnpiaaGreatDoor
namespace K
open Go Go.Conc Go.Conc.Lib
section
variable {P:Program}{L:WgLink}{p:Gp}{tot:Nat→Nat}{n:Nat}{Gd:Machine→Trace→Prop}{v0 v:VW}{b c:Frame}{cs:List Frame}{N d i:Nat}{df:List Deferred}{Γ:Gv}{ops:Array Oper}{rest:List Nat}{k:List Item}
theorem Jl{sg:Nat→Ph}{q:ku}(h:Bk n tot sg false 0 q)(hc:q.c=0):sX n sg:=fun i hi=>by
 have h0:=h.c
 have hun:=h.un rfl
 have a1:=pr (sg:=sg) (f:=Ph.act) (by omega) hi
 have a2:=pr (sg:=sg) (f:=ie) (by omega) hi
 have a3:=pr (sg:=sg) (f:=iC) (by omega) hi
 cases hx:sg i <;> rw [hx] at a1 a2 a3 <;> simp [Ph.act,ie,iC] at a1 a2 a3
theorem tl{a:Addr}(h:p.sh a.block)(fn:FuncId)(pos:String):kw p 0 (MemOp.ofEvents 0 fn pos #[tg a]):=o0 (fun e he=>by
 simp at he;subst he;exact .inl ⟨_,.inl rfl,h⟩) fn pos
theorem EX{a:Addr}(h:p.sh a.block)(fn:FuncId)(pos:String):kw p 0 (MemOp.ofEvents 0 fn pos #[tg a,xR a]):=o0 (fun e he=>by
 simp at he
 rcases he with rfl |rfl
 ·
  exact .inl ⟨_,.inl rfl,h⟩
 ·
  exact .inl ⟨_,.inr rfl,h⟩) fn pos
theorem JB(hnx:Nx P Gd)(H:WgLib P L){B:Nat}(hk:∀v' cc,cc≤B→cc < 2147483648→TV v0 P p tot n 1 false 0 false (if cc=0 then sX n else pD n cc) Gd v' (c.finish (.int .u64 ((cc * 4294967296+0:Nat):Int))) cs):
 Qt (TV v0 P p tot n 1 false 0 false (pD n B) Gd) v (base L.uLoad) (c::cs) 7 [] [.code ((uLoadFn L).body.getD .skip)] (ent 0 [.pointer (some p.stA)]):=by
 have hT:=fK (v0:=v0) (p:=p) (md:=1) (rg:=false) (pd:=0) (jn:=false) hnx (pC (tot:=tot) (n:=n) (B:=B))
 refine qb ?_
 refine Qt.op hT rfl (dU (k:=0) rfl (de (n:=0) H.underlying_tAU rfl H.sizeOf_tU64) rfl) ?_
 refine zK (d:=6) hnx pC (es:=fun _=> #[tg p.stA]) (u:=fun q=>.int .u64 ((q.c * 4294967296+0:Nat):Int)) (W:=fun w q=>w) (e:=fun q=>q) (rg':=fun _=>false) (pd':=fun _=>0) (Iv':=fun q=>if q.c=0 then sX n else pD n q.c)
  (fun q=>tl (.inl rfl)) (fun a ha w q hat hb=>?_) (fun w q hat=>Gp.Eff.refl hat) (fun q sg hb hi=>⟨hb,?_⟩) fun v' q hb=>?_
 ·
  obtain⟨sg,hb,hi⟩:=hb;have hwt:=(hb.un rfl).1;have hc0:=hat.c0;rw [hwt] at hc0;exact(stepG_load_atomic rfl (av rfl _) (by exact fun h=>nomatch h) rfl H.f_loadU64 (by kernel_rfl) (by kernel_rfl) (by kernel_rfl) .u64 (by kernel_rfl) (ad:=p.stA) (ha.ev rfl) hc0).trans rfl
 ·
  split
  ·rename_i e;exact Jl hb e
  ·have:=hb.c;show al n sg Ph.act≤q.c;omega
 obtain⟨sg,hb,hi⟩:=hb
 have hc:=hb.c
 have hi:al n sg Ph.act≤B:=hi
 have hbig:=hb.big
 have hcB:q.c≤B:=by omega
 clear hb hc
 generalize q.c=cc at hcB hbig
 have hK:Kp tot n (if cc=0 then sX n else pD n cc):=by split;exact zd;exact pC
 replace hT:=fK (v0:=v0) (p:=p) (md:=1) (rg:=false) (pd:=0) (jn:=false) hnx hK
 refine qb ?_
 exact Qt.ret hT (gi hT rfl H.f_uLoad rfl rfl (hk _ _ hcB hbig))
theorem Hq(hnx:Nx P Gd)(H:WgLib P L)(hk:∀v',TV v0 P p tot n 1 false 0 false (sX n) Gd v' (c.finish (.int .u64 0)) cs):
 Qt (TV v0 P p tot n 1 false 0 false (sX n) Gd) v (base L.uLoad) (c::cs) 7 [] [.code ((uLoadFn L).body.getD .skip)] (ent 0 [.pointer (some p.stA)]):=by
 have hT:=fK (v0:=v0) (p:=p) (md:=1) (rg:=false) (pd:=0) (jn:=false) hnx (zd (tot:=tot) (n:=n))
 refine qb ?_
 refine Qt.op hT rfl (dU (k:=0) rfl (de (n:=0) H.underlying_tAU rfl H.sizeOf_tU64) rfl) ?_
 refine zK (d:=6) hnx zd (es:=fun _=> #[tg p.stA]) (u:=fun q=>.int .u64 0) (W:=fun w q=>w) (e:=fun q=>q) (rg':=fun _=>false) (pd':=fun _=>0) (Iv':=fun q=>sX n)
  (fun q=>tl (.inl rfl)) (fun a ha w q hat hb=>?_) (fun w q hat=>Gp.Eff.refl hat) (fun q sg hb hi=>⟨hb,hi⟩) fun v' q hb=>?_
 ·
  obtain⟨sg,hb,hi⟩:=hb;have hwt:=(hb.un rfl).1;have hc:=hb.c;have hal:al n sg Ph.act=0:=mY fun i hin=>by rw [hi i hin];rfl
  have hc0:=hat.c0;rw [hwt,hc,hal] at hc0;exact(stepG_load_atomic rfl (av rfl _) (by exact fun h=>nomatch h) rfl H.f_loadU64 (by kernel_rfl) (by kernel_rfl) (by kernel_rfl) .u64 (by kernel_rfl) (ad:=p.stA) (ha.ev rfl) hc0).trans rfl
 refine qb ?_
 exact Qt.ret hT (gi hT rfl H.f_uLoad rfl rfl (hk _))
theorem MF(hnx:Nx P Gd)(H:WgLib P L)(hne:p.bw≠p.bs){cc:Nat}(hcc:0 < cc)(hk1:∀v',TV v0 P p tot n 1 true 0 false Oc Gd v' (c.finish (.bool true)) cs)(hk2:∀v',TV v0 P p tot n 1 false 0 false (pD n (cc - 1)) Gd v' (c.finish (.bool false)) cs):
 Qt (TV v0 P p tot n 1 false 0 false (pD n cc) Gd) v (base L.uCas) (c::cs) 13 [] [.code ((uCasFn L).body.getD .skip)] (ent 0 [.pointer (some p.stA),.int .u64 ((cc * 4294967296+0:Nat):Int),.int .u64 ((cc * 4294967296+1:Nat):Int)]):=by
 have hT:=fK (v0:=v0) (p:=p) (md:=1) (rg:=false) (pd:=0) (jn:=false) hnx (pC (tot:=tot) (n:=n) (B:=cc))
 refine qb ?_
 refine Qt.op hT rfl (dU (k:=0) rfl (de (n:=0) H.underlying_tAU rfl H.sizeOf_tU64) rfl) ?_
 refine qb ?_
 refine zK (d:=12) hnx pC (es:=fun q=>if q.c=cc then #[tg p.stA,xR p.stA] else #[tg p.stA]) (u:=fun q=>.bool (decide (q.c=cc))) (W:=fun w q=>if q.c=cc then w.setCell p.stA (.int .u64 ((cc * 4294967296+1:Nat):Int)) else w) (e:=fun q=>if q.c=cc then { q with c:=cc,wt:=1 } else q) (rg':=fun q=>decide (q.c=cc)) (pd':=fun _=>0) (Iv':=fun q=>if q.c=cc then Oc else pD n (cc - 1))
  (fun q=>?_) (fun a ha w q hat hb=>?_) (fun w q hat=>?_) (fun q sg hb hi=>?_) fun v' q hb=>?_
 ·
  split
  ·exact EX (.inl rfl)
  ·exact tl (.inl rfl)
 ·
  obtain⟨sg,hb,hi⟩:=hb;have hwt:=(hb.un rfl).1;have hc0:=hat.c0;rw [hwt] at hc0;by_cases e:q.c=cc
  ·simp only [if_pos e,e,decide_true];rw [e] at hc0;exact(stepG_cas_hit rfl (av rfl _) (by exact fun h=>nomatch h) rfl H.f_casU64 (by kernel_rfl) (by kernel_rfl) (by kernel_rfl) .u64 (by kernel_rfl) (ad:=p.stA) (ha.ev rfl) (ha.ev rfl) (ha.ev rfl) hc0 hat.f0).trans rfl
  ·simp only [if_neg e,decide_eq_false e];exact(stepG_cas_miss rfl (av rfl _) (by exact fun h=>nomatch h) rfl H.f_casU64 (by kernel_rfl) (by kernel_rfl) (by kernel_rfl) .u64 (by kernel_rfl) (ad:=p.stA) (ha.ev rfl) (ha.ev rfl) (ha.ev rfl) hc0 hat.f0 (by omega)).trans rfl
 ·
  split
  ·exact Gp.Eff.st hne hat
  ·exact Gp.Eff.refl hat
 ·
  have hun:=hb.un rfl;have hc:=hb.c;have hi:al n sg Ph.act≤cc:=hi;by_cases e:q.c=cc
  ·simp only [if_pos e,decide_eq_true e];exact⟨⟨hb.x,by show cc=_;omega,fun h=>(by cases h),fun _=>⟨rfl,fun _=>⟨rfl,hun.2.1,hun.2.2.1,hun.2.2.2⟩,fun h=>absurd (show cc=0 from h) (by omega)⟩,hb.le,hb.s0,by show cc < _;have:=hb.big;omega,hb.tb⟩,trivial⟩
  ·simp only [if_neg e,decide_eq_false e];exact⟨hb,by show al n sg Ph.act≤cc - 1;omega⟩
 by_cases e:q.c=cc
 ·
  simp only [if_pos e,decide_eq_true e];replace hT:=fK (v0:=v0) (p:=p) (md:=1) (rg:=true) (pd:=0) (jn:=false) hnx (PS (tot:=tot) (n:=n));refine qb ?_;exact Qt.ret hT (gi hT rfl H.f_uCas rfl rfl (hk1 _))
 ·
  simp only [if_neg e,decide_eq_false e];replace hT:=fK (v0:=v0) (p:=p) (md:=1) (rg:=false) (pd:=0) (jn:=false) hnx (pC (tot:=tot) (n:=n) (B:=cc - 1));refine qb ?_;exact Qt.ret hT (gi hT rfl H.f_uCas rfl rfl (hk2 _))
theorem JA(hnx:Nx P Gd){u:ku→Value}(h0:∀a,QS N df Γ a→∀w q,p.At w q→q.sm=0→stepG P true (G (b.at a (.inRegion ops (i::rest)::k)) cs) w= .go { G (b.at a (.inRegion ops (i::rest)::k)) cs with status:=.blocked } w #[])
 (h1:∀a,QS N df Γ a→∀w q,p.At w q→q.sm=1→stepG P true (G (b.at a (.inRegion ops (i::rest)::k)) cs) w= .go (G (b.at (a.put (some d) (.tuple #[])) (.inRegion ops rest::k)) cs) (w.setCell p.smA (.int .u32 ((0:Nat):Int))) #[jQ .disable,tg p.smA,xR p.smA,jQ .enable]) (hne:p.bw≠p.bs)
 (h2:∀v',Qt (TV v0 P p tot n 1 false 0 false (sX n) Gd) v' b cs N df (.inRegion ops rest::k) ((d,.tuple #[])::Γ)) (hN:Nat.blt d N=true:=by exact rfl):Qt (TV v0 P p tot n 1 true 0 false Oc Gd) v b cs N df (.inRegion ops (i::rest)::k) Γ:=fun a ha hv=>
 MC hnx (W:=fun w _=>w.setCell p.smA (.int .u32 ((0:Nat):Int))) (fun v1 q _ hat hq=>h0 a ha _ q hat hq) (fun v1 q _ hat hq=>⟨h1 a ha _ q hat hq,Gp.Eff.sm hne hat⟩) (fun v1 q hr hat=>h2 _ _ (ha.put hN) (hv.step hr (Gp.Eff.sm hne hat))) (by decide)
end
end K
end Go.Proofs.YtcnpijmfgfnpiaaGreatDoor
set_option linter.unusedVariables false
set_option maxRecDepth 20000
set_option maxHeartbeats 4000000
namespace Go.Proofs.YtcnpijmfgfnpiaaGreatDoor
namespace K
open Go Go.Conc Go.Conc.Lib
def yc(L:WgLink):Code:=match (waitFn L).body with
 |some (.seq _ (.block _ (.loop b)))=>b
 |_=>.skip
section
variable {P:Program}{L:WgLink}{p:Gp}{tot:Nat→Nat}{n:Nat}{Gd:Machine→Trace→Prop}{v0:VW}{c:Frame}{cs:List Frame}
theorem CS(hnx:Nx P Gd)(H:WgLib P L)(hne:p.bw≠p.bs)(hk:∀v',TV v0 P p tot n 0 false 0 true (sX n) Gd v' (c.finish (.tuple #[])) cs):∀(B:Nat) v Γ,lv Γ 0=some (.pointer (some p.stA))→
 Qt (TV v0 P p tot n 1 false 0 false (pD n B) Gd) v (base L.wait) (c::cs) 84 [] [.code (yc L),.inLoop (yc L),.inBlock 0] Γ:=fun B=>by
 induction B using Nat.strongRecOn with
 |_ B ih=>
 intro v Γ h0
 have hT:=fK (v0:=v0) (p:=p) (md:=1) (rg:=false) (pd:=0) (jn:=false) hnx (pC (tot:=tot) (n:=n) (B:=B))
 refine qa ?_
 refine Qt.op hT rfl (mi rfl h0) ?_
 refine qb ?_
 refine Qt.op hT rfl (dU (k:=0) rfl (de (n:=0) H.underlying_tWg rfl H.sizeOf_tAU) rfl) ?_
 refine Qt.call (dL:=[.pointer (some p.stA)]) hT rfl rfl H.f_uLoad (by kernel_rfl) rfl rfl fun c1 hk1=>?_
 refine JB hnx H fun v' cc hB hlt=>?_
 rcases Nat.eq_zero_or_pos cc with hz |hpos
 ·
  subst hz
  rw [if_pos rfl]
  replace hT:=fK (v0:=v0) (p:=p) (md:=1) (rg:=false) (pd:=0) (jn:=false) hnx (zd (tot:=tot) (n:=n))
  refine hk1 _ _ _ ?_
  refine qb ?_
  refine Qt.op hT rfl (rM (z:=(0:Nat)) rfl rfl rfl (by decide) (vA (by decide) (by decide))) ?_
  refine Qt.op hT rfl (gz (z:=(0:Nat)) rfl H.underlying_tU64 H.underlying_t21 rfl rfl) ?_
  refine qb ?_
  refine Qt.op hT rfl (gr (u:=.int .u64 0) rfl rfl rfl (congrArg (fun z=>some (Value.int .u64 z)) (vz (by decide) (by decide)))) ?_
  refine Qt.op hT rfl (gz (z:=0) rfl H.underlying_tU64 H.underlying_tU32 rfl rfl) ?_
  refine qb ?_
  refine oP (Cc hnx zd) (Gg H) rfl rfl ?_
  replace hT:=fK (v0:=v0) (p:=p) (md:=0) (rg:=false) (pd:=0) (jn:=false) hnx (zd (tot:=tot) (n:=n))
  refine qa ?_
  refine Qt.op hT rfl (mi rfl h0) ?_
  refine Qt.op hT rfl (nX rfl (mC (off:=0) (n:=1) H.underlying_tWgP H.underlying_tUP H.sizeOf_tWg (by decide)) rfl) ?_
  refine oO (Cd hnx) (J4 H) rfl rfl rfl ?_
  replace hT:=fK (v0:=v0) (p:=p) (md:=0) (rg:=false) (pd:=0) (jn:=true) hnx (zd (tot:=tot) (n:=n))
  refine qb ?_
  refine qw hT rfl (gr (u:=.int .u64 0) rfl rfl rfl (congrArg (fun z=>some (Value.int .u64 z)) (vB (by decide) (by decide)))) ?_
  refine qb ?_
  exact Qt.ret hT (lb hT rfl H.f_wait rfl (hk _))
 ·
  rw [if_neg (by omega)]
  replace hT:=fK (v0:=v0) (p:=p) (md:=1) (rg:=false) (pd:=0) (jn:=false) hnx (pC (tot:=tot) (n:=n) (B:=cc))
  refine hk1 _ _ _ ?_
  refine qb ?_
  refine Qt.op hT rfl (rM (z:=cc) rfl rfl rfl (by decide) (vA hlt (by decide))) ?_
  refine Qt.op hT rfl (gz (z:=cc) rfl H.underlying_tU64 H.underlying_t21 rfl (yd hlt)) ?_
  refine qa ?_
  refine Qt.op hT rfl (gr (u:=.int .u64 0) rfl rfl rfl (congrArg (fun z=>some (Value.int .u64 z)) (vz hlt (by decide)))) ?_
  refine Qt.op hT rfl (gz (z:=0) rfl H.underlying_tU64 H.underlying_tU32 rfl rfl) ?_
  refine qa ?_
  refine Qt.op hT rfl (gr (u:=.bool false) rfl rfl rfl (by simp [q7];omega)) ?_
  refine qb ?_
  refine Qt.op hT rfl (mi rfl h0) ?_
  refine qb ?_
  refine Qt.op hT rfl (dU (k:=0) rfl (de (n:=0) H.underlying_tWg rfl H.sizeOf_tAU) rfl) ?_
  refine qa ?_
  refine Qt.op hT rfl (gr (u:=.int .u64 ((cc * 4294967296+1:Nat):Int)) rfl rfl rfl (by simp only [q7,IntKind.wrap_u64];congr 2;omega)) ?_
  refine Qt.call (dL:=[.pointer (some p.stA),.int .u64 ((cc * 4294967296+0:Nat):Int),.int .u64 ((cc * 4294967296+1:Nat):Int)]) hT rfl rfl H.f_uCas (by kernel_rfl) rfl rfl fun c2 hk2=>?_
  refine MF hnx H hne hpos (fun v'=>?_) (fun v'=>?_)
  ·
   replace hT:=fK (v0:=v0) (p:=p) (md:=1) (rg:=true) (pd:=0) (jn:=false) hnx (PS (tot:=tot) (n:=n))
   refine hk2 _ _ _ ?_
   refine qb ?_
   refine Qt.op hT rfl (mi rfl h0) ?_
   refine qb ?_
   refine Qt.op hT rfl (dU (k:=1) rfl (de (n:=0) H.underlying_tWg rfl H.sizeOf_tU32) rfl) ?_
   refine Qt.op hT rfl (nX rfl (mC (off:=1) (n:=0) H.underlying_tPU32 H.underlying_tUP H.sizeOf_tU32 (by decide)) rfl) ?_
   refine oO (ME hnx PS (.inl rfl)) (Qf H) rfl rfl rfl ?_
   refine qb ?_
   refine Qt.op hT rfl (gr (u:=.int .u64 0) rfl rfl rfl (congrArg (fun z=>some (Value.int .u64 z)) (vB hlt (by decide)))) ?_
   refine qb ?_
   refine Qt.op hT rfl (mi rfl h0) ?_
   refine qb ?_
   refine Qt.op hT rfl (dU (k:=1) rfl (de (n:=0) H.underlying_tWg rfl H.sizeOf_tU32) rfl) ?_
   refine qa ?_
   refine JA (d:=72) hnx (u:=fun _=>.tuple #[]) (fun a ha w q hat hq=>?_) (fun a ha w q hat hq=>?_) hne fun v'=>?_
   ·
    have h1:=hat.c1
    rw [hq] at h1
    exact(stepG_semacquire_wait rfl (av rfl _) rfl H.f_semacquire (by kernel_rfl) (by kernel_rfl) (by kernel_rfl) (by kernel_rfl) (ad:=p.smA) (by rw [Array.getElem?_map];exact congrArg some (ha.ev (x:=.tmp 70) rfl)) h1).trans rfl
   ·
    have h1:=hat.c1
    rw [hq] at h1
    exact(stepG_semacquire rfl (av rfl _) (by exact fun h=>nomatch h) rfl H.f_semacquire (by kernel_rfl) (by kernel_rfl) (by kernel_rfl) (by kernel_rfl) (ad:=p.smA) (by rw [Array.getElem?_map];exact congrArg some (ha.ev (x:=.tmp 70) rfl)) h1 (by decide) hat.f1).trans rfl
   replace hT:=fK (v0:=v0) (p:=p) (md:=1) (rg:=false) (pd:=0) (jn:=false) hnx (zd (tot:=tot) (n:=n))
   refine qa ?_
   refine Qt.op hT rfl (mi rfl h0) ?_
   refine qb ?_
   refine Qt.op hT rfl (dU (k:=0) rfl (de (n:=0) H.underlying_tWg rfl H.sizeOf_tAU) rfl) ?_
   refine Qt.call (dL:=[.pointer (some p.stA)]) hT rfl rfl H.f_uLoad (by kernel_rfl) rfl rfl fun c3 hk3=>?_
   refine Hq hnx H fun v3=>hk3 _ _ _ ?_
   refine qb ?_
   refine oP (Cc hnx zd) (Gg H) rfl rfl ?_
   replace hT:=fK (v0:=v0) (p:=p) (md:=0) (rg:=false) (pd:=0) (jn:=false) hnx (zd (tot:=tot) (n:=n))
   refine qa ?_
   refine Qt.op hT rfl (mi rfl h0) ?_
   refine Qt.op hT rfl (nX rfl (mC (off:=0) (n:=1) H.underlying_tWgP H.underlying_tUP H.sizeOf_tWg (by decide)) rfl) ?_
   refine oO (Cd hnx) (J4 H) rfl rfl rfl ?_
   replace hT:=fK (v0:=v0) (p:=p) (md:=0) (rg:=false) (pd:=0) (jn:=true) hnx (zd (tot:=tot) (n:=n))
   refine qb ?_
   exact Qt.ret hT (lb hT rfl H.f_wait rfl (hk _))
  ·
   refine hk2 _ _ _ ?_
   replace hT:=fK (v0:=v0) (p:=p) (md:=1) (rg:=false) (pd:=0) (jn:=false) hnx (pC (tot:=tot) (n:=n) (B:=cc - 1))
   refine qb ?_
   refine Qt.inLoop hT ?_
   exact ih (cc - 1) (by omega) _ _ h0
theorem EG(hnx:Nx P Gd)(H:WgLib P L)(hne:p.bw≠p.bs){B:Nat}{v:VW}(hk:∀v',TV v0 P p tot n 0 false 0 true (sX n) Gd v' (c.finish (.tuple #[])) cs):
 Qt (TV v0 P p tot n 0 false 0 false (pD n B) Gd) v (base L.wait) (c::cs) 84 [] [.code ((waitFn L).body.getD .skip)] (ent 0 [.pointer (some p.stA)]):=by
 have hT:=fK (v0:=v0) (p:=p) (md:=0) (rg:=false) (pd:=0) (jn:=false) hnx (pC (tot:=tot) (n:=n) (B:=B))
 refine qb ?_
 refine oP (Hr hnx pC) (Gh H) rfl rfl ?_
 replace hT:=fK (v0:=v0) (p:=p) (md:=1) (rg:=false) (pd:=0) (jn:=false) hnx (pC (tot:=tot) (n:=n) (B:=B))
 refine qb ?_
 refine Qt.loop hT ?_
 exact CS hnx H hne hk B _ _ rfl
end
end K
end Go.Proofs.YtcnpijmfgfnpiaaGreatDoor
set_option linter.unusedVariables false
namespace Go.Proofs.YtcnpijmfgfnpiaaGreatDoor
namespace K
open Go Go.Conc
def dL(Γ:Ga)(a:Act):Gv:=Γ.map fun q=>(q.1,a.tmps.getD q.1 undef)
def zS(Γ:Ga)(a:Act)(Γq:Gv):Prop:=∀s r,lk Γ s=some r→lv Γq s=some (a.tmps.getD s undef)
theorem BK{a:Act}:∀{Γ:Ga} {s:Nat} {x:Value},lv (dL Γ a) s=some x→a.tmps.getD s undef=x
 |[],_,_,h=>by cases h
 |(s0,r0)::l,s,x,h=>by
  simp only [dL,List.map_cons,lv] at h
  split at h
  ·
   rename_i e;subst e;exact Option.some.inj h
  ·
   exact BK (Γ:=l) h
theorem zS.base{a:Act}:∀{Γ:Ga},zS Γ a (dL Γ a)
 |[],_,_,h=>by cases h
 |(s0,r0)::l,s,r,h=>by
  simp only [lk] at h
  simp only [dL,List.map_cons,lv]
  split at h
  ·
   rename_i e;subst e;simp
  ·
   rename_i e;rw [if_neg e];exact zS.base (Γ:=l) s r h
theorem zS.new{Γ:Ga}{a:Act}{Γq:Gv}{d:Nat}{u:Value}(h:zS Γ a Γq)(hd:lk Γ d=none:=by exact rfl):zS Γ a ((d,u)::Γq):=fun s r hl=>by
 simp only [lv]
 split
 ·
  rename_i e;subst e;rw [hd] at hl;cases hl
 ·
  exact h s r hl
theorem zS.know{Γ:Ga}{a:Act}{Γq:Gv}{d:Nat}{u:Value}(h:zS Γ a Γq)(hd:a.tmps.getD d undef=u):zS Γ a ((d,u)::Γq):=fun s r hl=>by
 simp only [lv]
 split
 ·
  rename_i e;subst e;rw [hd]
 ·
  exact h s r hl
theorem QS.know{N:Nat}{df:List Deferred}{Γq:Gv}{a:Act}{d:Nat}{u:Value}(h:QS N df Γq a)(hd:a.tmps.getD d undef=u):QS N df ((d,u)::Γq) a:=⟨h.size,h.defers,fun s x hl=>by
 simp only [lv] at hl
 split at hl
 ·
  rename_i e;subst e;cases hl;exact hd
 ·
  exact h.val s x hl⟩
theorem St.toQ{c:Cx}{Γ:Ga}{Δ:List D}{a:Act}{v:VW}(st:St c Γ Δ a v):QS c.N c.dfs (dL Γ a) a:=⟨st.size,st.defers,fun s x h=>BK h⟩
theorem St.ofQ{P:Program}{M:Md P}{N:Nat}{S0:FS}{w0:VW}{X:Nat→Prop}{rd:Option Nat}{df df':List Deferred}{Γ:Ga}{Δ:List D}{a a':Act}{v:VW}{Γq:Gv}(st:St ⟨P,N,S0,w0,X,rd,df,M⟩ Γ Δ a v)(hc:zS Γ a Γq)(q:QS N df' Γq a'):St ⟨P,N,S0,w0,X,rd,df',M⟩ Γ Δ a' v:=by
 obtain⟨h1,h2,S,h3,h4,h5,h6⟩:=st;refine⟨q.defers,q.size,S,h3,h4,h5,fun s r hl=>?_⟩;rw [q.val s _ (hc s r hl)];exact h6 s r hl
section
variable {P:Program}{main:Bool}{b:Frame}{a:Act}{k:List Item}{cs:List Frame}{ops:Array Oper}{i:Nat}{rest:List Nat}{o:Oper}{w:World}
def fJ(P:Program)(d:Deferred):Frame:={ (default:Frame) with fn:=P.funcs.size,defers:=[d],mode:=.panicking [goexitEntry] }
theorem Qs{cl:Call}{s g:Nat}{cap:Array Value}{ts:Array TypeId}(ho:ops[i]? =some o)(hw:Region.wanted o (yielded ops a.tmps)=true)(hop:o.op= .go cl)(hcl:cl={ callee:=.value (.tmp s),args:= #[],argTypes:=ts })
 (hv:a.eval (.tmp s)= .func (.func g) #[] cap):
 stepG P main (Gr (b.atR a (.inRegion ops (i::rest)::k)) cs) w= .spawn (Gr (b.atR (a.put o.dst undef) (.inRegion ops rest::k)) cs) (Gr (fJ P { target:=.fn (.func g) cap,args:= #[] }) []) w #[]:=by
 have he:execOp a.eval o=pure (.spawn { target:=.fn (.func g) cap,args:= #[] }):=by
  unfold execOp;rw [hop,hcl];simp [resolve,hv,Deferred.ofValue]
 have hT:(pure (Next.spawn { target:=.fn (.func g) cap,args:= #[] }):Sem Next).runT P w #[]=(.ok (.spawn { target:=.fn (.func g) cap,args:= #[] }) w, #[]):=rfl
 have hfin:(b.atR a (.inRegion ops (i::rest)::k)).finish undef=b.atR (a.put o.dst undef) (.inRegion ops rest::k):=by rw [Frame.finish_atR,ho];rfl
 rw [zk ho hw,Oper.semAt_eq _ _ _ (by simp [hop]),he]
 simp only [stepG.apply,if_true,hT,Gt,oe,GStep.after,hfin]
 simp [fJ]
theorem xm{g:Nat}{cap:Array Value}(hen:ah P g):stepG P main (Gr (fJ P { target:=.fn (.func g) cap,args:= #[] }) []) w= .go (Gr (Frame.enter P g cap .deferred) [{ fJ P { target:=.fn (.func g) cap,args:= #[] } with defers:=[] }]) w #[]:=by
 have hi:invoke (.fn (.func g) cap) #[]=callFunc g cap:=by simp [invoke]
 simp only [stepG,fJ,unwind,callDeferred,hi,qn hen,GStep.after,Array.append_empty,oe];rfl
theorem As{d:Deferred}:QuitsD P 1 0 (Gr { fJ P d with defers:=[] } []):=by
 refine .ctl (g':={ Gr { fJ P d with defers:=[] } [] with status:=.finished }) rfl (fun w=>?_) ⟨rfl,rfl⟩
 have hc:({ fJ P d with defers:=[] }:Frame).catches P=false:=by
  simp [Frame.catches,fJ];rfl
 simp [stepG,unwind,fJ,goexitEntry] at hc⊢;simp [Frame.catches];rfl
theorem Hy{d:Deferred}{fn:Func}{N:Nat}{Γ:Gv}{v:VW}(hb:b.kind= .deferred)(hf:P.funcs[b.fn]? =some fn)(hr:fn.results= #[]):Qr (TQ P 0) v b [{ fJ P d with defers:=[] }] N [] Γ:=fun a todo ha=>by
 refine⟨2,.ctl rfl (fun w=>?_) (As (d:=d))⟩
 have hres:(results fn a.tmps).runT P w #[]=(.ok (.tuple #[]) w, #[]):=by
  simp [results,hr]
 simp only [stepG,Gr,Frame.at,unwind,ha.defers,hf,hres,doReturn,hb,GStep.after,Array.append_empty,oe,fJ,goexitEntry]
end
end K
end Go.Proofs.YtcnpijmfgfnpiaaGreatDoor
set_option linter.unusedVariables false
set_option maxRecDepth 20000
set_option maxHeartbeats 4000000
namespace Go.Proofs.YtcnpijmfgfnpiaaGreatDoor
open K Go Go.Proofs Go.Extern
abbrev hd(T:Nat):Value:=.pointer (some ⟨2,T,none⟩)
abbrev rj:Value:=.iface 221 (.agg #[hd 121])
abbrev MQ(T:Nat)(a:Nat)(fl:Int):A:=.agg (.pair (.eq (hd T)) (.pair (.eq (.pointer (some ⟨a,0,none⟩))) (.eq (.int .u64 fl))))
abbrev rV(T:Nat)(a:Nat)(fl:Int):Value:=.agg #[hd T,.pointer (some ⟨a,0,none⟩),.int .u64 fl]
theorem JR:fL Tryz.prog 130 (fun args=>ReflectliteValue.unpack (args.getD 0 (.tuple #[]))):=fL.of Tryz.func130 (by kernel_rfl) (by kernel_rfl) (by kernel_rfl) (by kernel_rfl)
theorem Ni:fL Tryz.prog 131 (ReflectliteValue.methodAny (ReflectliteValue.valueError "reflectlite.Value.Type" 0) fun t _ _ _=>ReflectliteType.toType t):=fL.of Tryz.func131 (by kernel_rfl) (by kernel_rfl) (by kernel_rfl) (by kernel_rfl)
theorem Nh:fL Tryz.prog 132 (ReflectliteValue.method (ReflectliteValue.valueError "reflectlite.Value.IsNil" 0) ReflectliteValue.isNil):=fL.of Tryz.func132 (by kernel_rfl) (by kernel_rfl) (by kernel_rfl) (by kernel_rfl)
theorem Nc:fL Tryz.prog 160 ReflectliteType.typeOf:=fL.of Tryz.func160 (by kernel_rfl) (by kernel_rfl) (by kernel_rfl) (by kernel_rfl)
theorem Nb:fL Tryz.prog 161 (ReflectliteValue.method (ReflectliteValue.valueError "reflectlite.Value.Elem" 0) ReflectliteValue.elem):=fL.of Tryz.func161 (by kernel_rfl) (by kernel_rfl) (by kernel_rfl) (by kernel_rfl)
theorem JQ:fL Tryz.prog 162 ReflectliteValue.set:=fL.of Tryz.func162 (by kernel_rfl) (by kernel_rfl) (by kernel_rfl) (by kernel_rfl)
theorem JP:fL Tryz.prog 229 (ReflectliteType.abiMethod fun t=>do pure (.int .u8 (←Rtype.kind t))):=fL.of Tryz.func229 (by kernel_rfl) (by kernel_rfl) (by kernel_rfl) (by kernel_rfl)
theorem Na:fL Tryz.prog 239 (ReflectliteType.relation "AssignableTo" ReflectliteType.assignableTo):=fL.of Tryz.func239 (by kernel_rfl) (by kernel_rfl) (by kernel_rfl) (by kernel_rfl)
theorem M9:fL Tryz.prog 241 (ReflectliteType.method ReflectliteType.elem):=fL.of Tryz.func241 (by kernel_rfl) (by kernel_rfl) (by kernel_rfl) (by kernel_rfl)
theorem M8:fL Tryz.prog 242 (ReflectliteType.relation "Implements" ReflectliteType.implements_):=fL.of Tryz.func242 (by kernel_rfl) (by kernel_rfl) (by kernel_rfl) (by kernel_rfl)
theorem Aa(t:Addr)(w:World):(ReflectliteValue.unpack (.iface 123 (.pointer (some t)))).run Tryz.prog w= .ok (rV 123 w.heap.size 150) (w.alloc (.cells #[.pointer (some t)] 123)):=by kernel_rfl
theorem vf(t:Addr):Ns Tryz.prog (ReflectliteValue.unpack (.iface 123 (.pointer (some t)))):=FT (by kernel_rfl)
theorem Ib(a:Addr)(w:World):(ReflectliteValue.methodAny (ReflectliteValue.valueError "reflectlite.Value.Type" 0) (fun t _ _ _=>ReflectliteType.toType t) #[.agg #[hd 123,.pointer (some a),.int .u64 150]]).run Tryz.prog w= .ok (.iface 221 (.agg #[hd 123])) w:=by kernel_rfl
theorem AI(a:Addr):Ns Tryz.prog (ReflectliteValue.methodAny (ReflectliteValue.valueError "reflectlite.Value.Type" 0) (fun t _ _ _=>ReflectliteType.toType t) #[.agg #[hd 123,.pointer (some a),.int .u64 150]]):=nK (by kernel_rfl)
theorem JW:dF Tryz.prog 123 1 false:=⟨fun w=>by kernel_rfl,fun w=>by kernel_rfl⟩
theorem PR(z:Sem Value)(f:TypeId→Addr→Nat→Nat→Sem Value)(v:Value):
 ReflectliteValue.method z f #[v]=(do match←ReflectliteValue.parts v with |none=>z |some (t,a,fl)=>f t a fl (fl % 32)):=rfl
theorem yy(a:Addr)(w:World):(ReflectliteValue.parts (.agg #[hd 123,.pointer (some a),.int .u64 150])).run Tryz.prog w= .ok (some (123,a,150)) w:=by kernel_rfl
theorem J5(T:Nat)(w:World):(method (Tryz.prog.types.size+Made.depth) 221 (.agg #[hd T]) "Kind").run Tryz.prog w= .ok (229,hd T) w:=by kernel_rfl
theorem NK(T:Nat)(w:World):(method (Tryz.prog.types.size+Made.depth) 221 (.agg #[hd T]) "Elem").run Tryz.prog w= .ok (241,.agg #[hd T]) w:=by kernel_rfl
theorem NJ(T:Nat)(w:World):(method (Tryz.prog.types.size+Made.depth) 221 (.agg #[hd T]) "Implements").run Tryz.prog w= .ok (242,.agg #[hd T]) w:=by kernel_rfl
theorem NL(T:Nat)(w:World):(method (Tryz.prog.types.size+Made.depth) 221 (.agg #[hd T]) "AssignableTo").run Tryz.prog w= .ok (239,.agg #[hd T]) w:=by kernel_rfl
theorem IJ(w:World):((ReflectliteType.abiMethod fun t=>do pure (.int .u8 (←Rtype.kind t))) #[hd 123]).run Tryz.prog w= .ok (.int .u8 22) w:=by kernel_rfl
theorem IK(w:World):((ReflectliteType.abiMethod fun t=>do pure (.int .u8 (←Rtype.kind t))) #[hd 118]).run Tryz.prog w= .ok (.int .u8 25) w:=by kernel_rfl
theorem Jd(w:World):(ReflectliteType.method ReflectliteType.elem #[.agg #[hd 123]]).run Tryz.prog w= .ok (.iface 221 (.agg #[hd 118])) w:=by kernel_rfl
theorem IN(w:World):(ReflectliteType.relation "Implements" ReflectliteType.implements_ #[.agg #[hd 118],rj]).run Tryz.prog w= .ok (.bool true) w:=by kernel_rfl
theorem CX(v:Value)(w:World):(ReflectliteType.typeOf #[.iface 118 v]).run Tryz.prog w= .ok (.iface 221 (.agg #[hd 118])) w:=by kernel_rfl
theorem Jm(w:World):(ReflectliteType.relation "AssignableTo" ReflectliteType.assignableTo #[.agg #[hd 118],.iface 221 (.agg #[hd 118])]).run Tryz.prog w= .ok (.bool true) w:=by kernel_rfl
theorem Ab(n:Int)(w:World):(ReflectliteValue.unpack (.iface 118 (.agg #[.int .i64 n]))).run Tryz.prog w= .ok (rV 118 w.heap.size 153) (w.alloc (.cells #[.int .i64 n] 118)):=by kernel_rfl
theorem Du(v:Value):Ns Tryz.prog (ReflectliteType.typeOf #[.iface 118 v]):=nK (by kernel_rfl)
theorem vg(n:Int):Ns Tryz.prog (ReflectliteValue.unpack (.iface 118 (.agg #[.int .i64 n]))):=FT (by kernel_rfl)
theorem BI(T:Nat)(h:T=123∨T=118):Ns Tryz.prog (callMethod (.iface 221 (.agg #[hd T])) "Kind" #[]):=by
 rcases h with rfl |rfl
 ·exact yK (by kernel_rfl)
 ·exact yK (by kernel_rfl)
theorem IC:Ns Tryz.prog (callMethod (.iface 221 (.agg #[hd 123])) "Elem" #[]):=yK (by kernel_rfl)
theorem IB:Ns Tryz.prog (callMethod (.iface 221 (.agg #[hd 118])) "Implements" #[rj]):=yK (by kernel_rfl)
theorem IE:Ns Tryz.prog (callMethod (.iface 221 (.agg #[hd 118])) "AssignableTo" #[.iface 221 (.agg #[hd 118])]):=yK (by kernel_rfl)
end Go.Proofs.YtcnpijmfgfnpiaaGreatDoor
set_option linter.unusedVariables false
set_option maxRecDepth 20000
set_option maxHeartbeats 4000000
namespace Go.Proofs.YtcnpijmfgfnpiaaGreatDoor
open K Go Go.Proofs Go.Extern
theorem yT{x:Option (Nat×Addr×Nat)}{z:Sem Value}{f:Nat→Addr→Nat→Nat→Sem Value}{T:Nat}{a:Addr}{fl:Nat}(h:x=some (T,a,fl))(hf:Ns Tryz.prog (f T a fl (fl % 32))):Ns Tryz.prog (match x with |none=>z |some (t,a,fl)=>f t a fl (fl % 32)):=by
 subst h;exact hf
theorem Gw{a b:Nat}{S:FS}{w:World}(h:(D.obj a 123 (.eq (.pointer (some ⟨b,0,none⟩)))).holds S w):
 (ReflectliteValue.method (ReflectliteValue.valueError "reflectlite.Value.IsNil" 0) ReflectliteValue.isNil #[rV 123 a 150]).run Tryz.prog w= .ok (.bool false) w:=by
 obtain⟨cs,h1,rfl,_⟩:=h
 rw [PR]
 simp only [Sem.run_bind,yy,Result.andThen_ok]
 have hl:=fD JW (fun _=>rfl) h1 (off:=0) (by simp)
 simp [ReflectliteValue.isNil,hl,mk]
theorem yM{a:Nat}:Ns Tryz.prog (ReflectliteValue.method (ReflectliteValue.valueError "reflectlite.Value.IsNil" 0) ReflectliteValue.isNil #[rV 123 a 150]):=by
 rw [PR];refine gd (q:=fun x=>x=some (123,⟨a,0,none⟩,150)) (nK (by kernel_rfl)) (show Pq Tryz.prog _ _ from Eq.mpr (show Pq Tryz.prog (fun x=>x=some (123,⟨a,0,none⟩,150)) (ReflectliteValue.parts (rV 123 a 150))=(some (123,(⟨a,0,none⟩:Addr),150)=some (123,⟨a,0,none⟩,150)) by kernel_rfl) rfl) fun x hx=>yT hx ?_;unfold ReflectliteValue.isNil;simp only [List.contains,List.elem];refine ai lD fun v=>?_;split <;> trivial
theorem yS{a:Nat}:Ns Tryz.prog (ReflectliteValue.method (ReflectliteValue.valueError "reflectlite.Value.Elem" 0) ReflectliteValue.elem #[rV 123 a 150]):=by
 rw [PR];refine gd (q:=fun x=>x=some (123,⟨a,0,none⟩,150)) (nK (by kernel_rfl)) (show Pq Tryz.prog _ _ from Eq.mpr (show Pq Tryz.prog (fun x=>x=some (123,⟨a,0,none⟩,150)) (ReflectliteValue.parts (rV 123 a 150))=(some (123,(⟨a,0,none⟩:Addr),150)=some (123,⟨a,0,none⟩,150)) by kernel_rfl) rfl) fun x hx=>yT hx ?_;unfold ReflectliteValue.elem;refine ai lD fun v=>?_;refine gd (q:=fun x=>x=some 118) (nK (by kernel_rfl)) (show Pq Tryz.prog _ _ from Eq.mpr (show Pq Tryz.prog (fun x=>x=some 118) (Rtype.elem? 123)=(some 118=some 118) by kernel_rfl) rfl) fun x hx=>?_;subst hx;have ve:∀n,Ns Tryz.prog (ReflectliteValue.valueError "reflectlite.Value.Elem" n:Sem Value):=fun n=>ai (nK (by kernel_rfl)) fun t=>ai (ai aI fun d=>by split <;> trivial) fun e=>ai jI fun _=>trivial;have mk':∀p,Ns Tryz.prog (ReflectliteValue.mk 118 p ReflectliteValue.flagAddr):=fun p=>nK (by kernel_rfl);cases v with
 |pointer q=>cases q with
  |none=>trivial
  |some q=>exact mk' q
 |_=>exact ve _
theorem G4{a b:Nat}{S:FS}{w:World}(h:(D.obj a 123 (.eq (.pointer (some ⟨b,0,none⟩)))).holds S w):
 (ReflectliteValue.method (ReflectliteValue.valueError "reflectlite.Value.Elem" 0) ReflectliteValue.elem #[rV 123 a 150]).run Tryz.prog w= .ok (rV 118 b 409) w:=by
 obtain⟨cs,h1,rfl,_⟩:=h
 rw [PR]
 simp only [Sem.run_bind,yy,Result.andThen_ok]
 have hl:=fD JW (fun _=>rfl) h1 (off:=0) (by simp)
 have e1:(Rtype.elem? 123).run Tryz.prog w= .ok (some 118) w:=by kernel_rfl
 have e2:(ReflectliteValue.mk 118 ⟨b,0,none⟩ ReflectliteValue.flagAddr).run Tryz.prog w= .ok (rV 118 b 409) w:=by kernel_rfl
 simp [ReflectliteValue.elem,hl,mk,e1,e2]
theorem Q6(v x:Value):ReflectliteValue.set #[v,x]=(do
 let (some (dst,a,fl),some (src,b,_)):=(←ReflectliteValue.parts v,←ReflectliteValue.parts x)
  |unsupported (.noEntry "extern/(internal/reflectlite.Value).Set.zeroValue")
 if fl / ReflectliteValue.flagAddr % 2 == 0 then unsupported (.noEntry "extern/(internal/reflectlite.Value).Set.unaddressable")
 let val←loadVar src b
 if←Rtype.directlyAssignable dst src then storeVar dst a val
 else if←Rtype.implements dst src then
  if(←Rtype.kind src) == 20 then
   match val with
   | .nilIface=>unsupported (.noEntry "extern/reflectlite: a nil value of one interface type handed on as a value of another")
   |_=>storeVar dst a val
  else storeVar dst a (.iface src val)
 else panicString ("reflectlite.Set: value of type " ++(←Rtype.spelt src)++ " is not assignable to type " ++(←Rtype.spelt dst))
 pure (.tuple #[])):=rfl
theorem Dk(a:Addr)(w:World):(ReflectliteValue.parts (.agg #[hd 118,.pointer (some a),.int .u64 409])).run Tryz.prog w= .ok (some (118,a,409)) w:=by kernel_rfl
theorem E7(a:Addr)(w:World):(ReflectliteValue.parts (.agg #[hd 118,.pointer (some a),.int .u64 153])).run Tryz.prog w= .ok (some (118,a,153)) w:=by kernel_rfl
theorem D2(w:World):(Rtype.directlyAssignable 118 118).run Tryz.prog w= .ok true w:=by kernel_rfl
theorem Dv{p b:Nat}:Ns Tryz.prog (ReflectliteValue.set #[rV 118 p 409,rV 118 b 153]):=by
 rw [Q6];refine gd (q:=fun x=>x=some (118,⟨p,0,none⟩,409)) (nK (by kernel_rfl)) (show Pq Tryz.prog _ _ from Eq.mpr (show Pq Tryz.prog (fun x=>x=some (118,⟨p,0,none⟩,409)) (ReflectliteValue.parts (rV 118 p 409))=(some (118,(⟨p,0,none⟩:Addr),409)=some (118,⟨p,0,none⟩,409)) by kernel_rfl) rfl) fun x hx=>?_;subst hx;refine gd (q:=fun x=>x=some (118,⟨b,0,none⟩,153)) (nK (by kernel_rfl)) (show Pq Tryz.prog _ _ from Eq.mpr (show Pq Tryz.prog (fun x=>x=some (118,⟨b,0,none⟩,153)) (ReflectliteValue.parts (rV 118 b 153))=(some (118,(⟨b,0,none⟩:Addr),153)=some (118,⟨b,0,none⟩,153)) by kernel_rfl) rfl) fun x hx=>?_;subst hx;refine ai lD fun v=>?_;refine gd (q:=fun x=>x=true) (nK (by kernel_rfl)) (show Pq Tryz.prog _ _ from Eq.mpr (show Pq Tryz.prog (fun x=>x=true) (Rtype.directlyAssignable 118 118)=(true=true) by kernel_rfl) rfl) fun x hx=>?_;subst hx;exact ai sT fun _=>trivial
theorem ET:dF Tryz.prog 118 1 true:=⟨fun w=>by kernel_rfl,fun w=>by kernel_rfl⟩
theorem Fj{M:Md Tryz.prog}{o:Oper}{x y:Operand}{c:Call}{ts:Array TypeId}{p b:Nat}{e0 n:Int}(ho:o.op= .call c)(hc:c={ callee:=.value (.func 162),args:=[x,y].toArray,argTypes:=ts }):
 bK M o [(x,.eq (rV 118 p 409)),(y,.eq (rV 118 b 153))] [.obj p 118 (.agg (.eq (.int .i64 e0))),.obj b 118 (.eq (.int .i64 n))] (fun _:Unit=>(.eq (.tuple #[]),[.obj p 118 (.agg (.eq (.int .i64 n))),.obj b 118 (.eq (.int .i64 n))])):=by
 have hex:∀{S:FS} {w:World} {a:Act},bu S w a [(x,.eq (rV 118 p 409)),(y,.eq (rV 118 b 153))]→execOp a.eval o=callFunc 162 #[rV 118 p 409,rV 118 b 153]:=fun {S w a} hN=>kl (xs:=[x,y]) (vs:=[rV 118 p 409,rV 118 b 153]) ho hc (ir rfl hN)
 refine iD ⟨by simp only [nd, *],fun S w a next hd hN hO k=>?_⟩ (fun _ _ a hN _=>by rw [hex hN];exact JQ.ns _ Dv) (fun d hd=>by simp at hd;rcases hd with rfl |rfl <;> trivial)
 obtain⟨cs1,h1,⟨rfl,_⟩⟩:=hO.holds (.obj p 118 (.agg (.eq (.int .i64 e0)))) (by simp)
 obtain⟨cs2,h2,⟨rfl,_⟩⟩:=hO.holds (.obj b 118 (.eq (.int .i64 n))) (by simp)
 have hne:p≠b:=fun e=>by
  have:=hO.apart;simp only [List.pairwise_cons] at this;exact this.1 _ (List.mem_singleton.2 rfl) p rfl (by rw [e];rfl)
 have op:=hO.own p ⟨_,List.mem_cons_self ..,rfl⟩
 have ob:=hO.own b ⟨_,List.mem_cons_of_mem _ (List.mem_singleton.2 rfl),rfl⟩
 have hl:=fD ET (fun h=>by cases h) h2 (off:=0) (by simp)
 have hst:=il Tryz.prog p 118 0 [.int .i64 n] 0 w #[.int .i64 e0] h1 (fun v hv=>by simp at hv;subst hv;rfl) (by simp)
 have hr:(execOp a.eval o).run Tryz.prog w= .ok (.value (.tuple #[])) { w with heap:=w.heap.setIfInBounds p (.cells #[.int .i64 n] 118 (0,0)) }:=by
  rw [hex hN,JQ.run,Q6];simp only [Sem.run_bind,Dk,E7,Result.andThen_ok];simp at hst;simp [ReflectliteValue.flagAddr,hl,mk,D2,storeVar,ET.size,Value.cells,hst]
 rw [hr]
 refine k () S _ _ (mJ hd ⟨_,List.mem_cons_self ..,rfl⟩ _) rfl ⟨fun d hd=>?_,fun b' hb'=>?_,?_⟩ (fun b' ⟨d,hd,e⟩=>.inl ?_)
 ·
  simp at hd;rcases hd with rfl |rfl
  ·exact⟨[.int .i64 n],by simp [op.2],rfl,rfl⟩
  ·exact⟨[.int .i64 n],by simp [Array.getElem?_setIfInBounds_ne hne,h2],rfl,rfl⟩
 ·
  obtain⟨d,hd,e⟩:=hb';simp at hd;rcases hd with rfl |rfl
  ·cases e;exact⟨op.1,by simpa using op.2⟩
  ·cases e;exact⟨ob.1,by simpa using ob.2⟩
 ·
  refine List.pairwise_cons.2 ⟨fun d hd b' e e'=>?_,List.pairwise_singleton _ _⟩;simp at hd;subst hd;cases e;cases e';exact hne rfl
 ·
  simp at hd;rcases hd with rfl |rfl
  ·exact⟨_,List.mem_cons_self ..,e⟩
  ·exact⟨_,List.mem_cons_of_mem _ (List.mem_singleton.2 rfl),e⟩
end Go.Proofs.YtcnpijmfgfnpiaaGreatDoor
set_option linter.unusedVariables false
set_option maxRecDepth 20000
set_option maxHeartbeats 4000000
namespace Go.Proofs.YtcnpijmfgfnpiaaGreatDoor
open K Go Go.Proofs Go.Extern
theorem M5:∀w,(zeroValue 182).run Tryz.prog w= .ok (.agg #[.pointer none,.pointer none,.int .u64 0]) w:=fun w=>by kernel_rfl
theorem Po:∀S w,(A.cells S w (.agg (.pair (.eq (.pointer none)) (.pair (.eq (.pointer none)) (.eq (.int .u64 0))))) (Value.cells (.agg #[.pointer none,.pointer none,.int .u64 0])).toList):=fun _ _=>⟨[_],_,rfl,⟨rfl,rfl⟩,[_],_,rfl,⟨rfl,rfl⟩,rfl,rfl⟩
theorem yo:dF Tryz.prog 182 3 true:=⟨fun w=>by kernel_rfl,fun w=>by kernel_rfl⟩
def fH:Obj→Prop:=fun o=>o= .cells #[rj] 185 (0,0)
theorem Ds{M:Md Tryz.prog}{o:Oper}{x:Operand}(ho:o.op= .load 185 x):bK M o [(x,.eq (.pointer (some ⟨0,0,none⟩)))] [.inv 0 fH] (fun _:Unit=>(.eq rj,[.inv 0 fH])):=
 .val1 (hcm:=fun o h=>by cases h;rfl) fun S w a h hs=>by
  have e:a.eval x= .pointer (some ⟨0,0,none⟩):=h.1
  obtain⟨ob,h1,rfl⟩:=hs
  have hsz:∀w,(sizeOf 185).run Tryz.prog w= .ok 1 w:=fun w=>by kernel_rfl
  have hag:∀w,(isAgg 185).run Tryz.prog w= .ok false w:=fun w=>by kernel_rfl
  have hc:w.cell? ⟨0,0,none⟩=some rj:=by simp [World.cell?,h1]
  refine⟨rj,?_,rfl⟩
  simp [execOp,ho,Instr.loadAt,e,Instr.sureAddr,loadVar,hsz,hag,hc]
theorem OY:ah Tryz.prog 133:=ah.of Tryz.func133 (by kernel_rfl) (by kernel_rfl)
theorem QA:ah Tryz.prog 93:=ah.of Tryz.func93 (by kernel_rfl) (by kernel_rfl)
theorem xQ{n:Nat}:true=false→n=1:=fun h=>nomatch h
def NA:Nat→Unit→Option Unit
 |0,_=>none
 |_+1,_=>some ()
theorem L0{a p:Nat}{n e0:Int}:bX Tryz.prog 133 [.eq (.iface 118 (.agg #[.int .i64 n])),.any,MQ 123 a 150,.eq (.iface 221 (.agg #[hd 118]))] [.obj a 123 (.eq (.pointer (some ⟨p,0,none⟩))),.obj p 118 (.agg (.eq (.int .i64 e0)))]
 (fun _:Unit=>(bp [.eq (.bool true)],[.obj a 123 (.eq (.pointer (some ⟨p,0,none⟩))),.obj p 118 (.agg (.eq (.int .i64 n)))])):=by
 refine bX.of 62 Tryz.func133 rfl Tryz.ntmps133 rfl fun S w0=>?_
 refine ae ?_
 refine ab ?_
 refine aE rfl rfl rfl (nJ rfl trivial) ⟨rfl,trivial⟩ fun b6=>?_
 refine dH rfl ?_
 refine ar ?_
 refine ag ?_
 show JC _ _ _ _ _
 refine aj ?_
 have h:(NA 1 ()).bind some=some ():=rfl
 refine aG (Z:=Unit) (α:=Unit) (fun _ _=>[(0,.eq (.iface 118 (.agg #[.int .i64 n]))),(3,.eq (.iface 221 (.agg #[hd 118]))),(6,.eq (.pointer (some ⟨b6,0,none⟩)))]) (fun _ _=>[.obj b6 182 (MQ 123 a 150),.obj a 123 (.eq (.pointer (some ⟨p,0,none⟩))),.obj p 118 (.agg (.eq (.int .i64 e0)))]) NA 1 () () (fun _=>rfl) h (SE.fin [0,1,2] ⟨rfl,rfl,rfl,trivial⟩ rfl) (fun _ _ _ _=>?_)
 refine aj ?_
 refine ae ?_
 refine ae ?_
 refine ab ?_
 refine ax rfl rfl ?_
 refine aB rfl (FD Nc [.tmp 16] [.iface 118 (.agg #[.int .i64 n])] rfl rfl rfl (CX _) (Du _)) ⟨rfl,trivial⟩ ?_
 refine ax rfl rfl ?_
 refine aB rfl (yC Na [.tmp 18] [.iface 221 (.agg #[hd 118])] rfl rfl rfl (NL 118) Jm IE) ⟨rfl,rfl,trivial⟩ ?_
 refine ar ?_
 refine ag ?_
 show JC _ _ _ _ _
 refine bG rfl (fun hb=>?_) (fun hb=>(by cases hb))
 refine ae ?_
 refine ab ?_
 refine bU rfl rfl rfl (ao rfl yo (xQ) rfl) ⟨rfl,trivial⟩ ?_
 refine bC 1 rfl ?_
 refine bU rfl rfl rfl (dh (N:=[(.tmp 20,MQ 123 a 150)]) (FC Nb [.tmp 20] [rV 123 a 150] rfl rfl rfl (fun _ _ h=>G4 h) yS trivial) fun _ _ _ hn=>⟨xE hn.1,trivial⟩) ⟨rfl,trivial⟩ ?_
 refine ax rfl rfl ?_
 refine aE rfl rfl rfl (FB (T:=118) (v:=fun b=>rV 118 b 153) JR [.tmp 22] [.iface 118 (.agg #[.int .i64 n])] rfl rfl rfl (Ab n) rfl (vg n)) ⟨rfl,trivial⟩ fun b23=>?_
 refine bC 3 rfl ?_
 refine bN (Δ:=[_,_]) (F:=_) (fun _ _ _=>av rfl _) rfl rfl (Fj rfl rfl) ⟨rfl,rfl,trivial⟩ fun _=>?_
 refine ar ?_
 refine ag ?_
 show JC _ _ _ _ _
 refine ae ?_
 refine ab ?_
 refine dH rfl ?_
 refine ar ?_
 refine ag ?_
 show JC _ _ _ _ _
 refine aA ?_
 refine aK ?_
 refine aV ?_
 refine aK ?_
 refine aV ?_
 refine bv (SE.fin (Γ':=[(8,_)]) [2,0,1,3] ⟨rfl,trivial⟩ rfl) ?_
 exact aD () [.eq (.bool true)] 2 ⟨rfl,trivial⟩ rfl
theorem LZ{v:Value}{p:Nat}{n:Int}:bX Tryz.prog 93 [.eq .nilIface,.eq v] [.obj p 118 (.agg (.eq (.int .i64 n))),.inv 0 fH] (fun _:Unit=>(bp [.eq (.bool false)],[.obj p 118 (.agg (.eq (.int .i64 n))),.inv 0 fH])):=by
 refine bX.of 42 Tryz.func93 rfl Tryz.ntmps93 rfl fun S w0=>?_;refine ae ?_;refine ab ?_;refine dH rfl ?_;refine ar ?_;refine ag ?_;show JC _ _ _ _ _;refine ae ?_;refine ae ?_;refine ab ?_;refine ax rfl rfl ?_;refine aB rfl (qV rfl Tryz.underlying121 rfl) ⟨rfl,rfl,trivial⟩ ?_;refine ar ?_;refine ag ?_;show JC _ _ _ _ _;refine bG rfl (fun hb=>?_) (fun hb=>(by cases hb));refine ae ?_;refine ab ?_;refine dH rfl ?_;refine ar ?_;refine ag ?_;show JC _ _ _ _ _;refine aA ?_;refine aK ?_;exact aD () [.eq (.bool false)] 2 ⟨rfl,trivial⟩ rfl
theorem Jo{p:Nat}{n e0:Int}:bX Tryz.prog 93 [.eq (.iface 118 (.agg #[.int .i64 n])),.eq (.iface 123 (.pointer (some ⟨p,0,none⟩)))] [.obj p 118 (.agg (.eq (.int .i64 e0))),.inv 0 fH]
 (fun _:Unit=>(bp [.eq (.bool true)],[.obj p 118 (.agg (.eq (.int .i64 n))),.inv 0 fH])):=by
 refine bX.of 42 Tryz.func93 rfl Tryz.ntmps93 rfl fun S w0=>?_
 refine ae ?_
 refine ab ?_
 refine dH rfl ?_
 refine ar ?_
 refine ag ?_
 show JC _ _ _ _ _
 refine ae ?_
 refine ae ?_
 refine ab ?_
 refine ax rfl rfl ?_
 refine aB rfl (qV rfl Tryz.underlying121 rfl) ⟨rfl,rfl,trivial⟩ ?_
 refine ar ?_
 refine ag ?_
 show JC _ _ _ _ _
 refine bG rfl (fun hb=>(by cases hb)) (fun hb=>?_)
 refine aS ?_
 refine ag ?_
 show JC _ _ _ _ _
 refine ae ?_
 refine ae ?_
 refine ab ?_
 refine ax rfl rfl ?_
 refine aB rfl (qV rfl Tryz.underlying20 rfl) ⟨rfl,rfl,trivial⟩ ?_
 refine ar ?_
 refine ag ?_
 show JC _ _ _ _ _
 refine bG rfl (fun hb=>(by cases hb)) (fun hb=>?_)
 refine aS ?_
 refine ag ?_
 show JC _ _ _ _ _
 refine ae ?_
 refine ab ?_
 refine ax rfl rfl ?_
 refine aE rfl rfl rfl (FB (T:=123) (v:=fun b=>rV 123 b 150) JR [.tmp 13] [.iface 123 (.pointer (some ⟨p,0,none⟩))] rfl rfl rfl (Aa _) rfl (vf _)) ⟨rfl,trivial⟩ fun a=>?_
 refine cJ (rF 14 rfl fun _ _ _ h=>Js rfl rfl rfl h) ?_
 refine aE rfl rfl rfl (bJ rfl M5 Po) trivial fun b5=>?_
 refine bf rfl rfl (a9 rfl yo trivial rfl rfl) ⟨rfl,rfl,trivial⟩ ?_
 refine ar ?_
 refine ag ?_
 show JC _ _ _ _ _
 refine ae ?_
 refine ab ?_
 refine bU rfl rfl rfl (ao rfl yo (xQ) rfl) ⟨rfl,trivial⟩ ?_
 refine aB rfl (dh (N:=[(.tmp 15,MQ 123 a 150)]) (FD Ni [.tmp 15] [rV 123 a 150] rfl rfl rfl (Ib _) (AI _)) fun _ _ _ hn=>⟨xE hn.1,trivial⟩) ⟨rfl,trivial⟩ ?_
 refine dk rfl rfl ?_
 refine ar ?_
 refine ag ?_
 show JC _ _ _ _ _
 refine ae ?_
 refine ae ?_
 refine ab ?_
 refine ax rfl rfl ?_
 refine aB rfl (yC JP [] [] rfl rfl rfl (J5 123) IJ (BI 123 (.inl rfl))) ⟨rfl,trivial⟩ ?_
 refine aB rfl (eZ rfl) ⟨rfl,rfl,trivial⟩ ?_
 refine ax rfl rfl ?_
 refine jU rfl rfl rfl rfl rfl rfl (ao rfl yo (xQ) rfl) ⟨rfl,trivial⟩ ?_
 refine bC 1 rfl ?_
 refine jU rfl rfl rfl rfl rfl rfl (dh (N:=[(.tmp 21,MQ 123 a 150)]) (FC Nh [.tmp 21] [rV 123 a 150] rfl rfl rfl (fun _ _ h=>Gw h) yM trivial) fun _ _ _ hn=>⟨xE hn.1,trivial⟩) ⟨rfl,trivial⟩ ?_
 refine aB rfl (ug rfl) ⟨rfl,rfl,trivial⟩ ?_
 refine ar ?_
 refine ag ?_
 show JC _ _ _ _ _
 refine bG rfl (fun hb=>(by cases hb)) (fun hb=>?_)
 refine aS ?_
 refine ag ?_
 show JC _ _ _ _ _
 refine ae ?_
 refine ab ?_
 refine ax rfl rfl ?_
 refine aB rfl (yC M9 [] [] rfl rfl rfl (NK 123) Jd IC) ⟨rfl,trivial⟩ ?_
 refine dk rfl rfl ?_
 refine ar ?_
 refine ag ?_
 show JC _ _ _ _ _
 refine ae ?_
 refine ae ?_
 refine ab ?_
 refine ax rfl rfl ?_
 refine aB rfl (yC JP [] [] rfl rfl rfl (J5 118) IK (BI 118 (.inr rfl))) ⟨rfl,trivial⟩ ?_
 refine aB rfl (eZ rfl) ⟨rfl,rfl,trivial⟩ ?_
 refine ax rfl rfl ?_
 refine mr rfl rfl rfl rfl rfl rfl (aR rfl) ⟨rfl,trivial⟩ ?_
 refine bC 3 rfl ?_
 refine jU rfl rfl rfl rfl rfl rfl (Ds rfl) ⟨rfl,trivial⟩ ?_
 refine mr rfl rfl rfl rfl rfl rfl (yC M8 [.tmp 32] [rj] rfl rfl rfl (NJ 118) IN IB) ⟨rfl,rfl,trivial⟩ ?_
 refine mr rfl rfl rfl rfl rfl rfl (eB rfl) ⟨rfl,trivial⟩ ?_
 refine aB rfl (uf rfl) ⟨rfl,rfl,trivial⟩ ?_
 refine ar ?_
 refine ag ?_
 show JC _ _ _ _ _
 refine bG rfl (fun hb=>(by cases hb)) (fun hb=>?_)
 refine aS ?_
 refine ag ?_
 show JC _ _ _ _ _
 refine ae ?_
 refine ab ?_
 refine ax rfl rfl ?_
 refine ax rfl rfl ?_
 refine bC 2 rfl ?_
 refine bU rfl rfl rfl (ao rfl yo (xQ) rfl) ⟨rfl,trivial⟩ ?_
 refine ax rfl rfl ?_
 refine bC 3 rfl ?_
 refine bC 3 rfl ?_
 refine bN (Δ:=[_,_]) (F:=_) (fun _ _ _=>av rfl _) rfl rfl (dh (N:=[(.tmp 37,.eq (.iface 118 (.agg #[.int .i64 n]))),(.tmp 38,.eq (.iface 123 (.pointer (some ⟨p,0,none⟩)))),(.tmp 39,MQ 123 a 150),(.tmp 40,.eq (.iface 221 (.agg #[hd 118])))])
  (ak [.tmp 37,.tmp 38,.tmp 39,.tmp 40] rfl rfl OY rfl (L0 (a:=a) (p:=p) (n:=n) (e0:=e0))) fun _ _ _ hn=>⟨hn.1,trivial,hn.2.2.1,hn.2.2.2.1,trivial⟩) ⟨rfl,rfl,rfl,rfl,trivial⟩ fun _=>?_
 refine dk rfl rfl ?_
 refine ar ?_
 refine ag ?_
 show JC _ _ _ _ _
 refine aA ?_
 refine bv (SE.fin (Γ':=[(4,_)]) [1,3,0,2] ⟨rfl,trivial⟩ rfl) ?_
 exact aD () [.eq (.bool true)] 2 ⟨rfl,trivial⟩ rfl
def PV:Value→Option (Option Int)
 | .nilIface=>some none
 | .iface t (.agg cs)=>if t=118 then(match cs.toList with |[.int .i64 n]=>some (some n) |_=>none) else none
 |_=>none
theorem Hh{v:Value}{q:Option Int}(h:PV v=some q):(v= .nilIface∧q=none)∨∃n,v= .iface 118 (.agg #[.int .i64 n])∧q=some n:=by
 unfold PV at h;split at h
 ·cases h;exact .inl ⟨rfl,rfl⟩
 ·rename_i t cs;split at h
  ·rename_i e;split at h
   ·rename_i n hn;cases h;obtain⟨l⟩:=cs;cases hn;exact .inr ⟨n,by rw [e],rfl⟩
   ·cases h
  ·cases h
 ·cases h
theorem Pg{v:Value}{q:Option Int}{p:Nat}{e0:Int}(h:PV v=some q):bX Tryz.prog 93 [.eq v,.eq (.iface 123 (.pointer (some ⟨p,0,none⟩)))] [.obj p 118 (.agg (.eq (.int .i64 e0))),.inv 0 fH]
 (fun _:Unit=>(bp [.eq (.bool q.isSome)],[.obj p 118 (.agg (.eq (.int .i64 (q.getD e0)))),.inv 0 fH])):=by
 rcases Hh h with⟨rfl,rfl⟩ |⟨n,rfl,rfl⟩
 ·
  exact LZ
 ·
  exact Jo
end Go.Proofs.YtcnpijmfgfnpiaaGreatDoor
set_option linter.unusedVariables false
set_option maxRecDepth 20000
set_option maxHeartbeats 4000000
namespace Go.Proofs.YtcnpijmfgfnpiaaGreatDoor
open K Go Go.Proofs Go.Extern
theorem Af:dF Tryz.prog 159 1 false:=⟨fun w=>by kernel_rfl,fun w=>by kernel_rfl⟩
theorem jl:dF Tryz.prog 160 1 false:=⟨fun w=>by kernel_rfl,fun w=>by kernel_rfl⟩
theorem Ly:aU Tryz.prog 162 0 0:=aU.of (by kernel_rfl)
theorem ri:aU Tryz.prog 162 1 1:=aU.of (by kernel_rfl)
theorem Ah:mo Tryz.prog 160 5 1 1:=.of (z:=(.int .u8 (0))) Tryz.underlying160 (by kernel_rfl) rfl rfl rfl
theorem LK:fL Tryz.prog 186 Extern.AbiNoEscape.same:=.of Tryz.func186 (by kernel_rfl) (by kernel_rfl) (by kernel_rfl) (by kernel_rfl)
theorem A8:ah Tryz.prog 151:=ah.of Tryz.func151 (by kernel_rfl) (by kernel_rfl)
theorem LM:ah Tryz.prog 152:=ah.of Tryz.func152 (by kernel_rfl) (by kernel_rfl)
@[reducible] def bA(p v:Value):A:=.agg (.pair (.eq p) (.eq v))
abbrev bP(b:Nat):Value:=.pointer (some ⟨b,0,none⟩)
theorem ui{p:Option Addr}:Ns Tryz.prog (binOp .eql 159 (.pointer p) (.pointer none)):=by
 cases p with
 |none=>exact nK (by kernel_rfl)
 |some p=>exact nK (by kernel_rfl)
theorem Da{p:Option Addr}{x y:Operand}(w:World):(do eqGuard .eql 159 x y (.pointer p) (.pointer none);binOp .eql 159 (.pointer p) (.pointer none):Sem Value).run Tryz.prog w= .ok (.bool p.isNone) w:=by
 cases p <;> kernel_rfl
theorem AM{p:Addr}:Ns Tryz.prog (binOp .neq 159 (.pointer (some p)) (.pointer (some p))):=by
 refine ai (s:=Op.equal 159 (.pointer (some p)) (.pointer (some p))) ?_ fun _=>bj;show Ns Tryz.prog (Op.equalIn (9999+1) 159 (.pointer (some p)) (.pointer (some p)));unfold Op.equalIn;refine cG Tryz.underlying159 (ai cM fun n=>sd ?_ (sd bj (ai fu fun _=>bj)));unfold sameAddr;simp only [beq_self_eq_true,if_true];exact bj
theorem Ld:∃j,Tryz.prog.info? 162=some j∧j.size≠0:=by
 obtain⟨j,h1,h2⟩:=Option.map_eq_some_iff.1 (show(Tryz.prog.info? 162).map (·.size)=some 2 by kernel_rfl);exact⟨j,h1,by omega⟩
theorem nh{b:Nat}{p:Option Addr}{v:Value}(hp:p=none∨p=some ⟨b,0,none⟩)(hv:bm v=true):bX Tryz.prog 151 [.eq (bP b)] [.obj b 162 (bA (.pointer p) v)] (fun _:Unit=>(bp [],[.obj b 162 (bA (bP b) v)])):=by
 obtain⟨j162,inf162_eq,inf162_sz⟩:=Ld;refine bX.of 20 Tryz.func151 rfl Tryz.ntmps151 rfl fun S w0=>?_;refine ae ?_;refine ab ?_;refine ax rfl rfl ?_;refine aB rfl (aW rfl) ⟨rfl,trivial⟩ ?_;refine aB rfl (aw rfl Ly) ⟨rfl,trivial⟩ ?_;refine bU rfl rfl rfl (ao rfl Af (fun _=>rfl) rfl) ⟨rfl,trivial⟩ ?_;refine aB rfl (iq rfl Da ui) ⟨rfl,rfl,trivial⟩ ?_;refine ar ?_;refine ag ?_;show JC _ _ _ _ _;refine bG rfl (fun hb=>?_) (fun hb=>?_)
 ·refine ab ?_;refine ax rfl rfl ?_;refine ax rfl rfl ?_;refine bU rfl rfl rfl (AA rfl Tryz.underlying159 Tryz.underlying179 inf162_eq inf162_sz rfl) ⟨rfl,trivial⟩ ?_;refine aB rfl (FD LK [.tmp 9] [bP b] rfl rfl rfl (fun _=>rfl) bj) ⟨rfl,trivial⟩ ?_;refine bU rfl rfl rfl (wT rfl Tryz.underlying179 Tryz.underlying159 inf162_eq (by kernel_rfl)) ⟨rfl,trivial⟩ ?_;refine aB rfl (aW rfl) ⟨rfl,trivial⟩ ?_;refine aB rfl (aw rfl Ly) ⟨rfl,trivial⟩ ?_;refine bf rfl rfl (a9 rfl Af rfl rfl rfl) ⟨rfl,rfl,trivial⟩ ?_;refine ar ?_;refine iN ?_;exact aD () [] 1 trivial rfl
 ·have hp':p=some ⟨b,0,none⟩:=by
   rcases hp with rfl |rfl
   ·cases hb
   ·rfl
  subst hp';refine ae ?_;refine ab ?_;refine ax rfl rfl ?_;refine aB rfl (aW rfl) ⟨rfl,trivial⟩ ?_;refine aB rfl (aw rfl Ly) ⟨rfl,trivial⟩ ?_;refine bU rfl rfl rfl (ao rfl Af (fun _=>rfl) rfl) ⟨rfl,trivial⟩ ?_;refine ax rfl rfl ?_;refine aB rfl (Fq rfl Tryz.underlying159 inf162_eq AM) ⟨rfl,rfl,trivial⟩ ?_;refine ar ?_;refine ag ?_;show JC _ _ _ _ _;refine bG rfl (fun hb=>(by cases hb)) (fun hb=>?_);refine aS ?_;refine iN ?_;exact aD () [] 1 trivial rfl
theorem vc{v:Value}{l:List Int}{r:Int}(h0:0≤r)(h1:r≤127)(hl:bV (l.length+1)):bX Tryz.prog 152 [.eq v,.eq (.int .i32 r)] [.sl v 5 (.int .u8) l] (fun v':Value=>(bp [.eq v'],[.sl v' 5 (.int .u8) (l++[r])])):=by
 refine bX.of 16 Tryz.func152 rfl Tryz.ntmps152 rfl fun S w0=>?_;have w32:IntKind.u32.wrap r=r:=by simp [IntKind.wrap,IntKind.bits,IntKind.signed];omega
 have w8:IntKind.u8.wrap r=r:=by simp [IntKind.wrap,IntKind.bits,IntKind.signed];omega
 refine ae ?_;refine ab ?_;refine dH rfl ?_;refine ar ?_;refine ag ?_;show JC _ _ _ _ _;refine ae ?_;refine ae ?_;refine ab ?_;refine ax rfl rfl ?_;refine aB rfl (om rfl Tryz.underlying21 Tryz.underlying201) ⟨rfl,trivial⟩ ?_;rw [w32];refine aB rfl (sS rfl) ⟨rfl,rfl,trivial⟩ ?_;refine ar ?_;refine ag ?_;show JC _ _ _ _ _;refine bG rfl (fun hb=>?_) (fun hb=>absurd h1 (by simpa using hb));refine ae ?_;refine ab ?_;refine ax rfl rfl ?_;refine ax rfl rfl ?_;refine aB rfl (om rfl Tryz.underlying21 Tryz.underlying5) ⟨rfl,trivial⟩ ?_;rw [w8];refine aB rfl (bH (t:=(.int .u8)) [(.tmp 10,.eq (.int .u8 r))] [r] rfl rfl Ah (.cons rfl .int .nil) rfl rfl) ⟨rfl,trivial⟩ ?_;refine ek rfl rfl rfl (cg rfl rfl Ah (by simpa using hl)) ⟨rfl,rfl,trivial⟩ fun v'=>?_;refine dk rfl rfl ?_;refine ar ?_;refine ag ?_;show JC _ _ _ _ _;refine aA ?_;refine aK ?_;exact aD v' [_] 1 ⟨rfl,trivial⟩ rfl
theorem wK{b:Nat}{p:Option Addr}{v:Value}{l:List Int}{r:Int}(hp:p=none∨p=some ⟨b,0,none⟩)(hv:bm v=true)(h0:0≤r)(h1:r≤127)(hl:bV (l.length+1)):
 bX Tryz.prog 119 [.eq (bP b),.eq (.int .i32 r)] [.obj b 162 (bA (.pointer p) v),.sl v 5 (.int .u8) l]
  (fun v':Value=>(bp [.eq (.int .i64 1),.eq .nilIface],[.obj b 162 (bA (bP b) v'),.sl v' 5 (.int .u8) (l++[r])])):=by
 refine bX.of 30 Tryz.func119 rfl Tryz.ntmps119 rfl fun S w0=>?_
 refine ae ?_
 refine ab ?_
 refine dH rfl ?_
 refine dH rfl ?_
 refine ar ?_
 refine ag ?_
 show JC _ _ _ _ _
 refine ae ?_
 refine ab ?_
 refine ax rfl rfl ?_
 refine bU rfl rfl rfl (ak [.tmp 7] rfl rfl A8 rfl (nh hp hv)) ⟨rfl,trivial⟩ ?_
 refine ar ?_
 refine ag ?_
 show JC _ _ _ _ _
 refine ae ?_
 refine ab ?_
 refine ax rfl rfl ?_
 refine aB rfl (aW rfl) ⟨rfl,trivial⟩ ?_
 refine aB rfl (aw rfl ri) ⟨rfl,trivial⟩ ?_
 refine bU rfl rfl rfl (ao rfl jl (fun _=>rfl) rfl) ⟨rfl,trivial⟩ ?_
 refine bC 1 rfl ?_
 refine bU rfl rfl rfl (c9 rfl rfl Tryz.underlying160) ⟨rfl,trivial⟩ ?_
 refine dk rfl rfl ?_
 refine ar ?_
 refine ag ?_
 show JC _ _ _ _ _
 refine ae ?_
 refine ab ?_
 refine ax rfl rfl ?_
 refine ax rfl rfl ?_
 refine aB rfl (aW rfl) ⟨rfl,trivial⟩ ?_
 refine aB rfl (aw rfl ri) ⟨rfl,trivial⟩ ?_
 refine bC 1 rfl ?_
 refine bU rfl rfl rfl (ao rfl jl (fun _=>rfl) rfl) ⟨rfl,trivial⟩ ?_
 refine ax rfl rfl ?_
 refine bC 1 rfl ?_
 refine ek rfl rfl rfl (ak [.tmp 18,.tmp 19] rfl rfl LM rfl (vc h0 h1 hl)) ⟨rfl,rfl,trivial⟩ fun v'=>?_
 refine gj fun hv'=>?_
 refine aB rfl (aW rfl) ⟨rfl,trivial⟩ ?_
 refine aB rfl (aw rfl ri) ⟨rfl,trivial⟩ ?_
 refine bC 1 rfl ?_
 refine bf rfl rfl (a9 rfl jl hv' rfl rfl) ⟨rfl,rfl,trivial⟩ ?_
 refine ar ?_
 refine ag ?_
 show JC _ _ _ _ _
 refine ae ?_
 refine ab ?_
 refine ax rfl rfl ?_
 refine aB rfl (aW rfl) ⟨rfl,trivial⟩ ?_
 refine aB rfl (aw rfl ri) ⟨rfl,trivial⟩ ?_
 refine bU rfl rfl rfl (ao rfl jl (fun _=>rfl) rfl) ⟨rfl,trivial⟩ ?_
 refine bC 1 rfl ?_
 refine bU rfl rfl rfl (c9 rfl rfl Tryz.underlying160) ⟨rfl,trivial⟩ ?_
 refine ax rfl rfl ?_
 have hck:ck (((l++[r]).length:Int) - (l.length:Int))=some 1:=by
  have:(((l++[r]).length:Int) - (l.length:Int))=1:=by simp;omega
  rw [this];rfl
 refine aB rfl (eA rfl hck) ⟨rfl,rfl,trivial⟩ ?_
 refine dk rfl rfl ?_
 refine dH rfl ?_
 refine ar ?_
 refine ag ?_
 show JC _ _ _ _ _
 refine aA ?_
 refine bv (SE.fin (Γ':=[(4,_),(5,_)]) [1,0] ⟨rfl,rfl,trivial⟩ rfl) ?_
 exact aD v' [_,_] 2 ⟨rfl,rfl,trivial⟩ rfl
theorem QU:Tryz.prog.cellsOf 5=1:=by kernel_rfl
theorem qg:Tryz.prog.follows .mixedOrders=true:=by kernel_rfl
theorem vE{b:Nat}{p v:Value}{l:List Int}(hl:l=[]→v= .slice none 0 0):
 bX Tryz.prog 120 [.eq (bP b)] [.obj b 162 (bA p v),.sl v 5 (.int .u8) l] (fun _:Unit=>(bp [.eq (.string (pR l))],[])):=by
 refine bX.of 14 Tryz.func120 rfl Tryz.ntmps120 rfl fun S w0=>?_
 refine ae ?_
 refine ab ?_
 refine dH rfl ?_
 refine ar ?_
 refine ag ?_
 show JC _ _ _ _ _
 refine ae ?_
 refine cm ?_
 refine dw rfl rfl rfl (aR rfl) ⟨rfl,trivial⟩ ?_
 refine dw rfl rfl rfl (aW rfl) ⟨rfl,trivial⟩ ?_
 refine dw rfl rfl rfl (aw rfl ri) ⟨rfl,trivial⟩ ?_
 refine my 0 rfl rfl rfl rfl (ao rfl jl (fun _=>rfl) rfl) ⟨rfl,trivial⟩ ?_
 refine my 1 rfl rfl rfl rfl (yA rfl rfl hl) ⟨rfl,trivial⟩ ?_
 refine dw rfl rfl rfl (aR rfl) ⟨rfl,trivial⟩ ?_
 refine dw rfl rfl rfl (aW rfl) ⟨rfl,trivial⟩ ?_
 refine dw rfl rfl rfl (aw rfl ri) ⟨rfl,trivial⟩ ?_
 refine my 0 rfl rfl rfl rfl (ao rfl jl (fun _=>rfl) rfl) ⟨rfl,trivial⟩ ?_
 refine my 1 rfl rfl rfl rfl (c9 rfl rfl Tryz.underlying160) ⟨rfl,trivial⟩ ?_
 refine sN (by kernel_rfl) qg ?_
 refine bC 1 rfl ?_
 refine bN (Δ:=[_]) (F:=_) (fun _ _ _=>av rfl _) rfl rfl (uc rfl rfl Tryz.underlying213 QU hl) ⟨rfl,rfl,trivial⟩ fun _=>?_
 refine dk rfl rfl ?_
 refine ar ?_
 refine ag ?_
 show JC _ _ _ _ _
 refine aA ?_
 exact aD () [_] 0 ⟨rfl,trivial⟩ rfl
theorem P7:(Tryz.prog.info? 5).bind (·.zero)=some (.int .u8 0):=by kernel_rfl
theorem lw{b:Nat}{p:Option Addr}{v:Value}{l:List Int}{s:ByteArray}(hp:p=none∨p=some ⟨b,0,none⟩)(hv:bm v=true)(hl:bV (l.length+s.size)):
 bX Tryz.prog 154 [.eq (bP b),.eq (.string s)] [.obj b 162 (bA (.pointer p) v),.sl v 5 (.int .u8) l]
  (fun v':Value=>(bp [.eq (.int .i64 s.size),.eq .nilIface],[.obj b 162 (bA (bP b) v'),.sl v' 5 (.int .u8) (l++qL s)])):=by
 refine bX.of 19 Tryz.func154 rfl Tryz.ntmps154 rfl fun S w0=>?_
 refine ae ?_
 refine ab ?_
 refine dH rfl ?_
 refine dH rfl ?_
 refine ar ?_
 refine ag ?_
 show JC _ _ _ _ _
 refine ae ?_
 refine ab ?_
 refine ax rfl rfl ?_
 refine bU rfl rfl rfl (ak [.tmp 6] rfl rfl A8 rfl (nh hp hv)) ⟨rfl,trivial⟩ ?_
 refine ar ?_
 refine ag ?_
 show JC _ _ _ _ _
 refine ae ?_
 refine ab ?_
 refine ax rfl rfl ?_
 refine ax rfl rfl ?_
 refine aB rfl (aW rfl) ⟨rfl,trivial⟩ ?_
 refine aB rfl (aw rfl ri) ⟨rfl,trivial⟩ ?_
 refine bU rfl rfl rfl (ao rfl jl (fun _=>rfl) rfl) ⟨rfl,trivial⟩ ?_
 refine ax rfl rfl ?_
 refine bC 1 rfl ?_
 refine ek rfl rfl rfl (yH rfl rfl Ah Tryz.underlying9 P7 (by decide) hl) ⟨rfl,rfl,trivial⟩ fun v'=>?_
 refine gj fun hv'=>?_
 refine aB rfl (aW rfl) ⟨rfl,trivial⟩ ?_
 refine aB rfl (aw rfl ri) ⟨rfl,trivial⟩ ?_
 refine bC 1 rfl ?_
 refine bf rfl rfl (a9 rfl jl hv' rfl rfl) ⟨rfl,rfl,trivial⟩ ?_
 refine ar ?_
 refine ag ?_
 show JC _ _ _ _ _
 refine ae ?_
 refine ab ?_
 refine ax rfl rfl ?_
 refine aB rfl (mO rfl rfl Tryz.underlying9) ⟨rfl,trivial⟩ ?_
 refine dk rfl rfl ?_
 refine dH rfl ?_
 refine ar ?_
 refine ag ?_
 show JC _ _ _ _ _
 refine aA ?_
 exact aD v' [_,_] 2 ⟨rfl,rfl,trivial⟩ rfl
theorem LI:fL Tryz.prog 207 (Extern.BytealgMakeNoZero.makeNoZero #[3] #[160]):=.of Tryz.func207 (by kernel_rfl) (by kernel_rfl) (by kernel_rfl) (by kernel_rfl)
theorem LJ:ah Tryz.prog 188:=ah.of Tryz.func188 (by kernel_rfl) (by kernel_rfl)
def P9:Value→List D
 | .slice (some ⟨b,0,none⟩) m c=>[.sl (.slice (some ⟨b,0,none⟩) 0 c) 5 (.int .u8) []]
 |_=>[Ha]
theorem KO{v:Value}(h:∀d∈P9 v,∃S w,d.holds S w):∃b m c,v= .slice (some ⟨b,0,none⟩) m c:=by
 unfold P9 at h;split at h
 ·exact⟨_,_,_,rfl⟩
 ·obtain⟨S,w,hb⟩:=h Ha (by simp);exact absurd hb zu
theorem Nr:dF Tryz.prog 5 1 false:=⟨fun w=>by kernel_rfl,fun w=>by kernel_rfl⟩
theorem EV{b cap:Nat}:sliced (some ⟨b,0,none⟩) 0 (Int.toNat 0) cap 1= .slice (some ⟨b,0,none⟩) 0 cap:=Bt
abbrev Aj(bc:Nat×Nat):Value:=.slice (some ⟨bc.1,0,none⟩) 0 bc.2
theorem Ii{b n:Nat}{p:Value}(hn:n≤281474976710656):
 bX Tryz.prog 188 [.eq (bP b),.eq (.int .i64 n)] [.obj b 162 (bA p (.slice none 0 0))] (fun bc:Nat×Nat=>(bp [],[.obj b 162 (bA p (Aj bc)),.sl (Aj bc) 5 (.int .u8) []])):=by
 refine bX.of 30 Tryz.func188 rfl Tryz.ntmps188 rfl fun S w0=>?_
 have c1:ck (2 * ((0:Nat):Int))=some 0:=rfl
 have c2:ck (0+(n:Int))=some (n:Int):=by rw [Int.zero_add];unfold ck;rw [if_pos (by omega)]
 refine ae ?_
 refine kx ?_
 refine aO rfl rfl rfl (aR rfl) ⟨rfl,trivial⟩ ?_
 refine aO rfl rfl rfl (aW rfl) ⟨rfl,trivial⟩ ?_
 refine aO rfl rfl rfl (aw rfl ri) ⟨rfl,trivial⟩ ?_
 refine fg 0 rfl rfl rfl rfl (ao rfl jl (fun _=>rfl) rfl) ⟨rfl,trivial⟩ ?_
 refine aO rfl rfl rfl (FH rfl rfl Tryz.underlying160) ⟨rfl,trivial⟩ ?_
 refine aO rfl rfl rfl (J2 rfl c1) ⟨rfl,rfl,trivial⟩ ?_
 refine aO rfl rfl rfl (aR rfl) ⟨rfl,trivial⟩ ?_
 refine aO rfl rfl rfl (ba rfl c2) ⟨rfl,rfl,trivial⟩ ?_
 refine CH P9 (fun _=>rfl) rfl rfl rfl (Fp LI rfl rfl Tryz.underlying160 hn) ⟨rfl,trivial⟩ ?_
 refine aO rfl rfl rfl (aR rfl) ⟨rfl,trivial⟩ ?_
 refine aO rfl rfl rfl (aW rfl) ⟨rfl,trivial⟩ ?_
 refine aO rfl rfl rfl (aw rfl ri) ⟨rfl,trivial⟩ ?_
 refine fg 0 rfl rfl rfl rfl (ao rfl jl (fun _=>rfl) rfl) ⟨rfl,trivial⟩ ?_
 refine aO rfl rfl rfl (Fz rfl rfl Tryz.underlying160) ⟨rfl,trivial⟩ ?_
 refine oR 14 [true,true,true,true,true,true,true,true,true,true,true,true,true,true] [19,4] [] [] rfl (by kernel_rfl) (by kernel_rfl) (by kernel_rfl) qg (fun vs hv hB=>?_)
 obtain⟨u0,vs1,rfl,hv1⟩:=ap hv
 obtain⟨u1,vs2,rfl,hv2⟩:=ap hv1
 obtain⟨u2,vs3,rfl,hv3⟩:=ap hv2
 obtain⟨u3,vs4,rfl,hv4⟩:=ap hv3
 obtain⟨u4,vs5,rfl,hv5⟩:=ap hv4
 obtain⟨u5,vs6,rfl,hv6⟩:=ap hv5
 obtain⟨u6,vs7,rfl,hv7⟩:=ap hv6
 obtain⟨u7,vs8,rfl,hv8⟩:=ap hv7
 obtain⟨u8,vs9,rfl,hv9⟩:=ap hv8
 obtain⟨u9,vs10,rfl,hv10⟩:=ap hv9
 obtain⟨u10,vs11,rfl,hv11⟩:=ap hv10
 obtain⟨u11,vs12,rfl,hv12⟩:=ap hv11
 obtain⟨u12,vs13,rfl,hv13⟩:=ap hv12
 obtain⟨u13,vs14,rfl,hv14⟩:=ap hv13
 obtain rfl:=l9 hv14
 obtain⟨g,m,q,rfl⟩:=KO hB.2.2.2.2.2.2.2.2.1
 refine⟨[0,1],[.obj b 162 (bA p (.slice none 0 0)),.sl (Aj (g,q)) 5 (.int .u8) []],by kernel_rfl,by decide,?_⟩
 refine nB rfl rfl rfl rfl (ud rfl Tryz.underlying160 Nr (Int.le_refl 0) (Int.natCast_nonneg _)) ⟨rfl,rfl,trivial⟩ (by kernel_rfl) ?_
 rw [EV]
 refine nB rfl rfl rfl rfl (f8 rfl) ⟨rfl,trivial⟩ (by kernel_rfl) ?_
 refine sL ?_
 refine bv (SE.fin (Γ':=[(0,.eq (bP b)),(4,.eq (Aj (g,q)))]) (Δ':=[.obj b 162 (bA p (.slice none 0 0)),.sl (Aj (g,q)) 5 (.int .u8) []]) [0,1] ⟨rfl,rfl,trivial⟩ rfl) ?_
 refine ag ?_
 show JC _ _ _ _ _
 refine ae ?_
 refine ab ?_
 refine ax rfl rfl ?_
 refine ax rfl rfl ?_
 refine aB rfl (aW rfl) ⟨rfl,trivial⟩ ?_
 refine aB rfl (aw rfl ri) ⟨rfl,trivial⟩ ?_
 refine bU rfl rfl rfl (ao rfl jl (fun _=>rfl) rfl) ⟨rfl,trivial⟩ ?_
 refine aB rfl (It rfl rfl Tryz.underlying160 Nr) ⟨rfl,rfl,trivial⟩ ?_
 refine ar ?_
 refine ag ?_
 show JC _ _ _ _ _
 refine ab ?_
 refine ax rfl rfl ?_
 refine ax rfl rfl ?_
 refine aB rfl (aW rfl) ⟨rfl,trivial⟩ ?_
 refine aB rfl (aw rfl ri) ⟨rfl,trivial⟩ ?_
 refine bf rfl rfl (a9 rfl jl rfl rfl rfl) ⟨rfl,rfl,trivial⟩ ?_
 refine ar ?_
 refine iN ?_
 exact aD (g,q) [] 2 trivial rfl
end Go.Proofs.YtcnpijmfgfnpiaaGreatDoor
set_option linter.unusedVariables false
set_option maxRecDepth 20000
set_option maxHeartbeats 4000000
namespace Go.Proofs.YtcnpijmfgfnpiaaGreatDoor
open K Go Go.Proofs Go.Extern
theorem EZ{b n:Nat}(h0:0 < n)(hn:n≤281474976710656):
 bX Tryz.prog 153 [.eq (bP b),.eq (.int .i64 n)] [.obj b 162 (bA (.pointer none) (.slice none 0 0))] (fun bc:Nat×Nat=>(bp [],[.obj b 162 (bA (bP b) (Aj bc)),.sl (Aj bc) 5 (.int .u8) []])):=by
 refine bX.of 25 Tryz.func153 rfl Tryz.ntmps153 rfl fun S w0=>?_
 have c1:ck (((0:Nat):Int) - ((0:Nat):Int))=some 0:=rfl
 refine ae ?_
 refine ab ?_
 refine ax rfl rfl ?_
 refine bU rfl rfl rfl (ak [.tmp 4] rfl rfl A8 rfl (nh (.inl rfl) rfl)) ⟨rfl,trivial⟩ ?_
 refine ar ?_
 refine ag ?_
 show JC _ _ _ _ _
 refine ae ?_
 refine ae ?_
 refine ab ?_
 refine ax rfl rfl ?_
 refine aB rfl (bq rfl) ⟨rfl,rfl,trivial⟩ ?_
 refine ar ?_
 refine ag ?_
 show JC _ _ _ _ _
 refine bG rfl (fun hb=>absurd (of_decide_eq_true hb) (by omega)) (fun hb=>?_)
 refine aS ?_
 refine ag ?_
 show JC _ _ _ _ _
 refine ae ?_
 refine cm ?_
 refine dw rfl rfl rfl (aR rfl) ⟨rfl,trivial⟩ ?_
 refine dw rfl rfl rfl (aW rfl) ⟨rfl,trivial⟩ ?_
 refine dw rfl rfl rfl (aw rfl ri) ⟨rfl,trivial⟩ ?_
 refine my 0 rfl rfl rfl rfl (ao rfl jl (fun _=>rfl) rfl) ⟨rfl,trivial⟩ ?_
 refine dw rfl rfl rfl (FH rfl rfl Tryz.underlying160) ⟨rfl,trivial⟩ ?_
 refine dw rfl rfl rfl (aR rfl) ⟨rfl,trivial⟩ ?_
 refine dw rfl rfl rfl (aW rfl) ⟨rfl,trivial⟩ ?_
 refine dw rfl rfl rfl (aw rfl ri) ⟨rfl,trivial⟩ ?_
 refine my 0 rfl rfl rfl rfl (ao rfl jl (fun _=>rfl) rfl) ⟨rfl,trivial⟩ ?_
 refine dw rfl rfl rfl (Fz rfl rfl Tryz.underlying160) ⟨rfl,trivial⟩ ?_
 refine dw rfl rfl rfl (eA rfl c1) ⟨rfl,rfl,trivial⟩ ?_
 refine dw rfl rfl rfl (aR rfl) ⟨rfl,trivial⟩ ?_
 refine sN (by kernel_rfl) qg ?_
 refine aB rfl (bq rfl) ⟨rfl,rfl,trivial⟩ ?_
 refine ar ?_
 refine ag ?_
 show JC _ _ _ _ _
 refine bG rfl (fun hb=>?_) (fun hb=>absurd (of_decide_eq_false hb) (by omega))
 refine ab ?_
 refine ax rfl rfl ?_
 refine ax rfl rfl ?_
 refine bN (Δ:=[_]) (F:=_) (fun _ _ _=>av rfl _) rfl rfl (ak [.tmp 22,.tmp 23] rfl rfl LJ rfl (Ii hn)) ⟨rfl,rfl,trivial⟩ fun bc=>?_
 refine ar ?_
 refine iN ?_
 exact aD bc [] 2 trivial rfl
theorem wJ:dF Tryz.prog 9 1 false:=⟨fun w=>by kernel_rfl,fun w=>by kernel_rfl⟩
theorem LO:ah Tryz.prog 119:=ah.of Tryz.func119 (by kernel_rfl) (by kernel_rfl)
theorem GZ:ah Tryz.prog 120:=ah.of Tryz.func120 (by kernel_rfl) (by kernel_rfl)
theorem LL:ah Tryz.prog 153:=ah.of Tryz.func153 (by kernel_rfl) (by kernel_rfl)
theorem A7:ah Tryz.prog 154:=ah.of Tryz.func154 (by kernel_rfl) (by kernel_rfl)
theorem EA:∀w,(zeroValue 162).run Tryz.prog w= .ok (.agg #[.pointer none,.slice none 0 0]) w:=fun w=>by kernel_rfl
theorem Hj:∀S w,(A.cells S w (bA (.pointer none) (.slice none 0 0)) (Value.cells (.agg #[.pointer none,.slice none 0 0])).toList):=fun _ _=>⟨[_],_,rfl,⟨rfl,rfl⟩,rfl,rfl⟩
def ng(ss:List ByteArray):Nat→Int×Int→Option Int
 |0,_=>none
 |n+1,y=>if y.1 < (ss.length:Int) then((aZ ss y.1).bind fun s=>(ck ((9223372036854775807:Int) - y.2)).bind fun z=>if z < (s.size:Int) then none else(ck (y.2+(s.size:Int))).bind fun z2=>(ck (y.1+(1:Int))).bind fun z3=>ng ss n (z3,z2)) else some y.2
def lu(ss:List ByteArray)(sep:ByteArray):Nat→Int×List Int→Option (List Int)
 |0,_=>none
 |n+1,y=>if y.1 < (ss.length:Int) then((aZ ss y.1).bind fun s=>if bV (y.2.length+sep.size)∧bV ((y.2++qL sep).length+s.size) then(ck (y.1+(1:Int))).bind fun z3=>lu ss sep n (z3,(y.2++qL sep)++qL s) else none) else some y.2
def tj(k:Nat)(ss:List ByteArray)(sep:ByteArray):Option ByteArray:=
 if sep.size=1∧bV ss.length then
  if(ss.length:Int)=(0:Int) then some .empty
  else if(ss.length:Int)=(1:Int) then aZ ss 0
  else(ng ss k ((0:Int),(ss.length:Int) - 1)).bind fun n=>
   if 0 < n∧n≤281474976710656 then(aZ ss 0).bind fun s=>if bV s.size then(lu (ss.drop 1) sep k ((0:Int),qL s)).bind fun l=>if l=[] then none else some (pR l) else none else none
 else none
theorem Ai(k:Nat)(ss:List ByteArray)(sep:ByteArray)(r:ByteArray)(h:tj k ss sep=some r):
 bX Tryz.prog 121 [.rep (.slice .str) ss,.eq (.string sep)] [] (fun _:Unit=>(bp [.eq (.string r)],[])):=by
 unfold tj at h
 split at h
 case isFalse=>cases h
 rename_i hc
 obtain⟨hsep,hlen⟩:=hc
 unfold bV at hlen
 replace h:=be h
 refine bX.of 75 Tryz.func121 rfl Tryz.ntmps121 rfl fun S w0=>?_
 refine ae ?_
 refine ab ?_
 refine dH rfl ?_
 refine ar ?_
 refine ag ?_
 show JC _ _ _ _ _
 refine ae ?_
 refine ae ?_
 refine ab ?_
 refine ax rfl rfl ?_
 refine aB rfl (jt rfl rfl Tryz.underlying86) ⟨rfl,trivial⟩ ?_
 refine ar ?_
 refine ag ?_
 show JC _ _ _ _ _
 refine aj ?_
 refine ae ?_
 refine ab ?_
 refine aB rfl (fj rfl) ⟨rfl,rfl,trivial⟩ ?_
 refine dk rfl rfl ?_
 refine ar ?_
 refine ag ?_
 show JC _ _ _ _ _
 refine bG rfl (fun hb=>?_) (fun hb=>?_)
 ·
  replace h:=cy (nS hb) h;refine ae ?_;refine ab ?_;refine dH rfl ?_;refine ar ?_;refine ag ?_;show JC _ _ _ _ _;refine aA ?_;refine aV ?_;refine aK ?_;obtain rfl:=Option.some.inj h;exact aD () [_] 0 ⟨rfl,trivial⟩ rfl
 replace h:=bM (nv hb) h
 have hne0:=nv hb
 refine ae ?_
 refine ab ?_
 refine aB rfl (fj rfl) ⟨rfl,rfl,trivial⟩ ?_
 refine dk rfl rfl ?_
 refine ar ?_
 refine ag ?_
 show JC _ _ _ _ _
 refine bG rfl (fun hb=>?_) (fun hb=>?_)
 ·
  replace h:=cy (nS hb) h;have es:aZ ss 0=some r:=by simpa using h
  refine ae ?_;refine ab ?_;refine ax rfl rfl ?_;refine aB rfl (aH (t:=.str) rfl Tryz.underlying86 wJ es) ⟨rfl,rfl,trivial⟩ ?_;refine aB rfl (an (t:=.str) rfl wJ rfl) ⟨rfl,trivial⟩ ?_;refine dk rfl rfl ?_;refine ar ?_;refine ag ?_;show JC _ _ _ _ _;refine aA ?_;refine aV ?_;refine aK ?_;exact aD () [_] 0 ⟨rfl,trivial⟩ rfl
 replace h:=bM (nv hb) h
 have hne1:=nv hb
 refine aS ?_
 refine aL ?_
 refine ag ?_
 show JC _ _ _ _ _
 refine ae ?_
 refine ab ?_
 refine dH rfl ?_
 refine ar ?_
 refine ag ?_
 show JC _ _ _ _ _
 refine ae ?_
 refine ae ?_
 refine ab ?_
 refine ax rfl rfl ?_
 refine aB rfl (mO rfl rfl Tryz.underlying9) ⟨rfl,trivial⟩ ?_
 refine aB rfl (jC rfl) ⟨rfl,rfl,trivial⟩ ?_
 refine ar ?_
 refine ag ?_
 show JC _ _ _ _ _
 have c1:ck ((ss.length:Int) - 1)=some ((ss.length:Int) - 1):=by unfold ck;rw [if_pos (by omega)]
 have c2:ck ((sep.size:Int) * ((ss.length:Int) - 1))=some ((ss.length:Int) - 1):=by rw [hsep];simpa using c1
 have c3:ck (0+((ss.length:Int) - 1))=some ((ss.length:Int) - 1):=by rw [Int.zero_add];exact c1
 refine bG rfl (fun hb=>?_) (fun hb=>absurd (nv hb) (by omega))
 refine ae ?_
 refine ae ?_
 refine ab ?_
 refine ax rfl rfl ?_
 refine aB rfl (mO rfl rfl Tryz.underlying9) ⟨rfl,trivial⟩ ?_
 refine ax rfl rfl ?_
 refine aB rfl (jt rfl rfl Tryz.underlying86) ⟨rfl,trivial⟩ ?_
 refine aB rfl (eA rfl c1) ⟨rfl,rfl,trivial⟩ ?_
 refine aB rfl (NC rfl (by omega)) ⟨rfl,rfl,trivial⟩ ?_
 refine aB rfl (nI rfl) ⟨rfl,rfl,trivial⟩ ?_
 refine ar ?_
 refine ag ?_
 show JC _ _ _ _ _
 refine bG rfl (fun hb=>?_) (fun hb=>?_)
 ·
  exfalso;have h1:=nS hb;have q1:(9223372036854775807:Int).tdiv ((ss.length:Int) - 1)=9223372036854775807 / ((ss.length:Int) - 1):=Int.tdiv_eq_ediv_of_nonneg (by omega);have q2:(2:Int)≤9223372036854775807 / ((ss.length:Int) - 1):=Int.le_ediv_of_mul_le (by omega) (by omega);have q3:(9223372036854775807:Int) / ((ss.length:Int) - 1)≤9223372036854775807:=Int.ediv_le_self _ (by omega);rw [q1,ry (z:=9223372036854775807 / ((ss.length:Int) - 1)) (by unfold ck;rw [if_pos (by omega)])] at h1;omega
 refine aS ?_
 refine ag ?_
 show JC _ _ _ _ _
 refine ab ?_
 refine ax rfl rfl ?_
 refine ax rfl rfl ?_
 refine aB rfl (mO rfl rfl Tryz.underlying9) ⟨rfl,trivial⟩ ?_
 refine ax rfl rfl ?_
 refine aB rfl (jt rfl rfl Tryz.underlying86) ⟨rfl,trivial⟩ ?_
 refine aB rfl (eA rfl c1) ⟨rfl,rfl,trivial⟩ ?_
 refine aB rfl (J2 rfl c2) ⟨rfl,rfl,trivial⟩ ?_
 refine aB rfl (ba rfl c3) ⟨rfl,rfl,trivial⟩ ?_
 refine dk rfl rfl ?_
 refine ar ?_
 refine ag ?_
 show JC _ _ _ _ _
 rw [Option.bind_assoc] at h
 refine ae ?_
 refine ae ?_
 refine ab ?_
 refine ax rfl rfl ?_
 refine aB rfl (jt rfl rfl Tryz.underlying86) ⟨rfl,trivial⟩ ?_
 refine dQ rfl ?_
 refine ar ?_
 refine ag ?_
 show JC _ _ _ _ _
 refine aj ?_
 refine aG (Z:=Unit) (α:=Int×Int) (fun _ y=>[(0,.rep (.slice .str) ss),(1,.eq (.string sep)),(5,.eq (.int .i64 y.2)),(39,.rep (.slice .str) ss),(40,.eq (.int .i64 (ss.length:Int))),(41,.eq (.int .i64 y.1))]) (fun _ _=>[]) (ng ss) k () ((0:Int),(ss.length:Int) - 1) (fun _=>rfl) h (SE.fin [] ⟨rfl,rfl,rfl,rfl,rfl,rfl,trivial⟩ rfl) (fun n z y h=>?_)
 unfold ng at h
 refine ae ?_
 refine ab ?_
 refine aB rfl (bq rfl) ⟨rfl,rfl,trivial⟩ ?_
 refine ar ?_
 refine ag ?_
 show JC _ _ _ _ _
 refine ae ?_
 refine bG rfl (fun hb=>?_) (fun hb=>?_)
 ·
  replace h:=cy (nS hb) h;refine aS ?_;refine ag ?_;show JC _ _ _ _ _;refine ae ?_;refine aj ?_;refine ae ?_;refine ab ?_;obtain⟨s,es,h⟩:=aa h;refine aB rfl (aH (t:=.str) rfl Tryz.underlying86 wJ es) ⟨rfl,rfl,trivial⟩ ?_;refine aB rfl (an (t:=.str) rfl wJ rfl) ⟨rfl,trivial⟩ ?_;refine dk rfl rfl ?_;refine ar ?_;refine ag ?_;show JC _ _ _ _ _;refine ae ?_;refine ae ?_;refine ab ?_;refine ax rfl rfl ?_;refine aB rfl (mO rfl rfl Tryz.underlying9) ⟨rfl,trivial⟩ ?_;refine ax rfl rfl ?_;obtain⟨z,ez,h⟩:=aa h;refine aB rfl (eA rfl ez) ⟨rfl,rfl,trivial⟩ ?_;refine aB rfl (jC rfl) ⟨rfl,rfl,trivial⟩ ?_;refine ar ?_;refine ag ?_;show JC _ _ _ _ _;refine bG rfl (fun hb=>?_) (fun hb=>?_)
  ·replace h:=cy (nS hb) h;cases h
  replace h:=bM (nv hb) h;refine aS ?_;refine ag ?_;show JC _ _ _ _ _;refine ab ?_;refine ax rfl rfl ?_;refine ax rfl rfl ?_;refine aB rfl (mO rfl rfl Tryz.underlying9) ⟨rfl,trivial⟩ ?_;obtain⟨z2,ez2,h⟩:=aa h;refine aB rfl (ba rfl ez2) ⟨rfl,rfl,trivial⟩ ?_;refine dk rfl rfl ?_;refine ar ?_;refine aL ?_;refine ag ?_;show JC _ _ _ _ _;refine ab ?_;obtain⟨z3,ez3,h⟩:=aa h;refine aB rfl (ba rfl ez3) ⟨rfl,rfl,trivial⟩ ?_;refine ax rfl rfl ?_;refine ar ?_;refine ag ?_;exact iM ((),(z3,z2)) h (SE.fin [] ⟨rfl,rfl,rfl,rfl,rfl,rfl,trivial⟩ rfl)
 replace h:=bM (nv hb) h
 refine dt ?_
 refine aM ?_
 refine aM ?_
 refine bO ?_
 refine ag ?_
 show JC _ _ _ _ _
 replace h:((if 0 < y.2∧y.2≤281474976710656 then(aZ ss 0).bind fun s=>if bV s.size then(lu (ss.drop 1) sep k ((0:Int),qL s)).bind fun l=>if l=[] then none else some (pR l) else none else none):Option ByteArray).bind some=some r:=h
 obtain⟨y1,y2⟩:=y
 have hy:0 < y2∧y2≤281474976710656:=by
  apply Classical.byContradiction;intro hn;rw [if_neg hn] at h;cases h
 replace h:=cy hy h
 obtain⟨m,rfl⟩:=Int.eq_ofNat_of_zero_le (show 0≤y2 by omega)
 obtain⟨s0,es0,h⟩:=aa h
 have hs0:bV s0.size:=by
  apply Classical.byContradiction;intro hn;rw [if_neg hn] at h;cases h
 replace h:=cy hs0 h
 rw [Option.bind_assoc] at h
 refine ae ?_
 refine ab ?_
 refine aE rfl rfl rfl (bJ rfl EA Hj) trivial fun b=>?_
 refine ar ?_
 refine ag ?_
 show JC _ _ _ _ _
 refine ae ?_
 refine ab ?_
 refine ax rfl rfl ?_
 refine bN (Δ:=[_]) (F:=_) (fun _ _ _=>av rfl _) rfl rfl (ak [.tmp 8,.tmp 56] rfl rfl LL rfl (EZ (b:=b) (n:=m) (by omega) (by omega))) ⟨rfl,rfl,trivial⟩ fun bc=>?_
 refine ar ?_
 refine ag ?_
 show JC _ _ _ _ _
 refine ae ?_
 refine ab ?_
 refine ax rfl rfl ?_
 refine aB rfl (aH (t:=.str) rfl Tryz.underlying86 wJ es0) ⟨rfl,rfl,trivial⟩ ?_
 refine aB rfl (an (t:=.str) rfl wJ rfl) ⟨rfl,trivial⟩ ?_
 refine bN (Δ:=[_,_]) (F:=_) (fun _ _ _=>av rfl _) rfl rfl (ak [.tmp 8,.tmp 60] rfl rfl A7 rfl (lw (b:=b) (p:=some ⟨b,0,none⟩) (v:=Aj bc) (l:=[]) (s:=s0) (.inr rfl) rfl (by simpa using hs0))) ⟨rfl,rfl,trivial⟩ fun v0=>?_
 refine ar ?_
 refine ag ?_
 show JC _ _ _ _ _
 refine ae ?_
 refine ae ?_
 refine ab ?_
 refine ax rfl rfl ?_
 refine aB rfl (Do (t:=.str) rfl Tryz.underlying86 wJ (by decide) (by omega)) ⟨rfl,rfl,trivial⟩ ?_
 refine aB rfl (jt rfl rfl Tryz.underlying86) ⟨rfl,trivial⟩ ?_
 refine dQ rfl ?_
 refine ar ?_
 refine ag ?_
 show JC _ _ _ _ _
 refine aj ?_
 refine aG (Z:=Value) (α:=Int×List Int) (fun _ y=>[(1,.eq (.string sep)),(8,.eq (bP b)),(63,.rep (.slice .str) (ss.drop 1)),(64,.eq (.int .i64 ((ss.drop 1).length:Int))),(65,.eq (.int .i64 y.1))]) (fun v y=>[.obj b 162 (bA (bP b) v),.sl v 5 (.int .u8) y.2]) (lu (ss.drop 1) sep) k v0 ((0:Int),qL s0) (fun _=>rfl) h (SE.fin [0,1] ⟨rfl,rfl,rfl,rfl,rfl,trivial⟩ rfl) (fun n v y h=>?_)
 unfold lu at h
 refine ae ?_
 refine ab ?_
 refine aB rfl (bq rfl) ⟨rfl,rfl,trivial⟩ ?_
 refine ar ?_
 refine ag ?_
 show JC _ _ _ _ _
 refine ae ?_
 refine bG rfl (fun hb=>?_) (fun hb=>?_)
 ·
  replace h:=cy (nS hb) h;refine aS ?_;refine ag ?_;show JC _ _ _ _ _;refine ae ?_;refine aj ?_;refine ae ?_;refine ab ?_;obtain⟨s,es,h⟩:=aa h;refine aB rfl (aH (t:=.str) rfl Tryz.underlying86 wJ es) ⟨rfl,rfl,trivial⟩ ?_;refine aB rfl (an (t:=.str) rfl wJ rfl) ⟨rfl,trivial⟩ ?_;refine dk rfl rfl ?_;refine ar ?_;refine ag ?_;show JC _ _ _ _ _
  have hk:bV (y.2.length+sep.size)∧bV ((y.2++qL sep).length+s.size):=by
   apply Classical.byContradiction;intro hn;rw [if_neg hn] at h;cases h
  replace h:=cy hk h;refine uR 1 rfl fun hv=>?_;refine ae ?_;refine ab ?_;refine ax rfl rfl ?_;refine bN (Δ:=[_,_]) (F:=_) (fun _ _ _=>av rfl _) rfl rfl (ak [.tmp 8,.tmp 69] rfl rfl A7 rfl (lw (b:=b) (p:=some ⟨b,0,none⟩) (s:=sep) (.inr rfl) hv hk.1)) ⟨rfl,rfl,trivial⟩ fun v1=>?_;refine ar ?_;refine ag ?_;show JC _ _ _ _ _;refine uR 1 rfl fun hv1=>?_;refine ab ?_;refine ax rfl rfl ?_;refine bN (Δ:=[_,_]) (F:=_) (fun _ _ _=>av rfl _) rfl rfl (ak [.tmp 8,.tmp 71] rfl rfl A7 rfl (lw (b:=b) (p:=some ⟨b,0,none⟩) (s:=s) (.inr rfl) hv1 hk.2)) ⟨rfl,rfl,trivial⟩ fun v2=>?_;refine ar ?_;refine aL ?_;refine ag ?_;show JC _ _ _ _ _;refine ab ?_;obtain⟨z3,ez3,h⟩:=aa h;refine aB rfl (ba rfl ez3) ⟨rfl,rfl,trivial⟩ ?_;refine ax rfl rfl ?_;refine ar ?_;refine ag ?_;exact iM (v2,(z3,(y.2++qL sep)++qL s)) h (SE.fin [0,1] ⟨rfl,rfl,rfl,rfl,rfl,trivial⟩ rfl)
 replace h:=bM (nv hb) h
 refine dt ?_
 refine aM ?_
 refine aM ?_
 refine bO ?_
 refine ag ?_
 show JC _ _ _ _ _
 replace h:(if y.2=[] then none else some (pR y.2):Option ByteArray).bind some=some r:=h
 have hy2:y.2≠[]:=by
  intro hn;rw [if_pos hn] at h;cases h
 rw [if_neg hy2] at h
 obtain rfl:=Option.some.inj h
 refine ae ?_
 refine ab ?_
 refine bN (Δ:=[_,_]) (F:=_) (fun _ _ _=>av rfl _) rfl rfl (ak [.tmp 8] rfl rfl GZ rfl (vE (b:=b) (fun hn=>absurd hn hy2))) ⟨rfl,trivial⟩ fun _=>?_
 refine dk rfl rfl ?_
 refine ar ?_
 refine ag ?_
 show JC _ _ _ _ _
 refine aA ?_
 exact aD () [_] 0 ⟨rfl,trivial⟩ rfl
end Go.Proofs.YtcnpijmfgfnpiaaGreatDoor
