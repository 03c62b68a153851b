import Derived.Test.YtddneonghpmidaaGreatDoorSBMb10
import Derived.KernelRfl
import Derived.Conc.WgArith
import Derived.Laws.DeepBits32
import Derived.Laws.BitsLemmas
set_option linter.unusedSimpArgs false
set_option linter.unusedVariables false
namespace Go.Proofs.YtddneonghpmidaaGreatDoor
namespace K
open Go Go.Conc Go.Conc.Lib
section
variable {P:Program}{L:WgLink}(H:WgLib P L)
include H
theorem IF:E5 P L.disable .disable:=⟨⟨_,H.f_disable,by kernel_rfl,by kernel_rfl,by kernel_rfl,by kernel_rfl⟩,fun g h=>by cases h⟩
theorem IE:E5 P L.enable .enable:=⟨⟨_,H.f_enable,by kernel_rfl,by kernel_rfl,by kernel_rfl,by kernel_rfl⟩,fun g h=>by cases h⟩
theorem QG:BU P L.relMerge .releaseMerge:=⟨⟨_,H.f_relMerge,by kernel_rfl,by kernel_rfl,by kernel_rfl,by kernel_rfl⟩,fun a g h=>by cases h⟩
theorem NJ:BU P L.acquire .acquire:=⟨⟨_,H.f_acquire,by kernel_rfl,by kernel_rfl,by kernel_rfl,by kernel_rfl⟩,fun a g h=>by cases h⟩
theorem TN:BU P L.raceRead .read:=⟨⟨_,H.f_raceRead,by kernel_rfl,by kernel_rfl,by kernel_rfl,by kernel_rfl⟩,fun a g h=>by cases h⟩
theorem TM:BU P L.raceWrite .write:=⟨⟨_,H.f_raceWrite,by kernel_rfl,by kernel_rfl,by kernel_rfl,by kernel_rfl⟩,fun a g h=>by cases h⟩
theorem NH:NU P L.inBubble (.bool false):=⟨_,H.f_inBubble,by kernel_rfl,by kernel_rfl,by kernel_rfl,by kernel_rfl⟩
end
theorem dA{P:Program}{T f b off n k t:Nat}{fs:Array Field}(hU:P.underlying T=some (.struct fs))(hf:(fs[f]?).map (fun d=>(d.offset,d.type))=some (k,t))(hs:∀w,(sizeOf t).run P w= .ok (n+1) w)(w:World):(Instr.fieldAt T (.pointer (some ⟨b,off,none⟩)) f).runT P w #[]=(.ok (.pointer (some ⟨b,off+k,none⟩)) w, #[]):=by
 obtain⟨fld,hf',e⟩:=Option.map_eq_some_iff.1 hf;clear hf;simp only [Prod.mk.injEq] at e;obtain⟨rfl,rfl⟩:=e;have hf:=hf'
 have h1:(Instr.fieldAt T (.pointer (some ⟨b,off,none⟩)) f).run P w= .ok (.pointer (some ⟨b,off+fld.offset,none⟩)) w:=by
  simp [Instr.fieldAt,run_underlying hU,hf,Addr.add,Instr.sureAddr,fieldPlace,hs]
 have h2:(Instr.fieldAt T (.pointer (some ⟨b,off,none⟩)) f).events P w #[]= #[]:=by
  simp [Instr.fieldAt,run_underlying hU,hf,Instr.sureAddr,fieldPlace,hs]
 exact Prod.ext (by rw [Sem.runT_fst];exact h1) h2
theorem nH{P:Program}{p:Gp}{T T' t0 n:Nat}{off:Nat}(hT:P.underlying T=some (.pointer t0))(hT':P.underlying T'=some .unsafePointer)(hs:∀w,(sizeOf t0).run P w= .ok (n+1) w)(ho:off < 2)(w:World)(hl:p.Live w):(convert T T' (.pointer (some ⟨p.bw,off,none⟩))).runT P w #[]=(.ok (.pointer (some ⟨p.bw,off,none⟩)) w, #[]):=by
 obtain⟨q,hq,_⟩:=hl;have h0:¬2≤off:=by omega
 have hv:(viewAt p.bw).run P w= .ok none w:=by simp [viewAt,World.shape?,hq]
 have hv':(viewAt p.bw).events P w #[]= #[]:=by simp [viewAt,World.shape?,hq]
 have h1:(convert T T' (.pointer (some ⟨p.bw,off,none⟩))).run P w= .ok (.pointer (some ⟨p.bw,off,none⟩)) w:=by
  simp [convert,run_underlying hT,run_underlying hT',Conv.unsafePointer,Conv.seenAt,hv,cellsIn,World.shape?,hq,hs,h0]
 have h2:(convert T T' (.pointer (some ⟨p.bw,off,none⟩))).events P w #[]= #[]:=by
  simp [convert,run_underlying hT,run_underlying hT',Conv.unsafePointer,Conv.seenAt,hv,hv',cellsIn,World.shape?,hq,hs,h0]
 exact Prod.ext (by rw [Sem.runT_fst];exact h1) h2
theorem xE{c wt:Nat}(hc:c < 2147483648)(hw:wt≤1):iI .u64 ((c * 4294967296+wt:Nat):Int) 32=(c:Int):=by
 unfold iI;have e:(2:Int) ^ (min (32:Int).toNat IntKind.u64.bits)=4294967296:=by decide
 rw [e,Int.fdiv_eq_ediv_of_nonneg _ (by decide)];omega
theorem xF{c wt:Nat}(hc:c < 2147483648)(hw:wt≤1):xu .u64 ((c * 4294967296+wt:Nat):Int) 2147483648=0:=by
 have:=Go.ConcN.st_flag c wt hc hw;have e:((c * 4294967296+wt:Nat):Int)=(c:Int) * 4294967296+(wt:Int):=by omega
 rw [e];exact this
theorem xC{c wt:Nat}(hc:c < 2147483648)(hw:wt≤1):xu .u64 ((c * 4294967296+wt:Nat):Int) 2147483647=(wt:Int):=by
 have:=Go.ConcN.st_waiters c wt hc hw;have e:((c * 4294967296+wt:Nat):Int)=(c:Int) * 4294967296+(wt:Int):=by omega
 rw [e];exact this
theorem zZ{c:Nat}(hc:c < 2147483648):IntKind.i32.wrap (c:Int)=(c:Int):=wrap_i32_small _ (by omega) (by omega)
end K
end Go.Proofs.YtddneonghpmidaaGreatDoor
set_option linter.unusedVariables false
set_option maxRecDepth 20000
set_option maxHeartbeats 4000000
namespace Go.Proofs.YtddneonghpmidaaGreatDoor
namespace K
open Go Go.Conc Go.Conc.Lib
theorem tj{P:Program}{p:Gp}{tot:Nat}{s:Ph}(hs:s≠.quit):Mv P p.Live false (Ww P p tot s):=fun v fr fr' cs cs' h1 h=>Ww.move hs (fun w hl=>h1 w hl) h
theorem Ww.rl{P:Program}{p:Gp}{tot m:Nat}(hm:¬m < tot):Wd P p.Live false #[kP (.releaseMerge p.stA)] (Ww P p tot (.work m)) (Ww P p tot .rel):=fun v fr fr' cs cs' h1 h=>
 .act (by simp) (fun e=>by cases e) (fun _ _=>fr') (fun _ _=>cs') (fun v1 _=>v1.toWorld) (fun v1 q _ hat _=>by rw [show(Ph.work m).evs p tot= #[kP (.releaseMerge p.stA)] by simp only [Ph.evs,if_neg hm]];exact h1 _ ⟨q,hat⟩)
  (fun v1 q _ hat _=>by rw [show(Ph.work m).eff tot q=q by simp only [Ph.eff,if_neg hm]];exact Gp.Eff.refl hat) fun v1 q hr _ _=>by rw [show(Ph.work m).nx tot q= .rel by simp only [Ph.nx,if_neg hm]];exact h.rely hr
theorem SA{P:Program}{p:Gp}{tot:Nat}:Wd P p.Live false #[kP .disable] (Ww P p tot .rel) (Ww P p tot .deaf):=fun v fr fr' cs cs' h1 h=>
 .act (by simp) (fun e=>by cases e) (fun _ _=>fr') (fun _ _=>cs') (fun v1 _=>v1.toWorld) (fun v1 q _ hat _=>h1 _ ⟨q,hat⟩) (fun v1 q _ hat _=>Gp.Eff.refl hat) fun v1 q hr _ _=>h.rely hr
section
variable {p:Gp}{w:World}{q:lz}
theorem Gp.At.c0(h:p.At w q):w.cell? p.stA=some (.int .u64 ((q.c * 4294967296+q.wt:Nat):Int)):=by simp [World.cell?,Gp.stA,h.wg]
theorem Gp.At.c1(h:p.At w q):w.cell? p.smA=some (.int .u32 (q.sm:Int)):=by simp [World.cell?,Gp.smA,h.wg]
theorem Gp.At.cx(h:p.At w q):w.cell? p.xA=some (.int .i64 (q.x:Int)):=by simp [World.cell?,Gp.xA,h.sum]
theorem Gp.At.f0(h:p.At w q):w.frozen? p.stA=false:=by simp [World.frozen?,Gp.stA,h.wg]
theorem Gp.At.f1(h:p.At w q):w.frozen? p.smA=false:=by simp [World.frozen?,Gp.smA,h.wg]
theorem Gp.At.fx(h:p.At w q):w.frozen? p.xA=false:=by simp [World.frozen?,Gp.xA,h.sum]
theorem N8{b k:Nat}{cs:Array Value}{T:TypeId}{x:Value}(h:w.heap[b]? =some (.cells cs T)):w.setCell ⟨b,k,none⟩ x={ w with heap:=w.heap.setIfInBounds b (.cells (cs.setIfInBounds k x) T) }:=by
 simp only [World.setCell];congr 1;apply Array.ext_getElem?;intro i;rw [Array.getElem?_modify,Array.getElem?_setIfInBounds];by_cases e:b=i
 ·subst e;have hlt:=(Array.getElem?_eq_some_iff.1 h).1;have h':w.heap[b]= .cells cs T:=by have:=(Array.getElem?_eq_getElem hlt).symm.trans h;exact Option.some.inj this
  simp [hlt,h']
 ·simp [e]
theorem Gp.Eff.st(hne:p.bw≠p.bs)(h:p.At w q){c wt:Nat}:p.Eff w (w.setCell p.stA (.int .u64 ((c * 4294967296+wt:Nat):Int))) { q with c:=c,wt:=wt }:=by
 have hlt:=(Array.getElem?_eq_some_iff.1 h.wg).1;rw [show p.stA=⟨p.bw,0,none⟩ from rfl,N8 h.wg];refine⟨⟨?_,?_⟩,fun b hb=>?_,by simp,rfl,rfl,rfl⟩
 ·show(w.heap.setIfInBounds p.bw _)[p.bw]? =_;rw [Array.getElem?_setIfInBounds_self_of_lt hlt];rfl
 ·show(w.heap.setIfInBounds p.bw _)[p.bs]? =_;rw [Array.getElem?_setIfInBounds_ne hne];exact h.sum
 ·show(w.heap.setIfInBounds p.bw _)[b]? =_;rw [Array.getElem?_setIfInBounds_ne fun e=>hb (.inl e.symm)]
theorem Gp.Eff.sm(hne:p.bw≠p.bs)(h:p.At w q){s:Nat}:p.Eff w (w.setCell p.smA (.int .u32 (s:Int))) { q with sm:=s }:=by
 have hlt:=(Array.getElem?_eq_some_iff.1 h.wg).1;rw [show p.smA=⟨p.bw,1,none⟩ from rfl,N8 h.wg];refine⟨⟨?_,?_⟩,fun b hb=>?_,by simp,rfl,rfl,rfl⟩
 ·show(w.heap.setIfInBounds p.bw _)[p.bw]? =_;rw [Array.getElem?_setIfInBounds_self_of_lt hlt];rfl
 ·show(w.heap.setIfInBounds p.bw _)[p.bs]? =_;rw [Array.getElem?_setIfInBounds_ne hne];exact h.sum
 ·show(w.heap.setIfInBounds p.bw _)[b]? =_;rw [Array.getElem?_setIfInBounds_ne fun e=>hb (.inl e.symm)]
theorem Gp.Eff.x(hne:p.bw≠p.bs)(h:p.At w q){s:Nat}:p.Eff w (w.setCell p.xA (.int .i64 (s:Int))) { q with x:=s }:=by
 have hlt:=(Array.getElem?_eq_some_iff.1 h.sum).1;rw [show p.xA=⟨p.bs,0,none⟩ from rfl,N8 h.sum];refine⟨⟨?_,?_⟩,fun b hb=>?_,by simp,rfl,rfl,rfl⟩
 ·show(w.heap.setIfInBounds p.bs _)[p.bw]? =_;rw [Array.getElem?_setIfInBounds_ne fun e=>hne e.symm];exact h.wg
 ·show(w.heap.setIfInBounds p.bs _)[p.bs]? =_;rw [Array.getElem?_setIfInBounds_self_of_lt hlt];rfl
 ·show(w.heap.setIfInBounds p.bs _)[b]? =_;rw [Array.getElem?_setIfInBounds_ne fun e=>hb (.inr e.symm)]
end
section
variable {P:Program}{p:Gp}{tot:Nat}{v:VW}{b:Frame}{cs:List Frame}{N d i f:Nat}{df:List Deferred}{Γ:Gv}{ops:Array Oper}{rest:List Nat}{k:List Item}{o:Oper}{fn:Func}{xs:Array Operand}{ts:Array TypeId}
theorem EZ{s:Ph}{u:lz→Value}{W:World→lz→World}(hs:s≠.quit)(hm:s= .l3→∀a,QS N df Γ a→mayWake P (G (b.at a (.inRegion ops (i::rest)::k)) cs)=true)
 (step:∀a,QS N df Γ a→∀w q,p.At w q→s.pre tot q→stepG P false (G (b.at a (.inRegion ops (i::rest)::k)) cs) w= .go (G (b.at (a.put (some d) (u q)) (.inRegion ops rest::k)) cs) (W w q) (s.evs p tot))
 (eff:∀w q,p.At w q→s.pre tot q→p.Eff w (W w q) (s.eff tot q)) (h:∀v' q,s.pre tot q→Qt (Ww P p tot (s.nx tot q)) v' b cs N df (.inRegion ops rest::k) ((d,u q)::Γ)) (hN:Nat.blt d N=true:=by exact rfl):
 Qt (Ww P p tot s) v b cs N df (.inRegion ops (i::rest)::k) Γ:=fun a ha=>
 .act hs (fun e=>hm e a ha) (fun v1 q=>b.at (a.put (some d) (u q)) (.inRegion ops rest::k)) (fun _ _=>cs) (fun v1 q=>W v1.toWorld q) (fun v1 q _ hat hp=>step a ha _ q hat hp) (fun v1 q _ hat hp=>eff _ q hat hp) fun v1 q _ _ hp=>h _ q hp _ (ha.put hN)
theorem JW{its:List Item}(h:Qt (TQ P 1) v b cs N df its Γ):Qt (Ww P p tot .quit) v b cs N df its Γ:=fun a ha=>let ⟨m,hm⟩:=h a ha; .quit m hm
theorem Ql(ho:ops[i]? =some o)(hop:o.op= .call { callee:=.value (.func f),args:=xs,argTypes:=ts })(hf:P.funcs[f]? =some fn)(hb:fn.body.isNone=true)(a:Act):mayWake P (G (b.at a (.inRegion ops (i::rest)::k)) cs)=true:=by
 have hb:fn.body=none:=by simpa using hb
 have he:(b.at a (.inRegion ops (i::rest)::k)).eval (.func f)= .func (.func f) #[] #[]:=rfl;simp only [Frame.at] at he;simp [mayWake,G,Frame.at,ho,hop,he,hf,hb]
end
theorem Hi{P:Program}{Wl:World→Prop}{Γ:Gv}{o:Oper}{p q:Operand}{TT T':TypeId}{k k':IntKind}{n m z:Int}(ho:o.op= .binOp .shl TT p q T')(e1:ev Γ p=some (.int k n))(e2:ev Γ q=some (.int k' m))(h:0≤m)(hz:np k n m=z):OV P Wl o Γ (.int k z):=hz▸Qn ho e1 e2 h
theorem tJ{P:Program}{Wl:World→Prop}{Γ:Gv}{o:Oper}{p q:Operand}{TT T':TypeId}{k k':IntKind}{n m z:Int}(ho:o.op= .binOp .shr TT p q T')(e1:ev Γ p=some (.int k n))(e2:ev Γ q=some (.int k' m))(h:0≤m)(hz:iI k n m=z):OV P Wl o Γ (.int k z):=hz▸Qm ho e1 e2 h
theorem hC{P:Program}{Wl:World→Prop}{Γ:Gv}{o:Oper}{p:Operand}{TT T':TypeId}{k k':IntKind}{n z:Int}(ho:o.op= .convert TT T' p)(hT:P.underlying TT=some (.int k))(hT':P.underlying T'=some (.int k'))(e:ev Γ p=some (.int k n))(hz:k'.wrap n=z):OV P Wl o Γ (.int k' z):=hz▸NZ ho hT hT' e
section
variable {P:Program}{L:WgLink}{p:Gp}{tot:Nat}{v:VW}{b:Frame}{cs:List Frame}{N:Nat}{df:List Deferred}{Γ:Gv}
theorem GE{q:lz}{cc:Nat}{its:List Item}(hcc:q.c - 1=cc)(p1:1≤q.c)(p3:q.wt≤1)
 (h1:∀(g:Bool),sU .gtr .i32 (cc:Int) 0=some (.bool g)→(g=true∨q.wt=0)→∀hT:Mv P (fun _=>True) false (TQ P 1),Qt (TQ P 1) v b cs N df its Γ)
 (h2:sU .gtr .i32 (cc:Int) 0=some (.bool false)→q.wt=1→∀hT:Mv P p.Live false (Ww P p tot .l1),Qt (Ww P p tot .l1) v b cs N df its Γ):Qt (Ww P p tot (Ph.nx tot .deaf q)) v b cs N df its Γ:=by
 by_cases hd:2≤q.c∨q.wt=0
 ·
  rw [show Ph.nx tot .deaf q= .quit by simp only [Ph.nx,if_pos hd]];by_cases hc0:0 < cc
  ·exact JW (h1 true (by simp [sU];omega) (.inl rfl) wT)
  ·exact JW (h1 false (by simp [sU];omega) (.inr (by omega)) wT)
 ·
  rw [show Ph.nx tot .deaf q= .l1 by simp only [Ph.nx,if_neg hd]];exact h2 (by simp [sU];omega) (by omega) (tj (by simp))
theorem Bt(H:WgLib P L)(hne:p.bw≠p.bs){m:Nat}(hm:¬m < tot)(hq:∀v',Qr (TQ P 0) v' b cs N [] Γ):Qr (Ww P p tot (.work m)) v b cs N [dcall L.done #[.pointer (some p.stA)]] Γ:=by
 have hT:Mv P p.Live false (Ww P p tot (.work m)):=tj (by simp);refine Qr.enter (d5:=[.pointer (some p.stA)]) hT H.f_done (by kernel_rfl) rfl rfl fun c hc hk=>?_;refine qa ?_;refine Qt.call (d5:=[.pointer (some p.stA),.int .i64 (-1)]) hT rfl rfl H.f_add (by kernel_rfl) rfl rfl fun c1 hk1=>?_
 have fin1:∀v' Γ',Qr (TQ P 1) v' (base L.add) (c1::c::cs) 117 [dcall L.enable #[]] Γ':=fun v' Γ'=>
  Qr.mark SJ (IE H) (l9 wT rfl H.f_add rfl (hk1 (TQ P 0) v' _ (zG wT (Qt.fin wT (GR wT rfl H.f_done rfl hc (hk (TQ P 0) v' (hq v')))))))
 refine qa ?_;refine Qt.cond hT true ?_;refine qa ?_;refine Qt.op hT rfl (gX (u:=.bool true) rfl rfl rfl rfl) ?_;refine qa ?_;refine Qt.cond hT true ?_;refine qa ?_;refine Qt.op hT rfl (py rfl (nH (off:=0) (n:=1) H.underlying_tWgP H.underlying_tUP H.sizeOf_tWg (by decide)) rfl) ?_;refine qs (Ww.rl hm) (QG H) rfl rfl rfl ?_;replace hT:Mv P p.Live false (Ww P p tot .rel):=tj (by simp);refine qa ?_;refine qu SA (IF H) rfl rfl ?_;replace hT:Mv P p.Live false (Ww P p tot .deaf):=tj (by simp);refine qa ?_;refine Qt.defer (d5:=[]) hT rfl rfl rfl ?_;refine qa ?_;refine BR hT (NH H) rfl rfl ?_;refine qa ?_;refine Qt.cond hT false ?_;refine qa ?_;refine Qt.op hT rfl (Hk rfl rfl) ?_;refine Qt.op hT rfl (eC (k:=0) rfl (dA (n:=0) H.underlying_tWg rfl H.sizeOf_tAU) rfl) ?_;refine qa ?_;refine Qt.op hT rfl (hC (z:=18446744073709551615) rfl H.underlying_t3 H.underlying_tU64 rfl (by decide)) ?_;refine Qt.op hT rfl (Hi (z:=18446744069414584320) rfl rfl rfl (by decide) (by decide)) ?_;refine Qt.call (d5:=[.pointer (some p.stA),.int .u64 18446744069414584320]) hT rfl rfl H.f_uAdd (by kernel_rfl) rfl rfl fun c2 hk2=>?_;refine qa ?_;refine Qt.op hT rfl (Hk rfl rfl) ?_;refine Qt.op hT rfl (eC (k:=0) rfl (dA (n:=0) H.underlying_tAU rfl H.sizeOf_tU64) rfl) ?_;refine qa ?_;refine EZ (d:=9) (s:=.deaf) (u:=fun q=>.int .u64 (((q.c - 1) * 4294967296+q.wt:Nat):Int)) (W:=fun w q=>w.setCell p.stA (.int .u64 (((q.c - 1) * 4294967296+q.wt:Nat):Int))) (by simp) (fun e=>by cases e) (fun a ha w q hat hp=>?_) (fun w q hat _=>Gp.Eff.st hne hat) fun v' q hp=>?_
 ·obtain⟨p1,p2,p3,p4⟩:=hp;have hw:IntKind.u64.wrap (((q.c * 4294967296+q.wt:Nat):Int)+18446744069414584320)=(((q.c - 1) * 4294967296+q.wt:Nat):Int):=by rw [IntKind.wrap_u64];omega
  refine(stepG_add_atomic rfl (aA rfl _) (by exact fun h=>nomatch h) rfl H.f_addU64 (by kernel_rfl) (by kernel_rfl) (by kernel_rfl) .u64 (by kernel_rfl) (ad:=p.stA) (ha.ev rfl) (ha.ev rfl) hat.c0 hat.f0).trans ?_;rw [hw];rfl
 obtain⟨p1,p2,p3,p4⟩:=hp;generalize hcc:q.c - 1=cc;have hlt:cc < 2147483648:=by omega
 refine GE hcc p1 p3 (fun g hg hw hT=>?_) (fun hg hw hT=>?_)
 ·rcases(show q.wt=0∨q.wt=1 by omega) with hw0 |hw0
  ·rw [hw0];refine qa ?_;refine Qt.ret hT (gV hT rfl H.f_uAdd rfl rfl (hk2 _ _ _ ?_));refine qa ?_;refine Qt.op hT rfl (gX (u:=.int .u64 0) rfl rfl rfl (congrArg (fun z=>some (Value.int .u64 z)) (xF hlt (by decide)))) ?_;refine qb ?_;refine Qt.op hT rfl (tJ (z:=cc) rfl rfl rfl (by decide) (xE hlt (by decide))) ?_;refine Qt.op hT rfl (hC (z:=cc) rfl H.underlying_tU64 H.underlying_t21 rfl (zZ hlt)) ?_;refine qa ?_;refine Qt.op hT rfl (gX (u:=.int .u64 0) rfl rfl rfl (congrArg (fun z=>some (Value.int .u64 z)) (xC hlt (by decide)))) ?_;refine Qt.op hT rfl (hC (z:=0) rfl H.underlying_tU64 H.underlying_tU32 rfl rfl) ?_;refine qb ?_;refine Qt.op hT rfl (gX (u:=.bool g) rfl rfl rfl hg) ?_;cases g
   ·refine qb ?_;exact Qt.ret hT (fin1 _ _)
   ·refine qb ?_;exact Qt.ret hT (fin1 _ _)
  ·rw [hw0];have hgt:g=true:=hw.elim id fun e=>by omega
   subst hgt;refine qa ?_;refine Qt.ret hT (gV hT rfl H.f_uAdd rfl rfl (hk2 _ _ _ ?_));refine qa ?_;refine Qt.op hT rfl (gX (u:=.int .u64 0) rfl rfl rfl (congrArg (fun z=>some (Value.int .u64 z)) (xF hlt (by decide)))) ?_;refine qb ?_;refine Qt.op hT rfl (tJ (z:=cc) rfl rfl rfl (by decide) (xE hlt (by decide))) ?_;refine Qt.op hT rfl (hC (z:=cc) rfl H.underlying_tU64 H.underlying_t21 rfl (zZ hlt)) ?_;refine qa ?_;refine Qt.op hT rfl (gX (u:=.int .u64 1) rfl rfl rfl (congrArg (fun z=>some (Value.int .u64 z)) (xC hlt (by decide)))) ?_;refine Qt.op hT rfl (hC (z:=1) rfl H.underlying_tU64 H.underlying_tU32 rfl rfl) ?_;refine qb ?_;refine Qt.op hT rfl (gX (u:=.bool true) rfl rfl rfl hg) ?_;refine qb ?_;exact Qt.ret hT (fin1 _ _)
 ·rw [hw];have hcc0:cc=0:=by simp [sU] at hg;omega
  subst hcc0;refine qa ?_;refine Qt.ret hT (gV hT rfl H.f_uAdd rfl rfl (hk2 _ _ _ ?_));refine qa ?_;refine Qt.op hT rfl (gX (u:=.int .u64 0) rfl rfl rfl (congrArg (fun z=>some (Value.int .u64 z)) (xF hlt (by decide)))) ?_;refine qb ?_;refine Qt.op hT rfl (tJ (z:=(0:Nat)) rfl rfl rfl (by decide) (xE hlt (by decide))) ?_;refine Qt.op hT rfl (hC (z:=(0:Nat)) rfl H.underlying_tU64 H.underlying_t21 rfl (zZ hlt)) ?_;refine qa ?_;refine Qt.op hT rfl (gX (u:=.int .u64 1) rfl rfl rfl (congrArg (fun z=>some (Value.int .u64 z)) (xC hlt (by decide)))) ?_;refine Qt.op hT rfl (hC (z:=1) rfl H.underlying_tU64 H.underlying_tU32 rfl rfl) ?_;refine qb ?_;refine Qt.op hT rfl (eC (k:=0) rfl (dA (n:=0) H.underlying_tWg rfl H.sizeOf_tAU) rfl) ?_;refine Qt.call (d5:=[.pointer (some p.stA)]) hT rfl rfl H.f_uLoad (by kernel_rfl) rfl rfl fun c3 hk3=>?_;refine qb ?_;refine Qt.op hT rfl (eC (k:=0) rfl (dA (n:=0) H.underlying_tAU rfl H.sizeOf_tU64) rfl) ?_;refine EZ (d:=6) (s:=.l1) (u:=fun q=>.int .u64 1) (W:=fun w q=>w) (by simp) (fun e=>by cases e) (fun a ha w q hat hp=>?_) (fun w q hat _=>Gp.Eff.refl hat) fun v' q hp=>?_
  ·obtain⟨p1,p2,p3⟩:=hp;have hc0:=hat.c0;rw [p1,p2] at hc0;exact(stepG_load_atomic rfl (aA rfl _) (by exact fun h=>nomatch h) rfl H.f_loadU64 (by kernel_rfl) (by kernel_rfl) (by kernel_rfl) .u64 (by kernel_rfl) (ad:=p.stA) (ha.ev rfl) hc0).trans rfl
  replace hT:Mv P p.Live false (Ww P p tot .l2):=tj (by simp);refine qb ?_;refine Qt.ret hT (gV hT rfl H.f_uLoad rfl rfl (hk3 _ _ _ ?_));refine qb ?_;refine Qt.op hT rfl (eC (k:=0) rfl (dA (n:=0) H.underlying_tWg rfl H.sizeOf_tAU) rfl) ?_;refine Qt.call (d5:=[.pointer (some p.stA),.int .u64 0]) hT rfl rfl H.f_uStore (by kernel_rfl) rfl rfl fun c4 hk4=>?_;refine qb ?_;refine Qt.op hT rfl (eC (k:=0) rfl (dA (n:=0) H.underlying_tAU rfl H.sizeOf_tU64) rfl) ?_;refine qb ?_;refine EZ (d:=8) (s:=.l2) (u:=fun q=>.tuple #[]) (W:=fun w q=>w.setCell p.stA (.int .u64 ((0 * 4294967296+0:Nat):Int))) (by simp) (fun e=>by cases e) (fun a ha w q hat hp=>?_) (fun w q hat _=>Gp.Eff.st hne hat) fun v' q hp=>?_
  ·exact(stepG_store_atomic rfl (aA rfl _) (by exact fun h=>nomatch h) rfl H.f_storeU64 (by kernel_rfl) (by kernel_rfl) (by kernel_rfl) (by kernel_rfl) (ad:=p.stA) (k:=.u64) (v:=0) (ha.ev rfl) (ha.ev rfl) hat.c0 hat.f0).trans rfl
  replace hT:Mv P p.Live false (Ww P p tot .l3):=tj (by simp);refine qb ?_;refine Qt.fin hT (l9 hT rfl H.f_uStore rfl (hk4 _ _ _ ?_));refine qb ?_;refine Qt.loop hT ?_;refine qb ?_;refine Qt.op hT rfl (eC (k:=1) rfl (dA (n:=0) H.underlying_tWg rfl H.sizeOf_tU32) rfl) ?_;refine EZ (d:=116) (s:=.l3) (u:=fun q=>.tuple #[]) (W:=fun w q=>w.setCell p.smA (.int .u32 ((q.sm+1:Nat):Int))) (by simp) (fun _ a ha=>Ql rfl rfl H.f_semrelease (by kernel_rfl) a) (fun a ha w q hat hp=>?_) (fun w q hat _=>Gp.Eff.sm hne hat) fun v' q hp=>?_
  ·obtain⟨p1,p2,p3⟩:=hp;have hw:IntKind.u32.wrap ((q.sm:Int)+1)=((q.sm+1:Nat):Int):=by rw [IntKind.wrap_u32];omega
   refine(stepG_semrelease rfl (aA rfl _) (by exact fun h=>nomatch h) rfl H.f_semrelease (by kernel_rfl) (by kernel_rfl) (by kernel_rfl) (by kernel_rfl) (ad:=p.smA) (by rw [Array.getElem?_map];exact congrArg some (ha.ev (x:=.tmp 115) rfl)) hat.c1 hat.f1).trans ?_;rw [hw];rfl
  refine JW ?_;replace hT:Mv P (fun _=>True) false (TQ P 1):=wT;refine qb ?_;refine Qt.op hT rfl (gX (u:=.int .u32 0) rfl rfl rfl rfl) ?_;refine qb ?_;refine Qt.inLoop hT ?_;refine qb ?_;refine Qt.exit hT rfl ?_;exact Qt.fin hT (fin1 _ _)
end
end K
end Go.Proofs.YtddneonghpmidaaGreatDoor
set_option linter.unusedVariables false
set_option maxRecDepth 20000
set_option maxHeartbeats 4000000
namespace Go.Proofs.YtddneonghpmidaaGreatDoor
namespace K
open Go Go.Conc Go.Conc.Lib
section
variable {P:Program}{p:Gp}{tot:Nat→Nat}{n md:Nat}{rg:Bool}{pd:Nat}{jn:Bool}{Iv:(Nat→Ph)→Prop}{Gd:Machine→Trace→Prop}
def Nx(P:Program)(Gd:Machine→Trace→Prop):Prop:=∀m m' t ops,stepT P m=(.next m',ops)→Gd m' (t++ops)→Gd m t
theorem CY(fn:FuncId)(pos:String):lA p 0 (MemOp.ofEvents 0 fn pos #[]):=⟨fun op ho=>by simp [MemOp.ofEvents] at ho,fun op ho=>by simp [MemOp.ofEvents] at ho,fun op ho=>by simp [MemOp.ofEvents] at ho⟩
theorem SH(hnx:Nx P Gd)(hK:Kp tot n Iv):Mv P p.Live true (TW P p tot n md rg pd jn Iv Gd):=fun v fr fr' cs cs' h1 h=>tl hnx hK CY (fun w hl=>h1 w hl) h
theorem PM(hnx:Nx P Gd)(hK:Kp tot n Iv):Wd P p.Live true #[kP .disable] (TW P p tot n md rg pd jn Iv Gd) (TW P p tot n (md+1) rg pd jn Iv Gd):=fun v fr fr' cs cs' h1 h=>tl hnx hK (rP rfl fun a e=>by cases e) (fun w hl=>h1 w hl) h
theorem SI(hnx:Nx P Gd)(hK:Kp tot n Iv):Wd P p.Live true #[kP .enable] (TW P p tot n (md+1) rg pd jn Iv Gd) (TW P p tot n md rg pd jn Iv Gd):=fun v fr fr' cs cs' h1 h=>tl hnx hK (rP rfl fun a e=>by cases e) (fun w hl=>h1 w hl) h
theorem TW.rd(hnx:Nx P Gd)(hK:Kp tot n Iv){a:Addr}(ha:p.sh a.block):Wd P p.Live true #[kP (.read a)] (TW P p tot n md rg pd jn Iv Gd) (TW P p tot n md rg pd jn Iv Gd):=fun v fr fr' cs cs' h1 h=>tl hnx hK (vJ (wr:=false) ha) (fun w hl=>h1 w hl) h
theorem PK(hnx:Nx P Gd)(hK:Kp tot n Iv){a:Addr}(ha:p.sh a.block):Wd P p.Live true #[kP (.write a)] (TW P p tot n md rg pd jn Iv Gd) (TW P p tot n md rg pd jn Iv Gd):=fun v fr fr' cs cs' h1 h=>tl hnx hK (vJ (wr:=true) ha) (fun w hl=>h1 w hl) h
theorem M4(hnx:Nx P Gd):Wd P p.Live true #[kP (.acquire p.stA)] (TW P p tot n 0 rg pd false (uO n) Gd) (TW P p tot n 0 rg pd true (uO n) Gd):=fun v fr fr' cs cs' h1 h=>TW.acq hnx (fun w hl=>h1 w hl) h
variable {v:VW}{b:Frame}{cs:List Frame}{N d i f:Nat}{df:List Deferred}{Γ:Gv}{ops:Array Oper}{rest:List Nat}{k:List Item}
theorem Vj(hnx:Nx P Gd)(hK:Kp tot n Iv){es:lz→Array Event}{u:lz→Value}{W:World→lz→World}{e:lz→lz}{rg':lz→Bool}{pd':lz→Nat}{Iv':lz→(Nat→Ph)→Prop}
 (hu:∀q fn pos,lA p 0 (MemOp.ofEvents 0 fn pos (es q)))
 (step:∀a,QS N df Γ a→∀w q,p.At w q→(∃sg,Bk n tot sg rg pd q∧Iv sg)→stepG P true (G (b.at a (.inRegion ops (i::rest)::k)) cs) w= .go (G (b.at (a.put (some d) (u q)) (.inRegion ops rest::k)) cs) (W w q) (es q))
 (eff:∀w q,p.At w q→p.Eff w (W w q) (e q)) (bks:∀q sg,Bk n tot sg rg pd q→Iv sg→Bk n tot sg (rg' q) (pd' q) (e q)∧Iv' q sg)
 (h:∀v' q,(∃sg,Bk n tot sg rg pd q∧Iv sg)→Qt (TW P p tot n (deafBehind md (es q)) (rg' q) (pd' q) jn (Iv' q) Gd) v' b cs N df (.inRegion ops rest::k) ((d,u q)::Γ)) (hN:Nat.blt d N=true:=by exact rfl):
 Qt (TW P p tot n md rg pd jn Iv Gd) v b cs N df (.inRegion ops (i::rest)::k) Γ:=fun a ha=>
 TW.act hnx hK hu (fun v1 q sg _ hat hbk hiv=>⟨step a ha _ q hat ⟨sg,hbk,hiv⟩,eff _ q hat,bks q sg hbk hiv⟩) fun v1 q _ _ hb=>h _ q hb _ (ha.put hN)
end
def VR(p:Gp)(v0 v:VW):Prop:=cd v0 v∧∀b,p.sh b→v.A b
theorem VR.step{p:Gp}{v0 v v1:VW}{w':World}{q':lz}(h:VR p v0 v)(hr:cd v v1)(he:p.Eff v1.toWorld w' q'):VR p v0 (v1.upd w'):=by
 have hsh:∀b,p.sh b→v1.A b:=fun b hb=>hr.sub b (h.2 b hb);refine⟨(h.1.trans hr).trans ⟨fun b hb ha=>he.keep b fun x=>ha (hsh b x),Nat.le_of_eq he.size.symm,fun _ h=>h,fun _ h=>.inl h,fun h b hb=>?_,rfl,he.os,he.tape,he.output⟩,hsh⟩;show b < w'.heap.size;rw [he.size];exact h b hb
def TV(v0:VW)(P:Program)(p:Gp)(tot:Nat→Nat)(n md:Nat)(rg:Bool)(pd:Nat)(jn:Bool)(Iv:(Nat→Ph)→Prop)(Gd:Machine→Trace→Prop):Tq:=fun v fr cs=>VR p v0 v→TW P p tot n md rg pd jn Iv Gd v fr cs
def WV(v0:VW)(P:Program)(p:Gp)(tot:Nat)(s:Ph):Tq:=fun v fr cs=>VR p v0 v→Ww P p tot s v fr cs
section
variable {P:Program}{p:Gp}{tot:Nat→Nat}{n md:Nat}{rg:Bool}{pd:Nat}{jn:Bool}{Iv:(Nat→Ph)→Prop}{Gd:Machine→Trace→Prop}{v0:VW}
theorem f6(hnx:Nx P Gd)(hK:Kp tot n Iv):Mv P p.Live true (TV v0 P p tot n md rg pd jn Iv Gd):=fun v fr fr' cs cs' h1 h hv=>SH hnx hK v fr fr' cs cs' h1 (h hv)
theorem JV(hnx:Nx P Gd)(hK:Kp tot n Iv):Wd P p.Live true #[kP .disable] (TV v0 P p tot n md rg pd jn Iv Gd) (TV v0 P p tot n (md+1) rg pd jn Iv Gd):=fun v fr fr' cs cs' h1 h hv=>PM hnx hK v fr fr' cs cs' h1 (h hv)
theorem E0(hnx:Nx P Gd)(hK:Kp tot n Iv):Wd P p.Live true #[kP .enable] (TV v0 P p tot n (md+1) rg pd jn Iv Gd) (TV v0 P p tot n md rg pd jn Iv Gd):=fun v fr fr' cs cs' h1 h hv=>SI hnx hK v fr fr' cs cs' h1 (h hv)
theorem TV.rd(hnx:Nx P Gd)(hK:Kp tot n Iv){a:Addr}(ha:p.sh a.block):Wd P p.Live true #[kP (.read a)] (TV v0 P p tot n md rg pd jn Iv Gd) (TV v0 P p tot n md rg pd jn Iv Gd):=fun v fr fr' cs cs' h1 h hv=>TW.rd hnx hK ha v fr fr' cs cs' h1 (h hv)
theorem PN(hnx:Nx P Gd)(hK:Kp tot n Iv){a:Addr}(ha:p.sh a.block):Wd P p.Live true #[kP (.write a)] (TV v0 P p tot n md rg pd jn Iv Gd) (TV v0 P p tot n md rg pd jn Iv Gd):=fun v fr fr' cs cs' h1 h hv=>PK hnx hK ha v fr fr' cs cs' h1 (h hv)
theorem E1(hnx:Nx P Gd):Wd P p.Live true #[kP (.acquire p.stA)] (TV v0 P p tot n 0 rg pd false (uO n) Gd) (TV v0 P p tot n 0 rg pd true (uO n) Gd):=fun v fr fr' cs cs' h1 h hv=>M4 hnx v fr fr' cs cs' h1 (h hv)
variable {v:VW}{b:Frame}{cs:List Frame}{N d i f:Nat}{df:List Deferred}{Γ:Gv}{ops:Array Oper}{rest:List Nat}{k:List Item}
theorem BL(hnx:Nx P Gd)(hK:Kp tot n Iv){es:lz→Array Event}{u:lz→Value}{W:World→lz→World}{e:lz→lz}{rg':lz→Bool}{pd':lz→Nat}{Iv':lz→(Nat→Ph)→Prop}
 (hu:∀q fn pos,lA p 0 (MemOp.ofEvents 0 fn pos (es q)))
 (step:∀a,QS N df Γ a→∀w q,p.At w q→(∃sg,Bk n tot sg rg pd q∧Iv sg)→stepG P true (G (b.at a (.inRegion ops (i::rest)::k)) cs) w= .go (G (b.at (a.put (some d) (u q)) (.inRegion ops rest::k)) cs) (W w q) (es q))
 (eff:∀w q,p.At w q→p.Eff w (W w q) (e q)) (bks:∀q sg,Bk n tot sg rg pd q→Iv sg→Bk n tot sg (rg' q) (pd' q) (e q)∧Iv' q sg)
 (h:∀v' q,(∃sg,Bk n tot sg rg pd q∧Iv sg)→Qt (TV v0 P p tot n (deafBehind md (es q)) (rg' q) (pd' q) jn (Iv' q) Gd) v' b cs N df (.inRegion ops rest::k) ((d,u q)::Γ)) (hN:Nat.blt d N=true:=by exact rfl):
 Qt (TV v0 P p tot n md rg pd jn Iv Gd) v b cs N df (.inRegion ops (i::rest)::k) Γ:=fun a ha hv=>
 TW.act hnx hK hu (fun v1 q sg _ hat hbk hiv=>⟨step a ha _ q hat ⟨sg,hbk,hiv⟩,eff _ q hat,bks q sg hbk hiv⟩) fun v1 q hr hat hb=>h _ q hb _ (ha.put hN) (hv.step hr (eff _ q hat))
end
section
variable {P:Program}{p:Gp}{tot:Nat}{v0 v:VW}{b:Frame}{cs:List Frame}{N d i:Nat}{df:List Deferred}{Γ:Gv}{ops:Array Oper}{rest:List Nat}{k:List Item}
theorem JR{s:Ph}(hs:s≠.quit):Mv P p.Live false (WV v0 P p tot s):=fun v fr fr' cs cs' h1 h hv=>tj hs v fr fr' cs cs' h1 (h hv)
theorem SB{s:Ph}{u:lz→Value}{W:World→lz→World}(hs:s≠.quit)(hm:s= .l3→∀a,QS N df Γ a→mayWake P (G (b.at a (.inRegion ops (i::rest)::k)) cs)=true)
 (step:∀a,QS N df Γ a→∀w q,p.At w q→s.pre tot q→stepG P false (G (b.at a (.inRegion ops (i::rest)::k)) cs) w= .go (G (b.at (a.put (some d) (u q)) (.inRegion ops rest::k)) cs) (W w q) (s.evs p tot))
 (eff:∀w q,p.At w q→s.pre tot q→p.Eff w (W w q) (s.eff tot q)) (h:∀v' q,s.pre tot q→Qt (WV v0 P p tot (s.nx tot q)) v' b cs N df (.inRegion ops rest::k) ((d,u q)::Γ)) (hN:Nat.blt d N=true:=by exact rfl):
 Qt (WV v0 P p tot s) v b cs N df (.inRegion ops (i::rest)::k) Γ:=fun a ha hv=>
 .act hs (fun e=>hm e a ha) (fun v1 q=>b.at (a.put (some d) (u q)) (.inRegion ops rest::k)) (fun _ _=>cs) (fun v1 q=>W v1.toWorld q) (fun v1 q _ hat hp=>step a ha _ q hat hp) (fun v1 q _ hat hp=>eff _ q hat hp) fun v1 q hr hat hp=>h _ q hp _ (ha.put hN) (hv.step hr (eff _ q hat hp))
end
section
variable {P:Program}{L:WgLink}{p:Gp}{tot:Nat→Nat}{n:Nat}{Gd:Machine→Trace→Prop}{v0 v:VW}{c:Frame}{cs:List Frame}
theorem MX(hnx:Nx P Gd)(H:WgLib P L)(hne:p.bw≠p.bs){j:Nat}(hj:j < 1000)(hk:∀v',TV v0 P p tot n 0 false 1 false (rm n j) Gd v' (c.finish (.tuple #[])) cs):
 Qt (TV v0 P p tot n 0 false 0 false (rm n j) Gd) v (base L.add) (c::cs) 117 [] [.code ((addFn L).body.getD .skip)] (ent 0 [.pointer (some p.stA),.int .i64 1]):=by
 have hT:=f6 (v0:=v0) (p:=p) (md:=0) (rg:=false) (pd:=0) (jn:=false) hnx (rj (tot:=tot) (n:=n) (B:=j))
 refine qb ?_
 refine qu (JV hnx rj) (IF H) rfl rfl ?_
 replace hT:=f6 (v0:=v0) (p:=p) (md:=1) (rg:=false) (pd:=0) (jn:=false) hnx (rj (tot:=tot) (n:=n) (B:=j))
 refine qb ?_
 refine Qt.defer (d5:=[]) hT rfl rfl rfl ?_
 refine qb ?_
 refine BR hT (NH H) rfl rfl ?_
 refine qb ?_
 refine Qt.op hT rfl (eC (k:=0) rfl (dA (n:=0) H.underlying_tWg rfl H.sizeOf_tAU) rfl) ?_
 refine qb ?_
 refine Qt.op hT rfl (hC (z:=1) rfl H.underlying_t3 H.underlying_tU64 rfl (by decide)) ?_
 refine Qt.op hT rfl (Hi (z:=4294967296) rfl rfl rfl (by decide) (by decide)) ?_
 refine Qt.call (d5:=[.pointer (some p.stA),.int .u64 4294967296]) hT rfl rfl H.f_uAdd (by kernel_rfl) rfl rfl fun c2 hk2=>?_
 refine qb ?_
 refine Qt.op hT rfl (eC (k:=0) rfl (dA (n:=0) H.underlying_tAU rfl H.sizeOf_tU64) rfl) ?_
 refine qb ?_
 refine BL (d:=9) hnx rj (es:=fun _=> #[vc p.stA,zR p.stA]) (u:=fun q=>.int .u64 (((q.c+1) * 4294967296+0:Nat):Int)) (W:=fun w q=>w.setCell p.stA (.int .u64 (((q.c+1) * 4294967296+0:Nat):Int))) (e:=fun q=>{ q with c:=q.c+1,wt:=0 }) (rg':=fun _=>false) (pd':=fun _=>1) (Iv':=fun _=>rm n j)
  (fun q fn pos=>qF (fun e he=>by
   simp at he;rcases he with rfl |rfl
   ·exact .inl ⟨_,.inl rfl,.inl rfl⟩
   ·exact .inl ⟨_,.inr rfl,.inl rfl⟩) fn pos) (fun a ha w q hat hb=>?_) (fun w q hat=>Gp.Eff.st hne hat) (fun q sg hb hi=>⟨?_,hi⟩) fun v' q hb=>?_
 ·
  obtain⟨sg,hb,hi⟩:=hb;have hwt:=(hb.un rfl).1;have hc:=hb.c;have hi:al n sg Ph.act≤j:=hi;have hw:IntKind.u64.wrap (((q.c * 4294967296+q.wt:Nat):Int)+4294967296)=(((q.c+1) * 4294967296+0:Nat):Int):=by rw [IntKind.wrap_u64];omega
  refine(stepG_add_atomic rfl (aA rfl _) (by exact fun h=>nomatch h) rfl H.f_addU64 (by kernel_rfl) (by kernel_rfl) (by kernel_rfl) .u64 (by kernel_rfl) (ad:=p.stA) (ha.ev rfl) (ha.ev rfl) hat.c0 hat.f0).trans ?_;rw [hw];rfl
 ·
  have hun:=hb.un rfl;have hc:=hb.c;have hi:al n sg Ph.act≤j:=hi;exact⟨hb.x,by show q.c+1=_;omega,fun _=>⟨rfl,hun.2.1,hun.2.2.1,hun.2.2.2⟩,fun e=>(by cases e),hb.le,hb.s0,by show q.c+1 < _;omega,hb.tb⟩
 obtain⟨sg,hb,hi⟩:=hb
 have hc:=hb.c
 have hi:al n sg Ph.act≤j:=hi
 have hlt:q.c+1 < 2147483648:=by omega
 have hpos:0 < q.c+1:=by omega
 replace hT:=f6 (v0:=v0) (p:=p) (md:=1) (rg:=false) (pd:=1) (jn:=false) hnx (rj (tot:=tot) (n:=n) (B:=j))
 clear hb
 generalize q.c+1=cc at hlt hpos
 refine qb ?_
 refine Qt.ret hT (gV hT rfl H.f_uAdd rfl rfl (hk2 _ _ _ ?_))
 refine qb ?_
 refine Qt.op hT rfl (gX (u:=.int .u64 0) rfl rfl rfl (congrArg (fun z=>some (Value.int .u64 z)) (xF hlt (by decide)))) ?_
 refine qb ?_
 refine Qt.op hT rfl (tJ (z:=cc) rfl rfl rfl (by decide) (xE hlt (by decide))) ?_
 refine Qt.op hT rfl (hC (z:=cc) rfl H.underlying_tU64 H.underlying_t21 rfl (zZ hlt)) ?_
 refine qa ?_
 refine Qt.op hT rfl (gX (u:=.int .u64 0) rfl rfl rfl (congrArg (fun z=>some (Value.int .u64 z)) (xC hlt (by decide)))) ?_
 refine Qt.op hT rfl (hC (z:=0) rfl H.underlying_tU64 H.underlying_tU32 rfl rfl) ?_
 refine qb ?_
 refine sf hT rfl (hC (z:=1) rfl H.underlying_t3 H.underlying_t21 rfl (by decide)) ?_
 have hgt:sU .gtr .i32 (cc:Int) 0=some (.bool true):=by simp [sU];omega
 rcases Decidable.em (cc=1) with h1 |h1
 ·
  refine sf hT rfl (gX (u:=.bool true) rfl rfl rfl (by simp [sU];omega)) ?_;refine qb ?_;refine Qt.op hT rfl (eC (k:=1) rfl (dA (n:=0) H.underlying_tWg rfl H.sizeOf_tU32) rfl) ?_;refine Qt.op hT rfl (py rfl (nH (off:=1) (n:=0) H.underlying_tPU32 H.underlying_tUP H.sizeOf_tU32 (by decide)) rfl) ?_;refine qs (TV.rd hnx rj (.inl rfl)) (TN H) rfl rfl rfl ?_;refine qb ?_;refine Qt.op hT rfl (gX (u:=.bool true) rfl rfl rfl hgt) ?_;refine qb ?_;exact Qt.ret hT (Qr.mark (E0 hnx rj) (IE H) (l9 (f6 hnx rj) rfl H.f_add rfl (hk _)))
 ·
  refine sf hT rfl (gX (u:=.bool false) rfl rfl rfl (by simp [sU];omega)) ?_;refine qb ?_;refine Qt.op hT rfl (gX (u:=.bool true) rfl rfl rfl hgt) ?_;refine qb ?_;exact Qt.ret hT (Qr.mark (E0 hnx rj) (IE H) (l9 (f6 hnx rj) rfl H.f_add rfl (hk _)))
end
end K
end Go.Proofs.YtddneonghpmidaaGreatDoor
set_option linter.unusedVariables false
set_option maxRecDepth 20000
set_option maxHeartbeats 4000000
namespace Go.Proofs.YtddneonghpmidaaGreatDoor
namespace K
open Go Go.Conc Go.Conc.Lib
section
variable {P:Program}{L:WgLink}{p:Gp}{tot:Nat→Nat}{n:Nat}{Gd:Machine→Trace→Prop}{v0 v:VW}{b c:Frame}{cs:List Frame}{N d i:Nat}{df:List Deferred}{Γ:Gv}{ops:Array Oper}{rest:List Nat}{k:List Item}
theorem MN{sg:Nat→Ph}{q:lz}(h:Bk n tot sg false 0 q)(hc:q.c=0):uO n sg:=fun i hi=>by
 have h0:=h.c
 have hun:=h.un rfl
 have a1:=qY (sg:=sg) (f:=Ph.act) (by omega) hi
 have a2:=qY (sg:=sg) (f:=iH) (by omega) hi
 have a3:=qY (sg:=sg) (f:=jr) (by omega) hi
 cases hx:sg i <;> rw [hx] at a1 a2 a3 <;> simp [Ph.act,iH,jr] at a1 a2 a3
theorem vi{a:Addr}(h:p.sh a.block)(fn:FuncId)(pos:String):lA p 0 (MemOp.ofEvents 0 fn pos #[vc a]):=qF (fun e he=>by
 simp at he;subst he;exact .inl ⟨_,.inl rfl,h⟩) fn pos
theorem HB{a:Addr}(h:p.sh a.block)(fn:FuncId)(pos:String):lA p 0 (MemOp.ofEvents 0 fn pos #[vc a,zR a]):=qF (fun e he=>by
 simp at he
 rcases he with rfl |rfl
 ·
  exact .inl ⟨_,.inl rfl,h⟩
 ·
  exact .inl ⟨_,.inr rfl,h⟩) fn pos
theorem M6(hnx:Nx P Gd)(H:WgLib P L){B:Nat}(hk:∀v' cc,cc≤B→cc < 2147483648→TV v0 P p tot n 1 false 0 false (if cc=0 then uO n else rm n cc) Gd v' (c.finish (.int .u64 ((cc * 4294967296+0:Nat):Int))) cs):
 Qt (TV v0 P p tot n 1 false 0 false (rm n B) Gd) v (base L.uLoad) (c::cs) 7 [] [.code ((uLoadFn L).body.getD .skip)] (ent 0 [.pointer (some p.stA)]):=by
 have hT:=f6 (v0:=v0) (p:=p) (md:=1) (rg:=false) (pd:=0) (jn:=false) hnx (rj (tot:=tot) (n:=n) (B:=B))
 refine qb ?_
 refine Qt.op hT rfl (eC (k:=0) rfl (dA (n:=0) H.underlying_tAU rfl H.sizeOf_tU64) rfl) ?_
 refine BL (d:=6) hnx rj (es:=fun _=> #[vc p.stA]) (u:=fun q=>.int .u64 ((q.c * 4294967296+0:Nat):Int)) (W:=fun w q=>w) (e:=fun q=>q) (rg':=fun _=>false) (pd':=fun _=>0) (Iv':=fun q=>if q.c=0 then uO n else rm n q.c)
  (fun q=>vi (.inl rfl)) (fun a ha w q hat hb=>?_) (fun w q hat=>Gp.Eff.refl hat) (fun q sg hb hi=>⟨hb,?_⟩) fun v' q hb=>?_
 ·
  obtain⟨sg,hb,hi⟩:=hb;have hwt:=(hb.un rfl).1;have hc0:=hat.c0;rw [hwt] at hc0;exact(stepG_load_atomic rfl (aA rfl _) (by exact fun h=>nomatch h) rfl H.f_loadU64 (by kernel_rfl) (by kernel_rfl) (by kernel_rfl) .u64 (by kernel_rfl) (ad:=p.stA) (ha.ev rfl) hc0).trans rfl
 ·
  split
  ·rename_i e;exact MN hb e
  ·have:=hb.c;show al n sg Ph.act≤q.c;omega
 obtain⟨sg,hb,hi⟩:=hb
 have hc:=hb.c
 have hi:al n sg Ph.act≤B:=hi
 have hbig:=hb.big
 have hcB:q.c≤B:=by omega
 clear hb hc
 generalize q.c=cc at hcB hbig
 have hK:Kp tot n (if cc=0 then uO n else rm n cc):=by split;exact Ba;exact rj
 replace hT:=f6 (v0:=v0) (p:=p) (md:=1) (rg:=false) (pd:=0) (jn:=false) hnx hK
 refine qb ?_
 exact Qt.ret hT (gV hT rfl H.f_uLoad rfl rfl (hk _ _ hcB hbig))
theorem JU(hnx:Nx P Gd)(H:WgLib P L)(hk:∀v',TV v0 P p tot n 1 false 0 false (uO n) Gd v' (c.finish (.int .u64 0)) cs):
 Qt (TV v0 P p tot n 1 false 0 false (uO n) Gd) v (base L.uLoad) (c::cs) 7 [] [.code ((uLoadFn L).body.getD .skip)] (ent 0 [.pointer (some p.stA)]):=by
 have hT:=f6 (v0:=v0) (p:=p) (md:=1) (rg:=false) (pd:=0) (jn:=false) hnx (Ba (tot:=tot) (n:=n))
 refine qb ?_
 refine Qt.op hT rfl (eC (k:=0) rfl (dA (n:=0) H.underlying_tAU rfl H.sizeOf_tU64) rfl) ?_
 refine BL (d:=6) hnx Ba (es:=fun _=> #[vc p.stA]) (u:=fun q=>.int .u64 0) (W:=fun w q=>w) (e:=fun q=>q) (rg':=fun _=>false) (pd':=fun _=>0) (Iv':=fun q=>uO n)
  (fun q=>vi (.inl rfl)) (fun a ha w q hat hb=>?_) (fun w q hat=>Gp.Eff.refl hat) (fun q sg hb hi=>⟨hb,hi⟩) fun v' q hb=>?_
 ·
  obtain⟨sg,hb,hi⟩:=hb;have hwt:=(hb.un rfl).1;have hc:=hb.c;have hal:al n sg Ph.act=0:=oc fun i hin=>by rw [hi i hin];rfl
  have hc0:=hat.c0;rw [hwt,hc,hal] at hc0;exact(stepG_load_atomic rfl (aA rfl _) (by exact fun h=>nomatch h) rfl H.f_loadU64 (by kernel_rfl) (by kernel_rfl) (by kernel_rfl) .u64 (by kernel_rfl) (ad:=p.stA) (ha.ev rfl) hc0).trans rfl
 refine qb ?_
 exact Qt.ret hT (gV hT rfl H.f_uLoad rfl rfl (hk _))
theorem PO(hnx:Nx P Gd)(H:WgLib P L)(hne:p.bw≠p.bs){cc:Nat}(hcc:0 < cc)(hk1:∀v',TV v0 P p tot n 1 true 0 false Q6 Gd v' (c.finish (.bool true)) cs)(hk2:∀v',TV v0 P p tot n 1 false 0 false (rm n (cc - 1)) Gd v' (c.finish (.bool false)) cs):
 Qt (TV v0 P p tot n 1 false 0 false (rm n cc) Gd) v (base L.uCas) (c::cs) 13 [] [.code ((uCasFn L).body.getD .skip)] (ent 0 [.pointer (some p.stA),.int .u64 ((cc * 4294967296+0:Nat):Int),.int .u64 ((cc * 4294967296+1:Nat):Int)]):=by
 have hT:=f6 (v0:=v0) (p:=p) (md:=1) (rg:=false) (pd:=0) (jn:=false) hnx (rj (tot:=tot) (n:=n) (B:=cc))
 refine qb ?_
 refine Qt.op hT rfl (eC (k:=0) rfl (dA (n:=0) H.underlying_tAU rfl H.sizeOf_tU64) rfl) ?_
 refine qb ?_
 refine BL (d:=12) hnx rj (es:=fun q=>if q.c=cc then #[vc p.stA,zR p.stA] else #[vc p.stA]) (u:=fun q=>.bool (decide (q.c=cc))) (W:=fun w q=>if q.c=cc then w.setCell p.stA (.int .u64 ((cc * 4294967296+1:Nat):Int)) else w) (e:=fun q=>if q.c=cc then { q with c:=cc,wt:=1 } else q) (rg':=fun q=>decide (q.c=cc)) (pd':=fun _=>0) (Iv':=fun q=>if q.c=cc then Q6 else rm n (cc - 1))
  (fun q=>?_) (fun a ha w q hat hb=>?_) (fun w q hat=>?_) (fun q sg hb hi=>?_) fun v' q hb=>?_
 ·
  split
  ·exact HB (.inl rfl)
  ·exact vi (.inl rfl)
 ·
  obtain⟨sg,hb,hi⟩:=hb;have hwt:=(hb.un rfl).1;have hc0:=hat.c0;rw [hwt] at hc0;by_cases e:q.c=cc
  ·simp only [if_pos e,e,decide_true];rw [e] at hc0;exact(stepG_cas_hit rfl (aA rfl _) (by exact fun h=>nomatch h) rfl H.f_casU64 (by kernel_rfl) (by kernel_rfl) (by kernel_rfl) .u64 (by kernel_rfl) (ad:=p.stA) (ha.ev rfl) (ha.ev rfl) (ha.ev rfl) hc0 hat.f0).trans rfl
  ·simp only [if_neg e,decide_eq_false e];exact(stepG_cas_miss rfl (aA rfl _) (by exact fun h=>nomatch h) rfl H.f_casU64 (by kernel_rfl) (by kernel_rfl) (by kernel_rfl) .u64 (by kernel_rfl) (ad:=p.stA) (ha.ev rfl) (ha.ev rfl) (ha.ev rfl) hc0 hat.f0 (by omega)).trans rfl
 ·
  split
  ·exact Gp.Eff.st hne hat
  ·exact Gp.Eff.refl hat
 ·
  have hun:=hb.un rfl;have hc:=hb.c;have hi:al n sg Ph.act≤cc:=hi;by_cases e:q.c=cc
  ·simp only [if_pos e,decide_eq_true e];exact⟨⟨hb.x,by show cc=_;omega,fun h=>(by cases h),fun _=>⟨rfl,fun _=>⟨rfl,hun.2.1,hun.2.2.1,hun.2.2.2⟩,fun h=>absurd (show cc=0 from h) (by omega)⟩,hb.le,hb.s0,by show cc < _;have:=hb.big;omega,hb.tb⟩,trivial⟩
  ·simp only [if_neg e,decide_eq_false e];exact⟨hb,by show al n sg Ph.act≤cc - 1;omega⟩
 by_cases e:q.c=cc
 ·
  simp only [if_pos e,decide_eq_true e];replace hT:=f6 (v0:=v0) (p:=p) (md:=1) (rg:=true) (pd:=0) (jn:=false) hnx (SS (tot:=tot) (n:=n));refine qb ?_;exact Qt.ret hT (gV hT rfl H.f_uCas rfl rfl (hk1 _))
 ·
  simp only [if_neg e,decide_eq_false e];replace hT:=f6 (v0:=v0) (p:=p) (md:=1) (rg:=false) (pd:=0) (jn:=false) hnx (rj (tot:=tot) (n:=n) (B:=cc - 1));refine qb ?_;exact Qt.ret hT (gV hT rfl H.f_uCas rfl rfl (hk2 _))
theorem M5(hnx:Nx P Gd){u:lz→Value}(h0:∀a,QS N df Γ a→∀w q,p.At w q→q.sm=0→stepG P true (G (b.at a (.inRegion ops (i::rest)::k)) cs) w= .go { G (b.at a (.inRegion ops (i::rest)::k)) cs with status:=.blocked } w #[])
 (h1:∀a,QS N df Γ a→∀w q,p.At w q→q.sm=1→stepG P true (G (b.at a (.inRegion ops (i::rest)::k)) cs) w= .go (G (b.at (a.put (some d) (.tuple #[])) (.inRegion ops rest::k)) cs) (w.setCell p.smA (.int .u32 ((0:Nat):Int))) #[kP .disable,vc p.smA,zR p.smA,kP .enable]) (hne:p.bw≠p.bs)
 (h2:∀v',Qt (TV v0 P p tot n 1 false 0 false (uO n) Gd) v' b cs N df (.inRegion ops rest::k) ((d,.tuple #[])::Γ)) (hN:Nat.blt d N=true:=by exact rfl):Qt (TV v0 P p tot n 1 true 0 false Q6 Gd) v b cs N df (.inRegion ops (i::rest)::k) Γ:=fun a ha hv=>
 PL hnx (W:=fun w _=>w.setCell p.smA (.int .u32 ((0:Nat):Int))) (fun v1 q _ hat hq=>h0 a ha _ q hat hq) (fun v1 q _ hat hq=>⟨h1 a ha _ q hat hq,Gp.Eff.sm hne hat⟩) (fun v1 q hr hat=>h2 _ _ (ha.put hN) (hv.step hr (Gp.Eff.sm hne hat))) (by decide)
end
end K
end Go.Proofs.YtddneonghpmidaaGreatDoor
set_option linter.unusedVariables false
set_option maxRecDepth 20000
set_option maxHeartbeats 4000000
namespace Go.Proofs.YtddneonghpmidaaGreatDoor
namespace K
open Go Go.Conc Go.Conc.Lib
def zY(L:WgLink):Code:=match (waitFn L).body with
 |some (.seq _ (.block _ (.loop b)))=>b
 |_=>.skip
section
variable {P:Program}{L:WgLink}{p:Gp}{tot:Nat→Nat}{n:Nat}{Gd:Machine→Trace→Prop}{v0:VW}{c:Frame}{cs:List Frame}
theorem Fp(hnx:Nx P Gd)(H:WgLib P L)(hne:p.bw≠p.bs)(hk:∀v',TV v0 P p tot n 0 false 0 true (uO n) Gd v' (c.finish (.tuple #[])) cs):∀(B:Nat) v Γ,lv Γ 0=some (.pointer (some p.stA))→
 Qt (TV v0 P p tot n 1 false 0 false (rm n B) Gd) v (base L.wait) (c::cs) 84 [] [.code (zY L),.inLoop (zY L),.inBlock 0] Γ:=fun B=>by
 induction B using Nat.strongRecOn with
 |_ B ih=>
 intro v Γ h0
 have hT:=f6 (v0:=v0) (p:=p) (md:=1) (rg:=false) (pd:=0) (jn:=false) hnx (rj (tot:=tot) (n:=n) (B:=B))
 refine qa ?_
 refine Qt.op hT rfl (ni rfl h0) ?_
 refine qb ?_
 refine Qt.op hT rfl (eC (k:=0) rfl (dA (n:=0) H.underlying_tWg rfl H.sizeOf_tAU) rfl) ?_
 refine Qt.call (d5:=[.pointer (some p.stA)]) hT rfl rfl H.f_uLoad (by kernel_rfl) rfl rfl fun c1 hk1=>?_
 refine M6 hnx H fun v' cc hB hlt=>?_
 rcases Nat.eq_zero_or_pos cc with hz |hpos
 ·
  subst hz
  rw [if_pos rfl]
  replace hT:=f6 (v0:=v0) (p:=p) (md:=1) (rg:=false) (pd:=0) (jn:=false) hnx (Ba (tot:=tot) (n:=n))
  refine hk1 _ _ _ ?_
  refine qb ?_
  refine Qt.op hT rfl (tJ (z:=(0:Nat)) rfl rfl rfl (by decide) (xE (by decide) (by decide))) ?_
  refine Qt.op hT rfl (hC (z:=(0:Nat)) rfl H.underlying_tU64 H.underlying_t21 rfl rfl) ?_
  refine qb ?_
  refine Qt.op hT rfl (gX (u:=.int .u64 0) rfl rfl rfl (congrArg (fun z=>some (Value.int .u64 z)) (xC (by decide) (by decide)))) ?_
  refine Qt.op hT rfl (hC (z:=0) rfl H.underlying_tU64 H.underlying_tU32 rfl rfl) ?_
  refine qb ?_
  refine qu (E0 hnx Ba) (IE H) rfl rfl ?_
  replace hT:=f6 (v0:=v0) (p:=p) (md:=0) (rg:=false) (pd:=0) (jn:=false) hnx (Ba (tot:=tot) (n:=n))
  refine qa ?_
  refine Qt.op hT rfl (ni rfl h0) ?_
  refine Qt.op hT rfl (py rfl (nH (off:=0) (n:=1) H.underlying_tWgP H.underlying_tUP H.sizeOf_tWg (by decide)) rfl) ?_
  refine qs (E1 hnx) (NJ H) rfl rfl rfl ?_
  replace hT:=f6 (v0:=v0) (p:=p) (md:=0) (rg:=false) (pd:=0) (jn:=true) hnx (Ba (tot:=tot) (n:=n))
  refine qb ?_
  refine sf hT rfl (gX (u:=.int .u64 0) rfl rfl rfl (congrArg (fun z=>some (Value.int .u64 z)) (xF (by decide) (by decide)))) ?_
  refine qb ?_
  exact Qt.ret hT (l9 hT rfl H.f_wait rfl (hk _))
 ·
  rw [if_neg (by omega)]
  replace hT:=f6 (v0:=v0) (p:=p) (md:=1) (rg:=false) (pd:=0) (jn:=false) hnx (rj (tot:=tot) (n:=n) (B:=cc))
  refine hk1 _ _ _ ?_
  refine qb ?_
  refine Qt.op hT rfl (tJ (z:=cc) rfl rfl rfl (by decide) (xE hlt (by decide))) ?_
  refine Qt.op hT rfl (hC (z:=cc) rfl H.underlying_tU64 H.underlying_t21 rfl (zZ hlt)) ?_
  refine qa ?_
  refine Qt.op hT rfl (gX (u:=.int .u64 0) rfl rfl rfl (congrArg (fun z=>some (Value.int .u64 z)) (xC hlt (by decide)))) ?_
  refine Qt.op hT rfl (hC (z:=0) rfl H.underlying_tU64 H.underlying_tU32 rfl rfl) ?_
  refine qa ?_
  refine Qt.op hT rfl (gX (u:=.bool false) rfl rfl rfl (by simp [sU];omega)) ?_
  refine qb ?_
  refine Qt.op hT rfl (ni rfl h0) ?_
  refine qb ?_
  refine Qt.op hT rfl (eC (k:=0) rfl (dA (n:=0) H.underlying_tWg rfl H.sizeOf_tAU) rfl) ?_
  refine qa ?_
  refine Qt.op hT rfl (gX (u:=.int .u64 ((cc * 4294967296+1:Nat):Int)) rfl rfl rfl (by simp only [sU,IntKind.wrap_u64];congr 2;omega)) ?_
  refine Qt.call (d5:=[.pointer (some p.stA),.int .u64 ((cc * 4294967296+0:Nat):Int),.int .u64 ((cc * 4294967296+1:Nat):Int)]) hT rfl rfl H.f_uCas (by kernel_rfl) rfl rfl fun c2 hk2=>?_
  refine PO hnx H hne hpos (fun v'=>?_) (fun v'=>?_)
  ·
   replace hT:=f6 (v0:=v0) (p:=p) (md:=1) (rg:=true) (pd:=0) (jn:=false) hnx (SS (tot:=tot) (n:=n))
   refine hk2 _ _ _ ?_
   refine qb ?_
   refine Qt.op hT rfl (ni rfl h0) ?_
   refine qb ?_
   refine Qt.op hT rfl (eC (k:=1) rfl (dA (n:=0) H.underlying_tWg rfl H.sizeOf_tU32) rfl) ?_
   refine Qt.op hT rfl (py rfl (nH (off:=1) (n:=0) H.underlying_tPU32 H.underlying_tUP H.sizeOf_tU32 (by decide)) rfl) ?_
   refine qs (PN hnx SS (.inl rfl)) (TM H) rfl rfl rfl ?_
   refine qb ?_
   refine Qt.op hT rfl (gX (u:=.int .u64 0) rfl rfl rfl (congrArg (fun z=>some (Value.int .u64 z)) (xF hlt (by decide)))) ?_
   refine qb ?_
   refine Qt.op hT rfl (ni rfl h0) ?_
   refine qb ?_
   refine Qt.op hT rfl (eC (k:=1) rfl (dA (n:=0) H.underlying_tWg rfl H.sizeOf_tU32) rfl) ?_
   refine qa ?_
   refine M5 (d:=72) hnx (u:=fun _=>.tuple #[]) (fun a ha w q hat hq=>?_) (fun a ha w q hat hq=>?_) hne fun v'=>?_
   ·
    have h1:=hat.c1
    rw [hq] at h1
    exact(stepG_semacquire_wait rfl (aA rfl _) rfl H.f_semacquire (by kernel_rfl) (by kernel_rfl) (by kernel_rfl) (by kernel_rfl) (ad:=p.smA) (by rw [Array.getElem?_map];exact congrArg some (ha.ev (x:=.tmp 70) rfl)) h1).trans rfl
   ·
    have h1:=hat.c1
    rw [hq] at h1
    exact(stepG_semacquire rfl (aA rfl _) (by exact fun h=>nomatch h) rfl H.f_semacquire (by kernel_rfl) (by kernel_rfl) (by kernel_rfl) (by kernel_rfl) (ad:=p.smA) (by rw [Array.getElem?_map];exact congrArg some (ha.ev (x:=.tmp 70) rfl)) h1 (by decide) hat.f1).trans rfl
   replace hT:=f6 (v0:=v0) (p:=p) (md:=1) (rg:=false) (pd:=0) (jn:=false) hnx (Ba (tot:=tot) (n:=n))
   refine qa ?_
   refine Qt.op hT rfl (ni rfl h0) ?_
   refine qb ?_
   refine Qt.op hT rfl (eC (k:=0) rfl (dA (n:=0) H.underlying_tWg rfl H.sizeOf_tAU) rfl) ?_
   refine Qt.call (d5:=[.pointer (some p.stA)]) hT rfl rfl H.f_uLoad (by kernel_rfl) rfl rfl fun c3 hk3=>?_
   refine JU hnx H fun v3=>hk3 _ _ _ ?_
   refine qb ?_
   refine qu (E0 hnx Ba) (IE H) rfl rfl ?_
   replace hT:=f6 (v0:=v0) (p:=p) (md:=0) (rg:=false) (pd:=0) (jn:=false) hnx (Ba (tot:=tot) (n:=n))
   refine qa ?_
   refine Qt.op hT rfl (ni rfl h0) ?_
   refine Qt.op hT rfl (py rfl (nH (off:=0) (n:=1) H.underlying_tWgP H.underlying_tUP H.sizeOf_tWg (by decide)) rfl) ?_
   refine qs (E1 hnx) (NJ H) rfl rfl rfl ?_
   replace hT:=f6 (v0:=v0) (p:=p) (md:=0) (rg:=false) (pd:=0) (jn:=true) hnx (Ba (tot:=tot) (n:=n))
   refine qb ?_
   exact Qt.ret hT (l9 hT rfl H.f_wait rfl (hk _))
  ·
   refine hk2 _ _ _ ?_
   replace hT:=f6 (v0:=v0) (p:=p) (md:=1) (rg:=false) (pd:=0) (jn:=false) hnx (rj (tot:=tot) (n:=n) (B:=cc - 1))
   refine qb ?_
   refine Qt.inLoop hT ?_
   exact ih (cc - 1) (by omega) _ _ h0
theorem Hf(hnx:Nx P Gd)(H:WgLib P L)(hne:p.bw≠p.bs){B:Nat}{v:VW}(hk:∀v',TV v0 P p tot n 0 false 0 true (uO n) Gd v' (c.finish (.tuple #[])) cs):
 Qt (TV v0 P p tot n 0 false 0 false (rm n B) Gd) v (base L.wait) (c::cs) 84 [] [.code ((waitFn L).body.getD .skip)] (ent 0 [.pointer (some p.stA)]):=by
 have hT:=f6 (v0:=v0) (p:=p) (md:=0) (rg:=false) (pd:=0) (jn:=false) hnx (rj (tot:=tot) (n:=n) (B:=B))
 refine qb ?_
 refine qu (JV hnx rj) (IF H) rfl rfl ?_
 replace hT:=f6 (v0:=v0) (p:=p) (md:=1) (rg:=false) (pd:=0) (jn:=false) hnx (rj (tot:=tot) (n:=n) (B:=B))
 refine qb ?_
 refine Qt.loop hT ?_
 exact Fp hnx H hne hk B _ _ rfl
end
end K
end Go.Proofs.YtddneonghpmidaaGreatDoor
set_option linter.unusedVariables false
namespace Go.Proofs.YtddneonghpmidaaGreatDoor
namespace K
open Go Go.Conc
def d5(Γ:Ga)(a:Act):Gv:=Γ.map fun q=>(q.1,a.tmps.getD q.1 undef)
def Cc(Γ:Ga)(a:Act)(Γq:Gv):Prop:=∀s r,lk Γ s=some r→lv Γq s=some (a.tmps.getD s undef)
theorem EH{a:Act}:∀{Γ:Ga} {s:Nat} {x:Value},lv (d5 Γ a) s=some x→a.tmps.getD s undef=x
 |[],_,_,h=>by cases h
 |(s0,r0)::l,s,x,h=>by
  simp only [d5,List.map_cons,lv] at h
  split at h
  ·
   rename_i e;subst e;exact Option.some.inj h
  ·
   exact EH (Γ:=l) h
theorem Cc.base{a:Act}:∀{Γ:Ga},Cc Γ a (d5 Γ a)
 |[],_,_,h=>by cases h
 |(s0,r0)::l,s,r,h=>by
  simp only [lk] at h
  simp only [d5,List.map_cons,lv]
  split at h
  ·
   rename_i e;subst e;simp
  ·
   rename_i e;rw [if_neg e];exact Cc.base (Γ:=l) s r h
theorem Cc.new{Γ:Ga}{a:Act}{Γq:Gv}{d:Nat}{u:Value}(h:Cc Γ a Γq)(hd:lk Γ d=none:=by exact rfl):Cc Γ a ((d,u)::Γq):=fun s r hl=>by
 simp only [lv]
 split
 ·
  rename_i e;subst e;rw [hd] at hl;cases hl
 ·
  exact h s r hl
theorem Cc.know{Γ:Ga}{a:Act}{Γq:Gv}{d:Nat}{u:Value}(h:Cc Γ a Γq)(hd:a.tmps.getD d undef=u):Cc Γ a ((d,u)::Γq):=fun s r hl=>by
 simp only [lv]
 split
 ·
  rename_i e;subst e;rw [hd]
 ·
  exact h s r hl
theorem QS.know{N:Nat}{df:List Deferred}{Γq:Gv}{a:Act}{d:Nat}{u:Value}(h:QS N df Γq a)(hd:a.tmps.getD d undef=u):QS N df ((d,u)::Γq) a:=⟨h.size,h.defers,fun s x hl=>by
 simp only [lv] at hl
 split at hl
 ·
  rename_i e;subst e;cases hl;exact hd
 ·
  exact h.val s x hl⟩
theorem St.toQ{c:Cx}{Γ:Ga}{Δ:List D}{a:Act}{v:VW}(st:St c Γ Δ a v):QS c.N c.dfs (d5 Γ a) a:=⟨st.size,st.defers,fun s x h=>EH h⟩
theorem St.ofQ{P:Program}{M:Md P}{N:Nat}{S0:FS}{w0:VW}{X:Nat→Prop}{rd:Option Nat}{df df':List Deferred}{Γ:Ga}{Δ:List D}{a a':Act}{v:VW}{Γq:Gv}(st:St ⟨P,N,S0,w0,X,rd,df,M⟩ Γ Δ a v)(hc:Cc Γ a Γq)(q:QS N df' Γq a'):St ⟨P,N,S0,w0,X,rd,df',M⟩ Γ Δ a' v:=by
 obtain⟨h1,h2,S,h3,h4,h5,h6⟩:=st;refine⟨q.defers,q.size,S,h3,h4,h5,fun s r hl=>?_⟩;rw [q.val s _ (hc s r hl)];exact h6 s r hl
section
variable {P:Program}{main:Bool}{b:Frame}{a:Act}{k:List Item}{cs:List Frame}{ops:Array Oper}{i:Nat}{rest:List Nat}{o:Oper}{w:World}
def fZ(P:Program)(d:Deferred):Frame:={ (default:Frame) with fn:=P.funcs.size,defers:=[d],mode:=.panicking [goexitEntry] }
theorem Ua{cl:Call}{s g:Nat}{cap:Array Value}{ts:Array TypeId}(ho:ops[i]? =some o)(hw:Region.wanted o (yielded ops a.tmps)=true)(hop:o.op= .go cl)(hcl:cl={ callee:=.value (.tmp s),args:= #[],argTypes:=ts })
 (hv:a.eval (.tmp s)= .func (.func g) #[] cap):
 stepG P main (Gr (b.atR a (.inRegion ops (i::rest)::k)) cs) w= .spawn (Gr (b.atR (a.put o.dst undef) (.inRegion ops rest::k)) cs) (Gr (fZ P { target:=.fn (.func g) cap,args:= #[] }) []) w #[]:=by
 have he:execOp a.eval o=pure (.spawn { target:=.fn (.func g) cap,args:= #[] }):=by
  unfold execOp;rw [hop,hcl];simp [resolve,hv,Deferred.ofValue]
 have hT:(pure (Next.spawn { target:=.fn (.func g) cap,args:= #[] }):Sem Next).runT P w #[]=(.ok (.spawn { target:=.fn (.func g) cap,args:= #[] }) w, #[]):=rfl
 have hfin:(b.atR a (.inRegion ops (i::rest)::k)).finish undef=b.atR (a.put o.dst undef) (.inRegion ops rest::k):=by rw [Frame.finish_atR,ho];rfl
 rw [Bi ho hw,Oper.semAt_eq _ _ _ (by simp [hop]),he]
 simp only [stepG.apply,if_true,hT,IS,pG,GStep.after,hfin]
 simp [fZ]
theorem zn{g:Nat}{cap:Array Value}(hen:ae P g):stepG P main (Gr (fZ P { target:=.fn (.func g) cap,args:= #[] }) []) w= .go (Gr (Frame.enter P g cap .deferred) [{ fZ P { target:=.fn (.func g) cap,args:= #[] } with defers:=[] }]) w #[]:=by
 have hi:invoke (.fn (.func g) cap) #[]=callFunc g cap:=by simp [invoke]
 simp only [stepG,fZ,unwind,callDeferred,hi,sb hen,GStep.after,Array.append_empty,pG];rfl
theorem Da{d:Deferred}:QuitsD P 1 0 (Gr { fZ P d with defers:=[] } []):=by
 refine .ctl (g':={ Gr { fZ P d with defers:=[] } [] with status:=.finished }) rfl (fun w=>?_) ⟨rfl,rfl⟩
 have hc:({ fZ P d with defers:=[] }:Frame).catches P=false:=by
  simp [Frame.catches,fZ];rfl
 simp [stepG,unwind,fZ,goexitEntry] at hc⊢;simp [Frame.catches];rfl
theorem JZ{d:Deferred}{fn:Func}{N:Nat}{Γ:Gv}{v:VW}(hb:b.kind= .deferred)(hf:P.funcs[b.fn]? =some fn)(hr:fn.results= #[]):Qr (TQ P 0) v b [{ fZ P d with defers:=[] }] N [] Γ:=fun a todo ha=>by
 refine⟨2,.ctl rfl (fun w=>?_) (Da (d:=d))⟩
 have hres:(results fn a.tmps).runT P w #[]=(.ok (.tuple #[]) w, #[]):=by
  simp [results,hr]
 simp only [stepG,Gr,Frame.at,unwind,ha.defers,hf,hres,doReturn,hb,GStep.after,Array.append_empty,pG,fZ,goexitEntry]
end
end K
