import Derived.Test.YtlmopgkkijhllaaGreatVBB9
set_option linter.unusedSimpArgs false
set_option linter.unusedVariables false
set_option maxRecDepth 20000
set_option maxHeartbeats 4000000
namespace Go.Proofs.YtlmopgkkijhllaaGreat
open K Go Go.Proofs Go.Conc
theorem Fo{P:Program}{main:Bool}{b:Frame}{a:Act}{k:List Item}{cs:List Frame}{ops:Array Oper}{i:Nat}{rest:List Nat}{o:Oper}{w:World}{x:Operand}{T:TypeId}{c n m:Nat}(ho:ops[i]? =some o)(hg:o.guard=none)(hd:o.dst=none)(hop:o.op= .call { callee:=.builtin .close,args:= #[x],argTypes:= #[T] })(hx:a.eval x= .chan (some c))(hk:b.kind≠.early)(hw:w.heap[c]? =some (.chan 0 #[] false n m false)):
 stepG P main (Gr (b.atR a (.inRegion ops (i::rest)::k)) cs) w= .go (Gr (b.atR a (.inRegion ops rest::k)) cs) { w with heap:=w.heap.setIfInBounds c (.chan 0 #[] true n m false) } #[⟨.obj c,false,true⟩,⟨.obj c,true,true⟩]:=by
 have hr:(execOp a.eval o).run P w= .ok (.value (.tuple #[])) { w with heap:=w.heap.setIfInBounds c (.chan 0 #[] true n m false) }:=by
  simp [execOp,hop,resolve,invoke,builtin,hx,run_close_open _ _ hw]
 have he:(execOp a.eval o).events P w #[]= #[⟨.obj c,false,true⟩,⟨.obj c,true,true⟩]:=by
  simp [execOp,hop,resolve,invoke,builtin,hx,events_close_open _ _ hw]
 have hT:(execOp a.eval o).runT P w #[]=(.ok (.value (.tuple #[])) { w with heap:=w.heap.setIfInBounds c (.chan 0 #[] true n m false) }, #[⟨.obj c,false,true⟩,⟨.obj c,true,true⟩]):=Prod.ext (by rw [Sem.runT_fst];exact hr) he
 have hke:(b.kind == CallKind.early)=false:=by cases h:b.kind <;> simp_all
 have hfin:(b.atR a (.inRegion ops (i::rest)::k)).finish (.tuple #[])=b.atR a (.inRegion ops rest::k):=by rw [Frame.finish_atR,ho];simp [hd,Act.put]
 rw [uS ho (ab hg _),Oper.semAt_eq _ _ _ (by simp [hop])]
 simp only [stepG.apply,if_true,hT,GStep.after,hfin]
 have hke':((b.atR a (.inRegion ops (i::rest)::k)).kind == CallKind.early)=false:=hke
 rw [hke']
 simp [seen]
def vZ(k:Nat)(a0:ag):Nat→Option Unit
 |0=>some ()
 |n+1=>(vZ k a0 n).bind fun _=>(lI k a0 (IntKind.u8.wrap n)).bind fun _=>some ()
def ew(k:Nat)(a0:ag):Option Unit:=if 0≤a0.1∧oz .i64 1 a0.1≤1000 then vZ k a0 (oz .i64 1 a0.1).toNat else none
theorem vY{k:Nat}{a0:ag}:∀{n:Nat},vZ k a0 n=some ()→∀i,i < n→∃r,lI k a0 (IntKind.u8.wrap i)=some r
 |n+1,h,i,hi=>by
  obtain⟨_,h1,h⟩:=Option.bind_eq_some_iff.1 h
  obtain⟨r,h2,h⟩:=Option.bind_eq_some_iff.1 h
  by_cases e:i=n
  ·
   subst e;exact⟨r,h2⟩
  ·
   exact vY h1 i (by omega)
section
variable {bw bc bm bk:Nat}{c0 c1 c2 c3 c4 c5:Value}{k:Nat}{a0:ag}{T:Tq}{v w0:VW}{S:FS}{a:Act}{b:Frame}{kk:List Item}{cs:List Frame}
@[reducible] noncomputable def FR (bw bc bm:Nat) (cl:List Value) (a0:ag) (n i:Int):Ga:=(17,.eq (.int .i64 i))::(16,.eq (.int .i64 n))::yz bw bc bm cl a0
theorem FQ(hok:(cU bw bc bm bk c0 c1 c2 c3 c4 c5 k a0).Ok){N:Nat}{n:Int}(hn:(N:Int)=n∨(N=0∧n≤0))(hN:N≤1000)(hall:∀i,i < N→∃r,lI k a0 (IntKind.u8.wrap i)=some r)(hb:b.roundOf=none)(hA:yn bw bc bm bk w0)
 (next:∀a' v',St (pu (MW Tryz.prog (cU bw bc bm bk c0 c1 c2 c3 c4 c5 k a0) T) S w0) (yz bw bc bm [c0,c1,c2,c3,c4,c5] a0) [] a' v'→Ww Tryz.prog (cU bw bc bm bk c0 c1 c2 c3 c4 c5 k a0) T true (sS 0 4 false false) v' (b.atR a' kk) cs):∀(r i:Nat),i+r=N→∀(a:Act) (v:VW),St (pu (MW Tryz.prog (cU bw bc bm bk c0 c1 c2 c3 c4 c5 k a0) T) S w0) (FR bw bc bm [c0,c1,c2,c3,c4,c5] a0 n i) [] a v→
 Ww Tryz.prog (cU bw bc bm bk c0 c1 c2 c3 c4 c5 k a0) T true (sS (12 * r) 4 false false) v (b.atR a (.code Nl:: .inLoop Nl:: .inBlock 2::kk)) cs:=fun r=>by
 induction r with
 |zero=>
  intro i hi a v st
  have B:BC Tryz.prog (Ww Tryz.prog (cU bw bc bm bk c0 c1 c2 c3 c4 c5 k a0) T true (sS (12 * 0) 4 false false)):=mi rfl rfl
  refine B.move (fun _ _=>dB) ?_
  refine eE (c:=pu (MW Tryz.prog (cU bw bc bm bk c0 c1 c2 c3 c4 c5 k a0) T) S w0) (Q:=fun a w=>St (pu (MW Tryz.prog (cU bw bc bm bk c0 c1 c2 c3 c4 c5 k a0) T) S w0) ((18,.eq (.bool false))::yz bw bc bm [c0,c1,c2,c3,c4,c5] a0) [] a w) (nA rfl rfl) hb st ?_ fun a1 v1 st1=>?_
  ·
   refine ae ?_
   refine bY rfl (bB rfl) ⟨rfl,rfl,trivial⟩ ?_
   refine be (ax ?_)
   rw [decide_eq_false (by omega)]
   exact jd (junk:=[]) (by repeat (first |exact trivial |refine⟨rfl,?_⟩)) um
  refine B.move (fun _ _=>dB) ?_
  refine B.move (fun _ _=>qo (t:=false) (ge st1 (s:=18) rfl)) ?_
  rw [if_neg (by decide)]
  refine B.move (fun _ _=>BL rfl) ?_
  exact next a1 v1 st1.pop
 |succ r ih=>
  intro i hi a v st
  have B:BC Tryz.prog (Ww Tryz.prog (cU bw bc bm bk c0 c1 c2 c3 c4 c5 k a0) T true (sS (12 * (r+1)) 4 false false)):=mi rfl rfl
  refine B.move (fun _ _=>dB) ?_
  refine eE (c:=pu (MW Tryz.prog (cU bw bc bm bk c0 c1 c2 c3 c4 c5 k a0) T) S w0) (Q:=fun a w=>St (pu (MW Tryz.prog (cU bw bc bm bk c0 c1 c2 c3 c4 c5 k a0) T) S w0) ((18,.eq (.bool true))::FR bw bc bm [c0,c1,c2,c3,c4,c5] a0 n i) [] a w) (nA rfl rfl) hb st ?_ fun a1 v1 st1=>?_
  ·
   refine ae ?_
   refine bY rfl (bB rfl) ⟨rfl,rfl,trivial⟩ ?_
   refine be (ax ?_)
   rw [decide_eq_true (by omega)]
   exact fun _ _ h=>h
  refine B.move (fun _ _=>dB) ?_
  refine B.move (fun _ _=>qo (t:=true) (ge st1 (s:=18) rfl)) ?_
  rw [if_pos rfl]
  refine B.move (fun _ _=>xU) ?_
  refine B.move (fun _ _=>dB) ?_
  refine B.move (fun _ _=>nk) ?_
  refine B.move (fun _ _=>dB) ?_
  refine eE (c:=pu (MW Tryz.prog (cU bw bc bm bk c0 c1 c2 c3 c4 c5 k a0) T) S w0) (Q:=fun a w=>St (pu (MW Tryz.prog (cU bw bc bm bk c0 c1 c2 c3 c4 c5 k a0) T) S w0) ((4,.eq (.int .i64 (i:Int)))::FR bw bc bm [c0,c1,c2,c3,c4,c5] a0 n i) [] a w) (nA rfl rfl) hb st1.pop ?_ fun a2 v2 st2=>?_
  ·
   refine ae ?_
   refine gU rfl rfl ?_
   refine vo rfl rfl ?_
   refine be (ax ?_)
   exact jd (junk:=[]) (by repeat (first |exact trivial |refine⟨rfl,?_⟩)) um
  refine B.move (fun _ _=>eX) ?_
  refine iw (c:=pu (MW Tryz.prog (cU bw bc bm bk c0 c1 c2 c3 c4 c5 k a0) T) S w0) (i:=0) (rest:=[1,2,3]) (nA rfl rfl) hb st2 rfl rfl (bY rfl (av (t:=.val) rfl o9 rfl) ⟨rfl,trivial⟩ (be (ax fun _ _ h=>h))) fun a3 v3 st3=>?_
  refine iw (c:=pu (MW Tryz.prog (cU bw bc bm bk c0 c1 c2 c3 c4 c5 k a0) T) S w0) (i:=1) (rest:=[2,3]) (nA rfl rfl) hb st3 rfl rfl (bY rfl (bz rfl) ⟨rfl,trivial⟩ (be (ax fun _ _ h=>h))) fun a4 v4 st4=>?_
  refine iw (c:=pu (MW Tryz.prog (cU bw bc bm bk c0 c1 c2 c3 c4 c5 k a0) T) S w0) (i:=2) (rest:=[3]) (nA rfl rfl) hb st4 rfl rfl (bY rfl (rW rfl Tryz.underlying3 Tryz.underlying71) ⟨rfl,trivial⟩ (be (ax fun _ _ h=>h))) fun a5 v5 st5=>?_
  obtain⟨rr,hrr⟩:=hall i (by omega)
  refine II (x:=.int .u8 (IntKind.u8.wrap i)) (z:=.tuple #[]) rfl rfl (by show 0 < 4;omega) (by show 12≤12 * (r+1);omega) rfl rfl rfl ⟨_,rr,rfl,hrr⟩ (fun w=>Oo (i:=3) (rest:=[]) rfl (ab rfl _) rfl (ge st5 (s:=20) rfl) (ge st5 (s:=22) rfl)) fun v6 hr6=>?_
  rw [Frame.finish_atR]
  have B':BC Tryz.prog (Ww Tryz.prog (cU bw bc bm bk c0 c1 c2 c3 c4 c5 k a0) T true (sS (12 * r) 4 false false)):=mi rfl rfl
  show Ww Tryz.prog (cU bw bc bm bk c0 c1 c2 c3 c4 c5 k a0) T true (sS (12 * (r+1) - 12) 4 false false) v6 (b.atR a5 _) cs
  rw [show 12 * (r+1) - 12=12 * r by omega]
  refine B'.move (fun _ _=>cN) ?_
  refine B'.move (fun _ _=>o6) ?_
  refine eE (c:=pu (MW Tryz.prog (cU bw bc bm bk c0 c1 c2 c3 c4 c5 k a0) T) S w0) (Q:=fun a w=>St (pu (MW Tryz.prog (cU bw bc bm bk c0 c1 c2 c3 c4 c5 k a0) T) S w0) (FR bw bc bm [c0,c1,c2,c3,c4,c5] a0 n ((i+1:Nat):Int)) [] a w) (nA rfl rfl) hb (st5.rely hr6) ?_ fun a7 v7 st7=>?_
  ·
   refine ae ?_
   refine bY rfl (bA rfl (q:=((i+1:Nat):Int)) (by unfold ck;rw [if_pos (by omega)];congr 1)) ⟨rfl,rfl,trivial⟩ ?_
   refine gU rfl rfl ?_
   refine be (ax ?_)
   exact jd (junk:=[]) (by repeat (first |exact trivial |refine⟨rfl,?_⟩)) um
  refine B'.move (fun _ _=>rm) ?_
  exact ih (i+1) (by omega) a7 v7 st7
theorem Nk(hok:(cU bw bc bm bk c0 c1 c2 c3 c4 c5 k a0).Ok)(hb:b.roundOf=none)(hbk:b.kind≠.early)(hA:yn bw bc bm bk w0)(st:St (pu (MW Tryz.prog (cU bw bc bm bk c0 c1 c2 c3 c4 c5 k a0) T) S w0) (yz bw bc bm [c0,c1,c2,c3,c4,c5] a0) [] a v)
 (next:∀a' v',St (pu (MW Tryz.prog (cU bw bc bm bk c0 c1 c2 c3 c4 c5 k a0) T) S w0) [] [] a' v'→Ww Tryz.prog (cU bw bc bm bk c0 c1 c2 c3 c4 c5 k a0) T true { phi:=0,sp:=4,cd:=true,cb:=some 0,al:=true,jn:=true } v' (b.atR a' kk) cs):
 Ww Tryz.prog (cU bw bc bm bk c0 c1 c2 c3 c4 c5 k a0) T true (sS 0 4 false false) v (b.atR a (.code MD::kk)) cs:=by
 have B:BC Tryz.prog (Ww Tryz.prog (cU bw bc bm bk c0 c1 c2 c3 c4 c5 k a0) T true (sS 0 4 false false)):=mi rfl rfl
 refine B.move (fun _ _=>dB) ?_
 refine B.move (fun _ _=>eX) ?_
 refine iw (c:=pu (MW Tryz.prog (cU bw bc bm bk c0 c1 c2 c3 c4 c5 k a0) T) S w0) (i:=0) (rest:=[1]) (nA rfl rfl) hb st rfl rfl (bY rfl (av (t:=.val) rfl o9 rfl) ⟨rfl,trivial⟩ (be (ax fun _ _ h=>h))) fun a1 v1 st1=>?_
 have hA1:=hA.st (c:=pu (MW Tryz.prog (cU bw bc bm bk c0 c1 c2 c3 c4 c5 k a0) T) S w0) st1
 refine Fb (s:=sS 0 4 false false) hok rfl GN rfl rfl (fun e=>(by cases e)) rfl (yE hA1) hA1.k (sV st1 hA1.k) (fun w q hat hq=>Fo (i:=1) (rest:=[]) rfl rfl rfl rfl (ge st1 (s:=24) rfl) hbk (by have h:=hat.ch rfl;rw [hq] at h;exact h)) fun v2 hv2 hA2=>?_
 have B2:BC Tryz.prog (Ww Tryz.prog (cU bw bc bm bk c0 c1 c2 c3 c4 c5 k a0) T true { sS 0 4 false false with op:=false,cd:=true,cb:=some 102 }):=mi rfl rfl
 have st1':=st1
 rw [←jD (p:=cU bw bc bm bk c0 c1 c2 c3 c4 c5 k a0) hA1.k] at st1'
 have st2:=st1'.vr hv2
 rw [jD (p:=cU bw bc bm bk c0 c1 c2 c3 c4 c5 k a0) hA2] at st2
 have hA2':=hA.st (c:=pu (MW Tryz.prog (cU bw bc bm bk c0 c1 c2 c3 c4 c5 k a0) T) S w0) st2
 refine B2.move (fun _ _=>cN) ?_
 refine B2.move (fun _ _=>eX) ?_
 have h3:a1.tmps.getD 3 undef= .pointer (some ⟨bw,0,none⟩):=ge st2 (s:=3) rfl
 rw [fO hb]
 refine(Qt.call (cL:=[.pointer (some ⟨bw,0,none⟩)]) (T:=WV v2 Tryz.prog (cU bw bc bm bk c0 c1 c2 c3 c4 c5 k a0) T true (({ sS 0 4 false false with op:=false,cd:=true }:Ph).stt 0 0 false (some 102) false false)) (bf rfl) rfl rfl yI.f_wait (by kernel_rfl) rfl rfl (fun c hk=>?_) (hk:=hbk):Qt (WV v2 Tryz.prog (cU bw bc bm bk c0 c1 c2 c3 c4 c5 k a0) T true (({ sS 0 4 false false with op:=false,cd:=true }:Ph).stt 0 0 false (some 102) false false)) v2 b cs 26 [] _ ((3,.pointer (some ⟨bw,0,none⟩))::cL ((24,.eq (.chan (some bc)))::yz bw bc bm [c0,c1,c2,c3,c4,c5] a0) a1)) a1 (st2.toQ.know h3) (VR.refl (yE hA2') (sV st2 hA2'.k)) ⟨fun _=>rfl,fun _=>hA2'.k⟩
 refine Gi yI hok rfl ⟨rfl,rfl,rfl,rfl,rfl,rfl⟩ rfl fun v3=>?_
 refine hk _ _ _ fun a3 q3 hv3 hA3=>?_
 have st2':=st2
 rw [←jD (p:=cU bw bc bm bk c0 c1 c2 c3 c4 c5 k a0) hA2] at st2'
 have st3:=lz (st2'.vr hv3) ((vD.base.know h3).new) q3
 rw [jD (p:=cU bw bc bm bk c0 c1 c2 c3 c4 c5 k a0) (hA3.2 rfl)] at st3
 have B3:BC Tryz.prog (Ww Tryz.prog (cU bw bc bm bk c0 c1 c2 c3 c4 c5 k a0) T true { phi:=0,sp:=4,cd:=true,cb:=some 0,al:=true,jn:=true }):=mi rfl rfl
 rw [←fO hb]
 refine B3.move (fun _ _=>cN) ?_
 obtain⟨k1,k2,S6,k3,k4,k5,k6⟩:=st3
 exact next a3 v3 ⟨k1,k2,S6,k3,k4,k5,fun s r hl=>by cases hl⟩
end
end Go.Proofs.YtlmopgkkijhllaaGreat
set_option linter.unusedVariables false
namespace Go.Proofs.YtlmopgkkijhllaaGreat
namespace K
open Go Go.Conc
def Rf(P:Program)(T:TypeId):Prop:=∀w:World,(Instr.makeChan T (.int .i64 0)).runT P w #[]=(.ok (.chan (some w.heap.size)) (w.alloc (.chan 0 #[] false 0 0 false)), #[])
section
variable {P:Program}{M:Md P}{o:Oper}{T:TypeId}
theorem Bj(ho:o.op= .makeChan T (.const (.int .i64 0)))(hT:Rf P T):bo M o [] [] (fun z:Nat=>(.eq (.chan (some z)),[.raw z (.chan 0 #[] false 0 0 false)])):=by
 have hnd:nd o.op=true:=by simp only [nd, *]
 refine⟨hnd,fun rd S v a next Q hd _ hO k=>NY fun v1 hr=>?_⟩;rw [Oper.semAt_eq _ _ _ (fun c e=>by rw [e] at hnd;cases hnd)];have h1:=hT v1.toWorld;have r1:(Instr.makeChan T (.int .i64 0)).run P v1= .ok (.chan (some v1.heap.size)) (v1.alloc (.chan 0 #[] false 0 0 false)):=by rw [←Sem.runT_fst P _ _ #[],h1]
 have e1:(Instr.makeChan T (.int .i64 0)).events P v1 #[]= #[]:=by unfold Sem.events;rw [h1]
 have hx:execOp a.eval o=(do pure (.value (←Instr.makeChan T (.int .i64 0))):Sem Next):=by unfold execOp;rw [ho];rfl
 have hrun:(execOp a.eval o).run P v1= .ok (.value (.chan (some v1.heap.size))) (v1.alloc (.chan 0 #[] false 0 0 false)):=by rw [hx];simp [r1]
 have hev:(execOp a.eval o).events P v1 #[]= #[]:=by rw [hx];simp [e1]
 have hd1:∀b,S b→b < v1.heap.size:=fun b hb=>Nat.lt_of_lt_of_le (hd b hb) hr.size;have hO1:=hO.rely hd hr;refine⟨?_,?_⟩
 ·unfold Sg;rw [hrun];refine⟨fun b hb _=>f6 v1 _ b hb,by simp,.refl _,rfl,rfl,fun e he=>by rw [hev] at he;simp at he⟩
 ·rw [hrun];refine k v1.heap.size S (v1.upd (v1.alloc (.chan 0 #[] false 0 0 false))) _ ((bp.rely hd hr).trans (bp.of (fD (X:=ap []) hd1 _)) fun b hb=>.inl hb) rfl (hO1.alloc hd1 _) fun b hb=>?_;have:v1.heap.size=b:=by simpa [D.foot] using ii.1 hb
  exact .inr (this▸hr.size)
end
end K
end Go.Proofs.YtlmopgkkijhllaaGreat
set_option linter.unusedVariables false
set_option maxRecDepth 20000
set_option maxHeartbeats 4000000
namespace Go.Proofs.YtlmopgkkijhllaaGreat
open K Go Go.Proofs Go.Conc
theorem K.bQ.ofT{P:Program}{M:Md P}{f:Nat}{fn:Func}{C:Code}{az:List A}{Δ:List D}{X:Type}{R:X→A×List D}(N:Nat)(hf:P.funcs[f]? =some fn)(hb:fn.body=some C)(hN:fn.ntmps=N)(hn:Nat.ble az.length N=true)
 (h:∀kind,kind≠.early→∀S w0 a,St ⟨P,N,S,w0,ap Δ,none,[],M⟩ (entry 0 az) Δ a w0→∀T,M.ok T→∀cs,(∀e a' v',bR P fn (dr S w0 Δ R) e a' v'→mO T { (default:Frame) with fn:=f,kind:=kind } [] cs e a' v')→
  T w0 (Frame.atR { (default:Frame) with fn:=f,kind:=kind } a [.code C]) cs):bQ M f az Δ R:=by
 subst hN
 intro kind hkind S w vs hd hall hO T hT cs hc
 have hst:St ⟨P,fn.ntmps,S,w,ap Δ,none,[],M⟩ (entry 0 az) Δ { tmps:=vs.toArray++Array.replicate (fn.ntmps - vs.toArray.size) undef,defers:=[] } w:=St.entry hn hd hall hO
 have he:Frame.enter P f vs.toArray kind=Frame.atR { (default:Frame) with fn:=f,kind:=kind } { tmps:=vs.toArray++Array.replicate (fn.ntmps - vs.toArray.size) undef,defers:=[] } [.code C]:=enter_at hf hb
 rw [he]
 refine h kind hkind S w _ hst T hT cs fun e a' v' q=>?_
 have fin:∀todo,(a'.defers=[]∧∃x,(∀v1,bh v' v1→(results fn a'.tmps).run P v1= .ok x v1∧eF v1 v1 ((results fn a'.tmps).events P v1 #[]))∧dr S w Δ R (.returned x) v')→
  T v' { Frame.atR { (default:Frame) with fn:=f,kind:=kind } a' todo with mode:=.returning } cs:=fun todo ⟨q1,x,q2,q3⟩=>hc _ _ _ q3 rfl rfl ⟨rfl,q1,fn,hf,q2⟩
 cases e with
 |normal=>exact(M.bc T hT).move (fun _ _=>wL rfl) (fin _ q)
 |ret=>exact⟨fun _ todo=>fin todo q,fun h=>by cases h⟩
 |panic chain=>exact fun todo=>hc _ _ _ q.2 rfl rfl ⟨rfl,q.1,fn,hf⟩
 |exit id=>exact q.elim
 |goto l=>exact q.elim
 |outgrown=>exact q.elim
theorem FV:∀w,(zeroValue 140).run Tryz.prog w= .ok (.chan none) w:=fun w=>by kernel_rfl
theorem F3:∀S w,(A.cells S w (.eq (.chan none)) (Value.cells (.chan none)).toList):=fun _ _=>⟨rfl,rfl⟩
theorem FU:∀w,(zeroValue 146).run Tryz.prog w= .ok (.agg #[.int .u64 0,.int .u32 0]) w:=fun w=>by kernel_rfl
theorem FZ:∀S w,(A.cells S w (.agg (.pair (.eq (.int .u64 (0:Int))) (.eq (.int .u32 (0:Int))))) (Value.cells (.agg #[.int .u64 0,.int .u32 0])).toList):=fun _ _=>⟨[_],_,rfl,⟨rfl,rfl⟩,rfl,rfl⟩
theorem FY:Rf Tryz.prog 140:=fun w=>by kernel_rfl
noncomputable def Rq (i:Nat):Code:=match i,Tryz.f72.body with
 |0,some (.seq r _)=>r
 |1,some (.seq _ (.seq r _))=>r
 |2,some (.seq _ (.seq _ (.seq r _)))=>r
 |3,some (.seq _ (.seq _ (.seq _ (.seq (.seq r _) _))))=>r
 |_,_=>.skip
@[reducible] noncomputable def qC (a0:ag) (bm bk:Nat) (k:Nat):List D:=[.obj bm 123 (am a0 bk),.inv bk (aL k a0)]
@[reducible] noncomputable def F4 (a0:ag) (bw bc bm bk:Nat) (k:Nat):List D:=.obj bw 146 (.agg (.pair (.eq (.int .u64 (0:Int))) (.eq (.int .u32 (0:Int))))):: .raw bc (.chan 0 #[] false 0 0 false)::qC a0 bm bk k
section
variable {k:Nat}{a0:ag}{bm bk:Nat}
@[reducible] noncomputable def yK (a0:ag) (bm bk:Nat) (k:Nat) (S:FS) (v:VW):Cx:=⟨Tryz.prog,26,S,v,ap (qC a0 bm bk k),none,[],dC Tryz.prog⟩
theorem PH{S:FS}{w0:VW}{T:Tq}(hT:(dC Tryz.prog).ok T){b:Frame}(hb:b.roundOf=none){kk:List Item}{cs:List Frame}{a:Act}{v:VW}(st:St (yK a0 bm bk k S w0) (entry 0 [.eq (.pointer (some ⟨bm,0,none⟩))]) (qC a0 bm bk k) a v)
 (next:∀a' v',St (yK a0 bm bk k S w0) [(1,.at .val (.pointer (some ⟨bm,0,none⟩)))] (qC a0 bm bk k) a' v'→T v' (b.atR a' kk) cs):T v (b.atR a (.code (Rq 0)::kk)) cs:=by
 refine eE (c:=yK a0 bm bk k S w0) hT hb st ?_ next
 show JC _ (.region _ _ false) _ _ _
 refine ae ?_
 refine aW rfl rfl rfl (wB rfl rfl) ⟨rfl,trivial⟩ fun b1=>?_
 refine eC (jw (t:=.val) (x:=.pointer (some ⟨bm,0,none⟩)) [1] (.val rfl) ⟨rfl,trivial⟩) ?_
 refine be (ax ?_)
 exact jd (junk:=[]) (by repeat (first |exact trivial |refine⟨rfl,?_⟩)) (by simp)
theorem PG{S:FS}{w0:VW}{T:Tq}(hT:(dC Tryz.prog).ok T){b:Frame}(hb:b.roundOf=none){kk:List Item}{cs:List Frame}{a:Act}{v:VW}(st:St (yK a0 bm bk k S w0) [(1,.at .val (.pointer (some ⟨bm,0,none⟩)))] (qC a0 bm bk k) a v)
 (next:∀a' v' bc,St (yK a0 bm bk k S w0) [(1,.at .val (.pointer (some ⟨bm,0,none⟩))),(2,.at .val (.chan (some bc)))] (.raw bc (.chan 0 #[] false 0 0 false)::qC a0 bm bk k) a' v'→T v' (b.atR a' kk) cs):T v (b.atR a (.code (Rq 1)::kk)) cs:=by
 refine eE (c:=yK a0 bm bk k S w0) (Q:=fun a w=>∃bc,St (yK a0 bm bk k S w0) [(1,.at .val (.pointer (some ⟨bm,0,none⟩))),(2,.at .val (.chan (some bc)))] (.raw bc (.chan 0 #[] false 0 0 false)::qC a0 bm bk k) a w) hT hb st ?_ fun a' v' ⟨bc,st⟩=>next a' v' bc st
 show JC _ (.region _ _ false) _ _ _
 refine ae ?_
 refine aW rfl rfl rfl (Bj rfl FY) trivial fun bc=>?_
 refine aW rfl rfl rfl (bj rfl FV F3) trivial fun b2=>?_
 refine aR rfl rfl (aP rfl o9 rfl rfl rfl) ⟨rfl,rfl,trivial⟩ ?_
 refine eC (jw (t:=.val) (x:=.chan (some bc)) [2] (.val rfl) ⟨rfl,trivial⟩) ?_
 refine be (ax ?_)
 exact fun a w st=>⟨bc,(jd (junk:=[]) (by repeat (first |exact trivial |refine⟨rfl,?_⟩)) (by simp)) a w st⟩
theorem PE{S:FS}{w0:VW}{T:Tq}(hT:(dC Tryz.prog).ok T){b:Frame}(hb:b.roundOf=none){kk:List Item}{cs:List Frame}{a:Act}{v:VW}{bc:Nat}(st:St (yK a0 bm bk k S w0) [(1,.at .val (.pointer (some ⟨bm,0,none⟩))),(2,.at .val (.chan (some bc)))] (.raw bc (.chan 0 #[] false 0 0 false)::qC a0 bm bk k) a v)
 (next:∀a' v' bw,St (yK a0 bm bk k S w0) [(1,.at .val (.pointer (some ⟨bm,0,none⟩))),(2,.at .val (.chan (some bc))),(3,.eq (.pointer (some ⟨bw,0,none⟩)))] (F4 a0 bw bc bm bk k) a' v'→T v' (b.atR a' kk) cs):T v (b.atR a (.code (Rq 2)::kk)) cs:=by
 refine eE (c:=yK a0 bm bk k S w0) (Q:=fun a w=>∃bw,St (yK a0 bm bk k S w0) [(1,.at .val (.pointer (some ⟨bm,0,none⟩))),(2,.at .val (.chan (some bc))),(3,.eq (.pointer (some ⟨bw,0,none⟩)))] (F4 a0 bw bc bm bk k) a w) hT hb st ?_ fun a' v' ⟨bw,st⟩=>next a' v' bw st
 show JC _ (.region _ _ false) _ _ _
 refine ae ?_
 refine aW rfl rfl rfl (bj rfl FU FZ) trivial fun bw=>?_
 refine be (ax ?_)
 exact fun a w st=>⟨bw,(jd (junk:=[]) (by repeat (first |exact trivial |refine⟨rfl,?_⟩)) (by simp)) a w st⟩
theorem PD{S:FS}{w0:VW}{T:Tq}(hT:(dC Tryz.prog).ok T){b:Frame}(hb:b.roundOf=none){kk:List Item}{cs:List Frame}{a:Act}{v:VW}{bc bw:Nat}(st:St (yK a0 bm bk k S w0) [(1,.at .val (.pointer (some ⟨bm,0,none⟩))),(2,.at .val (.chan (some bc))),(3,.eq (.pointer (some ⟨bw,0,none⟩)))] (F4 a0 bw bc bm bk k) a v)
 (next:∀a' v',St (yK a0 bm bk k S w0) [(6,.eq (.int .i64 ((0:Nat):Int))),(1,.at .val (.pointer (some ⟨bm,0,none⟩))),(2,.at .val (.chan (some bc))),(3,.eq (.pointer (some ⟨bw,0,none⟩)))] (F4 a0 bw bc bm bk k) a' v'→T v' (b.atR a' kk) cs):T v (b.atR a (.code (Rq 3)::kk)) cs:=by
 refine eE (c:=yK a0 bm bk k S w0) hT hb st ?_ next
 show JC _ (.region _ _ false) _ _ _
 refine ae ?_
 refine fa rfl ?_
 refine be (ax ?_)
 exact jd (junk:=[]) (by repeat (first |exact trivial |refine⟨rfl,?_⟩)) (by simp)
theorem Q0{S:FS}{w:World}{bm:Nat}{cl:List Value}{v:Value}(h:(A.at .val (.pointer (some ⟨bm,0,none⟩))).holds S w v)(hr:rd S w aj a0 cl):(A.at (.mo (.pointer (some ⟨bm,0,none⟩)) cl aj) a0).holds S w v:=by
 obtain⟨b,off,c,T,fz,e,hb,hc,h1⟩:=h;exact⟨b,off,c,T,fz,e,hb,hc,h1.1,rfl,hr⟩
theorem Jn{n:Int}(hn0:0≤a0.1)(hn:n=oz .i64 1 a0.1)(hN:n≤1000)(hall:vZ k a0 n.toNat=some ()){S:FS}{w0:VW}{T:Tq}(hT:(dC Tryz.prog).ok T){b:Frame}(hb:b.roundOf=none)(hbk:b.kind≠.early){kk:List Item}{cs:List Frame}{a:Act}{v:VW}{bc bw:Nat}
 (st:St (yK a0 bm bk k S w0) [(6,.eq (.int .i64 ((0:Nat):Int))),(1,.at .val (.pointer (some ⟨bm,0,none⟩))),(2,.at .val (.chan (some bc))),(3,.eq (.pointer (some ⟨bw,0,none⟩)))] (F4 a0 bw bc bm bk k) a v)
 (next:∀a' v',St (yK a0 bm bk k S w0) [] (qC a0 bm bk k) a' v'→T v' (b.atR a' kk) cs):
 T v (b.atR a (.code (.block 0 (.loop Jo)):: .code (.seq (.seq RL (.block 2 (.loop Nl))) MD)::kk)) cs:=by
 obtain⟨i1,i2,S1,i3,i4,i5,i6⟩:=st
 refine hT.2 _ _ _ fun Gd hG v1 hr gs sl tt kq hL=>?_
 have hO1:=i5.rely i3.dom hr
 have hd1:∀y,S1 y→y < v1.heap.size:=fun y hy=>Nat.lt_of_lt_of_le (i3.dom y hy) hr.size
 have fw:ap (F4 a0 bw bc bm bk k) bw:=⟨_,List.mem_cons_self,rfl⟩
 have fc:ap (F4 a0 bw bc bm bk k) bc:=⟨_,List.mem_cons_of_mem _ List.mem_cons_self,rfl⟩
 have fm:ap (F4 a0 bw bc bm bk k) bm:=⟨_,List.mem_cons_of_mem _ (List.mem_cons_of_mem _ List.mem_cons_self),rfl⟩
 have fk:ap (F4 a0 bw bc bm bk k) bk:=⟨_,List.mem_cons_of_mem _ (List.mem_cons_of_mem _ (List.mem_cons_of_mem _ List.mem_cons_self)),rfl⟩
 have fm0:ap (qC a0 bm bk k) bm:=⟨_,List.mem_cons_self,rfl⟩
 have fk0:ap (qC a0 bm bk k) bk:=⟨_,List.mem_cons_of_mem _ List.mem_cons_self,rfl⟩
 have f0:∀y,ap (qC a0 bm bk k) y→y=bm∨y=bk:=fun y ⟨d,hd,e⟩=>by
  rcases List.mem_cons.1 hd with rfl |hd
  ·exact .inl (Option.some.inj e).symm
  ·rw [List.mem_singleton.1 hd] at e;exact .inr (Option.some.inj e).symm
 have ap1:=List.pairwise_cons.1 hO1.apart
 have ap2:=List.pairwise_cons.1 ap1.2
 have ap3:=List.pairwise_cons.1 ap2.2
 have nwc:bw≠bc:=fun e=>ap1.1 _ List.mem_cons_self bw rfl (by rw [e];rfl)
 have nwm:bw≠bm:=fun e=>ap1.1 _ (List.mem_cons_of_mem _ List.mem_cons_self) bw rfl (by rw [e];rfl)
 have nwk:bw≠bk:=fun e=>ap1.1 _ (List.mem_cons_of_mem _ (List.mem_cons_of_mem _ List.mem_cons_self)) bw rfl (by rw [e];rfl)
 have ncm:bc≠bm:=fun e=>ap2.1 _ List.mem_cons_self bc rfl (by rw [e];rfl)
 have nck:bc≠bk:=fun e=>ap2.1 _ (List.mem_cons_of_mem _ List.mem_cons_self) bc rfl (by rw [e];rfl)
 have nmk:bm≠bk:=fun e=>ap3.1 _ List.mem_cons_self bm rfl (by rw [e];rfl)
 obtain⟨cw,hcw,hcw2⟩:=hO1.holds _ List.mem_cons_self
 obtain⟨q1,q2,rfl,⟨rfl,_⟩,rfl,_⟩:=hcw2
 have hch:v1.heap[bc]? =some (.chan 0 #[] false 0 0 false):=hO1.holds _ (List.mem_cons_of_mem _ List.mem_cons_self)
 obtain⟨cells,hcl,hce⟩:=hO1.holds _ (List.mem_cons_of_mem _ (List.mem_cons_of_mem _ List.mem_cons_self))
 obtain⟨c0,c1,c2,c3,c4,c5,rfl,hrd⟩:=oq hce
 have hmp:∃o,v1.heap[bk]? =some o∧aL k a0 o:=hO1.holds _ (List.mem_cons_of_mem _ (List.mem_cons_of_mem _ (List.mem_cons_of_mem _ List.mem_cons_self)))
 have hpok:(cU bw bc bm bk c0 c1 c2 c3 c4 c5 k a0).Ok:=⟨nmk,fun _=>⟨nwm,nwk,nwc⟩,fun _=>⟨ncm,nck⟩⟩
 have hat:(cU bw bc bm bk c0 c1 c2 c3 c4 c5 k a0).At v1.toWorld { f:=12 * n.toNat }:=⟨fun _=>(by
  show v1.heap[bw]? =some (.cells #[.int .u64 (((0:Nat) * 4294967296+(0:Nat):Nat):Int),.int .u32 ((0:Nat):Int)] 146);simpa using hcw),fun _=>hch,hcl,fun _=>hmp⟩
 have hshf:∀y,(cU bw bc bm bk c0 c1 c2 c3 c4 c5 k a0).sh y∨y=bk→ap (F4 a0 bw bc bm bk k) y:=by
  rintro y ((rfl |⟨_,rfl |rfl⟩) |rfl)
  ·exact fm
  ·exact fw
  ·exact fc
  ·exact fk
 refine Ak hG (PC hpok) (p:=cU bw bc bm bk c0 c1 c2 c3 c4 c5 k a0) (T:=T) (q:={ f:=12 * n.toNat }) (s:=sS (12 * n.toNat) 0 true true) hpok hL hO1.domA hO1.domZ (hO1.far _ fk).2 hat (fun y hy=>(hO1.far y (hshf y hy)).1) rfl rfl (fun _=>rfl) rfl ?_
 have B:BC Tryz.prog (Ww Tryz.prog (cU bw bc bm bk c0 c1 c2 c3 c4 c5 k a0) T true (sS (12 * n.toNat) 0 true true)):=mi rfl rfl
 refine B.move (fun _ _=>nk) ?_
 refine B.move (fun _ _=>xW) ?_
 generalize hV1:(⟨v1.toWorld,fun y=>v1.A y∨(cU bw bc bm bk c0 c1 c2 c3 c4 c5 k a0).sh y∨y=(cU bw bc bm bk c0 c1 c2 c3 c4 c5 k a0).bk,v1.Z⟩:VW)=V1
 have hVA:∀y,V1.A y↔v1.A y∨y=bm∨y=bw∨y=bc∨y=bk:=fun y=>by
  rw [←hV1];constructor
  ·rintro(h |(h |⟨_,h |h⟩) |h)
   ·exact .inl h
   ·exact .inr (.inl h)
   ·exact .inr (.inr (.inl h))
   ·exact .inr (.inr (.inr (.inl h)))
   ·exact .inr (.inr (.inr (.inr h)))
  ·rintro(h |h |h |h |h)
   ·exact .inl h
   ·exact .inr (.inl (.inl h))
   ·exact .inr (.inl (.inr ⟨rfl,.inl h⟩))
   ·exact .inr (.inl (.inr ⟨rfl,.inr h⟩))
   ·exact .inr (.inr h)
 have hVw:V1.toWorld=v1.toWorld:=by rw [←hV1]
 have hVh:V1.heap=v1.heap:=by rw [hVw]
 have hVZ:V1.Z=v1.Z:=by rw [←hV1]
 have hOV:aQ [] S1 V1:=by
  refine⟨fun _ h=>by simp at h,fun _ h=>(bW h).elim,List.Pairwise.nil,fun _ h=>(bW h).elim,fun y hy h=>?_,fun y h=>?_,by rw [hVZ,hVh];exact hO1.domZ⟩
  ·rcases(hVA y).1 h with h |rfl |rfl |rfl |rfl
   ·exact hO1.sees y hy h
   ·exact(hO1.own _ fm).1 hy
   ·exact(hO1.own _ fw).1 hy
   ·exact(hO1.own _ fc).1 hy
   ·exact(hO1.own _ fk).1 hy
  ·rw [hVh];rcases(hVA y).1 h with h |rfl |rfl |rfl |rfl
   ·exact hO1.domA y h
   ·exact(hO1.own _ fm).2
   ·exact(hO1.own _ fw).2
   ·exact(hO1.own _ fc).2
   ·exact(hO1.own _ fk).2
 have hA1:yn bw bc bm bk V1:=⟨(hVA _).2 (.inr (.inl rfl)),(hVA _).2 (.inr (.inr (.inl rfl))),(hVA _).2 (.inr (.inr (.inr (.inl rfl)))),(hVA _).2 (.inr (.inr (.inr (.inr rfl)))),by rw [hVZ];exact(hO1.far _ fk).2⟩
 have hI0:NI V1 S1 ((6,.eq (.int .i64 ((0:Nat):Int)))::yz bw bc bm [c0,c1,c2,c3,c4,c5] a0) a V1:=by
  have h6:∀s r,lk [(6,A.eq (.int .i64 ((0:Nat):Int))),(1,.at .val (.pointer (some ⟨bm,0,none⟩))),(2,.at .val (.chan (some bc))),(3,.eq (.pointer (some ⟨bw,0,none⟩)))] s=some r→r.holds S1 V1 (a.tmps.getD s undef):=fun s r hl=>by
   rw [show(V1.toWorld)=v1.toWorld from hVw];exact A.mono (fun _ h=>h) (fp i3.dom i5.sees hr) r (i6 s r hl)
  refine⟨S1,i1,i2,bp.refl (v:=ez V1) (fun y hy=>by rw [show(ez V1).heap=v1.heap from hVh];exact hd1 y hy),hOV,fun s r hl=>?_⟩;simp only [lk] at hl;split at hl
  ·rename_i e;subst e;cases hl;exact h6 6 _ rfl
  ·split at hl
   ·rename_i e;subst e;cases hl;refine Q0 (h6 1 _ rfl) ?_;rw [show(V1.toWorld)=v1.toWorld from hVw];exact hrd
   ·split at hl
    ·rename_i e;subst e;cases hl;exact h6 2 _ rfl
    ·split at hl
     ·rename_i e;subst e;cases hl;exact h6 3 _ rfl
     ·cases hl
 have hK:Kn (MW Tryz.prog (cU bw bc bm bk c0 c1 c2 c3 c4 c5 k a0) T) bm 0 [c0,c1,c2,c3,c4,c5]:=Nb rfl
 refine Ek hpok hb hbk (fun a2 v2 hA2 hI2=>?_) 4 0 rfl true true (fun e=>e) (fun e=>by cases e) a V1 hA1 hI0
 have B2:BC Tryz.prog (Ww Tryz.prog (cU bw bc bm bk c0 c1 c2 c3 c4 c5 k a0) T true (sS (12 * n.toNat) 4 false false)):=mi rfl rfl
 obtain⟨S2,st2,hcs2,hback⟩:=hI2.st (MW Tryz.prog (cU bw bc bm bk c0 c1 c2 c3 c4 c5 k a0) T)
 refine B2.move (fun _ _=>dB) ?_
 refine B2.move (fun _ _=>dB) ?_
 refine eE (c:=pu (MW Tryz.prog (cU bw bc bm bk c0 c1 c2 c3 c4 c5 k a0) T) S2 v2) (Q:=fun a w=>St (pu (MW Tryz.prog (cU bw bc bm bk c0 c1 c2 c3 c4 c5 k a0) T) S2 v2) (FR bw bc bm [c0,c1,c2,c3,c4,c5] a0 n ((0:Nat):Int)) [] a w) (nA rfl rfl) hb st2 ?_ fun a3 v3 st3=>?_
 ·
  refine ae ?_;refine bY rfl (av (t:=.mo (.pointer (some ⟨bm,0,none⟩)) [c0,c1,c2,c3,c4,c5] aj) rfl CJ rfl) ⟨rfl,trivial⟩ ?_;refine bY rfl (kZ rfl) ⟨rfl,trivial⟩ ?_;refine bY rfl (gx rfl gP) ⟨rfl,trivial⟩ ?_;refine bY rfl (ix 1 false rfl gX rfl rfl) ⟨rfl,trivial⟩ ?_;refine bY rfl (jj (t:=(.int .i64)) rfl bV (hK.sub 0 1 rfl (Nat.le_of_ble_eq_true rfl)) rfl rfl) ⟨rfl,trivial⟩ ?_;refine bY rfl (MR rfl hn0) ⟨rfl,rfl,trivial⟩ ?_;refine fa rfl ?_;refine be (ax ?_);rw [hn];exact jd (junk:=[]) (by repeat (first |exact trivial |refine⟨rfl,?_⟩)) um
 refine B2.move (fun _ _=>nk) ?_
 refine B2.move (fun _ _=>xW) ?_
 refine FQ hpok (N:=n.toNat) (n:=n) (by omega) (by omega) (fun i hi=>vY hall i hi) hb hA2 (fun a4 v4 st4=>?_) n.toNat 0 (by omega) a3 v3 st3
 refine Nk hpok hb hbk hA2 st4 fun a5 v5 st5=>?_
 have hA5:=hA2.st (c:=pu (MW Tryz.prog (cU bw bc bm bk c0 c1 c2 c3 c4 c5 k a0) T) S2 v2) st5
 obtain⟨S4,j1,j2,j3,j4,j5⟩:=hback st5
 refine Ww.fin rfl ⟨rfl,rfl,rfl,rfl,rfl,w0.Z,fun v6 q hr6 hat6 hpre6=>?_⟩
 obtain⟨g1,g2,g3⟩:=zb hpre6 rfl ⟨rfl,rfl,rfl,rfl,rfl,rfl,rfl⟩
 have hmu:v6.heap[bm]? =some (.cells #[c0,c1,c2,c3,c4,c5,.int .i32 0,.int .u32 0,.map (some bk)] 123):=by
  have:=hat6.mu;rw [g1,g2] at this;exact this
 have hmp6:∃o,v6.heap[bk]? =some o∧aL k a0 o:=hat6.mp g3
 have hZ:v.Z=w0.Z:=i3.Z
 have hsz1:w0.heap.size≤v1.heap.size:=Nat.le_trans i3.size hr.size
 have hsV:V1.heap.size≤v5.heap.size:=j3.size
 rw [hVh] at hsV
 have hsz:w0.heap.size≤v6.heap.size:=Nat.le_trans hsz1 (Nat.le_trans hsV hr6.size)
 have hge:∀y,ap (F4 a0 bw bc bm bk k) y→y≠bm→y≠bk→w0.heap.size≤y:=fun y hy h1 h2=>(i4 y hy).resolve_left fun h=>(f0 y h).elim h1 h2
 have old1:∀y,v1.A y→w0.A y∨w0.heap.size≤y:=fun y hy=>by
  rcases hr.old y hy with h |h
  ·exact i3.oldA y h
  ·exact .inr (Nat.le_trans i3.size h)
 have oldV:∀y,V1.A y→y≠bm→y≠bk→w0.A y∨w0.heap.size≤y:=fun y hy h1 h2=>by
  rcases(hVA y).1 hy with h |h |rfl |rfl |h
  ·exact old1 y h
  ·exact absurd h h1
  ·exact .inr (hge _ fw h1 h2)
  ·exact .inr (hge _ fc h1 h2)
  ·exact absurd h h2
 have old5:∀y,v5.A y→y≠bm→y≠bk→w0.A y∨w0.heap.size≤y:=fun y hy h1 h2=>by
  rcases j3.oldA y hy with h |h
  ·exact oldV y h h1 h2
  ·rw [show(ez V1).heap=v1.heap from hVh] at h;exact .inr (Nat.le_trans hsz1 h)
 have keep1:∀y,y < v1.heap.size→¬V1.A y→v6.heap[y]? =v1.heap[y]? :=fun y hy ha=>by
  have e1:v5.heap[y]? =V1.heap[y]? :=j3.keep y (by rw [show(ez V1).heap=v1.heap from hVh];exact hy) ha fun h=>(bW h).elim
  have n5:¬v5.A y:=fun h=>(j3.oldA y h).elim ha fun h=>by
   rw [show(ez V1).heap=v1.heap from hVh] at h;omega
  have e2:=hr6.keep y (Nat.lt_of_lt_of_le hy hsV) n5;rw [hVh] at e1;exact e2.trans e1
 have hKs:fW S1 v1 v6:=fun y hy=>keep1 y (hd1 y hy) fun h=>hOV.sees y hy h
 refine next a5 _ ⟨j1,j2,S4,⟨fun y hy=>j3.sub y (i3.sub y hy),fun y hy=>?_,fun y hy=>Nat.lt_of_lt_of_le (j3.dom y hy) hr6.size,hsz,fun y hy ha hx=>?_,?_,?_,?_,fun y hy=>?_,fun y hy=>?_,rfl⟩,fun y hy=>.inl hy,⟨fun d hd'=>?_,fun y hy=>?_,ap2.2,fun y hy=>⟨fun h=>?_,?_⟩,fun y hy h=>?_,fun y h=>hr6.dom j4.domA y h.1,fun y h=>?_⟩,fun s r hl=>by cases hl⟩
 ·
  rcases j3.new y hy with h |h |h
  ·exact i3.new y h
  ·rw [show(ez V1).heap=v1.heap from hVh] at h;exact .inr (.inl (Nat.le_trans hsz1 h))
  ·exact(bW h).elim
 ·
  have e1:=i3.keep y hy ha hx;have e2:=hr.keep y (Nat.lt_of_lt_of_le hy i3.size) (fun h=>(i3.oldA y h).elim ha fun h=>absurd hy (Nat.not_lt.2 h));have e3:=keep1 y (Nat.lt_of_lt_of_le hy hsz1) fun h=>(oldV y h (fun e=>hx (e▸fm0)) (fun e=>hx (e▸fk0))).elim ha fun h=>absurd hy (Nat.not_lt.2 h);exact e3.trans (e2.trans e1)
 ·
  have e1:j6 v5.os V1.os:=j3.os;rw [show V1.os=v1.os by rw [hVw]] at e1;exact((hr6.os.trans e1).trans hr.os).trans i3.os
 ·
  have e1:v5.tape=V1.tape:=j3.tape;rw [show V1.tape=v1.tape by rw [hVw]] at e1;exact((hr6.tape.trans e1).trans hr.tape).trans i3.tape
 ·
  have e1:v5.output=V1.output:=j3.output;rw [show V1.output=v1.output by rw [hVw]] at e1;exact((hr6.output.trans e1).trans hr.output).trans i3.output
 ·
  refine⟨hr6.sub y (j3.subA y ((hVA y).2 (.inl (hr.sub y (i3.subA y hy))))),fun e=>?_,fun e=>?_⟩
  ·have e:y=bm:=e;rw [e] at hy;exact(i5.far _ fm).1 (i3.subA _ hy)
  ·have e:y=bk:=e;rw [e] at hy;exact(i5.far _ fk).1 (i3.subA _ hy)
 ·
  obtain⟨h1,h2,h3⟩:=hy;rcases hr6.old y h1 with h |h
  ·exact old5 y h h2 h3
  ·exact .inr (Nat.le_trans hsz1 (Nat.le_trans hsV h))
 ·
  rcases List.mem_cons.1 hd' with rfl |hd'
  ·exact⟨_,hmu,[c0,c1,c2,c3,c4,c5],_,rfl,dP (fun y hy=>j3.sub y hy) hKs aj hrd,[_],_,rfl,⟨rfl,rfl⟩,[_],_,rfl,⟨rfl,rfl⟩,⟨rfl,rfl⟩⟩
  ·rw [List.mem_singleton.1 hd'];exact hmp6
 ·
  rcases f0 y hy with rfl |rfl
  ·exact⟨fun h=>j4.sees _ h hA5.m,(Array.getElem?_eq_some_iff.1 hmu).1⟩
  ·obtain⟨o,ho,_⟩:=hmp6;exact⟨fun h=>j4.sees _ h hA5.k,(Array.getElem?_eq_some_iff.1 ho).1⟩
 ·
  rcases f0 y hy with rfl |rfl
  ·exact h.2.1 rfl
  ·exact h.2.2 rfl
 ·
  show¬w0.Z y;rw [←hZ];rcases f0 y hy with rfl |rfl
  ·exact(i5.far _ fm).2
  ·exact(i5.far _ fk).2
 ·
  rcases hr6.old y h.1 with h' |h'
  ·exact j4.sees y hy h'
  ·exact absurd (j3.dom y hy) (Nat.not_lt.2 h')
 ·
  have h:w0.Z y:=h;rw [←hZ] at h;exact Nat.lt_of_lt_of_le (i5.domZ y h) (Nat.le_trans hr.size (Nat.le_trans hsV hr6.size))
theorem qW(k:Nat)(r:Unit)(h:ew k a0=some r):bQ (dC Tryz.prog) 72 [.eq (.pointer (some ⟨bm,0,none⟩))] (qC a0 bm bk k) (fun _:Unit=>(bv [],qC a0 bm bk k)):=by
 unfold ew at h;split at h
 ·rename_i hc;refine K.bQ.ofT 26 Tryz.func72 rfl rfl rfl fun kind hk S w0 a st T hT cs hcc=>?_;refine hT.1.move (fun _ _=>dB) ?_;refine PH hT rfl st fun a1 v1 st1=>?_;refine hT.1.move (fun _ _=>dB) ?_;refine PG hT rfl st1 fun a2 v2 bc st2=>?_;refine hT.1.move (fun _ _=>dB) ?_;refine PE hT rfl st2 fun a3 v3 bw st3=>?_;refine hT.1.move (fun _ _=>dB) ?_;refine hT.1.move (fun _ _=>dB) ?_;refine PD hT rfl st3 fun a4 v4 st4=>?_;refine Jn hc.1 rfl hc.2 h hT rfl hk st4 fun a5 v5 st5=>?_;refine hcc .normal a5 v5 ?_;refine(?_:JN (yK a0 bm bk k S w0) (K.bR Tryz.prog Tryz.f72 (dr S w0 (qC a0 bm bk k) fun _:Unit=>(bv [],qC a0 bm bk k)) .normal) [] (qC a0 bm bk k)) a5 v5 st5;refine j8 ?_;exact aM () [] 2 trivial rfl
 ·cases h
end
end Go.Proofs.YtlmopgkkijhllaaGreat
set_option linter.unusedVariables false
set_option maxRecDepth 4000
set_option maxHeartbeats 1000000
namespace Go.Proofs.YtlmopgkkijhllaaGreat
open K Go Go.Proofs
def ug(l:List Int):List Value:=l.map fun n=>.int .i64 n
theorem yX:∀{l l':List Int},ug l=ug l'→l=l'
 |[],[],_=>rfl
 |[],_::_,h=>by cases h
 |_::_,[],h=>by cases h
 |a::l,b::l',h=>by
  have h:Value.int .i64 a::ug l=Value.int .i64 b::ug l':=h
  simp only [List.cons.injEq,Value.int.injEq,true_and] at h
  rw [h.1,yX h.2]
theorem GO(l:List Int):(ug l).length=l.length:=by simp [ug]
theorem Ny:75 < Tryz.prog.types.size:=Nat.lt_of_lt_of_le (Nat.lt_succ_self 75) (Nat.le_of_ble_eq_true (by kernel_rfl))
theorem Gs:Tryz.prog.types.size+2≤10000:=Nat.le_of_ble_eq_true (by kernel_rfl)
theorem yJ{n:Int}(h1: -1≤n)(h2:n < 1000000):(Lit.int .i64 n).wf=true:=by
 simp only [Lit.wf,Bool.and_eq_true,decide_eq_true_eq];exact⟨Int.le_trans (by decide) h1,Int.le_trans (Int.le_of_lt h2) (by decide)⟩
theorem K1(d:Nat){l:List Int}(h5:l.length=5)(hw:∀n∈l, -1≤n∧n < 1000000):Tryz.prog.keyLits (d+2) 75 (ug l)=some (l.map fun n=>.int .i64 n):=by
 match l,h5,hw with
 |[a,b,c,e,f],_,hw=>
  have hint:∀(n:Int),n∈[a,b,c,e,f]→Tryz.prog.keyLits (d+1) 3 [.int .i64 n]=some [.int .i64 n]:=fun n h=>by
   have:=hw n h;simp only [Program.keyLits,Tryz.underlying3,yJ this.1 this.2,and_self,if_true]
  have hc:Tryz.prog.cellsOf 75=5:=by kernel_rfl
  have hc3:Tryz.prog.cellsOf 3=1:=by kernel_rfl
  have hr:List.range 5=[0,1,2,3,4]:=by decide
  unfold Program.keyLits;simp [ug,Tryz.underlying75,hc,hc3,hr,hint a (by simp),hint b (by simp),hint c (by simp),hint e (by simp),hint f (by simp)]
def xo(l:List Int):Prop:=l.length=5∧∀n∈l, -1≤n∧n < 1000000
instance (l:List Int):Decidable (xo l):=by unfold xo;infer_instance
def tw(l:List Int):Value:=.agg (ug l).toArray
theorem oV{S:FS}{w:World}{u:Value}{l:List Int}(h:(A.rep (.arr 5 (.int .i64)) l).holds S w u):u=tw l:=by
 obtain⟨cs,⟨_,h1⟩,h2⟩:=h
 have kA:∀{r:List Int} {cs:List Value},dH (rd S w (.int .i64)) r cs→cs=ug r:=by
  intro r
  induction r with
  |nil=>intro cs h;exact h
  |cons n r ih=>rintro cs ⟨c1,c2,rfl,h1,h2⟩;have h1:c1=[.int .i64 n]:=h1;rw [h1,ih h2];rfl
 rw [h2,kA h1];rfl
theorem yY(l:List Int):kO (tw l)=true:=by
 show((ug l).toArray.toList.all ut)=true
 induction l with
 |nil=>rfl
 |cons n r ih=>exact ih
theorem K0:WideMaps.KeyLaw Tryz.prog 75:=deep_law_gate (by kernel_rfl) Gs (Nat.lt_of_lt_of_le (Nat.lt_succ_self 75) (Nat.le_of_ble_eq_true (by kernel_rfl))) (by kernel_rfl) (by kernel_rfl)
theorem zD{l:List Int}(h:xo l):∃lt,keyOf Tryz.prog 75 (tw l)=some lt:=by
 obtain⟨d,hd⟩:∃d,Tryz.prog.types.size+1=d+2:=⟨Tryz.prog.types.size - 1,by have:=Ny;omega⟩;have k1:=K1 d h.1 h.2;have n1:=GO l;rw [h.1] at n1;have hc:Tryz.prog.cellsOf 75=5:=by kernel_rfl
 have hk:Tryz.prog.keyType 75=true:=by kernel_rfl
 have hL:Tryz.prog.keyLits (Tryz.prog.types.size+1) 75 (tw l).cells.toList=some (l.map fun n=>.int .i64 n):=by
  rw [hd];exact k1
 refine⟨.string (keyBytes (l.map fun n=>.int .i64 n)),?_⟩;unfold keyOf;rw [Tryz.underlying75];have hf:(tw l).formed Tryz.prog 75=true:=by simp [tw,Value.formed,Tryz.underlying75,hc,n1]
 simp only [hk,hf,Bool.and_self,if_true,hL,Option.map_some]
theorem NP{l l':List Int}(h1:xo l)(h2:xo l')(w:World):(Op.equalIn 10000 75 (tw l) (tw l')).run Tryz.prog w= .ok (decide (l=l')) w:=by
 obtain⟨l1,k1⟩:=zD h1;obtain⟨l2,k2⟩:=zD h2;obtain⟨r,hr,hiff⟩:=run_equal_deep (P:=Tryz.prog) w (Nat.le_succ 9999) (by kernel_rfl) (by kernel_rfl) k1 k2
 have e:r=decide (l=l'):=by
  by_cases hl:l=l'
  ·subst hl;rw [k1] at k2;rw [decide_eq_true rfl,hiff.2 (Option.some.inj k2)]
  ·rw [decide_eq_false hl];cases hb:r with
   |false=>rfl
   |true=>
    have:=K0.inj k1 (by rw [hiff.1 hb];exact k2);simp only [tw,Value.agg.injEq] at this;exact absurd (yX (by simpa using congrArg Array.toList this)) hl
 rw [←e];exact hr
theorem Hi{M:Md Tryz.prog}{o:Oper}{x y:Operand}{T':TypeId}{l l':List Int}(ho:o.op= .binOp .eql 75 x y T')(h1:xo l)(h2:xo l'):bo M o [(x,.rep (.arr 5 (.int .i64)) l),(y,.rep (.arr 5 (.int .i64)) l')] [] (fun _:Unit=>(.eq (.bool (decide (l=l'))),[])):=
 .val0 (hns:=fun S w a hN=>tO ho (by rw [oV hN.1,oV hN.2.1];exact uB (yY _) (yY _))) fun S w a hN=>by
  have e1:a.eval x=tw l:=oV hN.1
  have e2:a.eval y=tw l':=oV hN.2.1
  have h3:=NP h1 h2 w
  refine⟨_,?_,rfl⟩
  have hg:Tryz.prog.eqGuardType Tryz.prog.depth 75=false:=by kernel_rfl
  unfold tw at e1 e2 h3
  simp only [execOp,ho,e1,e2,Sem.run_bind,run_eqGuard_agg w _ _ _ _ _ _ hg,run_eql_struct,h3,Result.andThen_ok,Sem.run_pure]
end Go.Proofs.YtlmopgkkijhllaaGreat
set_option linter.unusedVariables false
set_option maxRecDepth 4000
set_option maxHeartbeats 1000000
namespace Go.Proofs.YtlmopgkkijhllaaGreat
open K Go Go.Proofs Go.Conc
@[reducible] def K.VW.less(v:VW)(bm:Nat):VW:=⟨v.toWorld,fun b=>v.A b∧b≠bm,v.Z⟩
@[reducible] def K.VW.more(v:VW)(bm:Nat):VW:=⟨v.toWorld,fun b=>v.A b∨b=bm,v.Z⟩
theorem K.VW.less_more{v:VW}{bm:Nat}(h:¬v.A bm):(v.more bm).less bm=v:=by
 have:(fun b=>(v.A b∨b=bm)∧b≠bm)=v.A:=by
  funext b;exact propext ⟨fun⟨x,y⟩=>x.elim id fun e=>absurd e y,fun x=>⟨.inl x,fun e=>h (e▸x)⟩⟩
 show(⟨v.toWorld,fun b=>(v.A b∨b=bm)∧b≠bm,v.Z⟩:VW)=v;rw [this]
def HY(bm:Nat)(ob:Obj)(T:Tq):Tq:=fun v fr cs=>∀v1,bh v v1→v1.A bm→v1.heap[bm]? =some ob→T (v1.less bm) fr cs
section
variable {P:Program}{bm:Nat}{ob:Obj}{T:Tq}
theorem wG(B:BC P T){v1 u:VW}{fr:Frame}{cs:List Frame}(hA:v1.A bm)(hob:v1.heap[bm]? =some ob)(hr:bh (v1.less bm) u):bh v1 (u.more bm)∧u.heap[bm]? =some ob∧¬u.A bm:=by
 have hlt:=(Array.getElem?_eq_some_iff.1 hob).1;have e1:u.heap[bm]? =some ob:=(hr.keep bm hlt fun h=>h.2 rfl).trans hob;refine⟨⟨fun b hb ha=>hr.keep b hb fun h=>ha h.1,hr.size,fun b hb=>?_,fun b hb=>?_,fun hd b hb=>?_,hr.Z,hr.os,hr.tape,hr.output⟩,e1,fun h=>?_⟩
 ·by_cases e:b=bm
  ·exact .inr e
  ·exact .inl (hr.sub b ⟨hb,e⟩)
 ·rcases hb with hb |rfl
  ·exact(hr.old b hb).imp (fun h=>h.1) id
  ·exact .inl hA
 ·rcases hb with hb |rfl
  ·exact hr.dom (fun b h=>hd b h.1) b hb
  ·exact Nat.lt_of_lt_of_le hlt hr.size
 ·exact(hr.old bm h).elim (fun h=>h.2 rfl) fun h=>absurd hlt (Nat.not_lt.2 h)
theorem KO(B:BC P T):BC P (HY bm ob T) where
 rely v v1 fr cs hr h:=fun v2 hr2=>h v2 (hr.trans hr2)
 step v fr cs H:=fun v1 hr hA hob=>B.step _ _ _ fun u hu=>by
  obtain⟨g1,g2,g3⟩:=wG (fr:=fr) (cs:=cs) B hA hob hu
  obtain⟨fr',cs',w',es,k1,k2,k3⟩:=H (u.more bm) (hr.trans g1)
  have e1:w'.heap[bm]? =some ob:=(k2.keep bm ((Array.getElem?_eq_some_iff.1 g2).1) (.inl (.inr rfl))).trans g2
  refine⟨fr',cs',w',es,k1,⟨fun b hb h=>k2.keep b hb (h.imp .inl id),k2.size,k2.os,k2.tape,k2.output,fun e he=>?_⟩,?_⟩
  ·
   have:=k2.evs e he
   unfold lC at this⊢
   split at this
   ·
    exact⟨this.1,this.2.1,fun h=>this.2.2.1 (.inl h),this.2.2.2⟩
   ·
    exact⟨this.1,this.2.1,fun h=>this.2.2.1 (.inl h),this.2.2.2⟩
   ·
    exact this
   ·
    exact this
  ·
   have:=k3 ((u.more bm).upd w') (bh.refl _) (.inr rfl) e1
   have e2:((u.more bm).upd w').less bm=u.upd w':=K.VW.less_more (v:=u.upd w') g3
   rwa [e2] at this
theorem KN(B:BC P T):TS P (fun w=>w.heap[bm]? =some ob) (fun e=>∃o,e=⟨.cell ⟨bm,o,none⟩,false,false⟩) (HY bm ob T):=fun v fr cs H v1 hr hA hob=>B.step _ _ _ fun u hu=>by
 obtain⟨g1,g2,g3⟩:=wG (fr:=fr) (cs:=cs) B hA hob hu
 obtain⟨fr',cs',w',es,k1,k2,k3⟩:=H (u.more bm) (hr.trans g1) g2
 have hlt:=(Array.getElem?_eq_some_iff.1 g2).1
 obtain⟨⟨q1,q2,q3,q4,q5,_⟩,q6⟩:=k2
 have e1:w'.heap[bm]? =some ob:=(q1 bm hlt (.inl (.inr rfl))).trans g2
 refine⟨fr',cs',w',es,k1,⟨fun b hb h=>q1 b hb (h.imp .inl id),q2,q3,q4,q5,fun e he=>?_⟩,?_⟩
 ·
  rcases q6 e he with h |⟨o,rfl⟩
  ·
   unfold lC at h⊢
   split at h
   ·
    exact⟨h.1,h.2.1,fun h'=>h.2.2.1 (.inl h'),h.2.2.2⟩
   ·
    exact⟨h.1,h.2.1,fun h'=>h.2.2.1 (.inl h'),h.2.2.2⟩
   ·
    exact h
   ·
    exact h
  ·
   exact⟨rfl,Nat.lt_of_lt_of_le hlt q2,g3,fun h=>by cases h⟩
 ·
  have:=k3 ((u.more bm).upd w') (bh.refl _) (.inr rfl) e1
  have e2:((u.more bm).upd w').less bm=u.upd w':=K.VW.less_more (v:=u.upd w') g3
  rwa [e2] at this
def ML(M:Md P)(bm:Nat)(ob:Obj):Md P:=⟨fun T'=>∃T,M.ok T∧T'=HY bm ob T,fun w=>w.heap[bm]? =some ob,fun e=>∃o,e=⟨.cell ⟨bm,o,none⟩,false,false⟩,fun T' ⟨T,h,e⟩=>e▸KO (M.bc T h),fun T' ⟨T,h,e⟩=>e▸KN (M.bc T h)⟩
end
section
variable {bm bk:Nat}{a0:ag}
theorem HW{M:Md Tryz.prog}{f:Nat}{uz:List A}{RA:A}(h:∀(M:Md Tryz.prog) (c0 c1 c2 c3 c4 c5:Value),Kn M bm 0 [c0,c1,c2,c3,c4,c5]→bQ M f (.rep (.mo (.pointer (some ⟨bm,0,none⟩)) [c0,c1,c2,c3,c4,c5] aj) a0::uz) [] (fun _:Unit=>(RA,[]))):
 bQ M f (.eq (.pointer (some ⟨bm,0,none⟩))::uz) [.obj bm 123 (am a0 bk)] (fun _:Unit=>(RA,[.obj bm 123 (am a0 bk)])):=by
 intro kd hkd S w vs hd hall hO T hT cs hc
 have fm:ap [D.obj bm 123 (am a0 bk)] bm:=⟨_,List.mem_cons_self,rfl⟩
 obtain⟨cells,hcl,hce⟩:=hO.holds _ List.mem_cons_self
 obtain⟨c0,c1,c2,c3,c4,c5,rfl,hrd⟩:=oq hce
 have hlt:=(Array.getElem?_eq_some_iff.1 hcl).1
 have hKn:Kn (ML M bm (.cells #[c0,c1,c2,c3,c4,c5,.int .i32 0,.int .u32 0,.map (some bk)] 123)) bm 0 [c0,c1,c2,c3,c4,c5]:=⟨fun w hw=>⟨_,_,_,hw,rfl⟩,fun j _=>⟨0+j,rfl⟩⟩
 have hfe:∀b,ap [D.obj bm 123 (am a0 bk)] b→b=bm:=fun b ⟨d,hd',e⟩=>by
  rw [List.mem_singleton.1 hd'] at e;exact(Option.some.inj e).symm
 have key:=h _ c0 c1 c2 c3 c4 c5 hKn kd hkd S (w.more bm) vs hd (by
  obtain⟨x,vs',e,hx,hx2⟩:=hall;have hx:x= .pointer (some ⟨bm,0,none⟩):=hx;subst hx;exact⟨_,vs',e,uG hrd,hx2⟩) ⟨fun d hd=>by simp at hd,fun b hb=>(bW hb).elim,List.Pairwise.nil,fun b hb=>(bW hb).elim,fun b hb hA=>hA.elim (hO.sees b hb) fun e=>(hO.own _ fm).1 (e▸hb),fun b hb=>hb.elim (hO.domA b) fun e=>e▸hlt,hO.domZ⟩ _ ⟨T,hT,rfl⟩ cs fun e v' fr hpo hf1 hf2 hlv v2 hr2 hA2 hob2=>?_
 ·
  have:=key (w.more bm) (bh.refl _) (.inr rfl) hcl;rwa [K.VW.less_more (hO.far _ fm).1] at this
 ·
  obtain⟨x,S',u,rfl,hcs,hres,hOw,_⟩:=hpo;have hAm:v'.A bm:=hcs.subA bm (.inr rfl);have hsz:w.heap.size≤v2.heap.size:=Nat.le_trans hcs.size hr2.size
  have oldw:∀b,v'.A b→b≠bm→w.A b∨w.heap.size≤b:=fun b hb h1=>by
   rcases hcs.oldA b hb with(hb |hb) |hb
   ·exact .inl hb
   ·exact absurd hb h1
   ·exact .inr hb
  have hZ2:v2.Z=w.Z:=by rw [hr2.Z,hcs.Z]
  have keepv:∀b,b < w.heap.size→¬w.A b→b≠bm→v2.heap[b]? =w.heap[b]? :=fun b hb ha h1=>by
   have e1:=hcs.keep b hb (fun h=>h.elim ha h1) fun h=>(bW h).elim;have e2:=hr2.keep b (Nat.lt_of_lt_of_le hb hcs.size) fun h=>(oldw b h h1).elim ha fun h=>absurd hb (Nat.not_lt.2 h);exact e2.trans e1
  have hKs:fW S w v2:=fun b hb=>keepv b (hd b hb) (hO.sees b hb) fun e=>(hO.own _ fm).1 (e▸hb);refine hc (.returned u) (v2.less bm) fr ⟨(),S',u,rfl,⟨fun b hb=>hcs.sub b hb,fun b hb=>?_,fun b hb=>Nat.lt_of_lt_of_le (hcs.dom b hb) hr2.size,hsz,fun b hb ha hx=>keepv b hb ha fun e=>hx (e▸fm),hr2.os.trans hcs.os,hr2.tape.trans hcs.tape,hr2.output.trans hcs.output,fun b hb=>⟨hr2.sub b (hcs.subA b (.inl hb)),fun e=>(hO.far _ fm).1 (e▸hb)⟩,fun b hb=>?_,hZ2⟩,A.mono (fun _ h=>h) (fp hcs.dom hOw.sees hr2) _ hres,⟨fun d hd'=>?_,fun b hb=>?_,hO.apart,fun b hb=>⟨fun h=>?_,by rw [hZ2];exact(hO.far b hb).2⟩,fun b hb h=>?_,fun b h=>hr2.dom hOw.domA b h.1,fun b h=>by rw [hZ2] at h;exact Nat.lt_of_lt_of_le (hO.domZ b h) hsz⟩,fun b hb=>.inl hb⟩ hf1 hf2 ?_
  ·rcases hcs.new b hb with h |h |h
   ·exact .inl h
   ·exact .inr (.inl h)
   ·exact(bW h).elim
  ·rcases hr2.old b hb.1 with h |h
   ·exact oldw b h hb.2
   ·exact .inr (Nat.le_trans hcs.size h)
  ·rw [List.mem_singleton.1 hd'];exact⟨_,hob2,[c0,c1,c2,c3,c4,c5],_,rfl,dP (fun b hb=>hcs.sub b hb) hKs aj hrd,[_],_,rfl,⟨rfl,rfl⟩,[_],_,rfl,⟨rfl,rfl⟩,⟨rfl,rfl⟩⟩
  ·obtain rfl:=hfe b hb;exact⟨fun h=>hOw.sees _ h hAm,Nat.lt_of_lt_of_le hlt hsz⟩
  ·exact h.2 (hfe b hb)
  ·rcases hr2.old b h.1 with h' |h'
   ·exact hOw.sees b hb h'
   ·exact absurd (hcs.dom b hb) (Nat.not_lt.2 h')
  ·obtain⟨l1,l2,fn,l3,l4⟩:=hlv;refine⟨l1,l2,fn,l3,fun v3 hr3=>?_⟩;have hm2:bm < v2.heap.size:=(Array.getElem?_eq_some_iff.1 hob2).1
   have hrel:bh v' (v3.more bm):=by
    refine⟨fun b hb ha=>?_,Nat.le_trans hr2.size hr3.size,fun b hb=>?_,fun b hb=>?_,fun hdm b hb=>?_,hr3.Z.trans hr2.Z,hr3.os.trans hr2.os,hr3.tape.trans hr2.tape,hr3.output.trans hr2.output⟩
    ·have e1:=hr2.keep b hb ha;have e2:=hr3.keep b (Nat.lt_of_lt_of_le hb hr2.size) fun h=>(hr2.old b h.1).elim ha fun h=>absurd hb (Nat.not_lt.2 h);exact e2.trans e1
    ·by_cases e:b=bm
     ·exact .inr e
     ·exact .inl (hr3.sub b ⟨hr2.sub b hb,e⟩)
    ·rcases hb with hb |rfl
     ·rcases hr3.old b hb with h |h
      ·exact hr2.old b h.1
      ·exact .inr (Nat.le_trans hr2.size h)
     ·exact .inl hAm
    ·rcases hb with hb |rfl
     ·exact hr3.dom (fun b h=>hr2.dom hOw.domA b h.1) b hb
     ·exact Nat.lt_of_lt_of_le hm2 hr3.size
   obtain⟨q1,q2⟩:=l4 _ hrel;refine⟨q1,⟨fun _ _ _=>rfl,Nat.le_refl _,.refl _,rfl,rfl,fun ev hev=>?_⟩⟩;have:=q2.evs ev hev;unfold lC at this⊢;split at this
   ·exact⟨this.1,this.2.1,fun h=>this.2.2.1 (.inl h),this.2.2.2⟩
   ·exact⟨this.1,this.2.1,fun h=>this.2.2.1 (.inl h),this.2.2.2⟩
   ·exact this
   ·exact this
end
end Go.Proofs.YtlmopgkkijhllaaGreat
set_option linter.unusedVariables false
set_option linter.unusedSectionVars false
namespace Go.Proofs.YtlmopgkkijhllaaGreat
namespace K
open Go
section
variable {P:Program}{M:Md P}{o:Oper}{T e:TypeId}
theorem EG{n0 n1 n2:Int}{x0 x1 x2:Operand}(ho:o.op= .build T #[(0,x0),(1,x1),(2,x2)])(hT:P.underlying T=some (.array 3 e))(hs:dY P e 1 false)(hz:∀w,(zeroValue T).run P w= .ok (.agg #[.int .i64 0,.int .i64 0,.int .i64 0]) w):
 bo M o [(x0,.eq (.int .i64 n0)),(x1,.eq (.int .i64 n1)),(x2,.eq (.int .i64 n2))] [] (fun _:Unit=>(.rep (.arr 3 (.int .i64)) [n0,n1,n2],[])):=
 .val0 fun S w a hN=>by
  have e0:a.eval x0= .int .i64 n0:=hN.1
  have e1:a.eval x1= .int .i64 n1:=hN.2.1
  have e2:a.eval x2= .int .i64 n2:=hN.2.2.1
  refine⟨.agg #[.int .i64 n0,.int .i64 n1,.int .i64 n2],?_,[.int .i64 n0,.int .i64 n1,.int .i64 n2],⟨rfl,[_],_,rfl,rfl,[_],_,rfl,rfl,[_],_,rfl,rfl,rfl⟩,rfl⟩
  simp [execOp,ho,Instr.build,Sem.run_bind,hz,run_underlying hT,hs.size,e0,e1,e2,Value.cells,Instr.fill]
end
section
variable {κ β:Type}[DecidableEq κ]
def ny(P:Program)(k:TypeId)(K:κ→Value)(V:β→Value)(l:List (κ×β))(o:Obj):Prop:=
 ∃es cl,o= .map es cl∧es.toList.map (fun e=>(e.key,e.val))=l.map (fun p=>(K p.1,V p.2))∧(∀p∈l,(∃lt,keyOf P k (K p.1)=some lt)∧kO (K p.1)=true)∧(l.map (·.1)).Nodup
def ni(l:List (κ×β))(t:κ)(d:β):β:=match l.find? (fun p=>p.1=t) with
 |some p=>p.2
 |none=>d
def Bz(l:List (κ×β))(t:κ)(v:β):List (κ×β):=if t∈l.map (·.1) then l.map (fun p=>if p.1=t then(t,v) else p) else l++[(t,v)]
theorem wQ{b:Nat}{R R':Obj→Prop}{x:Nat}(h:ap [D.inv b R] x):ap [D.inv b R'] x:=by
 obtain⟨d,hd,e⟩:=h;rw [List.mem_singleton.1 hd] at e;exact⟨_,List.mem_singleton.2 rfl,e⟩
theorem ny.nil{P:Program}{k:TypeId}{K:κ→Value}{V:β→Value}:ny P k K V [] (.map #[] 0):=⟨#[],0,rfl,rfl,by simp,List.nodup_nil⟩
theorem mL{K:κ→Value}{V:β→Value}{l:List (κ×β)}{es:Array MapEntry}(h:es.toList.map (fun e=>(e.key,e.val))=l.map (fun p=>(K p.1,V p.2))):∀{i:Nat} {e:MapEntry},es.toList[i]? =some e→∃p,l[i]? =some p∧e.key=K p.1∧e.val=V p.2:=by
 intro i e he;have h1:=congrArg (·[i]?) h;simp only [List.getElem?_map,he,Option.map_some] at h1;cases hp:l[i]? with
 |none=>rw [hp] at h1;cases h1
 |some p=>
  rw [hp] at h1;simp only [Option.map_some,Option.some.injEq,Prod.mk.injEq] at h1;exact⟨p,rfl,h1.1,h1.2⟩
theorem ny.calm{P:Program}{k:TypeId}{K:κ→Value}{V:β→Value}{l:List (κ×β)}{o:Obj}(h:ny P k K V l o):calm o=true:=by
 obtain⟨es,cl,rfl,h1,h2,h3⟩:=h;show(es.toList.all fun e=>kO e.key)=true;rw [List.all_eq_true];intro e he;obtain⟨i,hi⟩:=List.mem_iff_getElem?.1 he;obtain⟨p,hp,e1,_⟩:=mL h1 hi;rw [e1];exact(h2 p (List.mem_of_getElem? hp)).2
theorem KG{l:List (κ×β)}(hn:(l.map (·.1)).Nodup){i:Nat}{p:κ×β}(hp:l[i]? =some p)(d:β):ni l p.1 d=p.2:=by
 unfold ni
 have:l.find? (fun q=>q.1=p.1)=some p:=by
  induction l generalizing i with
  |nil=>simp at hp
  |cons q l ih=>
   simp only [List.map_cons,List.nodup_cons] at hn;cases i with
   |zero=>simp only [List.getElem?_cons_zero,Option.some.injEq] at hp;subst hp;simp
   |succ i=>
    simp only [List.getElem?_cons_succ] at hp;have hne:¬q.1=p.1:=fun e=>hn.1 (e▸List.mem_map.2 ⟨p,List.mem_of_getElem? hp,rfl⟩);rw [List.find?_cons_of_neg (by simpa using hne)];exact ih hn.2 hp
 rw [this]
theorem KF{l:List (κ×β)}{t:κ}(h:t∉l.map (·.1))(d:β):ni l t d=d:=by
 unfold ni;have:l.find? (fun q=>q.1=t)=none:=List.find?_eq_none.2 fun q hq e=>h (List.mem_map.2 ⟨q,hq,by simpa using e⟩);rw [this]
variable {P:Program}{M:Md P}{o:Oper}{x y v:Operand}{T T' k e:TypeId}{K:κ→Value}{V:β→Value}{l:List (κ×β)}{z:Nat}{rk:A}{t:κ}
theorem rV(r:β→A)(hV:∀S w n,(r n).holds S w (V n))(ho:o.op= .lookup T x y false)(hT:P.underlying T=some (.map k e))(d0:β)(hz:∀w,(zeroValue e).run P w= .ok (V d0) w)(hk:Maps.Keyed P k)(hy:∀S w u,rk.holds S w u→u=K t)(hkt:∃lt,keyOf P k (K t)=some lt)(hnk:kO (K t)=true)(hinj:∀a b,K a=K b→a=b):
 bo M o [(x,.eq (.map (some z))),(y,rk)] [.inv z (ny P k K V l)] (fun _:Unit=>(r (ni l t d0),[.inv z (ny P k K V l)])):=by
 refine vB.T ⟨by simp only [nd, *],fun S w a next hd hN hO kk=>?_⟩ (fun S w a hN _=>Da ho (by have e:a.eval y=K t:=hy _ _ _ hN.2.1;rw [e];exact hnk)) (fun d hd=>by rw [List.mem_singleton.1 hd];exact fun _ h=>h.calm)
 have e1:a.eval x= .map (some z):=hN.1
 have e2:a.eval y=K t:=hy S w _ hN.2.1
 obtain⟨ob,h1,es,cl,rfl,h2,h3,h4⟩:=hO.holds _ (List.mem_singleton.2 rfl)
 obtain⟨lt,hlt⟩:=hkt
 have hc:=hk.check w es.isEmpty hlt
 have fin:(Instr.lookup T (.map (some z)) (K t) false).run P w= .ok (V (ni l t d0)) w→Rr o a next ((execOp a.eval o).run P w):=fun hr=>by
  have hrun:(execOp a.eval o).run P w= .ok (.value (V (ni l t d0))) w:=by
   simp only [execOp,ho,e1,e2,Sem.run_bind,hr,Result.andThen_ok,Sem.run_pure]
  rw [hrun];exact kk () S w _ (jZ.refl hd) (hV _ _ _) hO (fun b hb=>.inl hb)
 refine fin ?_
 rcases hk.find w hlt es.toList (fun e he=>by
  obtain⟨i,hi⟩:=List.mem_iff_getElem?.1 he;obtain⟨p,hp,q1,_⟩:=mL h2 hi;rw [q1];exact(h3 p (List.mem_of_getElem? hp)).1) with⟨g1,g2⟩ |⟨j,en,g1,g2,g3⟩
 ·
  have hno:t∉l.map (·.1):=fun hm=>by
   obtain⟨p,hp,hpt⟩:=List.mem_map.1 hm;obtain⟨i,hi⟩:=List.mem_iff_getElem?.1 hp;have hi2:=congrArg (·[i]?) h2;simp only [List.getElem?_map,hi,Option.map_some] at hi2;cases he:es.toList[i]? with
   |none=>rw [he] at hi2;cases hi2
   |some e0=>
    rw [he] at hi2;simp only [Option.map_some,Option.some.injEq,Prod.mk.injEq] at hi2;exact g2 e0 (List.mem_of_getElem? he) (by rw [hi2.1,hpt])
  rw [KF hno];simp only [Instr.lookup,Sem.run_bind,run_underlying hT,Result.andThen_ok,fK h1,Sem.run_pure,hc,g1,hz,if_false,Bool.false_eq_true]
 ·
  obtain⟨p,hp,q1,q2⟩:=mL h2 g2;obtain rfl:p.1=t:=hinj _ _ (q1.symm.trans g3);rw [KG h4 hp];simp only [Instr.lookup,Sem.run_bind,run_underlying hT,Result.andThen_ok,fK h1,Sem.run_pure,hc,g1,q2,if_false,Bool.false_eq_true]
theorem qQ{n:β}{rv:A}(hV:∀S w u,rv.holds S w u→u=V n)(ho:o.op= .mapUpdate T x y v)(hT:P.underlying T=some (.map k e))(hk:Maps.Keyed P k)(hy:∀S w u,rk.holds S w u→u=K t)(hkt:∃lt,keyOf P k (K t)=some lt)(hnk:kO (K t)=true)(hinj:∀a b,K a=K b→a=b):
 bo M o [(x,.eq (.map (some z))),(y,rk),(v,rv)] [.inv z (ny P k K V l)] (fun _:Unit=>(.eq undef,[.inv z (ny P k K V (Bz l t n))])):=by
 refine vB.T ⟨by simp only [nd, *],fun S w a next hd hN hO kk=>?_⟩ (fun S w a hN _=>C5 ho (by have e:a.eval y=K t:=hy _ _ _ hN.2.1;rw [e];exact hnk)) (fun d hd=>by rw [List.mem_singleton.1 hd];exact fun _ h=>h.calm)
 have e1:a.eval x= .map (some z):=hN.1
 have e2:a.eval y=K t:=hy S w _ hN.2.1
 have e3:a.eval v=V n:=hV _ _ _ hN.2.2.1
 obtain⟨ob,h1,es,cl,rfl,h2,h3,h4⟩:=hO.holds _ (List.mem_singleton.2 rfl)
 have hb:=hO.own z ⟨_,List.mem_singleton.2 rfl,rfl⟩
 obtain⟨lt,hlt⟩:=hkt
 have hc:=hk.check w false hlt
 have hgo:∀ob',(Instr.mapUpdate T (.map (some z)) (K t) (V n)).run P w= .ok () (w.putObj z ob')→ny P k K V (Bz l t n) ob'→Rr o a next ((execOp a.eval o).run P w):=fun ob' hr hM=>by
  have hrun:(execOp a.eval o).run P w= .ok .skip (w.putObj z ob'):=by
   simp only [execOp,ho,e1,e2,e3,Sem.run_bind,hr,Result.andThen_ok,Sem.run_pure]
  rw [hrun];refine kk () S _ _ (nT hd ⟨_,List.mem_singleton.2 rfl,rfl⟩ ob') rfl (fS ⟨ob',xw hb.2,hM⟩ fun b h=>?_) (fun b hb=>.inl (wQ hb));simp only [D.foot,Option.some.injEq] at h;subst h;exact⟨hb.1,by rw [oc];exact hb.2⟩
 rcases hk.find w hlt es.toList (fun e he=>by
  obtain⟨i,hi⟩:=List.mem_iff_getElem?.1 he;obtain⟨p,hp,q1,_⟩:=mL h2 hi;rw [q1];exact(h3 p (List.mem_of_getElem? hp)).1) with⟨g1,g2⟩ |⟨j,en,g1,g2,g3⟩
 ·
  have hno:t∉l.map (·.1):=fun hm=>by
   obtain⟨p,hp,hpt⟩:=List.mem_map.1 hm;obtain⟨i,hi⟩:=List.mem_iff_getElem?.1 hp;have hi2:=congrArg (·[i]?) h2;simp only [List.getElem?_map,hi,Option.map_some] at hi2;cases he:es.toList[i]? with
   |none=>rw [he] at hi2;cases hi2
   |some e0=>
    rw [he] at hi2;simp only [Option.map_some,Option.some.injEq,Prod.mk.injEq] at hi2;exact g2 e0 (List.mem_of_getElem? he) (by rw [hi2.1,hpt])
  have hm:Bz l t n=l++[(t,n)]:=if_neg hno;refine hgo (.map (es.push { key:=K t,val:=V n,born:=cl }) (cl+1)) ?_ ⟨_,_,rfl,?_,fun p hp=>?_,?_⟩
  ·simp only [Instr.mapUpdate,Sem.run_bind,run_underlying hT,Result.andThen_ok,fK h1,hc,g1,kX _ h1]
  ·rw [hm];simp [h2]
  ·rw [hm] at hp;rcases List.mem_append.1 hp with hp |hp
   ·exact h3 p hp
   ·rw [List.mem_singleton.1 hp];exact⟨⟨lt,hlt⟩,hnk⟩
  ·rw [hm,List.map_append];refine List.nodup_append.2 ⟨h4,by simp,fun a ha b hb=>?_⟩;simp only [List.map_cons,List.map_nil,List.mem_singleton] at hb;rintro rfl;exact hno (hb▸ha)
 ·
  have hst:=hk.stays w hlt;have hj:es[j]? =some en:=by simpa using g2
  obtain⟨p,hp,q1,q2⟩:=mL h2 g2;obtain rfl:p.1=t:=hinj _ _ (q1.symm.trans g3);have hmem:p.1∈l.map (·.1):=List.mem_map.2 ⟨p,List.mem_of_getElem? hp,rfl⟩;have hm:Bz l p.1 n=l.map (fun q=>if q.1=p.1 then(p.1,n) else q):=if_pos hmem;refine hgo (.map (es.modify j fun e=>{ e with key:=K p.1,val:=V n }) cl) ?_ ⟨_,_,rfl,?_,fun q hq=>?_,?_⟩
  ·simp only [Instr.mapUpdate,Sem.run_bind,run_underlying hT,Result.andThen_ok,fK h1,hc,g1,hj,Option.map_some,Option.getD_some,g3,hst,kX _ h1]
  ·rw [hm];apply List.ext_getElem?;intro i;rw [List.getElem?_map,List.getElem?_map,List.getElem?_map];have hi2:=congrArg (·[i]?) h2;simp only [List.getElem?_map] at hi2;have hi3:(es.modify j fun e=>{ e with key:=K p.1,val:=V n }).toList[i]? =(es.modify j fun e=>{ e with key:=K p.1,val:=V n })[i]? :=by rw [Array.getElem?_toList]
   rw [hi3,Array.getElem?_modify];by_cases hji:j=i
   ·subst hji;rw [if_pos rfl,hj,hp];simp
   ·rw [if_neg hji];have hi4:es[i]? =es.toList[i]? :=by rw [Array.getElem?_toList]
    rw [hi4];cases hq:l[i]? with
    |none=>rw [hq] at hi2;simpa using hi2
    |some q=>
     rw [hq] at hi2
     have hne:¬q.1=p.1:=fun e=>hji (by
      have hlt:=(List.getElem?_eq_some_iff.1 hp).1;refine(List.getElem?_inj (l:=l.map (·.1)) (by simpa using hlt) h4).1 ?_;rw [List.getElem?_map,List.getElem?_map,hp,hq];simp [e])
     simp only [Option.map_some,if_neg hne];exact hi2
  ·rw [hm] at hq;obtain⟨q0,hq0,rfl⟩:=List.mem_map.1 hq;split
   ·exact⟨⟨lt,hlt⟩,hnk⟩
   ·exact h3 q0 hq0
  ·rw [hm,List.map_map,show((fun q:κ×β=>q.1) ∘ fun q=>if q.1=p.1 then(p.1,n) else q)=(fun q:κ×β=>q.1) by funext q;simp only [Function.comp];split <;> simp_all];exact h4
theorem Hj{c:Call}(ho:o.op= .call c)(hc:c={ callee:=.builtin .clear,args:= #[x],argTypes:= #[T] })(hT:P.underlying T=some (.map k e)):
 bo M o [(x,.eq (.map (some z)))] [.inv z (ny P k K V l)] (fun _:Unit=>(.eq (.tuple #[]),[.inv z (ny P k K V [])])):=by
 refine vB.T ⟨by simp only [nd, *],fun S w a next hd hN hO kk=>?_⟩ (fun S w a hN hO=>im (by simp only [sc, *]) a.eval) (fun d hd=>by rw [List.mem_singleton.1 hd];exact fun _ h=>h.calm)
 have e1:a.eval x= .map (some z):=hN.1
 obtain⟨ob,h1,es,cl,rfl,h2,h3,h4⟩:=hO.holds _ (List.mem_singleton.2 rfl)
 have hb:=hO.own z ⟨_,List.mem_singleton.2 rfl,rfl⟩
 have hrun:(execOp a.eval o).run P w= .ok (.value (.tuple #[])) (w.putObj z (.map #[] cl)):=by
  simp [execOp,ho,hc,resolve,invoke,builtin,e1,Builtin.clear_,run_underlying hT,fK h1,kX _ h1]
 rw [hrun]
 refine kk () S _ _ (nT hd ⟨_,List.mem_singleton.2 rfl,rfl⟩ (.map #[] cl)) rfl (fS ⟨_,xw hb.2, #[],cl,rfl,rfl,by simp,List.nodup_nil⟩ fun b h=>?_) (fun b hb=>.inl (wQ hb))
 simp only [D.foot,Option.some.injEq] at h
 subst h
 exact⟨hb.1,by rw [oc];exact hb.2⟩
end
section
variable {P:Program}
theorem yO{vs:Nat→Value}:∀{l:List (List Int)} {j:Nat},(nR vs j l).length=l.length
 |[],_=>rfl
 |_::l,j=>by simp only [nR,List.length_cons,yO (l:=l)]
theorem IZ{c:Cx}{ops:Array Oper}{o:Oper}{l:List Oper}{Q:Exit→Act→VW→Prop}{Γ:Ga}{pre:List D}{T:TypeId}{z:Value×(Nat→Value)}{ls:List (List Int)}{x:Operand}{d:Nat}{Tx e:TypeId}{cl:Call}(hg:o.guard=none)(hd:o.dst=some d)(hdN:Nat.blt d c.N=true)
 (ho:o.op= .call cl) (hc:cl={ callee:=.builtin .len,args:= #[x],argTypes:= #[Tx] }) (hT:c.P.underlying Tx=some (.slice e)) (hh:dO Γ [(x,.eq z.1)])
 (h:JO c ops l Q ((d,.eq (.int .i64 (ls.length:Int)))::Γ) (pre++xz T z ls)):JO c ops (o::l) Q Γ (pre++xz T z ls):=by
 refine eC (SE.pp (Δ':=[.sl z.1 T .val (nR z.2 0 ls)]++(pre++nI z.2 0 ls)) List.perm_middle) ?_
 refine aD (F:=pre++nI z.2 0 ls) (fun _ _ _=>ab hg _) hd hdN (mA (M:=c.M) (t:=.val) (l:=nR z.2 0 ls) (TE:=T) ho hc hT) hh fun _=>?_
 have hp:(D.sl z.1 T .val (nR z.2 0 ls)::(pre++nI z.2 0 ls)).Perm (pre++xz T z ls):=List.perm_middle.symm
 rw [yO]
 exact eC (SE.pp hp) h
end
end K
end Go.Proofs.YtlmopgkkijhllaaGreat
set_option linter.unusedVariables false
namespace Go.Proofs.YtlmopgkkijhllaaGreat
namespace K
open Go
def Ec(S:FS)(w:VW)(Δ:List D)(pv:Value):Bool→Ending→VW→Prop
 |true=>dr S w Δ (fun _:Unit=>(bv [],Δ))
 |false=>fun e v'=>e= .panicked (gY pv false)∧∃S',bp (ap Δ) S w S' v'∧aQ Δ S' v'
def CH{P:Program}(M:Md P)(f:Nat)(Ss:List A)(Δ:List D)(pv:Value)(r:Bool):Prop:=
 ∀(k:CallKind),k≠.early→∀(S:FS) (w:VW) (vs:List Value),(∀b,S b→b < w.heap.size)→fy S w Ss vs→aQ Δ S w→jA M k f vs.toArray w (Ec S w Δ pv r)
theorem CH.ok{P:Program}{M:Md P}{f:Nat}{Ss:List A}{Δ:List D}{pv:Value}(h:CH M f Ss Δ pv true):bQ M f Ss Δ (fun _:Unit=>(bv [],Δ)):=h
section
variable {P:Program}{M:Md P}{N:Nat}{S:FS}{w0:VW}{X:Nat→Prop}{ops:Array Oper}{o:Oper}{l:List Oper}{Q:Exit→Act→VW→Prop}{Γ:Ga}{Δ F:List D}{fn:Func}{pv:Value}{T e:TypeId}{x:Operand}
theorem CH.of{f:Nat}{C:Code}{Ss:List A}{r:Bool}(N:Nat)(hf:P.funcs[f]? =some fn)(hb:fn.body=some C)(hN:fn.ntmps=N)(hn:Nat.ble Ss.length N=true)
 (h:∀S w0,JC ⟨P,N,S,w0,ap Δ,none,[],M⟩ C (bR P fn (Ec S w0 Δ pv r)) (entry 0 Ss) Δ):CH M f Ss Δ pv r:=by
 subst hN
 intro kind hkind S w vs hd hall hO T hT cs hc
 have bc:=M.bc T hT
 rw [enter_at hf hb]
 refine h S w _ _ (St.entry hn hd hall hO) T hT _ [] cs rfl fun e a' v' q=>?_
 have fin:∀todo,(a'.defers=[]∧∃x,(∀v1,bh v' v1→(results fn a'.tmps).run P v1= .ok x v1∧eF v1 v1 ((results fn a'.tmps).events P v1 #[]))∧Ec S w Δ pv r (.returned x) v')→
  T v' { Frame.atR { (default:Frame) with fn:=f,kind:=kind } a' todo with mode:=.returning } cs:=fun todo ⟨q1,x,q2,q3⟩=>hc _ _ _ q3 rfl rfl ⟨rfl,q1,fn,hf,q2⟩
 cases e with
 |normal=>exact bc.move (fun _ _=>wL rfl) (fin _ q)
 |ret=>exact⟨fun _ todo=>fin todo q,fun h=>by cases h⟩
 |panic chain=>exact fun todo=>hc _ _ _ q.2 rfl rfl ⟨rfl,q.1,fn,hf⟩
 |exit id=>exact q.elim
 |goto l=>exact q.elim
 |outgrown=>exact q.elim
theorem L0:JN ⟨P,N,S,w0,ap Δ,none,[],M⟩ (bR P fn (Ec S w0 Δ pv false) (.panic (gY pv false))) Γ Δ:=fun a w st=>by
 obtain⟨h1,h2,S',h3,h4,h5,h6⟩:=st
 exact⟨h1,rfl,S',h3,h5⟩
theorem I1{f:Nat}{Ss:List A}{c:Call}{dfs:List Deferred}(xs:List Operand){ts:Array TypeId}(hg:o.guard=none)(ho:o.op= .call c)(hc:c={ callee:=.value (.func f),args:=xs.toArray,argTypes:=ts })(hlen:xs.length=Ss.length)(hen:ah P f)
 (hh:dO Γ (xs.zip Ss)) (hC:CH M f Ss Δ pv false) (h:JN ⟨P,N,S,w0,X,none,dfs,M⟩ (Q (.panic (gY pv false))) Γ (Δ++F)):JO ⟨P,N,S,w0,X,none,dfs,M⟩ ops (o::l) Q Γ (Δ++F):=by
 intro a w hst
 have hw:Region.wanted o (yielded ops a.tmps)=true:=ab hg _
 obtain⟨h1,h2,S',h3,h4,h5,h6⟩:=hst
 refine kR fun K hK=>?_
 rw [if_pos hw]
 have hO:aQ Δ S' w:=h5.part
 have hN:=fP (c:=⟨P,N,S,w0,X,none,dfs,M⟩) h6 hh
 have hnd:nd o.op=true:=by simp only [nd, *]
 have e1:a.eval (.func f)= .func (.func f) #[] #[]:=rfl
 refine yh (args:=(xs.map a.eval).toArray) hnd (by simp [execOp,ho,hc,resolve,e1,Deferred.ofValue,invoke]) hen fun v1 hr=>?_
 refine(hC .normal (fun e=>nomatch e) S' v1 _ (fun b hb=>Nat.lt_of_lt_of_le (h3.dom b hb) hr.size) (fy.of hlen (bC.rely h3.dom hO.sees hr hN)) (hO.rely h3.dom hr)).mono ?_
 rintro e w' ⟨rfl,S2,g1,g2⟩
 exact h _ _ (tl (v:=undef) h1 h2 h3 h4 h5 h6 ((bp.rely h3.dom hr).trans g1 fun b hb=>.inl hb) g2 fun b hb=>.inl hb)
theorem J9{T':TypeId}{z:Value}{r:A}(hz:∀S w,r.holds S w z)(ho:o.op= .typeAssert x T' T true)(h:OY P T z):bo M o [(x,.eq .nilIface)] [] (fun _:Unit=>(.tup (.pair r (.pair (.eq (.bool false)) .any)),[])):=
 .val0 fun S w a hN=>by
  obtain⟨fs,hu⟩:=h.und
  have e1:a.eval x= .nilIface:=hN.1
  refine⟨.tuple #[z,.bool false],?_,[_,_],rfl,_,_,rfl,hz _ _,_,_,rfl,rfl,rfl⟩
  have:(Instr.typeAssert .nilIface T' T true).run P w= .ok (.tuple #[z,.bool false]) w:=by
   unfold Instr.typeAssert;simp only [Sem.run_bind,run_underlying hu,Result.andThen_ok,h.zero,Sem.run_pure,if_true]
  simp only [execOp,ho,e1,Sem.run_bind,this,Result.andThen_ok,Sem.run_pure]
theorem J8{T':TypeId}{z u:Value}{r:A}(hz:∀S w,r.holds S w u)(ho:o.op= .typeAssert x T' T true)(h:OY P T z):bo M o [(x,.eq (.iface T u))] [] (fun _:Unit=>(.tup (.pair r (.pair (.eq (.bool true)) .any)),[])):=
 .val0 fun S w a hN=>by
  obtain⟨fs,hu⟩:=h.und
  have e1:a.eval x= .iface T u:=hN.1
  refine⟨.tuple #[u,.bool true],?_,[_,_],rfl,_,_,rfl,hz _ _,_,_,rfl,rfl,rfl⟩
  have:(Instr.typeAssert (.iface T u) T' T true).run P w= .ok (.tuple #[u,.bool true]) w:=by
   unfold Instr.typeAssert;simp only [Sem.run_bind,run_underlying hu,Result.andThen_ok,Sem.run_pure,if_true]
  simp only [execOp,ho,e1,Sem.run_bind,this,Result.andThen_ok,Sem.run_pure]
theorem Hk(ho:o.op= .build T #[])(hT:P.underlying T=some (.struct #[]))(hz:∀w,(zeroValue T).run P w= .ok (.agg #[]) w):bo M o [] [] (fun _:Unit=>(.eq (.agg #[]),[])):=
 .val0 fun S w a hN=>⟨.agg #[],by simp [execOp,ho,Instr.build,Sem.run_bind,hz,run_underlying hT,Value.cells,Instr.fill],rfl⟩
theorem Hh{v:Value}{fs:Array Field}(ho:o.op= .makeInterface T x)(hu:P.underlying T=some (.struct fs)):bo M o [(x,.eq v)] [] (fun _:Unit=>(.eq (.iface T v),[])):=
 .val0 fun S w a hN=>by
  have e1:a.eval x=v:=hN.1
  exact⟨.iface T v,by simp [execOp,ho,e1,Instr.makeInterface,run_underlying hu],rfl⟩
theorem vH{n:Nat}{t:Ty}{l:List t.den}{k:IntKind}{j:Int}{g:Bool}{y:Operand}(ho:o.op= .slice T x none (some y) none)(hT:P.underlying T=some (.array n e))(he:dY P e t.cells g)(h0:0≤j)(h1:j≤n):
 bo M o [(x,.at (.arr n t) l),(y,.eq (.int k j))] [] (fun _:Unit=>(.rep (.slice t) (l.take j.toNat),[])):=
 .val0 fun S w a hN=>by
  obtain⟨b,off,c,T2,fz,e1,hS,hb,hlen,hr⟩:=hN.1
  have e2:a.eval y= .int k j:=hN.2.1
  have e1':a.eval x= .pointer (some ⟨b,off,none⟩):=by simpa using e1
  have hlt:(l.take j.toNat).length=j.toNat:=by rw [List.length_take];omega
  refine⟨.slice (some ⟨b,off,none⟩) j.toNat n,?_,[.slice (some ⟨b,off,none⟩) j.toNat n],.inr ⟨b,off,n,c,T2,fz,by rw [hlt],by rw [hlt];omega,hS,hb,?_⟩,rfl⟩
  ·
   simp [execOp,ho,e1',e2,Instr.sliceAt,Instr.sureAddr,run_underlying hT,Instr.sliceBounds,Instr.sliceBound,asIntOf,he.size,Addr.add,h0,h1]
  ·
   have h3:=Ba (fun _ _ h=>aN t h) j.toNat hr
   rw [List.take_take] at h3
   rw [hlt]
   have h4:min (j.toNat * t.cells) (n * t.cells)=j.toNat * t.cells:=Nat.min_eq_left (Nat.mul_le_mul_right _ (by omega))
   rw [show(Ty.arr n t).cells=n * t.cells from rfl] at h3
   rw [h4] at h3
   exact h3
theorem oQ{a b:A}{t u:Ty}{x:t.den}{y:u.den}(h1:AE a (.rep t x))(h2:AE b (.rep u y)):AE (.pair a b) (.rep (.pair t u) (x,y)):=fun S w cs ⟨c1,c2,e,k1,k2⟩=>⟨c1,c2,e,h1 _ _ _ k1,h2 _ _ _ k2⟩
theorem MA{v:Value}:AE (.eq v) (.rep .ign ()):=fun S w cs h=>⟨v,h.1,h.2⟩
theorem LI{S:FS}{w:World}{t:Ty}{x:t.den}{a:A}{v:Value}(h:AE a (.rep t x))(hv:(A.agg a).holds S w v):(A.rep (.agg t) x).holds S w v:=by
 obtain⟨cs,h1,h2⟩:=hv;exact⟨cs,h S w cs h1,h2⟩
theorem an{c:Cx}{ops:Array Oper}{Q M:Exit→Act→VW→Prop}{Γ Γ':Ga}{Δ Δ':List D}{n:Nat}{L:List Bool}(j:JD c ops Q n L Γ' Δ')(ks:List Nat)(hs:Jj Γ' Γ:=by(repeat refine⟨rfl,?_⟩);exact trivial)(hk:fg Δ ks=some Δ':=by rfl)(hn:ks.Nodup:=by decide):JO c ops [] (bS (fun a w=>fQ c.M c.rd .any ops Q n L.toArray a w) M) Γ Δ:=Rj j ks hs hk hn
end
end K
end Go.Proofs.YtlmopgkkijhllaaGreat
set_option linter.unusedVariables false
set_option maxRecDepth 4000
set_option maxHeartbeats 1000000
namespace Go.Proofs.YtlmopgkkijhllaaGreat
open K Go Go.Proofs
theorem eY(k:Nat)(a0:ag)(b_a0 z_a0:Nat)(a1:Int)(r:List (List Int))(h:lI k a0 a1=some r):bQ (dC Tryz.prog) 35 [.eq (.pointer (some ⟨b_a0,0,none⟩)),.eq (.int .u8 a1)] (qC a0 b_a0 z_a0 k) (fun _:Unit=>(bv [.rep (.arr 7 (.arr 5 (.int .i64))) r],qC a0 b_a0 z_a0 k)):=zV h
theorem pZ(k:Nat)(a0:ag)(b_a0 z_a0:Nat)(r:Unit)(h:ew k a0=some r):bQ (dC Tryz.prog) 72 [.eq (.pointer (some ⟨b_a0,0,none⟩))] (qC a0 b_a0 z_a0 k) (fun _:Unit=>(bv [],qC a0 b_a0 z_a0 k)):=qW k r h
theorem nK(k:Nat)(a0:ag)(b_a0 z_a0:Nat)(a1:List Int)(a2 a3:Int)(r:Int)(h:di k a0 a1 a2 a3=some r):de Tryz.prog 90 [.eq (.pointer (some ⟨b_a0,0,none⟩)),.rep (.arr 5 (.int .i64)) a1,.eq (.int .i64 a2),.eq (.int .i64 a3)] [.obj b_a0 123 (am a0 z_a0)] (fun _:Unit=>(bv [.eq (.int .i64 r)],[.obj b_a0 123 (am a0 z_a0)])):=fun M=>
 HW fun M c0 c1 c2 c3 c4 c5 hK=>jO hK k a0 a1 a2 a3 r h
theorem FW:∀w,(zeroValue 123).run Tryz.prog w= .ok (.agg #[(.int .i64 0),(.int .i64 0),(.int .i64 0),(.int .i64 0),(.slice none 0 0),(.slice none 0 0),(.int .i32 0),(.int .u32 0),(.map none)]) w:=fun w=>by kernel_rfl
theorem FX:yy Tryz.prog 123 #[(0,6),(6,2),(8,1)]:=⟨_,Tryz.underlying123,fun _=>by kernel_rfl⟩
@[reducible] def Ue:A:=.pair (.agg (.pair (.eq (.int .i64 0)) (.pair (.eq (.int .i64 0)) (.pair (.eq (.int .i64 0)) (.pair (.eq (.int .i64 0)) (.pair (.eq (.slice none 0 0)) (.eq (.slice none 0 0)))))))) (.pair (.eq (.int .i32 0)) (.pair (.eq (.int .u32 0)) (.eq (.map none))))
theorem En:∀S w,(A.cells S w Ue (Value.cells (.agg #[(.int .i64 0),(.int .i64 0),(.int .i64 0),(.int .i64 0),(.slice none 0 0),(.slice none 0 0),(.int .i32 0),(.int .u32 0),(.map none)])).toList):=fun _ _=>⟨[_,_,_,_,_,_],_,rfl,⟨[_],_,rfl,⟨rfl,rfl⟩,[_],_,rfl,⟨rfl,rfl⟩,[_],_,rfl,⟨rfl,rfl⟩,[_],_,rfl,⟨rfl,rfl⟩,[_],_,rfl,⟨rfl,rfl⟩,rfl,rfl⟩,[_],_,rfl,⟨rfl,rfl⟩,[_],_,rfl,⟨rfl,rfl⟩,rfl,rfl⟩
def iS(k:Nat)(a0:ag):Option (Option ag):=some (some a0)
theorem Lr{k:Nat}{a0:ag}:aL k a0 (.map #[] 0):=vm.nil
theorem nD(k:Nat)(a0:ag)(r:Option ag)(h:iS k a0=some r):de Tryz.prog 71 [.rep aj a0] [] (fun z:Nat×Nat=>(bv [J6 r z.1],J5 r fun q=>qC q z.1 z.2 k)):=by
 obtain rfl:=Option.some.inj h;refine de.of 7 Tryz.func71 rfl Tryz.ntmps71 rfl fun S w0=>?_;refine cg ?_;refine ae ?_;refine aW rfl rfl rfl (wB rfl rfl) ⟨rfl,trivial⟩ fun b1=>?_;refine D9 rfl ?_;refine be ?_;refine ax ?_;show JC _ _ _ _ _;refine cg ?_;refine ae ?_;refine mf rfl rfl rfl (aA rfl g9 (qV) rfl) ⟨rfl,trivial⟩ ?_;refine aW rfl rfl rfl (wz rfl) trivial fun z=>?_;refine bY rfl (dV [(0,.tmp 3,_),(2,.tmp 4,_)] rfl FX FW En (jK ⟨rfl,rfl,trivial⟩) rfl) ⟨rfl,rfl,trivial⟩ ?_;refine aW rfl rfl rfl (wB rfl trivial) ⟨rfl,trivial⟩ fun b2=>?_;refine vo rfl rfl ?_;refine be ?_;refine ax ?_;show JC _ _ _ _ _;refine dw ?_;refine bL (SE.fin (Γ':=[(2,_)]) [1,0] ⟨rfl,trivial⟩ rfl) ?_;refine bL (sW (aL k a0) Lr) ?_;refine bL (SE.fin (Γ':=[(2,_)]) [1,0] ⟨rfl,trivial⟩ rfl) ?_;refine bL (iv (a:=_) (a':=am a0 z) (fun _ _ _ h=>h)) ?_;exact aM (b2,z) [_] 2 ⟨rfl,trivial⟩ rfl
def kT(t:eH):Value:=.agg #[.int .i64 t.1,.int .i64 t.2]
def tq(l:List (eH×eH)):Obj→Prop:=ny Tryz.prog 100 kT kT l
theorem JB:tq [] (.map #[] 0):=ny.nil
def yR(t:eH):Prop:=(-1≤t.1∧t.1 < 1000000)∧ -1≤t.2∧t.2 < 1000000
instance (t:eH):Decidable (yR t):=by unfold yR;infer_instance
theorem qF(t:eH):kO (kT t)=true:=rfl
theorem qH:∀a b:eH,kT a=kT b→a=b:=by
 rintro⟨a,b⟩ ⟨c,d⟩ h;simp [kT] at h;rw [h.1,h.2]
theorem t7:∀(S:FS) (w:World) (n:eH),(A.rep Gt n).holds S w (kT n):=fun S w n=>⟨[.int .i64 n.1,.int .i64 n.2],⟨[_],_,rfl,rfl,rfl⟩,rfl⟩
theorem mU{S:FS}{w:World}{u:Value}{t:eH}(h:(A.rep Gt t).holds S w u):u=kT t:=by
 obtain⟨cs,⟨c1,c2,rfl,h1,h2⟩,rfl⟩:=h;have h1:c1=[.int .i64 t.1]:=h1;have h2:c2=[.int .i64 t.2]:=h2;subst h1 h2;rfl
theorem t6:∀w,(zeroValue 100).run Tryz.prog w= .ok (kT ((0:Int),(0:Int))) w:=fun w=>by kernel_rfl
theorem Gq:100 < Tryz.prog.types.size:=Nat.lt_of_lt_of_le (Nat.lt_succ_self 100) (Nat.le_of_ble_eq_true (by kernel_rfl))
theorem KZ:WideMaps.KeyLaw Tryz.prog 100:=deep_law_gate (by kernel_rfl) Gs Gq (by kernel_rfl) (by kernel_rfl)
theorem ml:Maps.Keyed Tryz.prog 100:=Maps.Keyed.of_law KZ
theorem qG{t:eH}(h:yR t):∃lt,keyOf Tryz.prog 100 (kT t)=some lt:=by
 obtain⟨a,b⟩:=t;obtain⟨⟨h1,h2⟩,h3,h4⟩:=h;obtain⟨d,hd⟩:∃d,Tryz.prog.types.size+1=d+2:=⟨Tryz.prog.types.size - 1,by have:=Gq;omega⟩
 have hint:∀(n:Int), -1≤n→n < 1000000→Tryz.prog.keyLits (d+1) 3 [.int .i64 n]=some [.int .i64 n]:=fun n h h'=>by
  simp only [Program.keyLits,Tryz.underlying3,yJ h h',and_self,if_true]
 have hc:Tryz.prog.cellsOf 100=2:=by kernel_rfl
 have hc3:Tryz.prog.cellsOf 3=1:=by kernel_rfl
 have hk:Tryz.prog.keyType 100=true:=by kernel_rfl
 have hL:Tryz.prog.keyLits (Tryz.prog.types.size+1) 100 [.int .i64 a,.int .i64 b]=some [.int .i64 a,.int .i64 b]:=by
  rw [hd];unfold Program.keyLits;simp [Tryz.underlying100,hc,hc3,hint a h1 h2,hint b h3 h4]
 refine⟨.string (keyBytes [.int .i64 a,.int .i64 b]),?_⟩;unfold keyOf;rw [Tryz.underlying100];have hf:(kT (a,b)).formed Tryz.prog 100=true:=by simp [kT,Value.formed,Tryz.underlying100,hc]
 have hcs:(kT (a,b)).cells.toList=[.int .i64 a,.int .i64 b]:=rfl;simp only [hk,hf,Bool.and_self,if_true,hcs,hL,Option.map_some]
