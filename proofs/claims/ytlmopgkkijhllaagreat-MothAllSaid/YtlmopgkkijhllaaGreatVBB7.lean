import Derived.Test.YtlmopgkkijhllaaGreatVBB6
import Derived.Conc.WgLib
import Derived.Conc.AtomicLaws2
import Derived.Conc.SmallLaws
import Derived.KernelRfl
import Derived.Conc.WgArith
import Derived.Laws.DeepBits32
import Derived.Laws.BitsLemmas
import Derived.Conc.ClockLaws
set_option linter.unusedVariables false
set_option linter.unusedSimpArgs false
namespace Go.Proofs.YtlmopgkkijhllaaGreat
namespace K
open Go Go.Conc
section
variable {P:Program}{p:Gp}{T:Tq}{n:Nat}{sg:Nat→Ph}{rk:Nat→Rk}{k:Nat→Nat}{A Z:Nat→Nat→Prop}{q:c9}{gs gs':Array Goroutine}{w:World}{t:Trace}{sl:Option (Nat×Nat)}
theorem wx{c i:Nat}{b:Bool}(h:partners (gs.setIfInBounds i ph) c b=[]){j:Nat}{g:Goroutine}(hj:j≠i)(hg:gs[j]? =some g):offersAt g c b=[]:=by
 rw [partners_eq] at h;have hm:(g,j)∈(gs.setIfInBounds i ph).zipIdx.toList:=Array.mem_toList_iff.2 (Array.mem_zipIdx_iff_getElem?.2 (by simpa using stand_get hj hg));cases ho:offersAt g c b with
 |nil=>rfl
 |cons x l=>
  exfalso;have:(j,x)∈(gs.setIfInBounds i ph).zipIdx.toList.flatMap fun(h,i)=>(offersAt h c b).map fun k=>(i,k):=List.mem_flatMap.2 ⟨_,hm,List.mem_map.2 ⟨x,by simp [ho],rfl⟩⟩;rw [h] at this;cases this
theorem E6{c s:Nat}{A0 Z0:Nat→Prop}(ha:A0 c)(d:Nat):bh ⟨w,A0,Z0⟩ ⟨(w.at d).setChan c 0 #[] false s s false,A0,Z0⟩ where
 keep b _ hb:=by
  have hne:c≠b:=fun e=>hb (e▸ha);simp [World.setChan,World.at,Array.getElem?_setIfInBounds_ne hne]
 size:=by simp [World.setChan,World.at]
 sub _ h:=h
 old _ h:=.inl h
 dom hd b hb:=by simpa [World.setChan,World.at] using hd b hb
 Z:=rfl
 os:=.refl _
 tape:=rfl
 output:=rfl
theorem LC{d:Nat}(hok:p.Ok)(hcr:p.cr=true)(h:p.At w q)(hc:q.cl=false):p.At ((w.at d).setChan p.bc 0 #[] false (q.cs+1) (q.cs+1) false) { q with cs:=q.cs+1 }:=by
 have hlt:=(Array.getElem?_eq_some_iff.1 (h.ch hcr)).1
 have he:∀b,b≠p.bc→((w.at d).setChan p.bc 0 #[] false (q.cs+1) (q.cs+1) false).heap[b]? =w.heap[b]? :=fun b hb=>by
  simp [World.setChan,World.at,Array.getElem?_setIfInBounds_ne (Ne.symm hb)]
 refine⟨fun _=>(he _ (hok.wm hcr).2.2).trans (h.wg hcr),fun _=>?_,(he _ (hok.cm hcr).1.symm).trans h.mu,fun e=>by rw [he _ (hok.cm hcr).2.symm];exact h.mp e⟩;show(w.heap.setIfInBounds p.bc _)[p.bc]? =_;rw [Array.getElem?_setIfInBounds_self_of_lt hlt];show _=some (Obj.chan 0 #[] q.cl (q.cs+1) (q.cs+1) false);rw [hc]
theorem CW.hand(h:CW P p T n sg rk k A Z q gs w t)(hlp:Fj P p T){j d:Nat}{fr0 fr1:Frame}{cs0 cs1:List Frame}{x z0 z1:Value}{u:List MemOp}(hj:0 < j)(hjn:j < n)(h0:Jk P p (yc P p T (rk 0)) true (sg 0) ⟨w,A 0,Z 0⟩ fr0 cs0 x z0)(h1:Fh P p (yc P p T (rk j)) false (sg j) ⟨w,A j,Z j⟩ fr1 cs1 z1)
 (hu:∀op∈u,op.g < n∧op.act.touch? =none∧∀m,op.act≠.mark m) (hsz:gs'.size=n) (g0:gs'[0]? =some (Gr (fr0.finish undef) cs0)) (g1:gs'[j]? =some (Gr (fr1.finish (.tuple #[x,.bool true])) cs1)) (g2:∀i,i≠0→i≠j→gs'[i]? =gs[i]?):
 ∃r0 r1,Rk.lt r0 (rk 0)∧CW P p T n (upd (upd sg j { sg j with phi:=(sg j).phi+12 }) 0 { sg 0 with phi:=(sg 0).phi - 12 }) (upd (upd rk j r1) 0 r0) k A Z { q with cs:=q.cs+1 } gs' ((w.at d).setChan p.bc 0 #[] false (q.cs+1) (q.cs+1) false) (t++u.toArray):=by
 obtain⟨hcr,_,hop,hsp,hphi,hq0,_,_,hx,_,hk0⟩:=h0
 obtain⟨_,_,hnw,hq1,_,_,_,hk1,_⟩:=h1
 have hcl:=h.bk.op hop
 have hne:j≠0:=by omega
 have hr:∀i,bh ⟨w,A i,Z i⟩ ⟨(w.at d).setChan p.bc 0 #[] false (q.cs+1) (q.cs+1) false,A i,Z i⟩:=fun i=>E6 (h.shA _ (.inr ⟨hcr,.inr rfl⟩) i) d
 obtain⟨_,_,_,hf0⟩:=hk0 _ (hr 0)
 obtain⟨r0,hl0,hw0⟩:=sM hf0
 obtain⟨hs1,hf1⟩:=hk1 _ x (hr j) hx
 obtain⟨r1,hw1⟩:=hlp _ _ _ _ _ hf1 hx
 rw [←(show({ sg j with phi:=(sg j).phi+12 }:Ph)={ ac:=1,nw:=1,phi:=(sg j).phi+12 } from congrArg (fun s:Ph=>{ s with phi:=(sg j).phi+12 }) hs1)] at hw1
 have hat:=LC (d:=d) h.ok hcr h.at_ hcl
 have e0:∀{α:Type} (f:Nat→α) (a b:α),upd (upd f j a) 0 b 0=b:=fun f a b=>bi
 have e1:∀{α:Type} (f:Nat→α) (a b:α),upd (upd f j a) 0 b j=a:=fun f a b=>by rw [aX hne,bi]
 have e2:∀{α:Type} (f:Nat→α) (a b:α) (i:Nat),i≠0→i≠j→upd (upd f j a) 0 b i=f i:=fun f a b i h1 h2=>by rw [aX h1,aX h2]
 have hs:∀i,upd (upd sg j { sg j with phi:=(sg j).phi+12 }) 0 { sg 0 with phi:=(sg 0).phi - 12 } i={ sg i with phi:=(upd (upd sg j { sg j with phi:=(sg j).phi+12 }) 0 { sg 0 with phi:=(sg 0).phi - 12 } i).phi,nw:=(upd (upd sg j { sg j with phi:=(sg j).phi+12 }) 0 { sg 0 with phi:=(sg 0).phi - 12 } i).nw }:=fun i=>by
  by_cases a:i=0
  ·subst a;rw [e0]
  ·by_cases b:i=j
   ·subst b;rw [e1]
   ·rw [e2 _ _ _ i a b]
 have hal:∀f:Ph→Nat,al n (upd (upd sg j { sg j with phi:=(sg j).phi+12 }) 0 { sg 0 with phi:=(sg 0).phi - 12 }) f+f (sg 0)+f (sg j)=al n sg f+f { sg j with phi:=(sg j).phi+12 }+f { sg 0 with phi:=(sg 0).phi - 12 }:=fun f=>by
  have a1:=eI (sg:=sg) (f:=f) (s:={ sg j with phi:=(sg j).phi+12 }) hjn;have a2:=eI (sg:=upd sg j { sg j with phi:=(sg j).phi+12 }) (f:=f) (s:={ sg 0 with phi:=(sg 0).phi - 12 }) (i:=0) h.bk.n0;rw [aX hne.symm] at a2;omega
 refine⟨r0,r1,hl0,h.comm hu hsz hs (by simp [World.setChan,World.at]) hat (h.bk.phn hs ?_ (fun _=>?_) ?_ fun i hi=>?_) rfl (fun i g hg=>?_) fun g hg hgp=>?_⟩
 ·
  have a:=hal Ph.phi;have b:({ sg j with phi:=(sg j).phi+12 }:Ph).phi=(sg j).phi+12:=rfl;have c:({ sg 0 with phi:=(sg 0).phi - 12 }:Ph).phi=(sg 0).phi - 12:=rfl;rw [b,c] at a;omega
 ·
  have a:=hal Ph.nw;have b:({ sg j with phi:=(sg j).phi+12 }:Ph).nw=(sg j).nw:=rfl;have c:({ sg 0 with phi:=(sg 0).phi - 12 }:Ph).nw=(sg 0).nw:=rfl;rw [b,c] at a;omega
 ·
  rw [e0];exact((h.bk.ok 0 h.bk.n0).main rfl).2.2.2.1
 ·
  by_cases a:i=0
  ·subst a;rw [hq0] at hi;cases hi
  ·by_cases b:i=j
   ·subst b;rw [hq1] at hi;cases hi
   ·rw [e2 _ _ _ i a b]
 ·
  by_cases a:i=0
  ·subst a;rw [g0] at hg;cases hg;rw [e0,e0];exact⟨fun e=>(by rw [hq0] at e;cases e),fun _=>.run hw0⟩
  ·by_cases b:i=j
   ·subst b;rw [g1] at hg;cases hg;rw [e1,e1];refine⟨fun e=>(by rw [hq1] at e;cases e),fun _=>.run ?_⟩;rw [show(i == 0)=false by simpa using a];exact hw1
   ·rw [g2 i a b] at hg;rw [e2 _ _ _ i a b,e2 _ _ _ i a b];exact h.stay hg (hr i) rfl fun hc=>⟨_,hat.ch hc⟩
 ·
  rw [g0] at hg;cases hg;obtain⟨_,_,_,_,e⟩:=hgp;cases e
theorem CW.closed(h:CW P p T n sg rk k A Z q gs w t){i:Nat}{g:Goroutine}{fr:Frame}{cs:List Frame}{z:Value}(hi:gs[i]? =some g)(hst:stepG P (i == 0) g w= .comm (Gr fr cs) #[rcase p.bc z] true (.recv true) w #[])(hgf:g.frame=fr)(hcl:q.cl=true)(h1:Fh P p (yc P p T (rk i)) (i == 0) (sg i) ⟨w,A i,Z i⟩ fr cs z):
 ∃r1 gs' ops,Rk.lt r1 (rk i)∧runT P (crowd gs w sl) i=(.next (crowd gs' w sl),ops)∧CW P p T n (upd sg i { sg i with nw:=0 }) (upd rk i r1) k A Z q gs' w (t++ops)∧(∀j,j≠i→gs'[j]? =gs[j]?)∧0 < i:=by
 obtain⟨hcr,hmn,hnw,hq1,_,_,_,_,hk1⟩:=h1
 have hi0:i≠0:=by simpa using hmn
 have hin:=h.lt hi
 obtain⟨_,_,_,hf1⟩:=hk1 _ (bh.refl _)
 obtain⟨r1,hl1,hw1⟩:=sM hf1
 have hch:=h.at_.ch hcr
 rw [hcl] at hch
 have hp:partners (gs.setIfInBounds i ph) p.bc true=[]:=by
  cases hp:partners (gs.setIfInBounds i ph) p.bc true with
  |nil=>rfl
  |cons x l=>
   obtain⟨j,kk⟩:=x;obtain⟨_,_,_,_,_,_,_,_,hs⟩:=h.sender (i:=i) (j:=j) (kk:=kk) (by rw [hp];exact List.mem_cons_self ..);have:=h.bk.op hs.2.2.1;rw [hcl] at this;cases this
 have hgo:=crowd_recv_closed (sl:=sl) hi hst hch hp
 have hs:∀j,upd sg i { sg i with nw:=0 } j={ sg j with phi:=(upd sg i { sg i with nw:=0 } j).phi,nw:=(upd sg i { sg i with nw:=0 } j).nw }:=fun j=>by
  by_cases b:j=i
  ·subst b;rw [bi]
  ·rw [aX b]
 have hg':∀j,j≠i→(gs.setIfInBounds i ((Gr fr cs).finishComm P #[rcase p.bc z] (.recv true) 0 z false))[j]? =gs[j]? :=fun j hj=>Array.getElem?_setIfInBounds_ne (fun e=>hj e.symm)
 refine⟨r1,_,_,hl1,hgo,?_,hg',by omega⟩
 have e1:MemOp.ofEvents i g.frame.fn g.frame.place #[]++ #[{ g:=i,fn:=fr.fn,pos:=fr.place,act:=.recvClosed p.bc }]=[({ g:=i,fn:=fr.fn,pos:=fr.place,act:=.recvClosed p.bc }:MemOp)].toArray:=by simp [MemOp.ofEvents]
 rw [e1]
 refine h.comm (fun op ho=>?_) (by simp [h.size]) hs rfl h.at_ (h.bk.phn (c:=q.cs) hs ?_ (fun e=>by rw [hcl] at e;cases e) ?_ fun j hj=>?_) rfl (fun j x hx=>?_) fun x hx hgp i1 x1 hp1 hx1 hr1=>?_
 ·
  simp at ho;subst ho;exact⟨hin,rfl,fun m e=>by cases e⟩
 ·
  have a1:=eI (sg:=sg) (f:=Ph.phi) (s:={ sg i with nw:=0 }) hin;have b:({ sg i with nw:=0 }:Ph).phi=(sg i).phi:=rfl;rw [b] at a1;omega
 ·
  rw [aX (fun e=>hi0 e.symm)];exact((h.bk.ok 0 h.bk.n0).main rfl).2.2.2.1
 ·
  by_cases b:j=i
  ·subst b;rw [hq1] at hj;cases hj
  ·rw [aX b]
 ·
  by_cases b:j=i
  ·subst b;rw [Array.getElem?_setIfInBounds_self_of_lt (by rw [h.size];exact hin)] at hx;cases hx;rw [bi,bi];exact⟨fun e=>(by rw [hq1] at e;cases e),fun _=>.run hw1⟩
  ·rw [hg' j b] at hx;rw [aX b,aX b];exact h.sts j x hx
 ·
  rw [hg' 0 (fun e=>hi0 e.symm)] at hx;by_cases b:i1=i
  ·subst b;rw [Array.getElem?_setIfInBounds_self_of_lt (by rw [h.size];exact hin)] at hx1;cases hx1;obtain⟨_,_,_,e⟩:=hr1;cases e
  ·rw [hg' i1 b] at hx1;exact h.pp x hx hgp i1 x1 hp1 hx1 hr1
theorem CW.parkR(h:CW P p T n sg rk k A Z q gs w t){i:Nat}{g:Goroutine}{fr:Frame}{cs:List Frame}{z:Value}(hi:gs[i]? =some g)(hst:stepG P (i == 0) g w= .comm (Gr fr cs) #[rcase p.bc z] true (.recv true) w #[])(hcl:q.cl=false)(h1:Fh P p (yc P p T (rk i)) (i == 0) (sg i) ⟨w,A i,Z i⟩ fr cs z)
 (hp:partners (gs.setIfInBounds i ph) p.bc true=[]):
 runT P (crowd gs w sl) i=(.next (crowd (gs.setIfInBounds i (parked (Gr fr cs) #[rcase p.bc z] (.recv true))) w sl), #[])∧CW P p T n sg rk k A Z q (gs.setIfInBounds i (parked (Gr fr cs) #[rcase p.bc z] (.recv true))) w t∧0 < i:=by
 have hcr:=h1.1
 have hmn:=h1.2.1
 have hi0:i≠0:=by simpa using hmn
 have hin:=h.lt hi
 have hch:=h.at_.ch hcr
 rw [hcl] at hch
 have hgo:=crowd_waits (sl:=sl) hi hst fun cc hcc=>by
  have:cc=rcase p.bc z:=by simpa using hcc
  subst this;exact ways_recv_none hch hp
 rw [ofEvents_none] at hgo
 have hg':∀j,j≠i→(gs.setIfInBounds i (parked (Gr fr cs) #[rcase p.bc z] (.recv true)))[j]? =gs[j]? :=fun j hj=>Array.getElem?_setIfInBounds_ne (fun e=>hj e.symm)
 refine⟨hgo,?_,by omega⟩
 have:=h.comm (gs':=gs.setIfInBounds i (parked (Gr fr cs) #[rcase p.bc z] (.recv true))) (u:=[]) (fun op ho=>by simp at ho) (by simp [h.size]) (sg':=sg) (fun _=>rfl) rfl h.at_ h.bk rfl (rk':=rk) (fun j x hx=>?_) fun x hx hgp i1 x1 hp1 hx1 hr1=>?_
 ·
  simpa using this
 ·
  by_cases b:j=i
  ·subst b;rw [Array.getElem?_setIfInBounds_self_of_lt (by rw [h.size];exact hin)] at hx;cases hx;exact⟨fun e=>(by rw [h1.2.2.2.1] at e;cases e),fun _=>.rcv hcl h1⟩
  ·rw [hg' j b] at hx;exact h.sts j x hx
 ·
  rw [hg' 0 (fun e=>hi0 e.symm)] at hx;obtain⟨f0,c0,x0,z0,rfl⟩:=hgp;have:=wx hp (fun e=>hi0 e.symm) hx;rw [offersAt_parked_send,if_pos rfl] at this;cases this
theorem CW.parkS(h:CW P p T n sg rk k A Z q gs w t){i:Nat}{g:Goroutine}{fr:Frame}{cs:List Frame}{x z:Value}(hi:gs[i]? =some g)(hst:stepG P (i == 0) g w= .comm (Gr fr cs) #[scase p.bc x z] true .send w #[])(h1:Jk P p (yc P p T (rk i)) (i == 0) (sg i) ⟨w,A i,Z i⟩ fr cs x z)
 (hp:partners (gs.setIfInBounds i ph) p.bc false=[]):
 runT P (crowd gs w sl) i=(.next (crowd (gs.setIfInBounds i (parked (Gr fr cs) #[scase p.bc x z] .send)) w sl), #[])∧CW P p T n sg rk k A Z q (gs.setIfInBounds i (parked (Gr fr cs) #[scase p.bc x z] .send)) w t∧i=0:=by
 have hcr:=h1.1
 have hmn:=h1.2.1
 have hi0:i=0:=by simpa using hmn
 have hin:=h.lt hi
 have hch:=h.at_.ch hcr
 have hcl:q.cl=false:=h.bk.op (by have:=h1.2.2.1;rwa [hi0] at this)
 rw [hcl] at hch
 have hgo:=crowd_waits (sl:=sl) hi hst fun cc hcc=>by
  have:cc=scase p.bc x z:=by simpa using hcc
  subst this;exact ways_send_none hch (Nat.zero_le _) hp
 rw [ofEvents_none] at hgo
 have hg':∀j,j≠i→(gs.setIfInBounds i (parked (Gr fr cs) #[scase p.bc x z] .send))[j]? =gs[j]? :=fun j hj=>Array.getElem?_setIfInBounds_ne (fun e=>hj e.symm)
 refine⟨hgo,?_,hi0⟩
 have:=h.comm (gs':=gs.setIfInBounds i (parked (Gr fr cs) #[scase p.bc x z] .send)) (u:=[]) (fun op ho=>by simp at ho) (by simp [h.size]) (sg':=sg) (fun _=>rfl) rfl h.at_ h.bk rfl (rk':=rk) (fun j x' hx=>?_) fun x' hx hgp i1 x1 hp1 hx1 hr1=>?_
 ·
  simpa using this
 ·
  by_cases b:j=i
  ·subst b;rw [Array.getElem?_setIfInBounds_self_of_lt (by rw [h.size];exact hin)] at hx;cases hx;exact⟨fun e=>(by rw [h1.2.2.2.2.2.1] at e;cases e),fun _=>.snd h1⟩
  ·rw [hg' j b] at hx;exact h.sts j x' hx
 ·
  rw [hg' i1 (by omega)] at hx1;obtain⟨f0,c0,z0,rfl⟩:=hr1;have:=wx hp (by omega) hx1;rw [offersAt_parked_recv,if_pos rfl] at this;cases this
theorem Dv{a b c s r cap:Nat}{f1 f2 f3 f4:FuncId}{p1 p2 p3 p4:String}(ha:a < n)(hb:b < n):∀op∈[({ g:=a,fn:=f1,pos:=p1,act:=.send c s }:MemOp),{ g:=b,fn:=f2,pos:=p2,act:=.recv c r cap },{ g:=a,fn:=f3,pos:=p3,act:=.sendDone c s },{ g:=b,fn:=f4,pos:=p4,act:=.recvDone c r }],op.g < n∧op.act.touch? =none∧∀m,op.act≠.mark m:=by
 intro op ho;simp at ho;rcases ho with rfl |rfl |rfl |rfl
 ·exact⟨ha,rfl,fun m e=>by cases e⟩
 ·exact⟨hb,rfl,fun m e=>by cases e⟩
 ·exact⟨ha,rfl,fun m e=>by cases e⟩
 ·exact⟨hb,rfl,fun m e=>by cases e⟩
theorem CW.recv(h:CW P p T n sg rk k A Z q gs w t)(hlp:Fj P p T){i:Nat}{g:Goroutine}{fr:Frame}{cs:List Frame}{z:Value}(hi:gs[i]? =some g)(hst:stepG P (i == 0) g w= .comm (Gr fr cs) #[rcase p.bc z] true (.recv true) w #[])(hcl:q.cl=false)(h1:Fh P p (yc P p T (rk i)) (i == 0) (sg i) ⟨w,A i,Z i⟩ fr cs z)
 (hp:partners (gs.setIfInBounds i ph) p.bc true≠[]):
 ∃sg' rk' q' gs' w' ops,Rk.lt (rk' 0) (rk 0)∧runT P (crowd gs w sl) i=(.next (crowd gs' w' sl),ops)∧CW P p T n sg' rk' k A Z q' gs' w' (t++ops):=by
 have hcr:=h1.1
 have hmn:=h1.2.1
 have hi0:i≠0:=by simpa using hmn
 have hin:=h.lt hi
 have hch:=h.at_.ch hcr
 rw [hcl] at hch
 obtain⟨j,gj,vj,zj,shj,d,e1,e2,e3⟩:=crowd_recv_meets_some (sl:=sl) hi hst hch hp fun j kk hm=>by
  obtain⟨a,b,c,f0,c0,x0,z0,e,_⟩:=h.sender hm;exact⟨a,b,_,_,_,_,by rw [e]⟩
 obtain⟨x,l,hpx⟩:∃x l,partners (gs.setIfInBounds i ph) p.bc true=x::l:=by
  cases hx:partners (gs.setIfInBounds i ph) p.bc true with
  |nil=>exact absurd hx hp
  |cons x l=>exact⟨x,l,rfl⟩
 obtain⟨j',kk⟩:=x
 obtain⟨_,_,hj'0,f0,c0,x0,z0,ej,hs0⟩:=h.sender (i:=i) (j:=j') (kk:=kk) (by rw [hpx];exact List.mem_cons_self ..)
 subst hj'0
 have hj0:j=0:=by
  have hb:(parked gj #[scase p.bc vj zj] shj).status= .blocked:=rfl;have hs:=h.sts j _ e2
  have hmem:(j,0)∈partners (gs.setIfInBounds i ph) p.bc true:=by
   rw [partners_eq];exact List.mem_flatMap.2 ⟨(_,j),Array.mem_toList_iff.2 (Array.mem_zipIdx_iff_getElem?.2 (by simpa using stand_get e1 e2)),List.mem_map.2 ⟨0,by simp [offersAt_parked_send],rfl⟩⟩
  exact(h.sender hmem).2.2.1
 subst hj0
 rw [ej] at e2
 have e2':=Option.some.inj e2
 have q1:gj={ Gr f0 c0 with status:=gj.status,offers:=gj.offers }:=by
  have:=congrArg (fun g:Goroutine=>(g.frame,g.callers,g.dying)) e2';simp only [parked,Prod.mk.injEq] at this;obtain⟨a,b,c⟩:=this;cases gj;simp only at a b c;subst a b c;rfl
 have q2:x0=vj∧shj= .send:=by
  have:=congrArg Goroutine.offers e2';simp only [parked,scase,Option.some.injEq,Prod.mk.injEq] at this;obtain⟨a,b⟩:=this;have:=congrArg Array.toList a;simp at this;exact⟨this.1,b.symm⟩
 obtain⟨rfl,rfl⟩:=q2
 have hmn1:Fh P p (yc P p T (rk i)) false (sg i) ⟨w,A i,Z i⟩ fr cs z:=by rw [hmn] at h1;exact h1
 have hfin0:gj.finishComm P #[scase p.bc x0 zj] .send 0 undef false=Gr (f0.finish undef) c0:=by rw [q1];rfl
 have hfin1:(Gr fr cs).finishComm P #[rcase p.bc z] (.recv true) 0 x0 true=Gr (fr.finish (.tuple #[x0,.bool true])) cs:=rfl
 rw [hfin0,hfin1] at e3
 have hsz0:0 < gs.size:=by rw [h.size];exact h.bk.n0
 obtain⟨r0,r1,hl,hcw⟩:=h.hand hlp (d:=d) (x:=x0) (gs':=((gs.setIfInBounds 0 (Gr (f0.finish undef) c0)).setIfInBounds i (Gr (fr.finish (.tuple #[x0,.bool true])) cs))) (by omega) hin hs0 hmn1 (Dv (a:=0) (b:=i) (c:=p.bc) (s:=q.cs) (r:=q.cs) (cap:=0) (f1:=gj.frame.fn) (f2:=fr.fn) (f3:=gj.frame.fn) (f4:=fr.fn) (p1:=gj.frame.place) (p2:=fr.place) (p3:=gj.frame.place) (p4:=fr.place) h.bk.n0 hin) (by simp [h.size])
  (by rw [Array.getElem?_setIfInBounds_ne hi0,Array.getElem?_setIfInBounds_self_of_lt hsz0]) (by rw [Array.getElem?_setIfInBounds_self_of_lt (by simp [h.size];exact hin)]) (fun i' a b=>by rw [Array.getElem?_setIfInBounds_ne (fun e=>b e.symm),Array.getElem?_setIfInBounds_ne (fun e=>a e.symm)])
 rw [ofEvents_none,Array.empty_append] at e3
 exact⟨_,_,_,_,_,_,(by rw [bi];exact hl),e3,hcw⟩
theorem CW.send(h:CW P p T n sg rk k A Z q gs w t)(hlp:Fj P p T){i:Nat}{g:Goroutine}{fr:Frame}{cs:List Frame}{x z:Value}(hi:gs[i]? =some g)(hst:stepG P (i == 0) g w= .comm (Gr fr cs) #[scase p.bc x z] true .send w #[])(h1:Jk P p (yc P p T (rk i)) (i == 0) (sg i) ⟨w,A i,Z i⟩ fr cs x z)
 (hp:partners (gs.setIfInBounds i ph) p.bc false≠[]):
 ∃sg' rk' q' gs' w' ops,Rk.lt (rk' 0) (rk 0)∧runT P (crowd gs w sl) i=(.next (crowd gs' w' sl),ops)∧CW P p T n sg' rk' k A Z q' gs' w' (t++ops):=by
 have hcr:=h1.1
 have hmn:=h1.2.1
 have hi0:i=0:=by simpa using hmn
 subst hi0
 have hin:=h.lt hi
 have hch:=h.at_.ch hcr
 have hcl:q.cl=false:=h.bk.op h1.2.2.1
 rw [hcl] at hch
 obtain⟨j,gj,zj,shj,d,e1,e2,e3⟩:=crowd_send_meets_some (sl:=sl) hi hst hch hp fun j kk hm=>by
  obtain⟨a,b,c,f0,c0,z0,e,_⟩:=h.receiver hm;exact⟨a,b,_,_,_,by rw [e]⟩
 have hmem:(j,0)∈partners (gs.setIfInBounds 0 ph) p.bc false:=by
  rw [partners_eq];exact List.mem_flatMap.2 ⟨(_,j),Array.mem_toList_iff.2 (Array.mem_zipIdx_iff_getElem?.2 (by simpa using stand_get e1 e2)),List.mem_map.2 ⟨0,by simp [offersAt_parked_recv],rfl⟩⟩
 obtain⟨_,_,hj0,f1,c1,z1,ej,_,hr1⟩:=h.receiver hmem
 rw [ej] at e2
 have e2':=Option.some.inj e2
 have q1:gj={ Gr f1 c1 with status:=gj.status,offers:=gj.offers }:=by
  have:=congrArg (fun g:Goroutine=>(g.frame,g.callers,g.dying)) e2';simp only [parked,Prod.mk.injEq] at this;obtain⟨a,b,c⟩:=this;cases gj;simp only at a b c;subst a b c;rfl
 have q2:shj= .recv true:=by
  have:=congrArg Goroutine.offers e2';simp only [parked,Option.some.injEq,Prod.mk.injEq] at this;exact this.2.symm
 subst q2
 have hjn:=h.lt ej
 have h0:Jk P p (yc P p T (rk 0)) true (sg 0) ⟨w,A 0,Z 0⟩ fr cs x z:=h1
 have hfin1:gj.finishComm P #[rcase p.bc zj] (.recv true) 0 x true=Gr (f1.finish (.tuple #[x,.bool true])) c1:=by rw [q1];rfl
 have hfin0:(Gr fr cs).finishComm P #[scase p.bc x z] .send 0 undef false=Gr (fr.finish undef) cs:=rfl
 rw [hfin0,hfin1] at e3
 obtain⟨r0,r1,hl,hcw⟩:=h.hand hlp (d:=d) (x:=x) (gs':=((gs.setIfInBounds j (Gr (f1.finish (.tuple #[x,.bool true])) c1)).setIfInBounds 0 (Gr (fr.finish undef) cs))) hj0 hjn h0 hr1 (Dv (a:=0) (b:=j) (c:=p.bc) (s:=q.cs) (r:=q.cs) (cap:=0) (f1:=fr.fn) (f2:=gj.frame.fn) (f3:=fr.fn) (f4:=gj.frame.fn) (p1:=fr.place) (p2:=gj.frame.place) (p3:=fr.place) (p4:=gj.frame.place) h.bk.n0 hjn) (by simp [h.size])
  (by rw [Array.getElem?_setIfInBounds_self_of_lt (by simp [h.size];exact hin)]) (by rw [Array.getElem?_setIfInBounds_ne (by omega),Array.getElem?_setIfInBounds_self_of_lt (by rw [h.size];exact hjn)]) (fun i' a b=>by rw [Array.getElem?_setIfInBounds_ne (fun e=>a e.symm),Array.getElem?_setIfInBounds_ne (fun e=>b e.symm)])
 rw [ofEvents_none,Array.empty_append] at e3
 exact⟨_,_,_,_,_,_,(by rw [bi];exact hl),e3,hcw⟩
end
theorem lX{n:Nat}{sg:Nat→Ph}{f:Ph→Nat}(h:∀i,i < n→f (sg i)=0):al n sg f=0:=sG h
theorem OO{n:Nat}{sg:Nat→Ph}{f:Ph→Nat}(h:0 < al n sg f):∃i,i < n∧0 < f (sg i):=by
 apply Classical.byContradiction;intro hno
 have:=lX (n:=n) (sg:=sg) (f:=f) fun i hi=>by
  rcases Nat.eq_zero_or_pos (f (sg i)) with e |e
  ·exact e
  ·exact absurd ⟨i,hi,e⟩ hno
 omega
theorem sO{t:Trace}{g:Nat}(h:∀op∈t,op.g≠g):∀i,t.deaf g i=0
 |0=>rfl
 |i+1=>by
  cases hy:t[i]? with
  |none=>
   unfold Trace.deaf
   rw [hy]
   exact sO h i
  |some y=>
   rw [deaf_succ hy,sO h i]
   have:=h y (mem_of_getElem? hy)
   unfold deafStep
   split
   ·
    rw [if_neg this]
   ·
    rw [if_neg this]
   ·
    rfl
section
variable {P:Program}{p:Gp}{T:Tq}{n:Nat}{sg:Nat→Ph}{rk:Nat→Rk}{k:Nat→Nat}{A Z:Nat→Nat→Prop}{q:c9}{gs:Array Goroutine}{w:World}{t:Trace}{sl:Option (Nat×Nat)}
theorem Bk.spawn(h:Bk p n sg q)(hpd:(sg 0).pd=1)(hrg:(sg 0).rg=false)(hop:(sg 0).op=true)(hsp:(sg 0).sp < 100):
 Bk p (n+1) (upd (upd sg n .wk0) 0 { sg 0 with pd:=0,sp:=(sg 0).sp+1,al:=false,jn:=false }) q:=by
 have hn0:=h.n0
 have hne:(0:Nat)≠n:=by omega
 have e0:upd (upd sg n .wk0) 0 { sg 0 with pd:=0,sp:=(sg 0).sp+1,al:=false,jn:=false } 0={ sg 0 with pd:=0,sp:=(sg 0).sp+1,al:=false,jn:=false }:=bi
 have en:upd (upd sg n .wk0) 0 { sg 0 with pd:=0,sp:=(sg 0).sp+1,al:=false,jn:=false } n= .wk0:=by rw [aX hne.symm,bi]
 have ei:∀i,i≠0→i≠n→upd (upd sg n .wk0) 0 { sg 0 with pd:=0,sp:=(sg 0).sp+1,al:=false,jn:=false } i=sg i:=fun i a b=>by rw [aX a,aX b]
 have e:∀f:Ph→Nat,f { sg 0 with pd:=0,sp:=(sg 0).sp+1,al:=false,jn:=false }=f (sg 0)→al (n+1) (upd (upd sg n .wk0) 0 { sg 0 with pd:=0,sp:=(sg 0).sp+1,al:=false,jn:=false }) f=al n sg f+f .wk0:=fun f hf=>by
  unfold K.al;simp only [aF];rw [en];congr 1;refine nm fun j hj=>?_;by_cases a:j=0
  ·subst a;rw [e0,hf]
  ·rw [ei j a (by omega)]
 have e1:=e Ph.ac rfl
 have e2:=e Ph.w1 rfl
 have e3:=e Ph.w2 rfl
 have e4:=e Ph.hd rfl
 have e5:=e Ph.aw rfl
 have e6:=e Ph.rn rfl
 have e7:=e Ph.tk rfl
 have e8:=e Ph.qu rfl
 have e9:=e Ph.rh rfl
 have e10:=e Ph.ty rfl
 have e11:=e Ph.dt rfl
 have e12:=e Ph.lv rfl
 have e13:=e Ph.phi rfl
 have e14:=e Ph.nw rfl
 simp only [Ph.wk0] at e1 e2 e3 e4 e5 e6 e7 e8 e9 e10 e11 e12 e13 e14
 have hlv:=h.lv
 have hall:∀(Q:Nat→Ph→Prop),(∀i,i < n→Q i (sg i))→Q n .wk0→(Q 0 (sg 0)→Q 0 { sg 0 with pd:=0,sp:=(sg 0).sp+1,al:=false,jn:=false })→∀i,i < n+1→Q i (upd (upd sg n .wk0) 0 { sg 0 with pd:=0,sp:=(sg 0).sp+1,al:=false,jn:=false } i):=fun Q h1 h2 h3 i hi=>by
  by_cases a:i=0
  ·subst a;rw [e0];exact h3 (h1 0 hn0)
  ·by_cases b:i=n
   ·subst b;rw [en];exact h2
   ·rw [ei i a b];exact h1 i (by omega)
 refine⟨by rw [e0,e1];have:=h.c;simp only;omega,fun _=>?_,fun x=>?_,by rw [e0];exact Nat.zero_le _,fun x=>?_,by rw [e0];exact h.op,fun x=>?_,h.le,by rw [e4];exact h.hd,by rw [e5,e6,e7,e8,e9,e10];exact h.s0,by rw [e5,e6,e7,e8,e9];exact h.s1,by rw [e11];exact h.h,by rw [e13];exact h.f,fun i ow φ hi=>?_,fun i hi=>?_,by rw [e12,e0];simp only;omega,?_,by omega,by rw [e0];exact h.cb,fun x=>?_⟩
 ·
  rw [e2,e3];exact h.un hrg
 ·
  rw [e0] at x;have x:(sg 0).rg=true:=x;rw [hrg] at x;cases x
 ·
  rw [e0] at x;exact h.rgc x
 ·
  rw [e14,e0,h.nw x]
 ·
  exact hall (fun _ s=>s.se=some (ow,φ)→q.f≤φ∧(q.f=φ→q.word=ow)) (fun i hi=>h.se i ow φ hi) (fun x=>(by cases x)) (fun x=>x) i hi
 ·
  exact hall (fun _ s=>s.nb≤q.N∧(s.nb=0∨(q.S=1∧s.tk=1))) (fun i hi=>h.nb i hi) ⟨Nat.zero_le _,.inl rfl⟩ (fun x=>x) i hi
 ·
  refine hall (fun i s=>s.Ok i) (fun i hi=>h.ok i hi) ⟨Nat.zero_le _,fun x=>(by cases x),fun _=>rfl,fun x=>(by cases x),Nat.le_refl _,fun x=>absurd x hne.symm,fun _ _=>⟨rfl,fun _=>rfl⟩⟩ fun x=>⟨x.one,x.rg,x.lv,fun y=>?_,x.dt,x.main,x.work⟩;have:=(x.main rfl).2.2.2.2.1;have y:(sg 0).q=true:=y;rw [this] at y;cases y
 ·
  rw [e0] at x;cases x
theorem CW.spawn(h:CW P p T n sg rk k A Z q gs w t){fr:Frame}{cs:List Frame}(hi:gs[0]? =some (Gr fr cs))(hs:Uc P p (yc P p T (rk 0)) true (sg 0) ⟨w,A 0,Z 0⟩ fr cs)(hq0:(sg 0).q=false):
 ∃n' sg' rk' k' A' Z' gs' ops,Rk.lt (rk' 0) (rk 0)∧runT P (crowd gs w sl) 0=(.next (crowd gs' w sl),ops)∧CW P p T n' sg' rk' k' A' Z' q gs' w (t++ops):=by
 obtain⟨hcr,_,hpd,hdf,hrg,hop,hsp,fr',fc,Sh,hst,hSh,hc1,hc2⟩:=hs
 have hgo:=runT_crowd_spawn (sl:=sl) hi (by exact hst w)
 rw [ofEvents_none] at hgo
 have hszn:gs.size=n:=h.size
 have hn:0 < n:=h.bk.n0
 have hne:(0:Nat)≠n:=by omega
 obtain⟨_,_,_,hf1⟩:=hc1 _ (bh.refl _)
 obtain⟨rc,hlc,hwc⟩:=sM hf1
 obtain⟨_,_,_,hf0⟩:=hc2 _ (bh.refl _)
 obtain⟨r0,hl0,hw0⟩:=sM hf0
 let x:MemOp:={ g:=0,fn:=fr.fn,pos:=fr.place,act:=.go gs.size }
 let y:MemOp:={ g:=gs.size,fn:=fc.fn,pos:=fr.place,act:=.start }
 have e2:t++ #[x,y]=t++ #[x]++ #[y]:=by apply Array.ext';simp
 have hnt:∀op∈(#[x,y]:Array MemOp),op.act.touch? =none:=fun op ho=>by
  simp at ho;rcases ho with rfl |rfl <;> rfl
 have hnd:∀g,Deaf (t++ #[x,y]) g=Deaf t g:=fun g=>by
  rw [e2,Deaf_push,Deaf_push];rfl
 have htn:∀i,t.deaf n i=0:=sO fun op ho=>Nat.ne_of_lt (h.tr.num op ho)
 have hD0:Deaf t 0=0:=(h.deaf 0 hn hq0).trans hdf
 have htr:vA (n+1) w.heap.size (t++ #[x,y]):=by
  rw [e2];refine vA.words (vA.words (h.tr.mono (Nat.le_succ n) (Nat.le_refl _)) (Nat.succ_pos n) (i:=0) ?_ ?_ ?_) (Nat.lt_succ_self n) (i:=n) ?_ ?_ ?_
  ·intro op ho;simp at ho;subst ho;rfl
  ·intro op ho;simp at ho;subst ho;rfl
  ·intro op ho a ha;simp at ho;subst ho;cases ha
  ·intro op ho;simp at ho;subst ho;exact hszn
  ·intro op ho;simp at ho;subst ho;rfl
  ·intro op ho a ha;simp at ho;subst ho;cases ha
 have fork:∀{j:Nat},Knows t 0 j→Knows (t++ #[x,y]) n j:=fun {j} hkn=>
  ConcN.fork_knows (x:=x) (y:=y) ⟨rfl,by show MemAct.go gs.size= .go n;rw [hszn]⟩ ⟨hszn,rfl⟩ hD0 (htn _) hkn
 have s0:upd (upd sg n .wk0) 0 { sg 0 with pd:=0,sp:=(sg 0).sp+1,al:=false,jn:=false } 0={ sg 0 with pd:=0,sp:=(sg 0).sp+1,al:=false,jn:=false }:=bi
 have sn:upd (upd sg n .wk0) 0 { sg 0 with pd:=0,sp:=(sg 0).sp+1,al:=false,jn:=false } n= .wk0:=by rw [aX hne.symm,bi]
 have si:∀i,i≠0→i≠n→upd (upd sg n .wk0) 0 { sg 0 with pd:=0,sp:=(sg 0).sp+1,al:=false,jn:=false } i=sg i:=fun i a b=>by rw [aX a,aX b]
 have hqq:∀i,i≠n→(upd (upd sg n .wk0) 0 { sg 0 with pd:=0,sp:=(sg 0).sp+1,al:=false,jn:=false } i).q=(sg i).q:=fun i b=>by
  by_cases a:i=0
  ·subst a;rw [s0]
  ·rw [si i a b]
 have hnc:∀{j:Nat} {op:MemOp},op∈(#[x,y]:Array MemOp)→(t++ #[x,y])[j]? =some op→¬Nh p (t++ #[x,y]) j op:=fun {j op} hm hop hc=>by
  rcases hc with⟨x,hx,_⟩ |⟨x,b,hx,_⟩
  ·obtain⟨op',hop2,hxa⟩:=touch_of hx;rw [hop] at hop2;cases hop2;rw [hnt op hm] at hxa;cases hxa
  ·rw [hnt op hm] at hx;cases hx
 refine⟨n+1,upd (upd sg n .wk0) 0 { sg 0 with pd:=0,sp:=(sg 0).sp+1,al:=false,jn:=false },upd (upd rk n rc) 0 r0,k,upd A n (fun b=>b < w.heap.size∧¬Sh b),(fun i b=>if i=n then Sh b else if i=0 then Z 0 b∨Sh b else Z i b),_, #[x,y],by rw [bi];exact hl0,hgo,?_⟩
 refine⟨by simp [hszn],htr,fun i b hb=>?_,fun i b hb=>?_,fun i j b hi hj hne' hb h1 h2=>?_,fun i j z b hi ha hx hb hA hZ=>?_,fun i j z b hi ha hx hb hs=>?_,fun j z b hx hb hs hk=>(h.shs j z b (cP hnt hx).2 hb hs hk).app _,fun e i j z hi ha hx hb=>?_,fun j op hop hc=>?_,fun e=>(by rw [s0] at e;cases e),fun i hi hq=>?_,fun i g hg=>?_,h.at_,h.bk.spawn hpd hrg hop hsp,fun b hb i=>?_,h.bkl,fun i=>?_,fun i hi=>?_,fun g hg hgp=>?_,h.ok⟩
 ·
  by_cases e:i=n
  ·subst e;rw [bi] at hb;exact hb.1
  ·rw [aX e] at hb;exact h.domA i b hb
 ·
  split at hb
  ·exact(hSh b hb).1
  ·split at hb
   ·exact hb.elim (h.domZ 0 b) fun x=>(hSh b x).1
   ·exact h.domZ i b hb
 ·
  have hzn:∀i,i≠n→i < n+1→Sh b→¬A i b→(if i=n then Sh b else if i=0 then Z 0 b∨Sh b else Z i b):=fun i hin hil hs ha=>by
   rw [if_neg hin];split
   ·exact .inr hs
   ·rename_i h0;exact(h.cover 0 i b hn (by omega) (fun e=>h0 e.symm) hb (hSh b hs).2.1 ha).2
  by_cases ei:i=n
  ·subst ei;rw [bi] at h1;have hs:Sh b:=Classical.byContradiction fun x=>h1 ⟨hb,x⟩;rw [aX (fun e=>hne' e.symm)] at h2;exact⟨by rw [if_pos rfl];exact hs,hzn j (fun e=>hne' e.symm) hj hs h2⟩
  ·by_cases ej:j=n
   ·subst ej;rw [bi] at h2;have hs:Sh b:=Classical.byContradiction fun x=>h2 ⟨hb,x⟩;rw [aX ei] at h1;exact⟨hzn i ei hi hs h1,by rw [if_pos rfl];exact hs⟩
   ·rw [aX ei] at h1;rw [aX ej] at h2;obtain⟨z1,z2⟩:=h.cover i j b (by omega) (by omega) hne' hb h1 h2
    have up:∀i,i≠n→Z i b→(if i=n then Sh b else if i=0 then Z 0 b∨Sh b else Z i b):=fun i hi hz=>by
     rw [if_neg hi];split
     ·rename_i e;subst e;exact .inl hz
     ·exact hz
    exact⟨up i ei z1,up j ej z2⟩
 ·
  have hxo:=(cP hnt hx).2;by_cases e:i=n
  ·subst e;rw [bi] at hA;rw [if_pos rfl] at hZ;by_cases hs:Sh b
   ·refine fork (h.knows 0 j z b hn hq0 hxo hb (hSh b hs).2.1 ?_);rcases hZ with hZ |hZ |hZ
    ·exact .inl hZ
    ·exact absurd hs hZ
    ·exact .inr (.inr hZ)
   ·exact absurd ⟨h.tr.inb j z b hxo hb,hs⟩ hA
  ·rw [aX e] at hA;rw [hqq i e] at ha;refine(h.knows i j z b (by omega) ha hxo hb hA (hZ.imp id (.imp (fun hz hz'=>hz ?_) id))).app _;rw [if_neg e];split
   ·rename_i e0;subst e0;exact .inl hz'
   ·exact hz'
 ·
  have hxo:=(cP hnt hx).2;by_cases e:i=n
  ·subst e;exact(h.shk 0 j z b hn hq0 hxo hb hs).imp fork id
  ·rw [hqq i e] at ha;exact(h.shk i j z b (by omega) ha hxo hb hs).imp (·.app _) id
 ·
  have hxo:=(cP hnt hx).2;by_cases e':i=n
  ·subst e';exact(h.lkf e 0 j z hn hq0 hxo hb).imp fork (·.app _)
  ·rw [hqq i e'] at ha;exact(h.lkf e i j z (by omega) ha hxo hb).imp (·.app _) (·.app _)
 ·
  rcases getElem?_append_cases hop with⟨hlt,hop'⟩ |⟨_,hm⟩
  ·have hgn:=h.tr.num op (mem_of_getElem? hop');refine(h.kn j op hop' (hc.old hlt)).imp (·.app _) (.imp (fun⟨h1,h2,h3⟩=>?_) (·.app _));rw [si op.g (by omega) (by omega)];exact⟨h1,h2,h3⟩
  ·exact absurd hc (hnc hm hop)
 ·
  rw [hnd];by_cases e:i=n
  ·subst e;rw [sn];exact htn _
  ·rw [hqq i e] at hq
   have:(upd (upd sg n .wk0) 0 { sg 0 with pd:=0,sp:=(sg 0).sp+1,al:=false,jn:=false } i).df=(sg i).df:=by
    by_cases a:i=0
    ·subst a;rw [s0]
    ·rw [si i a e]
   rw [this];exact h.deaf i (by omega) hq
 ·
  have hgi:i < n+1:=by have:=(Array.getElem?_eq_some_iff.1 hg).1;simp [hszn] at this;omega
  rw [hnd];by_cases e:i=n
  ·subst e
   have:g=Gr fc []:=by
    rw [Array.getElem?_push] at hg;simpa [hszn] using hg.symm
   subst this;rw [sn,aX hne.symm,bi,bi];have hz:(fun b=>if i=i then Sh b else if i=0 then Z 0 b∨Sh b else Z i b)=Sh:=by funext b;rw [if_pos rfl]
   rw [hz];refine⟨fun e=>(by cases e),fun _=>.run ?_⟩;rw [show(i == 0)=false by simpa using hne.symm];exact hwc
  ·have hg':(gs.setIfInBounds 0 (Gr fr' cs))[i]? =some g:=by
    rw [Array.getElem?_push] at hg;rwa [if_neg (by simp [hszn];exact e)] at hg
   by_cases a:i=0
   ·subst a;rw [Array.getElem?_setIfInBounds_self_of_lt (by rw [hszn];exact hn)] at hg';cases hg';rw [s0,bi,aX hne];have hz:(fun b=>if 0=n then Sh b else if(0:Nat)=0 then Z 0 b∨Sh b else Z 0 b)=fun b=>Z 0 b∨Sh b:=by funext b;rw [if_neg hne,if_pos rfl]
    rw [hz];refine⟨fun e=>?_,fun _=>.run hw0⟩;have e:(sg 0).q=true:=e;rw [hq0] at e;cases e
   ·rw [Array.getElem?_setIfInBounds_ne (fun e=>a e.symm)] at hg';rw [si i a e,aX a,aX e,aX e]
    have hz:(fun b=>if i=n then Sh b else if i=0 then Z 0 b∨Sh b else Z i b)=Z i:=by
     funext b;rw [if_neg e,if_neg a]
    rw [hz];exact h.sts i g hg'
 ·
  by_cases e:i=n
  ·subst e;rw [bi];exact⟨h.domA 0 b (h.shA b hb 0),fun hs=>(hSh b hs).2.1 (h.shA b hb 0)⟩
  ·rw [aX e];exact h.shA b hb i
 ·
  show¬(if i=n then Sh p.bk else if i=0 then Z 0 p.bk∨Sh p.bk else Z i p.bk);split
  ·exact fun e=>(hSh _ e).2.2 rfl
  ·split
   ·exact fun e=>e.elim (h.bkZ 0) fun x=>(hSh _ x).2.2 rfl
   ·exact h.bkZ i
 ·
  by_cases e:i=n
  ·subst e;rw [bi,sn];exact⟨fun _=>rfl,fun _=>⟨h.bkl,fun hs=>(hSh _ hs).2.2 rfl⟩⟩
  ·rw [aX e,h.bkA i (by omega)];by_cases a:i=0
   ·subst a;rw [s0]
   ·rw [si i a e]
 ·
  have:g=Gr fr' cs:=by
   rw [Array.getElem?_push,if_neg (by simp [hszn];omega),Array.getElem?_setIfInBounds_self_of_lt (by rw [hszn];exact hn)] at hg;exact(Option.some.inj hg).symm
  subst this;obtain⟨_,_,_,_,e⟩:=hgp;cases e
theorem CW.movable(h:CW P p T n sg rk k A Z q gs w t):∃(i:Nat) (g:Goroutine),gs[i]? =some g∧g.status= .running:=by
 apply Classical.byContradiction;intro hno
 have hget:∀i,i < n→∃g,gs[i]? =some g∧g.status≠.running:=fun i hi=>by
  have hlt:i < gs.size:=by rw [h.size];exact hi
  exact⟨gs[i],Array.getElem?_eq_getElem hlt,fun e=>hno ⟨i,_,Array.getElem?_eq_getElem hlt,e⟩⟩
 have hstand:∀i,i < n→(sg i).q=false→(Jf (sg i) q)∨(q.cl=false∧(sg i).mx=0∧0 < i∧∃fr cs z,gs[i]? =some (parked (Gr fr cs) #[rcase p.bc z] (.recv true)))∨(i=0∧(sg i).mx=0∧(sg i).op=true∧0 < (sg i).sp∧∃fr cs x z,gs[i]? =some (parked (Gr fr cs) #[scase p.bc x z] .send)):=fun i hi hq=>by
  obtain⟨g,hg,hr⟩:=hget i hi;have hs:=(h.sts i g hg).2 hq;cases hs with
  |run h=>exact absurd rfl hr
  |blk hb h=>exact .inl hb
  |rcv hc hz=>exact .inr (.inl ⟨hc,hz.2.2.2.2.1,Nat.pos_of_ne_zero (by simpa using hz.2.1),_,_,_,hg⟩)
  |rcd hc hz=>exact absurd rfl hr
  |snd hz=>exact .inr (.inr ⟨by simpa using hz.2.1,hz.2.2.2.2.2.2.1,hz.2.2.1,hz.2.2.2.1,_,_,_,_,hg⟩)
 have hok:=h.bk.ok
 have hmx:∀i,i < n→(sg i).hd=0∧(sg i).aw=0∧(sg i).rn=0∧(sg i).tk=0∧(sg i).rh=0∧(sg i).ty=0:=fun i hi=>by
  cases hq:(sg i).q with
  |true=>rw [(hok i hi).quit hq];exact⟨rfl,rfl,rfl,rfl,rfl,rfl⟩
  |false=>
   have h1:=(hok i hi).one;have h2:=(hok i hi).lv hq;rcases hstand i hi hq with(⟨h3,_⟩ |⟨h3,_⟩) |⟨_,h3,_⟩ |⟨_,h3,_⟩
   ·simp only [Ph.mx] at h1;omega
   ·have:=((hok i hi).rg h3).1;simp only [Ph.mx] at this;omega
   ·simp only [Ph.mx] at h3;omega
   ·simp only [Ph.mx] at h3;omega
 have a1:=lX (f:=Ph.hd) fun i hi=>(hmx i hi).1;have a2:=lX (f:=Ph.aw) fun i hi=>(hmx i hi).2.1;have a3:=lX (f:=Ph.rn) fun i hi=>(hmx i hi).2.2.1;have a4:=lX (f:=Ph.tk) fun i hi=>(hmx i hi).2.2.2.1;have a5:=lX (f:=Ph.rh) fun i hi=>(hmx i hi).2.2.2.2.1;have a6:=lX (f:=Ph.ty) fun i hi=>(hmx i hi).2.2.2.2.2;have hhd:=h.bk.hd;have hle:=h.bk.le
 have hnq:∀i,i < n→(sg i).q=false→¬((sg i).qu=1∧q.T=0):=fun i hi hq ⟨h1,h2⟩=>by
  have h3:=jY (sg:=sg) (f:=Ph.qu) hi;rcases(show q.S=0∨q.S=1 by omega) with e |e
  ·obtain⟨b1,b2,b3,b4⟩:=h.bk.s0 e;have:=b4 (by omega) (by omega) (by omega);omega
  ·obtain⟨b1,b2,b3,b4,b5,b6⟩:=h.bk.s1 e;omega
 have hn0:=h.bk.n0;have hq0:=((hok 0 hn0).main rfl).2.2.2.2.1
 have hwk:∀i,0 < i→i < n→(sg i).q=false→q.cl=false∧∃fr cs z,gs[i]? =some (parked (Gr fr cs) #[rcase p.bc z] (.recv true)):=fun i hp hi hq=>by
  rcases hstand i hi hq with(h3 |⟨h3,_⟩) |⟨h3,_,_,h4⟩ |⟨h3,_⟩
  ·exact absurd h3 (hnq i hi hq)
  ·have:=((hok i hi).rg h3).2;omega
  ·exact⟨h3,h4⟩
  ·omega
 rcases hstand 0 hn0 hq0 with(h3 |⟨h3,h4⟩) |⟨_,_,h3,_⟩ |⟨_,_,h3,h4,f0,c0,x0,z0,h5⟩
 ·exact hnq 0 hn0 hq0 h3
 ·have hc:=h.bk.rgc (.inl h3);have hm:=(hok 0 hn0).main rfl;have hre:=h.bk.re h3
  have hall:∀f:Ph→Nat,f .quit=0→f (sg 0)=0→al n sg f=0:=fun f hf hf0=>lX fun i hi=>by
   rcases Nat.eq_zero_or_pos i with e |e
   ·rw [e];exact hf0
   ·cases hq:(sg i).q with
    |true=>rw [(hok i hi).quit hq];exact hf
    |false=>
     have:=(hwk i e hi hq).1;rw [hc] at this;cases this
  have b1:=hall Ph.ac rfl hm.1;have b2:=hall Ph.w1 rfl hm.2.1;have b3:=hall Ph.w2 rfl hm.2.2.1;have hcc:=h.bk.c;have:=hre.2.2 (by omega);omega
 ·omega
 ·have hcl:=h.bk.op h3;have hnw:=h.bk.nw hcl;obtain⟨i,hi,hpos⟩:=OO (n:=n) (sg:=sg) (f:=Ph.nw) (by omega);have hm:=(hok 0 hn0).main rfl
  have hp:0 < i:=by
   rcases Nat.eq_zero_or_pos i with e |e
   ·subst e;have:=hm.2.2.2.1;omega
   ·exact e
  cases hq:(sg i).q with
  |true=>rw [(hok i hi).quit hq] at hpos;exact absurd hpos (Nat.lt_irrefl 0)
  |false=>
   obtain⟨_,fr,cs,z,hg⟩:=hwk i hp hi hq;exact h.pp _ h5 ⟨_,_,_,_,rfl⟩ i _ hp hg ⟨_,_,_,rfl⟩
end
def Rt:Option Rk→Option Rk→Prop
 |none,some _=>True
 |some a,some b=>Rk.lt a b
 |_,none=>False
theorem zx:Acc Rt none:=Acc.intro _ fun y hy=>by cases y <;> exact hy.elim
theorem KJ:∀x,Acc Rt x
 |none=>zx
 |some r=>by
  have h:=CB r
  induction h with
  |intro r _ ih=>
   refine Acc.intro _ fun y hy=>?_
   cases y with
   |none=>exact zx
   |some a=>exact ih a hy
def JZ(sg:Nat→Ph)(rk:Nat→Rk):Nat→Option Rk:=fun i=>if i=0∨(sg i).q=true then none else some (rk i)
def AD(gs:Array Goroutine)(i:Nat):Nat:=match gs[i]? with
 |some g=>if g.status= .running then 1 else 0
 |none=>0
theorem zJ:∀n:Nat,aF (fun _=>1) n=n
 |0=>rfl
 |n+1=>by simp only [aF,zJ n]
theorem NQ(gs:Array Goroutine)(n:Nat):aF (AD gs) n≤n:=by
 have:=ju (k:=AD gs) (k':=fun _=>1) (n:=n) fun j _=>by
  unfold AD;split
  ·split <;> omega
  ·omega
 rwa [zJ] at this
theorem xp{gs:Array Goroutine}{i n:Nat}{g g':Goroutine}(hi:gs[i]? =some g)(hr:g.status= .running)(hr':g'.status≠.running)(hin:i < n):aF (AD (gs.setIfInBounds i g')) n+1=aF (AD gs) n:=by
 have h1:aF (AD (gs.setIfInBounds i g')) n=aF (upd (AD gs) i 0) n:=nm fun j _=>by
  unfold upd AD;by_cases e:j=i
  ·subst e;have hlt:=(Array.getElem?_eq_some_iff.1 hi).1;rw [Array.getElem?_setIfInBounds_self_of_lt hlt];simp [hr']
  ·rw [Array.getElem?_setIfInBounds_ne (fun e'=>e e'.symm),if_neg e]
 have h2:=oC (k:=AD gs) (x:=0) hin;have h3:AD gs i=1:=by unfold AD;rw [hi];simp [hr]
 omega
section
variable {P:Program}{p:Gp}{T:Tq}
theorem zw{gs:Array Goroutine}{g:Goroutine}{w:World}{fr:Frame}{cs:List Frame}:gs.map (Conc.woken P g { Gr fr cs with status:=.blocked } w)=gs:=by
 have:(fun o=>Conc.woken P g { Gr fr cs with status:=.blocked } w o)=id:=by
  funext o;unfold Conc.woken;rw [if_neg (by simp)];rfl
 have e:gs.map (Conc.woken P g { Gr fr cs with status:=.blocked } w)=gs.map id:=congrArg (Array.map · gs) this;rw [e,Array.map_id]
theorem CW.block{n:Nat}{sg:Nat→Ph}{rk:Nat→Rk}{k:Nat→Nat}{A Z:Nat→Nat→Prop}{q:c9}{gs:Array Goroutine}{w:World}{t:Trace}(h:CW P p T n sg rk k A Z q gs w t){i:Nat}{fr:Frame}{cs:List Frame}(hi:gs[i]? =some (Gr fr cs))(hq:(sg i).q=false)(hb:Jf (sg i) q)(hw:vz P p T (rk i) (i == 0) (sg i) ⟨w,A i,Z i⟩ fr cs):
 CW P p T n sg rk k A Z q (gs.setIfInBounds i { Gr fr cs with status:=.blocked }) w t:=by
 have hin:=h.lt hi
 have hg':∀j,j≠i→(gs.setIfInBounds i { Gr fr cs with status:=.blocked })[j]? =gs[j]? :=fun j hj=>Array.getElem?_setIfInBounds_ne (fun e=>hj e.symm)
 have:=h.comm (gs':=gs.setIfInBounds i { Gr fr cs with status:=.blocked }) (u:=[]) (fun op ho=>by simp at ho) (by simp [h.size]) (sg':=sg) (fun _=>rfl) rfl h.at_ h.bk rfl (rk':=rk) (fun j x hx=>?_) fun x hx hgp i1 x1 hp1 hx1 hr1=>?_
 ·
  simpa using this
 ·
  by_cases b:j=i
  ·subst b;rw [Array.getElem?_setIfInBounds_self_of_lt (by rw [h.size];exact hin)] at hx;cases hx;exact⟨fun e=>(by rw [hq] at e;cases e),fun _=>.blk hb hw⟩
  ·rw [hg' j b] at hx;exact h.sts j x hx
 ·
  have hx0:gs[0]? =some x:=by
   by_cases b:0=i
   ·rw [←b,Array.getElem?_setIfInBounds_self_of_lt (by rw [h.size];exact h.bk.n0)] at hx;cases hx;obtain⟨_,_,_,_,e⟩:=hgp;cases e
   ·rwa [hg' 0 b] at hx
  have hx1':gs[i1]? =some x1:=by
   by_cases b:i1=i
   ·rw [b,Array.getElem?_setIfInBounds_self_of_lt (by rw [h.size];exact hin)] at hx1;cases hx1;obtain⟨_,_,_,e⟩:=hr1;cases e
   ·rwa [hg' i1 b] at hx1
  exact h.pp x hx0 hgp i1 x1 hp1 hx1' hr1
theorem TC{Gd:Machine→Trace→Prop}(hG:Gl P T Gd)(hlp:Fj P p T):∀r0:Rk,Acc Rk.lt r0→∀(n:Nat) (sg:Nat→Ph) (rk:Nat→Rk) (k:Nat→Nat) (A Z:Nat→Nat→Prop) (q:c9) (gs:Array Goroutine) (w:World) (t:Trace) (sl:Option (Nat×Nat)),CW P p T n sg rk k A Z q gs w t→rk 0=r0→Gd (crowd gs w sl) t:=by
 intro r0 ha0
 induction ha0 with
 |intro r0 _ ih0=>
 have key:∀(n:Nat) (s0:Nat→Option Rk),Acc (Dn Rt n) s0→∀N,∀(sg:Nat→Ph) (rk:Nat→Rk) (k:Nat→Nat) (A Z:Nat→Nat→Prop) (q:c9) (gs:Array Goroutine) (w:World) (t:Trace) (sl:Option (Nat×Nat)),CW P p T n sg rk k A Z q gs w t→rk 0=r0→(∀j,j < n→Sb Rt (JZ sg rk j) (s0 j))→(n+1) * aF k n+aF (AD gs) n≤N→Gd (crowd gs w sl) t:=by
  intro n s0 h0
  induction h0 with
  |intro s0 _ ih1=>
  intro N
  induction N using Nat.strongRecOn with
  |_ N ih2=>
  intro sg rk k A Z q gs w t sl h hr0 hb hN
  have haw:∀g∈gs,awake g:=fun g hg=>by
   obtain⟨j,hj,rfl⟩:=Array.getElem_of_mem hg;exact(h.sts j _ (Array.getElem?_eq_getElem hj)).awake
  obtain⟨i,g,d,sl',hi,hg,hst⟩:=crowd_pick (P:=P) (w:=w) (sl:=sl) haw h.movable;have hd:=h.at d;have hin:i < n:=h.lt hi
  have go:∀(r':Rk) (sg':Nat→Ph) (k':Nat→Nat) (A' Z':Nat→Nat→Prop) (q':c9) (gs':Array Goroutine) (w':World) (t':Trace) (sl1:Option (Nat×Nat)),(sg i).q=false→(∀j,j≠i→(sg' j).q=(sg j).q)→((sg' i).q=false→Rk.lt r' (rk i))→CW P p T n sg' (upd rk i r') k' A' Z' q' gs' w' t'→Gd (crowd gs' w' sl1) t':=by
   intro r' sg' k' A' Z' q' gs' w' t' sl1 hq hqs hl hcw;rcases Nat.eq_zero_or_pos i with e |hp
   ·subst e;exact ih0 r' (hr0▸hl ((hcw.bk.ok 0 hcw.bk.n0).main rfl).2.2.2.2.1) n sg' _ k' A' Z' q' gs' w' t' sl1 hcw bi
   ·have hne0:i≠0:=by omega
    refine ih1 (JZ sg' (upd rk i r')) ⟨i,hin,?_,fun j hj hne=>?_⟩ _ sg' _ k' A' Z' q' gs' w' t' sl1 hcw ?_ (fun _ _=>Sb.refl _) (Nat.le_refl _)
    ·refine hb i hin _ ?_;have e1:JZ sg rk i=some (rk i):=by unfold JZ;rw [if_neg];rintro(x |x);exact hne0 x;rw [hq] at x;cases x
     rw [e1];unfold JZ;by_cases hq':(sg' i).q=true
     ·rw [if_pos (.inr hq')];trivial
     ·rw [if_neg (by rintro(x |x);exact hne0 x;exact hq' x),bi];exact hl (by simpa using hq')
    ·have:JZ sg' (upd rk i r') j=JZ sg rk j:=by unfold JZ;rw [aX hne,hqs j hne]
     rw [this];exact hb j hj
    ·rw [aX hne0.symm];exact hr0
  have goA:∀{fr:Frame} {cs:List Frame},gs[i]? =some (Gr fr cs)→(sg i).q=false→FM P p (yc P p T (rk i)) (i == 0) (sg i) fr cs ⟨w.at d,A i,Z i⟩ q→Gd (crowd gs w sl) t:=by
   intro fr cs hi hq hA;obtain⟨s',q',fr',cs',w',es,h1,h2,h3,h4,h5,h5',h6,h7⟩:=hA;have hgo:=runT_crowd_go (sl:=sl') hi h1;rw [←hst] at hgo;refine hG.next _ _ _ _ hgo ?_;cases hq':s'.q with
   |false=>
    obtain⟨_,_,_,h6⟩:=h6 hq';obtain⟨r',hl,hw⟩:=sM h6;obtain⟨k',hcw⟩:=hd.act (fr:=fr) hi rfl hq h2 h3 h4 h5 h5' (fun _=>hw) h7;exact go r' _ _ _ _ _ _ _ _ _ hq (fun j hj=>by rw [aX hj]) (fun _=>hl) hcw
   |true=>
    obtain⟨k',hcw⟩:=hd.act (r':=rk i) (fr:=fr) hi rfl hq h2 h3 h4 h5 h5' (fun e=>by rw [hq'] at e;cases e) h7;exact go (rk i) _ _ _ _ _ _ _ _ _ hq (fun j hj=>by rw [aX hj]) (fun e=>by rw [bi,hq'] at e;cases e) hcw
  have goR:∀{fr:Frame} {cs:List Frame} {z:Value},(sg i).q=false→stepG P (i == 0) g (w.at d)= .comm (Gr fr cs) #[rcase p.bc z] true (.recv true) (w.at d) #[]→g.frame=fr→Fh P p (yc P p T (rk i)) (i == 0) (sg i) ⟨w.at d,A i,Z i⟩ fr cs z→Gd (crowd gs w sl) t:=by
   intro fr cs z hq hs hf hz;cases hcl:q.cl with
   |true=>
    obtain⟨r1,gs',ops,hl,hgo,hcw,_,hp⟩:=hd.closed (sl:=sl') hi hs hf hcl hz;rw [←hst] at hgo;refine hG.next _ _ _ _ hgo ?_;exact go r1 _ _ _ _ _ _ _ _ _ hq (fun j hj=>by rw [aX hj]) (fun _=>hl) hcw
   |false=>
    by_cases hp:partners (gs.setIfInBounds i ph) p.bc true=[]
    ·obtain⟨hgo,hcw,_⟩:=hd.parkR (sl:=sl') hi hs hcl hz hp;rw [←hst] at hgo;refine hG.next _ _ _ _ hgo ?_;rw [Array.append_empty];have:=xp (g':=parked (Gr fr cs) #[rcase p.bc z] (.recv true)) hi hg (by simp [parked]) hin;exact ih2 ((n+1) * aF k n+aF (AD (gs.setIfInBounds i (parked (Gr fr cs) #[rcase p.bc z] (.recv true)))) n) (by omega) sg rk k A Z q _ _ t sl' hcw hr0 hb (Nat.le_refl _)
    ·obtain⟨sg',rk',q',gs',w',ops,hl,hgo,hcw⟩:=hd.recv hlp (sl:=sl') hi hs hcl hz hp;rw [←hst] at hgo;refine hG.next _ _ _ _ hgo ?_;exact ih0 _ (hr0▸hl) n sg' rk' k A Z q' gs' w' _ sl' hcw rfl
  cases hq:(sg i).q with
  |true=>
   have hqi:=(hd.sts i g hi).1 hq;cases hki:k i with
   |zero=>
    rw [hki] at hqi;have hqi:g.status= .finished:=hqi.1;rw [hqi] at hg;cases hg
   |succ m=>
    rw [hki] at hqi;rcases hqi with hf |⟨_,g',es,hm,hw,hq'⟩
    ·rw [hf.1] at hg;cases hg
    ·have hi0:(i == 0)=false:=by
      have:i≠0:=fun e=>by
       subst e;have:=((h.bk.ok 0 h.bk.n0).main rfl).2.2.2.2.1;rw [hq] at this;cases this
      simpa using this
     have hgo:=runT_crowd_go (sl:=sl') hi (by rw [hi0];exact hw (w.at d));rw [←hst] at hgo;refine hG.next _ _ _ _ hgo ?_;have hcw:=hd.quitStep (fn:=g.frame.fn) (pos:=g.frame.place) hi hq hm hq';have hu:=oC (k:=k) (x:=m) hin;have hr:=NQ ((gs.map (Conc.woken P g g' (w.at d))).setIfInBounds i g') n;have he:aF k n=aF (upd k i m) n+1:=by omega
     rw [he,Nat.mul_add,Nat.mul_one] at hN;exact ih2 ((n+1) * aF (upd k i m) n+aF (AD ((gs.map (Conc.woken P g g' (w.at d))).setIfInBounds i g')) n) (by omega) sg rk (upd k i m) A Z q _ _ _ sl' hcw hr0 hb (Nat.le_refl _)
  |false=>
   have hs:=(hd.sts i g hi).2 hq;cases hs with
   |blk hb h=>cases hg
   |rcv hc hz=>cases hg
   |snd hz=>cases hg
   | @rcd fr cs z hc hz=>
    refine goR hq ?_ rfl hz;rw [stepG_tries];exact hz.2.2.2.2.2.2.1 _
   | @run fr cs hw=>
    have hw0:vz P p T (rk i) (i == 0) (sg i) ⟨w,A i,Z i⟩ fr cs:=by
     cases(h.sts i _ hi).2 hq with
     |run h=>exact h
    obtain⟨_,hw'⟩:=Nj.1 hw;have hrf:=bh.refl ⟨w.at d,A i,Z i⟩;have hpre:lZ p (i == 0) (sg i) q:=⟨n,sg,i,hin,by simp,rfl,h.bk⟩;rcases hw' with h1 |h1 |⟨h0,h1⟩ |⟨z,h1⟩ |⟨x,z,h1⟩ |h1 |h1
    ·obtain⟨fr',cs',w',es,k1,k2,k3,_,_,_,k4⟩:=h1 _ hrf hd.at_.kf;obtain⟨r',hl,hw⟩:=sM k4;have hgo:=runT_crowd_go (sl:=sl') hi k1;rw [←hst] at hgo;refine hG.next _ _ _ _ hgo ?_;exact go r' _ _ _ _ _ _ _ _ _ hq (fun _ _=>rfl) (fun _=>hl) (hd.own hi rfl hq k2 k3 hw)
    ·exact goA hi hq (h1 _ q hrf hd.at_ hpre)
    ·obtain⟨k1,k2⟩:=h1 _ q hrf hd.at_ hpre;by_cases hblk:Jf (sg i) q
     ·have hgo:=runT_crowd_go (sl:=sl') hi (k1 hblk);rw [zw,ofEvents_none] at hgo;rw [←hst] at hgo;refine hG.next _ _ _ _ hgo ?_;rw [Array.append_empty];have hcw:=hd.block hi hq hblk hw;have:=xp (g':={ Gr fr cs with status:=.blocked }) hi hg (by simp) hin;exact ih2 ((n+1) * aF k n+aF (AD (gs.setIfInBounds i { Gr fr cs with status:=.blocked })) n) (by omega) sg rk k A Z q _ _ t sl' hcw hr0 hb (Nat.le_refl _)
     ·exact goA hi hq (k2 hblk)
    ·exact goR hq (h1.2.2.2.2.2.2.1 _) rfl h1
    ·by_cases hp:partners (gs.setIfInBounds i ph) p.bc false=[]
     ·obtain⟨hgo,hcw,_⟩:=hd.parkS (sl:=sl') hi (h1.2.2.2.2.2.2.2.2.2.1 _) h1 hp;rw [←hst] at hgo;refine hG.next _ _ _ _ hgo ?_;rw [Array.append_empty];have:=xp (g':=parked (Gr fr cs) #[scase p.bc x z] .send) hi hg (by simp [parked]) hin;exact ih2 ((n+1) * aF k n+aF (AD (gs.setIfInBounds i (parked (Gr fr cs) #[scase p.bc x z] .send))) n) (by omega) sg rk k A Z q _ _ t sl' hcw hr0 hb (Nat.le_refl _)
     ·obtain⟨sg',rk',q',gs',w',ops,hl,hgo,hcw⟩:=hd.send hlp (sl:=sl') hi (h1.2.2.2.2.2.2.2.2.2.1 _) h1 hp;rw [←hst] at hgo;refine hG.next _ _ _ _ hgo ?_;exact ih0 _ (hr0▸hl) n sg' rk' k A Z q' gs' w' _ sl' hcw rfl
    ·have hmn:=h1.2.1;have hi0:i=0:=by simpa using hmn
     subst hi0;obtain⟨n',sg',rk',k',A',Z',gs',ops,hl,hgo,hcw⟩:=hd.spawn (sl:=sl') hi h1 hq;rw [←hst] at hgo;refine hG.next _ _ _ _ hgo ?_;exact ih0 _ (hr0▸hl) n' sg' rk' k' A' Z' q gs' _ _ sl' hcw rfl
    ·obtain⟨hmn,hjn,hal,hdf,hdt,Z0,hT⟩:=h1;have hi0:i=0:=by simpa using hmn
     subst hi0;have hT:=hT ⟨w,A 0,Z 0⟩ q (bh.drawn ⟨w.at d,A 0,Z 0⟩ w.drawn) h.at_ hpre;have hjk:=h.jn hjn;refine hG.fin _ _ _ hT gs sl t k ⟨hi,fun j x hj hx=>?_,by rw [h.size];exact h.tr,⟨fun j x b hx hb ha=>?_,fun j hj=>?_⟩,(h.deaf 0 hin hq).trans hdf⟩
     ·exact(h.sts j x hx).1 (h.bk.gone hal j hj (h.lt hx))
     ·obtain⟨op,hop,hxa⟩:=touch_of hx;by_cases hbb:b=p.bm∨b=p.bk
      ·exact hjk.2 j op hop (.inr ⟨x,b,hxa,hb,hbb⟩)
      ·have ha0:¬A 0 b:=fun e=>ha ⟨e,fun e'=>hbb (.inl e'),fun e'=>hbb (.inr e')⟩;by_cases hpl:x.kind= .plain
       ·refine hjk.2 j op hop (.inl ⟨x,hx,?_,.inl (by rw [hpl];simp)⟩);cases hl:x.loc <;> rw [hl] at hb <;> first |rfl |cases hb
       ·exact h.knows 0 j x b hin hq hx hb ha0 (.inr (.inr hpl))
     ·obtain⟨x,hx,_⟩:=id hj;obtain⟨op,hop,_⟩:=touch_of hx;exact hjk.2 j op hop (.inl hj)
 intro n sg rk k A Z q gs w t sl h hr
 exact key n (JZ sg rk) (Iq n _ fun i _=>KJ _) _ sg rk k A Z q gs w t sl h hr (fun _ _=>Sb.refl _) (Nat.le_refl _)
end
def NN(s:Ph)(i:Nat):Ph:=if i=0 then s else Ph.quit
theorem PQ{s:Ph}:NN s 0=s:=if_pos rfl
theorem nY{s:Ph}{i:Nat}(h:i≠0):NN s i=Ph.quit:=if_neg h
def aB(X Y:Nat→Prop)(i b:Nat):Prop:=if i=0 then X b else Y b
theorem Aj{X Y:Nat→Prop}:aB X Y 0=X:=by funext b;exact if_pos rfl
theorem Cf{X Y:Nat→Prop}{i:Nat}(h:i≠0):aB X Y i=Y:=by funext b;exact if_neg h
section
variable {P:Program}{p:Gp}{T:Tq}
theorem Ak{Gd:Machine→Trace→Prop}(hG:Gl P T Gd)(hlp:Fj P p T){v:VW}{fr:Frame}{cs:List Frame}{gs:Array Goroutine}{sl:Option (Nat×Nat)}{t:Trace}{k:Nat→Nat}{s:Ph}{q:c9}(hok:p.Ok)(hL:yq P v fr cs gs t k)(hA:∀b,v.A b→b < v.heap.size)(hZ:∀b,v.Z b→b < v.heap.size)(hZk:¬v.Z p.bk)
 (hat:p.At v q) (hown:∀b,p.sh b∨b=p.bk→¬v.A b) (hq:q={ f:=s.phi,cs:=q.cs,cl:=q.cl }) (hs:s={ phi:=s.phi,al:=s.al,jn:=true,op:=s.op }) (hop:s.op=true→q.cl=false) (hal:s.al=true)
 (h:Ww P p T true s ⟨v.toWorld,fun b=>v.A b∨p.sh b∨b=p.bk,v.Z⟩ fr cs):Gd (crowd gs v.toWorld sl) t:=by
 obtain⟨r,hr⟩:=h
 obtain⟨h0,hqt,ht,hk,hd⟩:=hL
 have hn0:0 < gs.size:=(Array.getElem?_eq_some_iff.1 h0).1
 have hlt:∀c,p.sh c∨c=p.bk→c < v.heap.size:=fun c hc=>by
  have hbk:p.bk < v.heap.size:=by
   obtain⟨o,ho,_⟩:=hat.mp (by rw [hq]);exact(Array.getElem?_eq_some_iff.1 ho).1
  rcases hc with(rfl |⟨hcr,rfl |rfl⟩) |rfl
  ·exact(Array.getElem?_eq_some_iff.1 hat.mu).1
  ·exact(Array.getElem?_eq_some_iff.1 (hat.wg hcr)).1
  ·exact(Array.getElem?_eq_some_iff.1 (hat.ch hcr)).1
  ·exact hbk
 have s0:NN s 0=s:=PQ
 have hsum:∀f:Ph→Nat,f .quit=0→al gs.size (NN s) f=f s:=fun f hf=>by
  have:∀n,0 < n→al n (NN s) f=f s:=by
   intro n
   induction n with
   |zero=>intro h;omega
   |succ n ih=>
    intro _;show al n _ f+f (NN s n)=f s;rcases Nat.eq_zero_or_pos n with e |e
    ·subst e;rw [s0];exact Nat.zero_add _
    ·rw [ih e,nY (by omega),hf];rfl
  exact this _ hn0
 refine TC hG hlp r (CB r) gs.size (NN s) (fun _=>r) k (aB (fun b=>v.A b∨p.sh b∨b=p.bk) (fun b=>b < v.heap.size)) (aB v.Z (fun _=>False)) q gs v.toWorld t sl ⟨rfl,ht,fun i b hb=>?_,fun i b hb=>?_,fun i j b _ _ hne hb h1 h2=>?_,fun i j x b _ ha hx hb hA _=>?_,fun i j x b _ ha hx hb hs=>?_,fun j x b hx hb hs _=>hk.own j x b hx hb (hown b (.inl hs)),fun e i j x _ ha hx hb=>?_,fun j op hop hc=>.inl ?_,fun e=>⟨by rw [s0];exact hal,fun j op hop hc=>?_⟩,fun i hi hqi=>?_,fun i g hg=>?_,hat,?_,fun b hb i=>?_,hlt _ (.inr rfl),fun i=>?_,fun i hi=>?_,fun g hg hgp=>?_,hok⟩ rfl
 ·
  by_cases e:i=0
  ·rw [e,Aj] at hb;exact hb.elim (hA b) fun e=>hlt b e
  ·rw [Cf e] at hb;exact hb
 ·
  by_cases e:i=0
  ·rw [e,Aj] at hb;exact hZ b hb
  ·rw [Cf e] at hb;exact hb.elim
 ·
  exfalso;by_cases e:i=0
  ·by_cases e':j=0
   ·exact hne (e.trans e'.symm)
   ·rw [Cf e'] at h2;exact h2 hb
  ·rw [Cf e] at h1;exact h1 hb
 ·
  by_cases e:i=0
  ·subst e;rw [Aj] at hA;exact hk.own j x b hx hb fun e=>hA (.inl e)
  ·rw [nY e] at ha;cases ha
 ·
  by_cases e:i=0
  ·subst e;exact .inl (hk.own j x b hx hb (hown b (.inl hs)))
  ·rw [nY e] at ha;cases ha
 ·
  by_cases e:i=0
  ·subst e;exact .inl (hk.own j x _ hx hb (hown _ (.inr rfl)))
  ·rw [nY e] at ha;cases ha
 ·
  rcases hc with hc |⟨x,b,hxa,hb,hbb⟩
  ·exact hk.cnt j hc
  ·exact hk.own j x b (by rw [touchAt_of hop];exact hxa) hb (hown b (hbb.elim (fun e=>.inl (.inl e)) .inr))
 ·
  rcases hc with hc |⟨x,b,hxa,hb,hbb⟩
  ·exact hk.cnt j hc
  ·exact hk.own j x b (by rw [touchAt_of hop];exact hxa) hb (hown b (hbb.elim (fun e=>.inl (.inl e)) .inr))
 ·
  by_cases e:i=0
  ·subst e;rw [s0,hs];exact hd
  ·rw [nY e] at hqi;cases hqi
 ·
  by_cases e:i=0
  ·subst e;rw [h0] at hg;cases hg;rw [s0];refine⟨fun e=>(by rw [hs] at e;cases e),fun _=>.run ?_⟩;rw [Aj,Aj];exact hr
  ·rw [nY e];exact⟨fun _=>hqt i g (by omega) hg,fun e=>(by cases e)⟩
 ·
  refine⟨?_,fun _=>⟨?_,?_,?_,?_⟩,fun x=>?_,?_,fun x=>?_,fun x=>?_,fun x=>?_,?_,?_,fun x=>⟨?_,?_,?_,fun _ x=>?_⟩,fun x=>?_,?_,?_,fun i ow φ hi x=>?_,fun i hi=>?_,⟨?_,?_⟩,fun i hi=>?_,hn0,fun B x=>?_,fun _ i hi hin=>?_⟩
  ·rw [hsum Ph.ac rfl,s0,hq,hs];rfl
  ·rw [hq]
  ·rw [hq]
  ·rw [hsum Ph.w1 rfl,hs]
  ·rw [hsum Ph.w2 rfl,hs]
  ·rw [s0,hs] at x;cases x
  ·rw [s0,hs];exact Nat.zero_le _
  ·rw [s0,hs] at x;rcases x with x |x <;> cases x
  ·rw [s0] at x;exact hop x
  ·rw [hsum Ph.nw rfl,s0,hs]
  ·rw [hq];exact⟨Nat.zero_le _,Nat.zero_le _,Nat.zero_le _⟩
  ·rw [hsum Ph.hd rfl,hq,hs]
  ·rw [hsum Ph.aw rfl,hsum Ph.rn rfl,hsum Ph.tk rfl,hq,hs];rfl
  ·rw [hsum Ph.qu rfl,hsum Ph.rn rfl,hq,hs];rfl
  ·rw [hsum Ph.rh rfl,hs]
  ·rw [hq] at x;exact absurd x (Nat.lt_irrefl 0)
  ·rw [hq] at x;cases x
  ·rw [hsum Ph.dt rfl,hq,hs]
  ·rw [hsum Ph.phi rfl,hq];exact Nat.le_refl _
  ·by_cases e:i=0
   ·subst e;rw [s0,hs] at x;cases x
   ·rw [nY e] at x;cases x
  ·by_cases e:i=0
   ·subst e;rw [s0,hs];exact⟨Nat.zero_le _,.inl rfl⟩
   ·rw [nY e];exact⟨Nat.zero_le _,.inl rfl⟩
  ·rw [hsum Ph.lv rfl,s0,hs];exact Nat.le_refl _
  ·rw [s0,hs];exact Nat.zero_le _
  ·by_cases e:i=0
   ·subst e;rw [s0,hs];exact⟨Nat.zero_le _,fun x=>(by cases x),fun _=>rfl,fun x=>(by cases x),Nat.le_refl _,fun _=>⟨rfl,rfl,rfl,rfl,rfl,rfl⟩,fun x=>absurd x (Nat.lt_irrefl 0)⟩
   ·rw [nY e];exact⟨Nat.zero_le _,fun x=>(by cases x),fun x=>(by cases x),fun _=>rfl,Nat.le_refl _,fun x=>absurd x e,fun _ x=>(by cases x)⟩
  ·rw [s0,hs] at x;cases x
  ·rw [nY (by omega)]
 ·
  by_cases e:i=0
  ·rw [e,Aj];exact .inr (.inl hb)
  ·rw [Cf e];exact hlt b (.inl hb)
 ·
  by_cases e:i=0
  ·rw [e,Aj];exact hZk
  ·rw [Cf e];exact id
 ·
  by_cases e:i=0
  ·subst e;rw [s0,Aj];exact⟨fun _=>by rw [hs],fun _=>.inr (.inr rfl)⟩
  ·rw [Cf e,nY e];exact⟨fun _=>rfl,fun _=>hlt _ (.inr rfl)⟩
 ·
  rw [h0] at hg;cases hg;obtain⟨_,_,_,_,e⟩:=hgp;cases e
end
structure Su where
 ac:Nat
 w1:Nat
 w2:Nat
 nw:Nat
 hd:Nat
 dt:Nat
 aw:Nat
 rn:Nat
 qu:Nat
 tk:Nat
 rh:Nat
 ty:Nat
 phi:Nat
 lv:Nat
def su(n:Nat)(sg:Nat→Ph):Su:=⟨al n sg Ph.ac,al n sg Ph.w1,al n sg Ph.w2,al n sg Ph.nw,al n sg Ph.hd,al n sg Ph.dt,al n sg Ph.aw,al n sg Ph.rn,al n sg Ph.qu,al n sg Ph.tk,al n sg Ph.rh,al n sg Ph.ty,al n sg Ph.phi,al n sg Ph.lv⟩
structure Q9(a b:Su)(s s':Ph):Prop where
 ac:b.ac+s.ac=a.ac+s'.ac
 w1:b.w1+s.w1=a.w1+s'.w1
 w2:b.w2+s.w2=a.w2+s'.w2
 nw:b.nw+s.nw=a.nw+s'.nw
 hd:b.hd+s.hd=a.hd+s'.hd
 dt:b.dt+s.dt=a.dt+s'.dt
 aw:b.aw+s.aw=a.aw+s'.aw
 rn:b.rn+s.rn=a.rn+s'.rn
 qu:b.qu+s.qu=a.qu+s'.qu
 tk:b.tk+s.tk=a.tk+s'.tk
 rh:b.rh+s.rh=a.rh+s'.rh
 ty:b.ty+s.ty=a.ty+s'.ty
 phi:b.phi+s.phi=a.phi+s'.phi
 lv:b.lv+s.lv=a.lv+s'.lv
theorem Q9.of{n i:Nat}{sg:Nat→Ph}{s':Ph}(h:i < n):Q9 (su n sg) (su n (upd sg i s')) (sg i) s':=
 ⟨eI h,eI h,eI h,eI h,eI h,eI h,eI h,eI h,eI h,eI h,eI h,eI h,eI h,eI h⟩
structure Ar(q:c9)(a:Su)(z:Ph):Prop where
 c:q.c=a.ac+z.pd
 un:z.rg=false→q.wt=0∧q.sm=0∧a.w1=0∧a.w2=0
 re:z.rg=true→z.pd=0∧(0 < q.c→q.wt=1∧q.sm=0∧a.w1=0∧a.w2=0)∧(q.c=0→q.wt=a.w1∧a.w1+a.w2+q.sm=1)
 pd:z.pd≤1
 rgc:z.rg=true∨z.cd=true→q.cl=true
 op:z.op=true→q.cl=false
 nw:q.cl=false→a.nw=z.sp
 le:q.L≤1∧q.W≤1∧q.S≤1
 hd:q.L=a.hd
 s0:q.S=0→q.W=a.aw+a.rn+q.T+a.tk∧a.qu=q.N+q.T+a.rn∧a.rh=0∧(q.L=0→0 < q.N→q.W=0→0 < a.ty)
 s1:q.S=1→q.W=0∧a.aw=0∧a.rn=0∧q.L+a.rh+q.T+a.tk=1∧a.qu+a.tk=q.N∧1≤q.N
 h:q.h=a.dt
 f:a.phi+2 * q.T≤q.f
 lv:a.lv≤z.sp+1∧z.sp≤100
 cb:∀B,z.cb=some B→q.c≤B
theorem Bk.ar{p:Gp}{n:Nat}{sg:Nat→Ph}{q:c9}(h:Bk p n sg q):Ar q (su n sg) (sg 0):=⟨h.c,h.un,h.re,h.pd,h.rgc,h.op,h.nw,h.le,h.hd,h.s0,h.s1,h.h,h.f,h.lv,h.cb⟩
structure LX(a:Su)(s:Ph):Prop where
 ac:s.ac≤a.ac
 w1:s.w1≤a.w1
 w2:s.w2≤a.w2
 nw:s.nw≤a.nw
 hd:s.hd≤a.hd
 dt:s.dt≤a.dt
 aw:s.aw≤a.aw
 rn:s.rn≤a.rn
 qu:s.qu≤a.qu
 tk:s.tk≤a.tk
 rh:s.rh≤a.rh
 ty:s.ty≤a.ty
 phi:s.phi≤a.phi
 lv:s.lv≤a.lv
 dth:a.dt+s.hd≤a.hd+s.dt
theorem LX.of{p:Gp}{q:c9}{n i:Nat}{sg:Nat→Ph}(hb:Bk p n sg q)(h:i < n):LX (su n sg) (sg i):=⟨jY h,jY h,jY h,jY h,jY h,jY h,jY h,jY h,jY h,jY h,jY h,jY h,jY h,jY h,by
 have h1:=eI (sg:=sg) (f:=Ph.dt) (s:=Ph.quit) h
 have h2:=eI (sg:=sg) (f:=Ph.hd) (s:=Ph.quit) h
 have h3:al n (upd sg i .quit) Ph.dt≤al n (upd sg i .quit) Ph.hd:=ju fun j hj=>by
  by_cases ej:j=i
  ·
   subst ej;rw [bi];exact Nat.le_refl _
  ·
   rw [aX ej];exact(hb.ok j hj).dt
 have e1:Ph.quit.dt=0:=rfl
 have e2:Ph.quit.hd=0:=rfl
 show al n sg Ph.dt+_≤al n sg Ph.hd+_
 omega⟩
theorem lZ.get{p:Gp}{mn:Bool}{s:Ph}{q:c9}(h:lZ p mn s q):∃a z,Ar q a z∧LX a s∧(mn=true→z=s)∧(∀ow φ,s.se=some (ow,φ)→q.f≤φ∧(q.f=φ→q.word=ow))∧s.nb≤q.N∧(s.nb=0∨(q.S=1∧s.tk=1))∧q.N≤101∧q.T≤1∧q.c≤102∧q.wt≤1∧q.sm≤1:=by
 obtain⟨n,sg,i,hi,hm,rfl,hb⟩:=h;exact⟨su n sg,sg 0,hb.ar,LX.of hb hi,fun e=>by rw [hm.1 e],fun ow φ=>hb.se i ow φ hi,(hb.nb i hi).1,(hb.nb i hi).2,hb.small.1,hb.small.2,hb.cs.1,hb.cs.2.1,hb.cs.2.2⟩
theorem Sv.mk{p:Gp}{mn:Bool}{s s':Ph}{q q':c9}
 (hA:∀a b z,Ar q a z→LX a s→Q9 a b s s'→(mn=true→z=s)→(mn=false→s.ac+s.w1+s.w2=1)→(∀ow φ,s.se=some (ow,φ)→q.f≤φ∧(q.f=φ→q.word=ow))→s.nb≤q.N→(s.nb=0∨(q.S=1∧s.tk=1))→Ar q' b (if mn=true then s' else z))
 (hs:s.q=false) (hf:q'.f < q.f∨(q'.f=q.f∧q'.word=q.word))
 (hse:∀ow φ,s'.se=some (ow,φ)→q'.f≤φ∧(q'.f=φ→q'.word=ow)∨(s.se=some (ow,φ)))
 (hnb:∀x:Ph,x.nb≤q.N→(x.nb=0∨(q.S=1∧x.tk=1))→(q.S=1→x.tk+s.tk+q.L≤1)→x.nb≤q'.N∧(x.nb=0∨(q'.S=1∧x.tk=1)))
 (hnb':∀a z,Ar q a z→LX a s→s.nb≤q.N→s'.nb≤q'.N∧(s'.nb=0∨(q'.S=1∧s'.tk=1)))
 (hok:∀i,(mn=true↔i=0)→s.Ok i→s'.Ok i)
 (hal:mn=true→s'.al=true→s.al=true∨∀a,Ar q a s→a.ac=0∧a.w1=0∧a.w2=0):Sv p mn s q s' q':=by
 intro n sg i hi hm he hb
 subst he
 have hbk:∀j,j≠i→upd sg i s' j=sg j:=fun j hj=>aX hj
 have hfn:∀ow φ,(q.f≤φ∧(q.f=φ→q.word=ow))→q'.f≤φ∧(q'.f=φ→q'.word=ow):=fun ow φ ⟨h1,h2⟩=>by
  rcases hf with h3 |⟨h3,h4⟩
  ·exact⟨by omega,fun e=>by omega⟩
  ·exact⟨by omega,fun e=>by rw [h4];exact h2 (by omega)⟩
 have ha:=hA (su n sg) (su n (upd sg i s')) (sg 0) hb.ar (LX.of hb hi) (Q9.of hi) (fun e=>by rw [hm.1 e]) (fun e=>((hb.ok i hi).work (by
  have:i≠0:=fun e'=>by rw [hm.2 e'] at e;cases e
  omega) hs).1) (fun ow φ=>hb.se i ow φ hi) (hb.nb i hi).1 (hb.nb i hi).2
 have hz:upd sg i s' 0=if mn=true then s' else sg 0:=by
  cases hmn:mn with
  |true=>rw [if_pos rfl,←hm.1 hmn,bi]
  |false=>rw [if_neg (by simp),aX (fun e=>by rw [hm.2 e.symm] at hmn;cases hmn)]
 rw [←hz] at ha
 refine⟨ha.c,ha.un,ha.re,ha.pd,ha.rgc,ha.op,ha.nw,ha.le,ha.hd,ha.s0,ha.s1,ha.h,ha.f,fun j ow φ hj hx=>?_,fun j hj=>?_,ha.lv,fun j hj=>?_,hb.n0,ha.cb,fun hx j hj hjn=>?_⟩
 ·
  by_cases e:j=i
  ·subst e;rw [bi] at hx;rcases hse ow φ hx with h1 |h1
   ·exact h1
   ·exact hfn ow φ (hb.se j ow φ hj h1)
  ·rw [hbk j e] at hx;exact hfn ow φ (hb.se j ow φ hj hx)
 ·
  by_cases e:j=i
  ·subst e;rw [bi];exact hnb' _ _ hb.ar (LX.of hb hj) (hb.nb j hj).1
  ·rw [hbk j e];refine hnb _ (hb.nb j hj).1 (hb.nb j hj).2 fun hS=>?_;have h1:=IC (sg:=sg) (f:=Ph.tk) hj hi e;have h2:=hb.s1 hS;omega
 ·
  by_cases e:j=i
  ·subst e;rw [bi];exact hok j hm (hb.ok j hj)
  ·rw [hbk j e];exact hb.ok j hj
 ·
  by_cases e:i=0
  ·have hmn:=hm.2 e;subst e;rw [bi] at hx;rw [hbk j (by omega)];rcases hal hmn hx with h1 |h1
   ·exact hb.gone h1 j hj hjn
   ·obtain⟨h2,h3,h4⟩:=h1 _ hb.ar;have h5:=yl (sg:=sg) (f:=Ph.ac) h2 hjn;have h6:=yl (sg:=sg) (f:=Ph.w1) h3 hjn;have h7:=yl (sg:=sg) (f:=Ph.w2) h4 hjn;cases hq:(sg j).q with
    |true=>rfl
    |false=>have:=((hb.ok j hjn).work hj hq).1;omega
  ·rw [hbk 0 (fun e'=>e e'.symm)] at hx;have:=hb.gone hx i (by omega) hi;rw [hs] at this;cases this
theorem kV{P:Program}{fn:FuncId}:seen P fn #[]= #[]:=by simp [seen]
theorem uR{b:Frame}:(if b.kind == .early then(#[]:Array Event) else #[])= #[]:=by split <;> rfl
def Mv(P:Program)(Wl:World→Prop)(main:Bool)(T:Tq):Prop:=∀v fr fr' cs cs',(∀w:World,Wl w→stepG P main (Gr fr cs) w= .go (Gr fr' cs') w #[])→T v fr' cs'→T v fr cs
abbrev Gv:=List (Nat×Value)
def lv:Gv→Nat→Option Value
 |[],_=>none
 |(s,x)::l,k=>if s=k then some x else lv l k
def ev(Γ:Gv):Operand→Option Value
 | .tmp s=>lv Γ s
 | .const x=>some x
 | .func f=>some (.func (.func f) #[] #[])
 |_=>none
structure QS(N:Nat)(df:List Deferred)(Γ:Gv)(a:Act):Prop where
 size:a.tmps.size=N
 defers:a.defers=df
 val:∀s x,lv Γ s=some x→a.tmps.getD s undef=x
theorem QS.ev{N:Nat}{df:List Deferred}{Γ:Gv}{a:Act}(h:QS N df Γ a){x:Operand}{u:Value}(e:ev Γ x=some u):a.eval x=u:=by
 cases x with
 |tmp s=>exact h.val s u e
 |const x=>cases e;rfl
 |func f=>cases e;rfl
 |global g=>cases e
theorem QS.put{N:Nat}{df:List Deferred}{Γ:Gv}{a:Act}(h:QS N df Γ a){d:Nat}{x:Value}(hd:Nat.blt d N=true):QS N df ((d,x)::Γ) (a.put (some d) x):=by
 have hd:=Nat.blt_eq▸hd;refine⟨by simpa [Act.put] using h.size,by simpa [Act.put] using h.defers,fun s y hl=>?_⟩;rw [lu (by rw [h.size];exact hd)];simp only [lv] at hl;split at hl
 ·rename_i e;cases hl;rw [if_pos e]
 ·rename_i e;rw [if_neg e];exact h.val s y hl
def Qt(T:Tq)(v:VW)(b:Frame)(cs:List Frame)(N:Nat)(df:List Deferred)(its:List Item)(Γ:Gv):Prop:=∀a,QS N df Γ a→T v (b.at a its) cs
def Qr(T:Tq)(v:VW)(b:Frame)(cs:List Frame)(N:Nat)(df:List Deferred)(Γ:Gv):Prop:=∀a todo,QS N df Γ a→T v { b.at a todo with mode:=.returning } cs
def OV(P:Program)(Wl:World→Prop)(o:Oper)(Γ:Gv)(x:Value):Prop:=∀(N:Nat) (df:List Deferred) (a:Act),QS N df Γ a→∀w:World,Wl w→(execOp a.eval o).runT P w #[]=(.ok (.value x) w, #[])
section
variable {P:Program}{Wl:World→Prop}{main:Bool}{T:Tq}{v:VW}{b:Frame}{cs:List Frame}{N:Nat}{df:List Deferred}{Γ:Gv}{k:List Item}{x y:Code}
theorem Qt.seq(hT:Mv P Wl main T)(h:Qt T v b cs N df (.code x:: .code y::k) Γ):Qt T v b cs N df (.code (.seq x y)::k) Γ:=fun a ha=>hT _ _ _ _ _ (fun _ _=>stepG_seq) (h a ha)
theorem Qt.skip(hT:Mv P Wl main T)(h:Qt T v b cs N df k Γ):Qt T v b cs N df (.code .skip::k) Γ:=fun a ha=>hT _ _ _ _ _ (fun _ _=>stepG_skip) (h a ha)
theorem Qt.cond(hT:Mv P Wl main T){c:Operand}(t:Bool)(h:Qt T v b cs N df (.code (if t then x else y)::k) Γ)(hc:ev Γ c=some (.bool t):=by exact rfl):Qt T v b cs N df (.code (.cond c x y)::k) Γ:=fun a ha=>hT _ _ _ _ _ (fun _ _=>stepG_cond (ha.ev hc)) (h a ha)
theorem Qt.block(hT:Mv P Wl main T){id:Nat}(h:Qt T v b cs N df (.code x:: .inBlock id::k) Γ):Qt T v b cs N df (.code (.block id x)::k) Γ:=fun a ha=>hT _ _ _ _ _ (fun _ _=>stepG_block) (h a ha)
theorem Qt.inBlock(hT:Mv P Wl main T){id:Nat}(h:Qt T v b cs N df k Γ):Qt T v b cs N df (.inBlock id::k) Γ:=fun a ha=>hT _ _ _ _ _ (fun _ _=>stepG_inBlock) (h a ha)
theorem Qt.loop(hT:Mv P Wl main T)(h:Qt T v b cs N df (.code x:: .inLoop x::k) Γ):Qt T v b cs N df (.code (.loop x)::k) Γ:=fun a ha=>hT _ _ _ _ _ (fun _ _=>stepG_loop) (h a ha)
theorem Qt.inLoop(hT:Mv P Wl main T)(h:Qt T v b cs N df (.code x:: .inLoop x::k) Γ):Qt T v b cs N df (.inLoop x::k) Γ:=fun a ha=>hT _ _ _ _ _ (fun _ _=>stepG_inLoop) (h a ha)
theorem Qt.exit(hT:Mv P Wl main T){id:Nat}{k':List Item}(he:exitTo id k=some k')(h:Qt T v b cs N df k' Γ):Qt T v b cs N df (.code (.exit id)::k) Γ:=fun a ha=>hT _ _ _ _ _ (fun _ _=>stepG_exit he) (h a ha)
theorem Qt.region(hT:Mv P Wl main T){id:Nat}{ops:Array Oper}(h:Qt T v b cs N df (.inRegion ops (List.range ops.size)::k) Γ):Qt T v b cs N df (.code (.region id ops false)::k) Γ:=fun a ha=>hT _ _ _ _ _ (fun _ _=>stepG_region) (h a ha)
theorem lY(hT:Mv P Wl main T){ops:Array Oper}(h:Qt T v b cs N df k Γ):Qt T v b cs N df (.inRegion ops []::k) Γ:=fun a ha=>hT _ _ _ _ _ (fun _ _=>stepG_region_end) (h a ha)
theorem Qt.ret(hT:Mv P Wl main T)(h:Qr T v b cs N df Γ):Qt T v b cs N df (.code .ret::k) Γ:=fun a ha=>hT _ _ _ _ _ (fun _ _=>stepG_ret') (h a _ ha)
theorem Qt.fin(hT:Mv P Wl main T)(h:Qr T v b cs N df Γ):Qt T v b cs N df [] Γ:=fun a ha=>hT _ _ _ _ _ (fun _ _=>stepG_end) (h a _ ha)
theorem H9{ops:Array Oper}{i:Nat}{rest:List Nat}{o:Oper}{a:Act}{u:Value}{w:World}(ho:ops[i]? =some o)(hw:Region.wanted o (yielded ops a.tmps)=true)(hk:b.kind≠.early)(hr:(execOp a.eval o).runT P w #[]=(.ok (.value u) w, #[])):
 stepG P main (G (b.at a (.inRegion ops (i::rest)::k)) cs) w= .go (G (b.at (a.put o.dst u) (.inRegion ops rest::k)) cs) w #[]:=by
 have h1:(execOp a.eval o).run P w= .ok (.value u) w:=by rw [←Sem.runT_fst P _ _ #[],hr]
 have h2:(execOp a.eval o).events P w #[]= #[]:=by unfold Sem.events;rw [hr]
 rw [stepG_value ho hw hk h1]
 unfold listed
 rw [h2,kV]
theorem BK{a:Act}{s:Nat}{x:Value}(h:a.tmps.getD s undef=x)(hx:x≠undef):a.tmps[s]? =some x:=by
 rw [Array.getD_eq_getD_getElem?] at h;cases he:a.tmps[s]? with
 |none=>rw [he] at h;exact absurd h.symm hx
 |some y=>rw [he] at h;exact congrArg some h
theorem Qt.op(hT:Mv P Wl main T){ops:Array Oper}{i d:Nat}{rest:List Nat}{o:Oper}{u:Value}(ho:ops[i]? =some o)(hop:OV P Wl o Γ u)(h:Qt T v b cs N df (.inRegion ops rest::k) ((d,u)::Γ))(hg:o.guard=none:=by exact rfl)(hd:o.dst=some d:=by exact rfl)(hN:Nat.blt d N=true:=by exact rfl)(hk:b.kind≠.early:=by exact fun h=>nomatch h):
 Qt T v b cs N df (.inRegion ops (i::rest)::k) Γ:=fun a ha=>
 hT _ _ _ _ _ (fun w hl=>H9 ho (ab hg _) hk (hop N df a ha w hl)) (by rw [hd];exact h _ (ha.put hN))
theorem bX(hT:Mv P Wl main T){ops:Array Oper}{i d j s:Nat}{g:Bool}{rest:List Nat}{o oj:Oper}{u:Value}(ho:ops[i]? =some o)(hop:OV P Wl o Γ u)(h:Qt T v b cs N df (.inRegion ops rest::k) ((d,u)::Γ))(hg:o.guard=some (j,g):=by exact rfl)(hj:ops[j]? =some oj:=by exact rfl)(hs:oj.dst=some s:=by exact rfl)(hl:lv Γ s=some (.bool g):=by exact rfl)(hd:o.dst=some d:=by exact rfl)(hN:Nat.blt d N=true:=by exact rfl)(hk:b.kind≠.early:=by exact fun h=>nomatch h):
 Qt T v b cs N df (.inRegion ops (i::rest)::k) Γ:=fun a ha=>by
 have hw:Region.wanted o (yielded ops a.tmps)=true:=by
  unfold Region.wanted yielded;rw [hg];simp [hj,hs,BK (ha.val s _ hl) (by simp [undef])]
 exact hT _ _ _ _ _ (fun w hl'=>H9 ho hw hk (hop N df a ha w hl')) (by rw [hd];exact h _ (ha.put hN))
theorem bG(hT:Mv P Wl main T){ops:Array Oper}{i d j s:Nat}{g c:Bool}{rest:List Nat}{o oj:Oper}(ho:ops[i]? =some o)(h:Qt T v b cs N df (.inRegion ops rest::k) ((d,undef)::Γ))(hg:o.guard=some (j,g):=by exact rfl)(hj:ops[j]? =some oj:=by exact rfl)(hs:oj.dst=some s:=by exact rfl)(hl:lv Γ s=some (.bool c):=by exact rfl)(hc:(c == g)=false:=by exact rfl)(hd:o.dst=some d:=by exact rfl)(hN:Nat.blt d N=true:=by exact rfl):
 Qt T v b cs N df (.inRegion ops (i::rest)::k) Γ:=fun a ha=>by
 have hw:Region.wanted o (yielded ops a.tmps)=false:=by
  unfold Region.wanted yielded;rw [hg];have:=BK (ha.val s _ hl) (by simp [undef]);cases c <;> cases g <;> simp [hj,hs,this] at hc⊢
 refine hT _ _ _ _ _ (fun w _=>stepG_unwanted ho hw) ?_
 rw [hd];exact h _ (ha.put hN)
theorem OV.of{o:Oper}{u:Value}(_:nd o.op=true)(h:∀(N:Nat) (df:List Deferred) (a:Act),QS N df Γ a→∀w:World,Wl w→(execOp a.eval o).runT P w #[]=(.ok (.value u) w, #[])):OV P Wl o Γ u:=h
variable {o:Oper}{p q r:Operand}{TT T':TypeId}{u u':Value}
theorem dy(ho:o.op= .move p)(e:ev Γ p=some u):OV P Wl o Γ u:=.of (by simp [nd,ho]) fun N df a ha w hl=>by simp [execOp,ho,ha.ev e]
theorem t5(ho:o.op= .assign p)(e:ev Γ p=some u):OV P Wl o Γ u:=.of (by simp [nd,ho]) fun N df a ha w hl=>by simp [execOp,ho,ha.ev e]
theorem dF(ho:o.op= .pick p q r)(t:Bool)(e:ev Γ p=some (.bool t))(e':ev Γ (if t then q else r)=some u):OV P Wl o Γ u:=.of (by simp [nd,ho]) fun N df a ha w hl=>by
 have h1:=ha.ev e
 cases t
 ·
  have h2:a.eval r=u:=ha.ev (by simpa using e')
  simp [execOp,ho,h1,asBool,h2]
 ·
  have h2:a.eval q=u:=ha.ev (by simpa using e')
  simp [execOp,ho,h1,asBool,h2]
def iy(b:BinOp)(k:IntKind)(n m:Int):Option Value:=match b with
 | .add=>some (.int k (k.wrap (n+m)))
 | .sub=>some (.int k (k.wrap (n - m)))
 | .lss=>some (.bool (decide (n < m)))
 | .leq=>some (.bool (decide (n≤m)))
 | .gtr=>some (.bool (decide (m < n)))
 | .eql=>some (.bool (decide (n=m)))
 | .neq=>some (.bool (!decide (n=m)))
 | .and=>some (.int k (qm k n m))
 | .or=>some (.int k (Dl k n m))
 | .andNot=>some (.int k (H5 k n m))
 |_=>none
theorem aV{b:BinOp}{k:IntKind}{n m:Int}(ho:o.op= .binOp b TT p q T')(e1:ev Γ p=some (.int k n))(e2:ev Γ q=some (.int k m))(hr:iy b k n m=some u):OV P Wl o Γ u:=.of (by simp [nd,ho]) fun N df a ha w hl=>by
 have h1:=ha.ev e1
 have h2:=ha.ev e2
 have hne:(n != m)= !decide (n=m):=by by_cases h:n=m <;> simp [h]
 have heq:(n == m)=decide (n=m):=by by_cases h:n=m <;> simp [h]
 cases b <;> simp only [iy,Option.some.injEq,reduceCtorEq] at hr <;> subst hr <;> simp [execOp,ho,h1,h2,eqGuard,binOp,Op.intArith,Op.intCmp,Op.intBits,qm,Dl,H5,hne,heq]
theorem PK{k k':IntKind}{n m:Int}(ho:o.op= .binOp .shl TT p q T')(e1:ev Γ p=some (.int k n))(e2:ev Γ q=some (.int k' m))(h:0≤m):OV P Wl o Γ (.int k (oz k n m)):=.of (by simp [nd,ho]) fun N df a ha w hl=>by
 simp [execOp,ho,ha.ev e1,ha.ev e2,eqGuard,binOp,Op.shift,oz,show¬m < 0 by omega]
theorem PI{k k':IntKind}{n m:Int}(ho:o.op= .binOp .shr TT p q T')(e1:ev Γ p=some (.int k n))(e2:ev Γ q=some (.int k' m))(h:0≤m):OV P Wl o Γ (.int k (gf k n m)):=.of (by simp [nd,ho]) fun N df a ha w hl=>by
 simp [execOp,ho,ha.ev e1,ha.ev e2,eqGuard,binOp,Op.shift,gf,show¬m < 0 by omega]
theorem MJ{t:Bool}(ho:o.op= .unOp .not TT p)(e:ev Γ p=some (.bool t)):OV P Wl o Γ (.bool !t):=.of (by simp [nd,ho]) fun N df a ha w hl=>by
 simp [execOp,ho,ha.ev e,Op.unary]
theorem Nx{k k':IntKind}{n:Int}(ho:o.op= .convert TT T' p)(hT:P.underlying TT=some (.int k))(hT':P.underlying T'=some (.int k'))(e:ev Γ p=some (.int k n)):OV P Wl o Γ (.int k' (k'.wrap n)):=.of (by simp [nd,ho]) fun N df a ha w hl=>by
 simp [execOp,ho,ha.ev e,convert,run_underlying hT,run_underlying hT',Conv.intToInt]
theorem jI{ad:Addr}(ho:o.op= .convert TT T' p)(hc:∀w,Wl w→(convert TT T' (.pointer (some ad))).runT P w #[]=(.ok (.pointer (some ad)) w, #[]))(e:ev Γ p=some (.pointer (some ad))):OV P Wl o Γ (.pointer (some ad)):=.of (by simp [nd,ho]) fun N df a ha w hl=>by
 have h1:Sem.run P (convert TT T' (.pointer (some ad))) w= .ok (.pointer (some ad)) w:=by rw [←Sem.runT_fst P _ _ #[],hc w hl]
 have h2:Sem.events P (convert TT T' (.pointer (some ad))) w #[]= #[]:=by unfold Sem.events;rw [hc w hl]
 simp [execOp,ho,ha.ev e,h1,h2]
theorem fR{ad:Addr}(ho:o.op= .nilCheck p)(e:ev Γ p=some (.pointer (some ad))):OV P Wl o Γ (.pointer (some ad)):=.of (by simp [nd,ho]) fun N df a ha w hl=>by
 simp [execOp,ho,ha.ev e]
theorem bq{b off f k:Nat}(ho:o.op= .fieldAddr TT p f)(hf:∀w:World,(Instr.fieldAt TT (.pointer (some ⟨b,off,none⟩)) f).runT P w #[]=(.ok (.pointer (some ⟨b,off+k,none⟩)) w, #[]))(e:ev Γ p=some (.pointer (some ⟨b,off,none⟩))):OV P Wl o Γ (.pointer (some ⟨b,off+k,none⟩)):=.of (by simp [nd,ho]) fun N df a ha w hl=>by
 have h1:Sem.run P (Instr.fieldAt TT (.pointer (some ⟨b,off,none⟩)) f) w= .ok (.pointer (some ⟨b,off+k,none⟩)) w:=by rw [←Sem.runT_fst P _ _ #[],hf]
 have h2:Sem.events P (Instr.fieldAt TT (.pointer (some ⟨b,off,none⟩)) f) w #[]= #[]:=by unfold Sem.events;rw [hf]
 simp [execOp,ho,ha.ev e,h1,h2]
end
def Wd(P:Program)(Wl:World→Prop)(main:Bool)(es:Array Event)(T T':Tq):Prop:=∀v fr fr' cs cs',(∀w:World,Wl w→stepG P main (Gr fr cs) w= .go (Gr fr' cs') w es)→T' v fr' cs'→T v fr cs
def ent:Nat→List Value→Gv
 |_,[]=>[]
 |i,x::l=>(i,x)::ent (i+1) l
theorem Oy{cL:List Value}{s:Nat}{x:Value}:∀{i:Nat},lv (ent i cL) s=some x→i≤s∧cL[s - i]? =some x:=by
 induction cL with
 |nil=>intro i h;cases h
 |cons y l ih=>
  intro i h;simp only [ent,lv] at h;split at h
  ·rename_i e;subst e;cases h;exact⟨Nat.le_refl _,by simp⟩
  ·rename_i e;obtain⟨h1,h2⟩:=ih h;refine⟨by omega,?_⟩;rw [show s - i=(s - (i+1))+1 by omega];simpa using h2
theorem QS.enter{cL:List Value}{N:Nat}(h:cL.length≤N):QS N [] (ent 0 cL) { tmps:=cL.toArray++Array.replicate (N - cL.toArray.size) undef,defers:=[] }:=by
 refine⟨by simp;omega,rfl,fun s x hl=>?_⟩;obtain⟨_,h2⟩:=Oy hl;have hlt:s < cL.length:=(List.getElem?_eq_some_iff.1 (by simpa using h2)).1;simp only [Array.getD_eq_getD_getElem?];rw [Array.getElem?_append_left (by simpa using hlt)];simp at h2⊢;rw [h2];rfl
section
variable {P:Program}{Wl:World→Prop}{main:Bool}{T T':Tq}{v:VW}{b:Frame}{cs:List Frame}{N:Nat}{df:List Deferred}{Γ:Gv}{k:List Item}{x y:Code}
variable {ops:Array Oper}{i d f:Nat}{rest:List Nat}{o:Oper}{fn:Func}{C:Code}{xs:Array Operand}{ts:Array TypeId}{cL:List Value}
theorem Dy{a:Act}(ha:QS N df Γ a):∀{xs:List Operand} {cL:List Value},xs.map (ev Γ)=cL.map some→xs.map a.eval=cL
 |[],[],_=>rfl
 |x::xs,[],h=>by cases h
 |[],_::_,h=>by cases h
 |x::xs,u::us,h=>by
  simp only [List.map_cons,List.cons.injEq] at h
  rw [List.map_cons,ha.ev h.1,Dy ha h.2]
theorem yj{a:Act}(ha:QS N df Γ a)(h:xs.toList.map (ev Γ)=cL.map some):xs.map a.eval=cL.toArray:=by
 have:=Dy ha h;apply Array.ext';simpa using this
theorem Qt.call(hT:Mv P Wl main T)(ho:ops[i]? =some o)(hop:o.op= .call { callee:=.value (.func f),args:=xs,argTypes:=ts })(hf:P.funcs[f]? =some fn)(hname:(fn.name == "runtime.NumGoroutine")=false)(hb:fn.body=some C)(hxs:xs.toList.map (ev Γ)=cL.map some)
 (h:∀c,(∀(T':Tq) v' u,Qt T' v' b cs N df (.inRegion ops rest::k) ((d,u)::Γ)→T' v' (c.finish u) cs)→Qt T v (base f) (c::cs) fn.ntmps [] [.code C] (ent 0 cL)) (hlen:Nat.ble cL.length fn.ntmps=true:=by exact rfl)
 (hg:o.guard=none:=by exact rfl) (hd:o.dst=some d:=by exact rfl) (hN:Nat.blt d N=true:=by exact rfl) (hk:b.kind≠.early:=by exact fun h=>nomatch h):Qt T v b cs N df (.inRegion ops (i::rest)::k) Γ:=fun a ha=>by
 have hm:=yj ha hxs
 have ef:a.eval (.func f)= .func (.func f) #[] #[]:=rfl
 have hn:¬fn.name= "runtime.NumGoroutine" :=by simpa using hname
 have hr:∀w,(execOp a.eval o).run P w= .ok (.enter f cL.toArray) w:=fun w=>by
  unfold execOp
  simp [hop,resolve,Deferred.ofValue,ef,invoke,callFunc,hf,hn,hb,hm]
 have he:∀w,listed P b.fn a o w= #[]:=fun w=>by
  unfold listed
  have:(execOp a.eval o).events P w #[]= #[]:=by
   unfold execOp;simp [hop,resolve,Deferred.ofValue,ef,invoke,callFunc,hf,hn,hb]
  rw [this,kV]
 refine hT _ _ _ _ _ (fun w _=>by have:=stepG_enter (main:=main) (b:=b) (k:=k) (cs:=cs) (rest:=rest) ho (ab hg _) hk (hr w);rw [he w] at this;exact this) ?_
 rw [Conc.enter_at _ hf hb]
 exact h _ (fun T' v' u hq=>by
  have hfin:(b.at a (.inRegion ops (i::rest)::k)).finish u=b.at (a.put o.dst u) (.inRegion ops rest::k):=by rw [Frame.finish_at,ho];rfl
  rw [hfin,hd];exact hq _ (ha.put hN)) _ (QS.enter (Nat.ble_eq▸hlen))
theorem gQ{c:Frame}{s:Nat}{u:Value}(hT:Mv P Wl main T)(hn:b.kind= .normal)(hf:P.funcs[b.fn]? =some fn)(hr:fn.results= #[.tmp s])(hl:lv Γ s=some u)(h:T v (c.finish u) cs):Qr T v b (c::cs) N [] Γ:=fun a todo ha=>by
 refine hT _ _ _ _ _ (fun w _=>stepG_leave hn ha.defers hf (results_tmp hr _ P w) (events_results_tmp hr _ _)) ?_
 rw [ha.val s u hl]
 exact h
theorem dj{c:Frame}(hT:Mv P Wl main T)(hn:b.kind= .normal)(hf:P.funcs[b.fn]? =some fn)(hr:fn.results= #[])(h:T v (c.finish (.tuple #[])) cs):Qr T v b (c::cs) N [] Γ:=fun a todo ha=>
 hT _ _ _ _ _ (fun w _=>stepG_leave hn ha.defers hf (results_none hr _ P w) (events_results_none hr _ _)) h
theorem xb{c:Frame}(hT:Mv P Wl main T)(hn:b.kind= .deferred)(hf:P.funcs[b.fn]? =some fn)(hr:fn.results= #[])(hc:c.mode= .returning)(h:T v c cs):Qr T v b (c::cs) N [] Γ:=fun a todo ha=>
 hT _ _ _ _ _ (fun w _=>stepG_leave_deferred hn ha.defers hf (results_none hr _ P w) (events_results_none hr _ _) hc) h
theorem Qt.defer(hT:Mv P Wl main T)(ho:ops[i]? =some o)(hop:o.op= .defer { callee:=.value (.func f),args:=xs,argTypes:=ts })(hxs:xs.toList.map (ev Γ)=cL.map some)(h:Qt T v b cs N (dcall f cL.toArray::df) (.inRegion ops rest::k) Γ)
 (hg:o.guard=none:=by exact rfl) (hd:o.dst=none:=by exact rfl) (hk:b.kind≠.early:=by exact fun h=>nomatch h):Qt T v b cs N df (.inRegion ops (i::rest)::k) Γ:=fun a ha=>by
 refine hT _ _ _ _ _ (fun w _=>stepG_defer ho (ab hg _) hk hop) ?_
 rw [hd,yj ha hxs]
 refine h _ ⟨ha.size,?_,ha.val⟩
 show _::a.defers=_
 rw [ha.defers]
theorem Qr.enter(hT:Mv P Wl main T)(hf:P.funcs[f]? =some fn)(hname:(fn.name == "runtime.NumGoroutine")=false)(hb:fn.body=some C)(hlen:Nat.ble cL.length fn.ntmps=true)
 (h:∀c,c.mode= .returning→(∀(T':Tq) v',Qr T' v' b cs N df Γ→T' v' c cs)→Qt T v (baseD f) (c::cs) fn.ntmps [] [.code C] (ent 0 cL)):Qr T v b cs N (dcall f cL.toArray::df) Γ:=fun a todo ha=>by
 refine hT _ _ _ _ _ (fun w _=>stepG_unwind_enter ha.defers hf hname hb) ?_
 exact h _ rfl (fun T' v' hq=>hq ⟨a.tmps,df⟩ todo ⟨ha.size,rfl,ha.val⟩) _ (QS.enter (Nat.ble_eq▸hlen))
theorem CC{es:Array Event}{u:Value}(hW:Wd P Wl main es T T')(ho:ops[i]? =some o)(hs:∀a,QS N df Γ a→∀w,Wl w→stepG P main (G (b.at a (.inRegion ops (i::rest)::k)) cs) w= .go (G (b.at (a.put o.dst u) (.inRegion ops rest::k)) cs) w es)
 (h:Qt T' v b cs N df (.inRegion ops rest::k) ((d,u)::Γ)) (hd:o.dst=some d:=by exact rfl) (hN:Nat.blt d N=true:=by exact rfl):Qt T v b cs N df (.inRegion ops (i::rest)::k) Γ:=fun a ha=>
 hW _ _ _ _ _ (hs a ha) (by rw [hd];exact h _ (ha.put hN))
structure xd(P:Program)(f:Nat)(m:Mark):Prop where
 ex:∃fn,P.funcs[f]? =some fn∧(fn.name == "runtime.NumGoroutine")=false∧fn.body.isNone=true∧Extern.findNext fn=none∧Extern.find fn=some (fun _=>do mark m;pure Extern.Race.none_)
 ne:∀g,m≠.extern g
structure rG(P:Program)(f:Nat)(mk:Addr→Mark):Prop where
 ex:∃fn,P.funcs[f]? =some fn∧(fn.name == "runtime.NumGoroutine")=false∧fn.body.isNone=true∧Extern.findNext fn=none∧Extern.find fn=some (Extern.Race.marked mk)
 ne:∀a g,mk a≠.extern g
structure IW(P:Program)(f:Nat)(u:Value):Prop where
 ex:∃fn,P.funcs[f]? =some fn∧(fn.name == "runtime.NumGoroutine")=false∧fn.body.isNone=true∧Extern.findNext fn=none∧Extern.find fn=some (fun _=>pure u)
theorem ik{m:Mark}(hW:Wd P Wl main #[iL m] T T')(hM:xd P f m)(ho:ops[i]? =some o)(hop:o.op= .call { callee:=.value (.func f),args:=xs,argTypes:=ts })(h:Qt T' v b cs N df (.inRegion ops rest::k) ((d,.tuple #[])::Γ))
 (hg:o.guard=none:=by exact rfl) (hd:o.dst=some d:=by exact rfl) (hN:Nat.blt d N=true:=by exact rfl) (hk:b.kind≠.early:=by exact fun h=>nomatch h):Qt T v b cs N df (.inRegion ops (i::rest)::k) Γ:=by
 obtain⟨⟨fn,h1,h2,h3,h4,h5⟩,h6⟩:=hM
 exact CC hW ho (fun a ha w _=>stepG_mark0 m h6 ho (ab hg _) hk hop h1 h2 h3 h4 h5) h hd hN
theorem oM{mk:Addr→Mark}{x:Operand}{ad:Addr}(hW:Wd P Wl main #[iL (mk ad)] T T')(hM:rG P f mk)(ho:ops[i]? =some o)(hop:o.op= .call { callee:=.value (.func f),args:= #[x],argTypes:=ts })(hx:ev Γ x=some (.pointer (some ad)))(h:Qt T' v b cs N df (.inRegion ops rest::k) ((d,.tuple #[])::Γ))
 (hg:o.guard=none:=by exact rfl) (hd:o.dst=some d:=by exact rfl) (hN:Nat.blt d N=true:=by exact rfl) (hk:b.kind≠.early:=by exact fun h=>nomatch h):Qt T v b cs N df (.inRegion ops (i::rest)::k) Γ:=by
 obtain⟨⟨fn,h1,h2,h3,h4,h5⟩,h6⟩:=hM
 exact CC hW ho (fun a ha w _=>stepG_markAt mk h6 ho (ab hg _) hk hop h1 h2 h3 h4 h5 (by simp [ha.ev hx])) h hd hN
theorem vi{u:Value}(hT:Mv P Wl main T)(hM:IW P f u)(ho:ops[i]? =some o)(hop:o.op= .call { callee:=.value (.func f),args:=xs,argTypes:=ts })(h:Qt T v b cs N df (.inRegion ops rest::k) ((d,u)::Γ))
 (hg:o.guard=none:=by exact rfl) (hd:o.dst=some d:=by exact rfl) (hN:Nat.blt d N=true:=by exact rfl) (hk:b.kind≠.early:=by exact fun h=>nomatch h):Qt T v b cs N df (.inRegion ops (i::rest)::k) Γ:=by
 obtain⟨fn,h1,h2,h3,h4,h5⟩:=hM
 exact CC hT ho (fun a ha w _=>stepG_entry_pure u ho (ab hg _) hk hop h1 h2 h3 h4 h5) h hd hN
theorem Qr.mark{m:Mark}{us:Array Value}(hW:Wd P Wl main #[iL m] T T')(hM:xd P f m)(h:Qr T' v b cs N df Γ):Qr T v b cs N (dcall f us::df) Γ:=fun a todo ha=>by
 obtain⟨⟨fn,h1,h2,h3,h4,h5⟩,h6⟩:=hM
 refine hW _ _ _ _ _ (fun w _=>stepG_unwind_entry (v:=.tuple #[]) ha.defers h1 h2 h3 h4 h5 (by simp [Extern.Race.none_]) (by simp [iL]) (by
  intro x hx
  simp at hx
  subst hx
  exact⟨rfl,fun g h=>h6 g (Loc.mark.inj h)⟩)) ?_
 exact h ⟨a.tmps,df⟩ todo ⟨ha.size,rfl,ha.val⟩
theorem qa{G G':Prop}(k:G')(h:G'→G:=by
 intro k
 repeat (first
  |refine Qt.seq hT ?_ |refine Qt.region hT ?_ |refine lY hT ?_ |refine Qt.op hT rfl (dy rfl rfl) ?_ |refine Qt.op hT rfl (t5 rfl rfl) ?_ |refine Qt.skip hT ?_ |refine Qt.block hT ?_ |refine Qt.inBlock hT ?_)
 exact k):G:=h k
theorem qb{G G':Prop}(k:G')(h:G'→G:=by
 intro k
 repeat (first
  |refine Qt.seq hT ?_ |refine Qt.region hT ?_ |refine lY hT ?_ |refine Qt.op hT rfl (dy rfl rfl) ?_ |refine Qt.op hT rfl (t5 rfl rfl) ?_ |refine Qt.skip hT ?_ |refine Qt.block hT ?_ |refine Qt.inBlock hT ?_
  |refine bG hT rfl ?_ |refine bX hT rfl (dy rfl rfl) ?_ |refine Qt.op hT rfl (aV (u:=.bool true) rfl rfl rfl rfl) ?_ |refine Qt.op hT rfl (aV (u:=.bool false) rfl rfl rfl rfl) ?_ |refine bX hT rfl (aV (u:=.bool true) rfl rfl rfl rfl) ?_ |refine bX hT rfl (aV (u:=.bool false) rfl rfl rfl rfl) ?_
  |refine Qt.op hT rfl (dF rfl true rfl rfl) ?_ |refine Qt.op hT rfl (dF rfl false rfl rfl) ?_ |refine Qt.cond hT true ?_ |refine Qt.cond hT false ?_ |refine Qt.op hT rfl (fR rfl rfl) ?_)
 exact k):G:=h k
def TQ(P:Program)(d:Nat):Tq:=fun _ fr cs=>∃m,QuitsD P m d (Gr fr cs)
theorem vf{d:Nat}:Mv P (fun _=>True) false (TQ P d):=fun v fr fr' cs cs' hs ⟨m,hm⟩=>⟨m+1,.ctl rfl (fun w=>hs w trivial) hm⟩
theorem Q7{d:Nat}:Wd P (fun _=>True) false #[iL .enable] (TQ P (d+1)) (TQ P d):=fun v fr fr' cs cs' hs ⟨m,hm⟩=>⟨m+1,.said (iL .enable) rfl rfl (fun w=>hs w trivial) (by exact hm)⟩
end
end K
end Go.Proofs.YtlmopgkkijhllaaGreat
set_option linter.unusedVariables false
namespace Go.Proofs.YtlmopgkkijhllaaGreat
namespace K
open Go Go.Conc Go.Conc.Lib
section
variable {P:Program}{L:WgLink}(H:WgLib P L)
include H
theorem HS:xd P L.disable .disable:=⟨⟨_,H.f_disable,by kernel_rfl,by kernel_rfl,by kernel_rfl,by kernel_rfl⟩,fun g h=>by cases h⟩
theorem HQ:xd P L.enable .enable:=⟨⟨_,H.f_enable,by kernel_rfl,by kernel_rfl,by kernel_rfl,by kernel_rfl⟩,fun g h=>by cases h⟩
theorem P3:rG P L.relMerge .releaseMerge:=⟨⟨_,H.f_relMerge,by kernel_rfl,by kernel_rfl,by kernel_rfl,by kernel_rfl⟩,fun a g h=>by cases h⟩
theorem MU:rG P L.acquire .acquire:=⟨⟨_,H.f_acquire,by kernel_rfl,by kernel_rfl,by kernel_rfl,by kernel_rfl⟩,fun a g h=>by cases h⟩
theorem R7:rG P L.raceRead .read:=⟨⟨_,H.f_raceRead,by kernel_rfl,by kernel_rfl,by kernel_rfl,by kernel_rfl⟩,fun a g h=>by cases h⟩
theorem R2:rG P L.raceWrite .write:=⟨⟨_,H.f_raceWrite,by kernel_rfl,by kernel_rfl,by kernel_rfl,by kernel_rfl⟩,fun a g h=>by cases h⟩
theorem MS:IW P L.inBubble (.bool false):=⟨_,H.f_inBubble,by kernel_rfl,by kernel_rfl,by kernel_rfl,by kernel_rfl⟩
end
theorem cO{P:Program}{T f b off n k t:Nat}{fs:Array Field}(hU:P.underlying T=some (.struct fs))(hf:(fs[f]?).map (fun d=>(d.offset,d.type))=some (k,t))(hs:∀w,(sizeOf t).run P w= .ok (n+1) w)(w:World):(Instr.fieldAt T (.pointer (some ⟨b,off,none⟩)) f).runT P w #[]=(.ok (.pointer (some ⟨b,off+k,none⟩)) w, #[]):=by
 obtain⟨fld,hf',e⟩:=Option.map_eq_some_iff.1 hf;clear hf;simp only [Prod.mk.injEq] at e;obtain⟨rfl,rfl⟩:=e;have hf:=hf'
 have h1:(Instr.fieldAt T (.pointer (some ⟨b,off,none⟩)) f).run P w= .ok (.pointer (some ⟨b,off+fld.offset,none⟩)) w:=by
  simp [Instr.fieldAt,run_underlying hU,hf,Addr.add,Instr.sureAddr,fieldPlace,hs]
 have h2:(Instr.fieldAt T (.pointer (some ⟨b,off,none⟩)) f).events P w #[]= #[]:=by
  simp [Instr.fieldAt,run_underlying hU,hf,Instr.sureAddr,fieldPlace,hs]
 exact Prod.ext (by rw [Sem.runT_fst];exact h1) h2
theorem wi{P:Program}{T T' t0 n b off m:Nat}{cs:Array Value}{Tb:TypeId}(hT:P.underlying T=some (.pointer t0))(hT':P.underlying T'=some .unsafePointer)(hs:∀w,(sizeOf t0).run P w= .ok (n+1) w)(hc:cs.size=m)(ho:off < m)(w:World)(hq:w.heap[b]? =some (.cells cs Tb)):(convert T T' (.pointer (some ⟨b,off,none⟩))).runT P w #[]=(.ok (.pointer (some ⟨b,off,none⟩)) w, #[]):=by
 have h0:¬cs.size≤off:=by omega
 have hv:(viewAt b).run P w= .ok none w:=by simp [viewAt,World.shape?,hq]
 have hv':(viewAt b).events P w #[]= #[]:=by simp [viewAt,World.shape?,hq]
 have h1:(convert T T' (.pointer (some ⟨b,off,none⟩))).run P w= .ok (.pointer (some ⟨b,off,none⟩)) w:=by
  simp [convert,run_underlying hT,run_underlying hT',Conv.unsafePointer,Conv.seenAt,hv,cellsIn,World.shape?,hq,hs,h0]
 have h2:(convert T T' (.pointer (some ⟨b,off,none⟩))).events P w #[]= #[]:=by
  simp [convert,run_underlying hT,run_underlying hT',Conv.unsafePointer,Conv.seenAt,hv,hv',cellsIn,World.shape?,hq,hs,h0]
 exact Prod.ext (by rw [Sem.runT_fst];exact h1) h2
theorem mj{P:Program}{p:Gp}{T T' t0 n:Nat}{off:Nat}(hcr:p.cr=true)(hT:P.underlying T=some (.pointer t0))(hT':P.underlying T'=some .unsafePointer)(hs:∀w,(sizeOf t0).run P w= .ok (n+1) w)(ho:off < 2)(w:World)(hl:p.Kf w):(convert T T' (.pointer (some ⟨p.bw,off,none⟩))).runT P w #[]=(.ok (.pointer (some ⟨p.bw,off,none⟩)) w, #[]):=by
 obtain⟨x,y,hq⟩:=hl.wg hcr;exact wi hT hT' hs (m:=2) rfl ho w hq
theorem rN{P:Program}{p:Gp}{T T' t0 n:Nat}(hT:P.underlying T=some (.pointer t0))(hT':P.underlying T'=some .unsafePointer)(hs:∀w,(sizeOf t0).run P w= .ok (n+1) w)(w:World)(hl:p.Kf w):(convert T T' (.pointer (some p.muA))).runT P w #[]=(.ok (.pointer (some p.muA)) w, #[]):=by
 obtain⟨x,y,hq⟩:=hl.mu;exact wi hT hT' hs (m:=p.m0.size+3) (by simp) (by omega) w hq
theorem wn{c wt:Nat}(hc:c < 2147483648)(hw:wt≤1):gf .u64 ((c * 4294967296+wt:Nat):Int) 32=(c:Int):=by
 unfold gf;have e:(2:Int) ^ (min (32:Int).toNat IntKind.u64.bits)=4294967296:=by decide
 rw [e,Int.fdiv_eq_ediv_of_nonneg _ (by decide)];omega
theorem wo{c wt:Nat}(hc:c < 2147483648)(hw:wt≤1):qm .u64 ((c * 4294967296+wt:Nat):Int) 2147483648=0:=by
 have:=Go.ConcN.st_flag c wt hc hw;have e:((c * 4294967296+wt:Nat):Int)=(c:Int) * 4294967296+(wt:Int):=by omega
 rw [e];exact this
theorem wl{c wt:Nat}(hc:c < 2147483648)(hw:wt≤1):qm .u64 ((c * 4294967296+wt:Nat):Int) 2147483647=(wt:Int):=by
 have:=Go.ConcN.st_waiters c wt hc hw;have e:((c * 4294967296+wt:Nat):Int)=(c:Int) * 4294967296+(wt:Int):=by omega
 rw [e];exact this
theorem yN{c:Nat}(hc:c < 2147483648):IntKind.i32.wrap (c:Int)=(c:Int):=wrap_i32_small _ (by omega) (by omega)
end K
end Go.Proofs.YtlmopgkkijhllaaGreat
set_option linter.unusedVariables false
namespace Go.Proofs.YtlmopgkkijhllaaGreat
namespace K
open Go Go.Conc
@[reducible] def VW.ub(v:VW)(p:Gp):VW:=⟨v.toWorld,fun b=>v.A b∨b=p.bk,v.Z⟩
def VR(p:Gp)(v0 v:VW):Prop:=bh (v0.ub p) (v.ub p)∧(∀b,p.sh b→v.A b)∧p.bk < v.heap.size
theorem bh.ub{p:Gp}{v v1:VW}(h:bh v v1)(hk:p.bk < v.heap.size):bh (v.ub p) (v1.ub p) where
 keep b hb ha:=h.keep b hb fun x=>ha (.inl x)
 size:=h.size
 sub b hb:=hb.imp (h.sub b) id
 old b hb:=by
  rcases hb with hb |hb
  ·exact(h.old b hb).imp .inl id
  ·exact .inl (.inr hb)
 dom hd b hb:=by
  rcases hb with hb |hb
  ·exact h.dom (fun b hb=>hd b (.inl hb)) b hb
  ·subst hb;exact Nat.lt_of_lt_of_le hk h.size
 Z:=h.Z
 os:=h.os
 tape:=h.tape
 output:=h.output
theorem VR.refl{p:Gp}{v:VW}(h:∀b,p.sh b→v.A b)(hk:p.bk < v.heap.size):VR p v v:=⟨bh.refl _,h,hk⟩
theorem VR.trans{p:Gp}{v v1 v2:VW}(h:VR p v v1)(h':VR p v1 v2):VR p v v2:=⟨h.1.trans h'.1,h'.2⟩
theorem VR.rely{p:Gp}{v0 v v1:VW}(h:VR p v0 v)(hr:bh v v1):VR p v0 v1:=⟨h.1.trans (hr.ub h.2.2),fun b hb=>hr.sub b (h.2.1 b hb),Nat.lt_of_lt_of_le h.2.2 hr.size⟩
theorem VR.put{p:Gp}{v0 v:VW}{w':World}{q':c9}{dt:Nat}(hok:p.Ok)(h:VR p v0 v)(he:p.Eff v.toWorld w' q'):VR p v0 (v.put p dt w'):=by
 refine⟨h.1.trans ⟨fun b hb ha=>he.keep b fun x=>ha (.inl (h.2.1 b x)),Nat.le_of_eq he.size.symm,fun b hb=>?_,fun b hb=>?_,fun hd b hb=>?_,rfl,.of he.os,he.tape,he.output⟩,fun b hb=>?_,by rw [show(v.put p dt w').heap.size=w'.heap.size from rfl,he.size];exact h.2.2⟩
 ·by_cases e:b=p.bk
  ·exact .inr e
  ·rcases hb with hb |hb
   ·exact .inl (by show(if b=p.bk then _ else _);rw [if_neg e];exact hb)
   ·exact .inr hb
 ·by_cases e:b=p.bk
  ·exact .inl (.inr e)
  ·rcases hb with hb |hb
   ·exact .inl (.inl (by have hb:(if b=p.bk then dt=0 else v.A b):=hb;rwa [if_neg e] at hb))
   ·exact .inl (.inr hb)
 ·show b < w'.heap.size;rw [he.size];by_cases e:b=p.bk
  ·subst e;exact h.2.2
  ·rcases hb with hb |hb
   ·exact hd b (.inl (by have hb:(if b=p.bk then dt=0 else v.A b):=hb;rwa [if_neg e] at hb))
   ·exact absurd hb e
 ·show(if b=p.bk then dt=0 else v.A b);rw [if_neg]
  ·exact h.2.1 b hb
  ·rintro rfl;rcases hb with e |⟨hc,e |e⟩
   ·exact hok.mb e.symm
   ·exact(hok.wm hc).2.1 e.symm
   ·exact(hok.cm hc).2 e.symm
structure qB where
 df:Nat:=0
 hd:Nat:=0
 dt:Nat:=0
 aw:Nat:=0
 rn:Nat:=0
 qu:Nat:=0
 tk:Nat:=0
 rh:Nat:=0
 ty:Nat:=0
 phi:Nat:=0
 se:Option (Nat×Nat):=none
 nb:Nat:=0
@[reducible] def qB.mx(l:qB):Nat:=l.hd+l.aw+l.rn+l.qu+l.tk+l.rh+l.ty
@[reducible] def Ph.set(s:Ph)(l:qB):Ph:={ s with df:=l.df,hd:=l.hd,dt:=l.dt,aw:=l.aw,rn:=l.rn,qu:=l.qu,tk:=l.tk,rh:=l.rh,ty:=l.ty,phi:=l.phi,se:=l.se,nb:=l.nb }
structure Ph.Run(s:Ph):Prop where
 q:s.q=false
 nr:s.nr=true
 rg:s.rg=false
 jn:s.jn=true→s.al=true
structure Mb where
 hd:Nat
 dt:Nat
 aw:Nat
 rn:Nat
 qu:Nat
 tk:Nat
 rh:Nat
 ty:Nat
 phi:Nat
structure TM(q:c9)(hd dt aw rn qu tk rh ty phi:Nat):Prop where
 le:q.L≤1∧q.W≤1∧q.S≤1
 hd:q.L=hd
 s0:q.S=0→q.W=aw+rn+q.T+tk∧qu=q.N+q.T+rn∧rh=0∧(q.L=0→0 < q.N→q.W=0→0 < ty)
 s1:q.S=1→q.W=0∧aw=0∧rn=0∧q.L+rh+q.T+tk=1∧qu+tk=q.N∧1≤q.N
 h:q.h=dt
 f:phi+2 * q.T≤q.f
@[reducible] def TN(q:c9)(o:Mb)(l:qB):Prop:=TM q (o.hd+l.hd) (o.dt+l.dt) (o.aw+l.aw) (o.rn+l.rn) (o.qu+l.qu) (o.tk+l.tk) (o.rh+l.rh) (o.ty+l.ty) (o.phi+l.phi)
def Ug(n:Nat)(sg:Nat→Ph)(i:Nat):Mb:=⟨al n (upd sg i .quit) Ph.hd,al n (upd sg i .quit) Ph.dt,al n (upd sg i .quit) Ph.aw,al n (upd sg i .quit) Ph.rn,al n (upd sg i .quit) Ph.qu,al n (upd sg i .quit) Ph.tk,al n (upd sg i .quit) Ph.rh,al n (upd sg i .quit) Ph.ty,al n (upd sg i .quit) Ph.phi⟩
theorem lZ.mu{p:Gp}{mn:Bool}{s:Ph}{l:qB}{q:c9}(h:lZ p mn (s.set l) q):∃o:Mb,o.dt≤o.hd∧TN q o l∧(∀ow φ,l.se=some (ow,φ)→q.f≤φ∧(q.f=φ→q.word=ow))∧l.nb≤q.N∧(l.nb=0∨(q.S=1∧l.tk=1))∧q.N≤101∧q.T≤1:=by
 obtain⟨n,sg,i,hi,hm,e,hb⟩:=h
 have hz:∀f:Ph→Nat,f Ph.quit=0→al n (upd sg i .quit) f+f (s.set l)=al n sg f:=fun f hf=>by
  have:=eI (n:=n) (i:=i) (sg:=sg) (f:=f) (s:=.quit) hi;rw [e,hf] at this;omega
 have h1:=hz Ph.aw rfl;have h2:=hz Ph.rn rfl;have h3:=hz Ph.tk rfl;have h4:=hz Ph.qu rfl;have h5:=hz Ph.rh rfl;have h6:=hz Ph.ty rfl;have h7:=hz Ph.phi rfl;refine⟨Ug n sg i,?_,⟨hb.le,hb.hd.trans (hz Ph.hd rfl).symm,fun x=>?_,fun x=>?_,hb.h.trans (hz Ph.dt rfl).symm,?_⟩,fun ow φ hx=>hb.se i ow φ hi (by rw [e];exact hx),?_,?_,hb.small⟩
 ·exact ju fun j hj=>by
   by_cases ej:j=i
   ·subst ej;rw [bi];exact Nat.le_refl _
   ·rw [aX ej];exact(hb.ok j hj).dt
 ·have:=hb.s0 x;rw [←h1,←h2,←h3,←h4,←h5,←h6] at this;exact this
 ·have:=hb.s1 x;rw [←h1,←h2,←h3,←h4,←h5] at this;exact this
 ·have:=hb.f;rw [←h7] at this;exact this
 ·have:=(hb.nb i hi).1;rw [e] at this;exact this
 ·have:=(hb.nb i hi).2;rw [e] at this;exact this
theorem Sv.lk{p:Gp}{mn:Bool}{s:Ph}{l l':qB}{q q':c9}(hs:s.Run)
 (hsame:q'.c=q.c∧q'.wt=q.wt∧q'.sm=q.sm∧q'.cl=q.cl)
 (hA:∀o:Mb,o.dt≤o.hd→TN q o l→(∀ow φ,l.se=some (ow,φ)→q.f≤φ∧(q.f=φ→q.word=ow))→l.nb≤q.N→(l.nb=0∨(q.S=1∧l.tk=1))→TN q' o l')
 (hf:q'.f < q.f∨(q'.f=q.f∧q'.word=q.word))
 (hse:∀ow φ,l'.se=some (ow,φ)→q'.f≤φ∧(q'.f=φ→q'.word=ow)∨(l.se=some (ow,φ)))
 (hnb:∀x:Ph,x.nb≤q.N→(x.nb=0∨(q.S=1∧x.tk=1))→(q.S=1→x.tk+l.tk+q.L≤1)→x.nb≤q'.N∧(x.nb=0∨(q'.S=1∧x.tk=1)))
 (hnb':l.nb≤q.N→l'.nb≤q'.N∧(l'.nb=0∨(q'.S=1∧l'.tk=1)))
 (hmx:l'.mx≤1) (hdt:l'.dt≤l'.hd):Sv p mn (s.set l) q (s.set l') q':=by
 obtain⟨e1,e2,e3,e4⟩:=hsame
 have hz':∀{a:Su} {z:Ph},(mn=true→z=s.set l)→∀{α:Type} (g:Ph→α),g (s.set l')=g (s.set l)→g (if mn=true then s.set l' else z)=g z:=fun {a z} hm {α} g hg=>by
  by_cases e:mn=true
  ·rw [if_pos e,hg,hm e]
  ·rw [if_neg e]
 refine Sv.mk (fun a b z ha hp hsb hm hw h1 h2 h3=>?_) hs.q hf hse hnb (fun a z _ _=>hnb') (fun i hi ho=>⟨?_,fun e=>?_,ho.lv,fun e=>?_,hdt,ho.main,ho.work⟩) fun hmn hx=>.inl hx
 ·
  have g:∀{α:Type} (g:Ph→α),g (s.set l')=g (s.set l)→g (if mn=true then s.set l' else z)=g z:=fun {α} g hg=>hz' (a:=a) hm g hg;have q1:=hsb.ac;have q2:=hsb.w1;have q3:=hsb.w2;have q4:=hsb.nw;have q5:=hsb.hd;have q6:=hsb.dt;have q7:=hsb.aw;have q8:=hsb.rn;have q9:=hsb.qu;have q10:=hsb.tk;have q11:=hsb.rh;have q12:=hsb.ty;have q13:=hsb.phi;have q14:=hsb.lv;simp only [Ph.set] at q1 q2 q3 q4 q5 q6 q7 q8 q9 q10 q11 q12 q13 q14;have p1:=hp.hd;have p2:=hp.dt;have p3:=hp.aw;have p4:=hp.rn;have p5:=hp.qu;have p6:=hp.tk;have p7:=hp.rh;have p8:=hp.ty;have p9:=hp.phi;simp only [Ph.set] at p1 p2 p3 p4 p5 p6 p7 p8 p9;have pd:=hp.dth;simp only [Ph.set] at pd;have hmu:=hA ⟨a.hd - l.hd,a.dt - l.dt,a.aw - l.aw,a.rn - l.rn,a.qu - l.qu,a.tk - l.tk,a.rh - l.rh,a.ty - l.ty,a.phi - l.phi⟩ (by show a.dt - l.dt≤a.hd - l.hd;omega) ?_ h1 h2 h3
  ·obtain⟨k1,k2,k3,k4,k5,k6⟩:=hmu;simp only at k2 k3 k4 k5 k6;rw [show a.hd - l.hd+l'.hd=b.hd by omega] at k2;rw [show a.aw - l.aw+l'.aw=b.aw by omega,show a.rn - l.rn+l'.rn=b.rn by omega,show a.tk - l.tk+l'.tk=b.tk by omega,show a.qu - l.qu+l'.qu=b.qu by omega,show a.rh - l.rh+l'.rh=b.rh by omega] at k3 k4;rw [show a.ty - l.ty+l'.ty=b.ty by omega] at k3;rw [show a.dt - l.dt+l'.dt=b.dt by omega] at k5;rw [show a.phi - l.phi+l'.phi=b.phi by omega] at k6;have r1:b.ac=a.ac:=by omega
   have r2:b.w1=a.w1:=by omega
   have r3:b.w2=a.w2:=by omega
   have r4:b.nw=a.nw:=by omega
   have r5:b.lv=a.lv:=by omega
   refine⟨?_,?_,?_,?_,?_,?_,?_,k1,k2,k3,k4,k5,k6,?_,?_⟩
   ·rw [e1,r1,g Ph.pd rfl];exact ha.c
   ·rw [g Ph.rg rfl,e2,e3,r2,r3];exact ha.un
   ·rw [g Ph.rg rfl,g Ph.pd rfl,e1,e2,e3,r2,r3];exact ha.re
   ·rw [g Ph.pd rfl];exact ha.pd
   ·rw [g Ph.rg rfl,g Ph.cd rfl,e4];exact ha.rgc
   ·rw [g Ph.op rfl,e4];exact ha.op
   ·rw [g Ph.sp rfl,e4,r4];exact ha.nw
   ·rw [g Ph.sp rfl,r5];exact ha.lv
   ·rw [g Ph.cb rfl,e1];exact ha.cb
  ·refine⟨ha.le,?_,?_,?_,?_,?_⟩
   ·rw [ha.hd];show _=a.hd - l.hd+l.hd;omega
   ·simp only;rw [show a.aw - l.aw+l.aw=a.aw by omega,show a.rn - l.rn+l.rn=a.rn by omega,show a.tk - l.tk+l.tk=a.tk by omega,show a.qu - l.qu+l.qu=a.qu by omega,show a.rh - l.rh+l.rh=a.rh by omega,show a.ty - l.ty+l.ty=a.ty by omega];exact ha.s0
   ·simp only;rw [show a.aw - l.aw+l.aw=a.aw by omega,show a.rn - l.rn+l.rn=a.rn by omega,show a.tk - l.tk+l.tk=a.tk by omega,show a.qu - l.qu+l.qu=a.qu by omega,show a.rh - l.rh+l.rh=a.rh by omega];exact ha.s1
   ·rw [ha.h];show _=a.dt - l.dt+l.dt;omega
   ·have:=ha.f;show a.phi - l.phi+l.phi+_≤_;omega
 ·
  have:=ho.lv hs.q;show l'.mx≤(s.set l').lv;have e:(s.set l').lv=1:=this;rw [e];exact hmx
 ·
  have hrg:=hs.rg;have e:s.rg=true:=e;rw [hrg] at e;cases e
 ·
  have hq:=hs.q;have e:s.q=true:=e;rw [hq] at e;cases e
theorem mh.lk{p:Gp}{mn:Bool}{s:Ph}{l l':qB}{es:Array Event}(hs:s.Run)
 (sh:∀e∈es,(∃l wr,e=⟨l,wr,true⟩∧p.wc l)∨e=iL .disable∨e=iL .enable∨(∃a,e=iL (.acquire a))∨(∃a,e=iL (.releaseMerge a))∨(mn=true∧∃a,(e=iL (.read a)∨e=iL (.write a))∧p.wc (.cell a)))
 (hdf:deafBehind l.df es=l'.df) (hdeaf:∀j,j < es.size→∀e,es[j]? =some e→(MemAct.ofEvent e).touch? ≠none→0 < deafBehind l.df (es.extract 0 j))
 (hdt:l'.dt≤1) (ha:l'.dt≠l.dt→l'.dt=1→es= #[iL (.acquire p.muA)]∧l.df=0) (hr:l'.dt≠l.dt→l'.dt=0→es= #[iL (.releaseMerge p.muA)]∧l.df=0):mh p mn (s.set l) (s.set l') es where
 sh:=sh
 df:=by rw [if_neg (by rw [show(s.set l').q=s.q from rfl,hs.q];simp)];exact hdf
 deaf _:=hdeaf
 acq:=ha
 rel:=hr
 dt:=hdt
 nr _ e:=by have e:s.nr=false:=e;rw [hs.nr] at e;cases e
 nr' h:=h
 jn h:=⟨hs.jn h,.inl h⟩
 bw _ e:=by have e:s.nr=false:=e;rw [hs.nr] at e;cases e
def WV(v0:VW)(P:Program)(p:Gp)(T:Tq)(mn:Bool)(s:Ph):Tq:=fun v fr cs=>VR p v0 v→(v.A p.bk↔s.dt=0)→Ww P p T mn s v fr cs
theorem DI{p:Gp}{v v1:VW}{X:Prop}(hr:bh v v1)(hk:p.bk < v.heap.size)(h:v.A p.bk↔X):v1.A p.bk↔X:=⟨fun x=>h.1 ((hr.old _ x).elim id fun y=>by omega),fun x=>hr.sub _ (h.2 x)⟩
theorem G0{p:Gp}{v:VW}{dt:Nat}(h:v.A p.bk↔dt=0):v.put p dt v.toWorld=v:=by
 have:p.sA dt v.A=v.A:=by
  funext b;show(if b=p.bk then dt=0 else v.A b)=v.A b;by_cases e:b=p.bk
  ·subst e;rw [if_pos rfl];exact propext h.symm
  ·rw [if_neg e]
 show(⟨v.toWorld,p.sA dt v.A,v.Z⟩:VW)=v;rw [this]
theorem pR{p:Gp}{v:VW}{dt:Nat}{w:World}:(v.put p dt w).A p.bk↔dt=0:=by
 show(if p.bk=p.bk then dt=0 else v.A p.bk)↔_;rw [if_pos rfl]
section
variable {P:Program}{p:Gp}{T:Tq}{mn:Bool}{s s':Ph}{v0 v:VW}{b:Frame}{cs:List Frame}{N d i:Nat}{df:List Deferred}{Γ:Gv}{ops:Array Oper}{rest:List Nat}{k:List Item}
theorem bf(hq:s.q=false):Mv P p.Kf mn (WV v0 P p T mn s):=fun v fr fr' cs cs' h1 h hv ha=>Ww.move hq (fun w hl=>h1 w hl) (h hv ha)
theorem po{fr:Frame}(hq:s.q=false)(h:∀v1 q,bh v v1→p.At v1 q→lZ p mn s q→FM P p (fun _ _ _ _=>Ww P p T) mn s fr cs v1 q):Ww P p T mn s v fr cs:=
 .of ⟨hq,.inr (.inl h)⟩
theorem pI(hok:p.Ok)(hq:s.q=false){u:c9→Value}{W:World→c9→World}{Q:c9→c9}{S:c9→Ph}{es:c9→Array Event}(hS:∀q,(S q).q=false)
 (step:∀a,QS N df Γ a→∀w q,p.At w q→lZ p mn s q→stepG P mn (G (b.at a (.inRegion ops (i::rest)::k)) cs) w= .go (G (b.at (a.put (some d) (u q)) (.inRegion ops rest::k)) cs) (W w q) (es q))
 (eff:∀w q,p.At w q→lZ p mn s q→p.Eff w (W w q) (Q q)) (sv:∀q,lZ p mn s q→Sv p mn s q (S q) (Q q)) (ev:∀q,lZ p mn s q→mh p mn s (S q) (es q))
 (wk:∀a q,QS N df Γ a→lZ p mn s q→(q.T < (Q q).T∨q.sm < (Q q).sm∨q.cl≠(Q q).cl)→mayWake P (G (b.at a (.inRegion ops (i::rest)::k)) cs)=true) (hcl:∀q,lZ p mn s q→q.cl=true→(Q q).cl=true)
 (h:∀v' q,lZ p mn s q→Qt (WV v0 P p T mn (S q)) v' b cs N df (.inRegion ops rest::k) ((d,u q)::Γ)) (hN:Nat.blt d N=true:=by exact rfl):
 Qt (WV v0 P p T mn s) v b cs N df (.inRegion ops (i::rest)::k) Γ:=fun a ha hv _=>
 po hq fun v1 q hr hat hp=>⟨S q,Q q,_,_,W v1.toWorld q,es q,step a ha _ q hat hp,eff _ q hat hp,sv q hp,ev q hp,wk a q ha hp,hcl q hp,fun _=>⟨q,undef,true,h _ q hp _ (ha.put hN) ((hv.rely hr).put hok (eff _ q hat hp)) pR⟩,fun e=>by rw [hS q] at e;cases e⟩
theorem tj{es:Array Event}(hok:p.Ok)(hq:s.q=false)(hq':s'.q=false)(hdt:s'.dt=s.dt)(sv:∀q,lZ p mn s q→Sv p mn s q s' q)(ev:mh p mn s s' es):Wd P p.Kf mn es (WV v0 P p T mn s) (WV v0 P p T mn s'):=fun v fr fr' cs cs' h1 h hv ha=>
 po hq fun v1 q hr hat hp=>⟨s',q,fr',cs',v1.toWorld,es,h1 _ hat.kf,.refl hat,sv q hp,ev,fun e=>by rcases e with e |e |e <;> first |exact absurd e (Nat.lt_irrefl _) |exact absurd rfl e,id,fun _=>⟨q,undef,true,by
  rw [G0 (by rw [hdt];exact DI hr hv.2.2 ha)]
  exact(h hv (by rw [hdt];exact ha)).rely hr⟩,fun e=>by rw [hq'] at e;cases e⟩
end
end K
end Go.Proofs.YtlmopgkkijhllaaGreat
set_option linter.unusedVariables false
namespace Go.Proofs.YtlmopgkkijhllaaGreat
namespace K
open Go Go.Conc
section
variable {p:Gp}{w:World}{q:c9}
theorem Gp.At.m0(h:p.At w q):w.cell? p.muA=some (.int .i32 (q.word:Int)):=by simp [World.cell?,Gp.muA,h.mu]
theorem Gp.At.m1(h:p.At w q):w.cell? p.msA=some (.int .u32 (q.T:Int)):=by simp [World.cell?,Gp.msA,h.mu,Array.getElem?_append]
theorem Gp.At.g0(h:p.At w q):w.frozen? p.muA=false:=by simp [World.frozen?,Gp.muA,h.mu]
theorem Gp.At.g1(h:p.At w q):w.frozen? p.msA=false:=by simp [World.frozen?,Gp.msA,h.mu]
theorem Gp.At.c0(h:p.At w q)(hc:p.cr=true):w.cell? p.stA=some (.int .u64 ((q.c * 4294967296+q.wt:Nat):Int)):=by simp [World.cell?,Gp.stA,h.wg hc]
theorem Gp.At.c1(h:p.At w q)(hc:p.cr=true):w.cell? p.smA=some (.int .u32 (q.sm:Int)):=by simp [World.cell?,Gp.smA,h.wg hc]
theorem Gp.At.f0(h:p.At w q)(hc:p.cr=true):w.frozen? p.stA=false:=by simp [World.frozen?,Gp.stA,h.wg hc]
theorem Gp.At.f1(h:p.At w q)(hc:p.cr=true):w.frozen? p.smA=false:=by simp [World.frozen?,Gp.smA,h.wg hc]
theorem JX{b k:Nat}{cs:Array Value}{T:TypeId}{x:Value}(h:w.heap[b]? =some (.cells cs T)):w.setCell ⟨b,k,none⟩ x={ w with heap:=w.heap.setIfInBounds b (.cells (cs.setIfInBounds k x) T) }:=by
 simp only [World.setCell];congr 1;apply Array.ext_getElem?;intro i;rw [Array.getElem?_modify,Array.getElem?_setIfInBounds];by_cases e:b=i
 ·subst e;have hlt:=(Array.getElem?_eq_some_iff.1 h).1;have h':w.heap[b]= .cells cs T:=by have:=(Array.getElem?_eq_getElem hlt).symm.trans h;exact Option.some.inj this
  simp [hlt,h']
 ·simp [e]
theorem JY{m:Array Value}{x y z u:Value}:(m++ #[x,y,z]).setIfInBounds m.size u=m++ #[u,y,z]:=by
 apply Array.ext_getElem?;intro i;rw [Array.getElem?_setIfInBounds,Array.getElem?_append,Array.getElem?_append];by_cases e:m.size=i
 ·subst e;simp
 ·rw [if_neg e];split
  ·rfl
  ·rename_i hh;obtain⟨j,rfl⟩:∃j,i=m.size+(j+1):=⟨i - m.size - 1,by omega⟩;have:m.size+(j+1) - m.size=j+1:=by omega
   rw [this];rcases j with _ |_ |j <;> simp
theorem GM{m:Array Value}{x y z u:Value}:(m++ #[x,y,z]).setIfInBounds (m.size+1) u=m++ #[x,u,z]:=by
 apply Array.ext_getElem?;intro i;rw [Array.getElem?_setIfInBounds,Array.getElem?_append,Array.getElem?_append];by_cases e:m.size+1=i
 ·subst e;simp
 ·rw [if_neg e];split
  ·rfl
  ·rename_i hh;obtain⟨j,rfl⟩:∃j,i=m.size+j:=⟨i - m.size,by omega⟩;have:m.size+j - m.size=j:=by omega
   rw [this];rcases j with _ |_ |_ |j
   ·simp
   ·exact absurd rfl e
   ·simp
   ·simp
theorem Gp.Eff.blk{q':c9}{x y:Value}(hok:p.Ok)(h:p.At w q)(hx:x= .int .i32 (q'.word:Int))(hy:y= .int .u32 (q'.T:Int))(hs:q'.c=q.c∧q'.wt=q.wt∧q'.sm=q.sm∧q'.cl=q.cl∧q'.cs=q.cs∧q'.h=q.h):p.Eff w { w with heap:=w.heap.setIfInBounds p.bm (.cells (p.m0++ #[x,y,.map (some p.bk)]) p.tM) } q':=by
 subst hx hy;obtain⟨e1,e2,e3,e4,e5,e6⟩:=hs;have hlt:=(Array.getElem?_eq_some_iff.1 h.mu).1;have g:∀b,b≠p.bm→(w.heap.setIfInBounds p.bm (.cells (p.m0++ #[.int .i32 (q'.word:Int),.int .u32 (q'.T:Int),.map (some p.bk)]) p.tM))[b]? =w.heap[b]? :=fun b hb=>Array.getElem?_setIfInBounds_ne fun e=>hb e.symm;refine⟨⟨fun hc=>?_,fun hc=>?_,?_,fun e=>?_⟩,fun b hb=>g b fun e=>hb (.inl e),by simp,rfl,rfl,rfl⟩
 ·exact(g _ (hok.wm hc).1).trans (by rw [e1,e2,e3];exact h.wg hc)
 ·exact(g _ (hok.cm hc).1).trans (by rw [e4,e5];exact h.ch hc)
 ·exact Array.getElem?_setIfInBounds_self_of_lt hlt
 ·obtain⟨o,ho,hr⟩:=h.mp (e6▸e);exact⟨o,(g _ hok.mb.symm).trans ho,hr⟩
theorem Gp.Eff.word{q':c9}(hok:p.Ok)(h:p.At w q)(hs:q'.c=q.c∧q'.wt=q.wt∧q'.sm=q.sm∧q'.cl=q.cl∧q'.cs=q.cs∧q'.h=q.h)(hT:q'.T=q.T):p.Eff w (w.setCell p.muA (.int .i32 (q'.word:Int))) q':=by
 rw [show p.muA=⟨p.bm,p.m0.size,none⟩ from rfl,JX h.mu,JY];exact Gp.Eff.blk hok h rfl (by rw [hT]) hs
theorem Gp.Eff.sema{q':c9}(hok:p.Ok)(h:p.At w q)(hs:q'.c=q.c∧q'.wt=q.wt∧q'.sm=q.sm∧q'.cl=q.cl∧q'.cs=q.cs∧q'.h=q.h)(hw:q'.word=q.word):p.Eff w (w.setCell p.msA (.int .u32 (q'.T:Int))) q':=by
 rw [show p.msA=⟨p.bm,p.m0.size+1,none⟩ from rfl,JX h.mu,GM];exact Gp.Eff.blk hok h (by rw [hw]) rfl hs
end
theorem j9:∀n:Nat,n < 840→qm .i32 (n:Int) 5=((n % 2+4 * (n / 4 % 2):Nat):Int)∧qm .i32 (n:Int) 1=((n % 2:Nat):Int)∧qm .i32 (n:Int) 2=((2 * (n / 2 % 2):Nat):Int)∧qm .i32 (n:Int) 4=((4 * (n / 4 % 2):Nat):Int)∧qm .i32 (n:Int) 3=((n % 4:Nat):Int)∧qm .i32 (n:Int) 7=((n % 8:Nat):Int)
 ∧Dl .i32 (n:Int) 1=((n+1 - n % 2:Nat):Int)∧Dl .i32 (n:Int) 2=((n+2 - 2 * (n / 2 % 2):Nat):Int)∧Dl .i32 (n:Int) 4=((n+4 - 4 * (n / 4 % 2):Nat):Int)∧H5 .i32 (n:Int) 2=((n - 2 * (n / 2 % 2):Nat):Int)∧gf .i32 (n:Int) 3=((n / 8:Nat):Int):=by decide+kernel
theorem HT:∀{Γ:Gv} {s:Nat} {x:Value},lv Γ s=some x→(s,x)∈Γ
 |[],_,_,h=>by cases h
 |(s0,x0)::l,s,x,h=>by
  simp only [lv] at h
  split at h
  ·
   rename_i e;subst e;cases h;exact List.mem_cons_self
  ·
   exact List.mem_cons_of_mem _ (HT h)
theorem Dh{Γ:Gv}{f g:Nat×Value→Option Value}:∀{l:Gv},l.map f=l.map g→∀e∈l,f e=g e
 |[],_,e,h=>by cases h
 |a::l,hm,e,h=>by
  simp only [List.map_cons,List.cons.injEq] at hm
  rcases List.mem_cons.1 h with rfl |h
  ·
   exact hm.1
  ·
   exact Dh (Γ:=Γ) hm.2 e h
section
variable {P:Program}{p:Gp}{T:Tq}{mn:Bool}{s s':Ph}{v0 v:VW}{b:Frame}{cs:List Frame}{N d i f:Nat}{df:List Deferred}{Γ:Gv}{ops:Array Oper}{rest:List Nat}{k:List Item}{o:Oper}{xs:Array Operand}{ts:Array TypeId}
theorem Qt.base{Tq':Tq}{its:List Item}(Γ':Gv)(h:Qt Tq' v b cs N df its Γ')(hm:Γ'.map (fun e=>lv Γ e.1)=Γ'.map (fun e=>some e.2):=by exact rfl):Qt Tq' v b cs N df its Γ:=fun a ha=>
 h a ⟨ha.size,ha.defers,fun s x hl=>ha.val s x (Dh (Γ:=Γ') hm _ (HT hl))⟩
theorem D1(hq:s.q=false){Ok:Value→Prop}
 (step:∀a,QS N df Γ a→∀w:World,∃u w',Ok u∧stepG P mn (G (b.at a (.inRegion ops (i::rest)::k)) cs) w= .go (G (b.at (a.put (some d) u) (.inRegion ops rest::k)) cs) w' #[]∧w'.heap=w.heap∧j6 w'.os w.os∧w'.tape=w.tape∧w'.output=w.output)
 (h:∀v' u,Ok u→Qt (WV v0 P p T mn s) v' b cs N df (.inRegion ops rest::k) ((d,u)::Γ)) (hN:Nat.blt d N=true:=by exact rfl):Qt (WV v0 P p T mn s) v b cs N df (.inRegion ops (i::rest)::k) Γ:=fun a ha hv hA=>
 Ww.own hq fun v1 hr _=>by
  obtain⟨u,w',h0,h1,h2,h3,h4,h5⟩:=step a ha v1.toWorld
  have hr':bh v1 (v1.upd w'):=⟨fun b _ _=>by show w'.heap[b]? =_;rw [h2],by show _≤w'.heap.size;rw [h2];exact Nat.le_refl _,fun _ h=>h,fun _ h=>.inl h,fun h b hb=>by show b < w'.heap.size;rw [h2];exact h b hb,rfl,h3,h4,h5⟩
  exact⟨_,_,w', #[],h1,(⟨fun b _ _=>by rw [h2],by rw [h2];exact Nat.le_refl _,h3,h4,h5,fun e h=>by simp at h⟩:eF v1 w' #[]).k,fun _=>rfl,h _ u h0 _ (ha.put hN) (hv.rely (hr.trans hr')) (DI (hr.trans hr') hv.2.2 hA)⟩
def GV(v0:VW)(P:Program)(p:Gp)(T:Tq)(mn:Bool)(s:Ph):Tq:=fun v fr cs=>VR p v0 v→¬v.A p.bk→(∃o,v.heap[p.bk]? =some o∧p.R o)→Ww P p T mn s v fr cs
theorem rK(hq:s.q=false):Mv P p.Kf mn (GV v0 P p T mn s):=fun v fr fr' cs cs' h1 h hv ha hR=>Ww.move hq (fun w hl=>h1 w hl) (h hv ha hR)
theorem MF:p.wc (.cell p.muA):=.inl rfl
theorem MG:p.wc (.cell p.msA):=.inr (.inl rfl)
theorem D3(hok:p.Ok)(hs:s.Run){c:Nat}{x:Operand}(hM:rG P f .acquire)(ho:ops[i]? =some o)(hop:o.op= .call { callee:=.value (.func f),args:= #[x],argTypes:=ts })(hx:ev Γ x=some (.pointer (some p.muA)))
 (h:∀v',Qt (GV v0 P p T mn (s.set { hd:=1,dt:=1,phi:=c })) v' b cs N df (.inRegion ops rest::k) ((d,.tuple #[])::Γ))
 (hg:o.guard=none:=by exact rfl) (hd:o.dst=some d:=by exact rfl) (hN:Nat.blt d N=true:=by exact rfl) (hk:b.kind≠.early:=by exact fun h=>nomatch h):Qt (WV v0 P p T mn (s.set { hd:=1,phi:=c })) v b cs N df (.inRegion ops (i::rest)::k) Γ:=fun a ha hv _=>by
 obtain⟨⟨fn,h1,h2,h3,h4,h5⟩,h6⟩:=hM
 refine po hs.q fun v1 q hr hat hp=>?_
 have hq0:q.h=0:=by
  obtain⟨o,h1,h2,_⟩:=hp.mu;have a1:=h2.le;have a2:=h2.hd;have a3:=h2.h;simp only at a1 a2 a3;omega
 have hat':p.At v1.toWorld { q with h:=1 }:=⟨hat.wg,hat.ch,hat.mu,fun e=>by cases e⟩
 have he:p.Eff v1.toWorld v1.toWorld { q with h:=1 }:=.refl hat'
 refine⟨s.set { hd:=1,dt:=1,phi:=c },{ q with h:=1 },_,_,v1.toWorld, #[iL (.acquire p.muA)],stepG_markAt _ h6 ho (ab hg _) hk hop h1 h2 h3 h4 h5 (by simp [ha.ev hx]),he,?_,?_,fun e=>?_,id,fun _=>⟨q,undef,true,?_⟩,fun e=>?_⟩
 ·
  refine Sv.lk hs ⟨rfl,rfl,rfl,rfl⟩ (fun o h1 h2 _ _ _=>?_) (.inr ⟨rfl,rfl⟩) (fun ow φ e=>by cases e) (fun x h1 h2 _=>⟨h1,h2⟩) (fun _=>⟨Nat.zero_le _,.inl rfl⟩) (Nat.le_of_ble_eq_true rfl) (Nat.le_of_ble_eq_true rfl);obtain⟨k1,k2,k3,k4,k5,k6⟩:=h2;exact⟨k1,k2,k3,k4,by show 1=o.dt+1;have k5:q.h=o.dt+0:=k5;omega,k6⟩
 ·
  refine mh.lk hs (fun e h=>?_) rfl (fun j hj e he ht=>?_) (Nat.le_refl _) (fun _ _=>⟨rfl,rfl⟩) (fun _ e=>by cases e)
  ·simp at h;subst h;exact .inr (.inr (.inr (.inl ⟨_,rfl⟩)))
  ·have:j=0:=by simpa using hj
   subst this;simp at he;subst he;exact absurd rfl ht
 ·
  rcases e with e |e |e <;> first |exact absurd e (Nat.lt_irrefl _) |exact absurd rfl e
 ·
  rw [hd];refine h _ _ (ha.put hN) ((hv.rely hr).put hok he) ?_ ?_
  ·intro e;have:=pR.1 e;cases this
  ·exact hat.mp hq0
 ·
  have e:s.q=true:=e;rw [hs.q] at e;cases e
theorem L2(hok:p.Ok)(hs:s.Run){c:Nat}{x:Operand}(hM:rG P f .releaseMerge)(ho:ops[i]? =some o)(hop:o.op= .call { callee:=.value (.func f),args:= #[x],argTypes:=ts })(hx:ev Γ x=some (.pointer (some p.muA)))
 (h:∀v',Qt (WV v0 P p T mn (s.set { hd:=1,phi:=c })) v' b cs N df (.inRegion ops rest::k) ((d,.tuple #[])::Γ))
 (hg:o.guard=none:=by exact rfl) (hd:o.dst=some d:=by exact rfl) (hN:Nat.blt d N=true:=by exact rfl) (hk:b.kind≠.early:=by exact fun h=>nomatch h):Qt (GV v0 P p T mn (s.set { hd:=1,dt:=1,phi:=c })) v b cs N df (.inRegion ops (i::rest)::k) Γ:=fun a ha hv hA hR=>by
 obtain⟨⟨fn,h1,h2,h3,h4,h5⟩,h6⟩:=hM
 refine po hs.q fun v1 q hr hat hp=>?_
 have hR1:∃o,v1.heap[p.bk]? =some o∧p.R o:=by
  obtain⟨o,ho,hro⟩:=hR;exact⟨o,(hr.keep _ hv.2.2 hA).trans ho,hro⟩
 have hat':p.At v1.toWorld { q with h:=0 }:=⟨hat.wg,hat.ch,hat.mu,fun _=>hR1⟩
 have he:p.Eff v1.toWorld v1.toWorld { q with h:=0 }:=.refl hat'
 refine⟨s.set { hd:=1,phi:=c },{ q with h:=0 },_,_,v1.toWorld, #[iL (.releaseMerge p.muA)],stepG_markAt _ h6 ho (ab hg _) hk hop h1 h2 h3 h4 h5 (by simp [ha.ev hx]),he,?_,?_,fun e=>?_,id,fun _=>⟨q,undef,true,?_⟩,fun e=>?_⟩
 ·
  refine Sv.lk hs ⟨rfl,rfl,rfl,rfl⟩ (fun o h1 h2 _ _ _=>?_) (.inr ⟨rfl,rfl⟩) (fun ow φ e=>by cases e) (fun x h1 h2 _=>⟨h1,h2⟩) (fun _=>⟨Nat.zero_le _,.inl rfl⟩) (Nat.le_of_ble_eq_true rfl) (Nat.le_of_ble_eq_true rfl);obtain⟨k1,k2,k3,k4,k5,k6⟩:=h2;have k2:q.L=o.hd+1:=k2;exact⟨k1,k2,k3,k4,by show 0=o.dt+0;omega,k6⟩
 ·
  refine mh.lk hs (fun e h=>?_) rfl (fun j hj e he ht=>?_) (Nat.zero_le _) (fun _ e=>by cases e) (fun _ _=>⟨rfl,rfl⟩)
  ·simp at h;subst h;exact .inr (.inr (.inr (.inr (.inl ⟨_,rfl⟩))))
  ·have:j=0:=by simpa using hj
   subst this;simp at he;subst he;exact absurd rfl ht
 ·
  rcases e with e |e |e <;> first |exact absurd e (Nat.lt_irrefl _) |exact absurd rfl e
 ·
  rw [hd];exact h _ _ (ha.put hN) ((hv.rely hr).put hok he) pR
 ·
  have e:s.q=true:=e;rw [hs.q] at e;cases e
theorem ve(hok:p.Ok)(hs:s.Run){l l':qB}{m:Mark}(hm:m= .disable∨m= .enable)(hl:l'={ l with df:=l'.df })(hdf:deafBehind l.df #[iL m]=l'.df)(hmx:l.mx≤1:=by exact Nat.le_of_ble_eq_true rfl)(hdt:l.dt≤l.hd:=by exact Nat.le_of_ble_eq_true rfl)(hnb:l.nb=0:=by rfl):Wd P p.Kf mn #[iL m] (WV v0 P p T mn (s.set l)) (WV v0 P p T mn (s.set l')):=by
 have hd1:l.dt≤1:=by simp only [qB.mx] at hmx;omega
 refine tj hok hs.q hs.q (by rw [hl]) (fun q _=>?_) ?_
 ·rw [hl];exact Sv.lk hs ⟨rfl,rfl,rfl,rfl⟩ (fun o _ h2 _ _ _=>h2) (.inr ⟨rfl,rfl⟩) (fun ow φ e=>.inr e) (fun x h1 h2 _=>⟨h1,h2⟩) (fun h=>⟨h,.inl hnb⟩) hmx hdt
 ·rw [hl];refine mh.lk hs (fun e h=>?_) hdf (fun j hj e he ht=>?_) hd1 (fun e=>absurd rfl e) (fun e=>absurd rfl e)
  ·simp at h;subst h;rcases hm with rfl |rfl
   ·exact .inr (.inl rfl)
   ·exact .inr (.inr (.inl rfl))
  ·have:j=0:=by simpa using hj
   subst this;simp at he;subst he;rcases hm with rfl |rfl <;> exact absurd rfl ht
end
theorem Gk{P:Program}{Wl:World→Prop}{Γ:Gv}{o:Oper}{p q:Operand}{TT T':TypeId}{k k':IntKind}{n m z:Int}(ho:o.op= .binOp .shl TT p q T')(e1:ev Γ p=some (.int k n))(e2:ev Γ q=some (.int k' m))(h:0≤m)(hz:oz k n m=z):OV P Wl o Γ (.int k z):=hz▸PK ho e1 e2 h
theorem kS{P:Program}{Wl:World→Prop}{Γ:Gv}{o:Oper}{p q:Operand}{TT T':TypeId}{k k':IntKind}{n m z:Int}(ho:o.op= .binOp .shr TT p q T')(e1:ev Γ p=some (.int k n))(e2:ev Γ q=some (.int k' m))(h:0≤m)(hz:gf k n m=z):OV P Wl o Γ (.int k z):=hz▸PI ho e1 e2 h
theorem fC{P:Program}{Wl:World→Prop}{Γ:Gv}{o:Oper}{p:Operand}{TT T':TypeId}{k k':IntKind}{n z:Int}(ho:o.op= .convert TT T' p)(hT:P.underlying TT=some (.int k))(hT':P.underlying T'=some (.int k'))(e:ev Γ p=some (.int k n))(hz:k'.wrap n=z):OV P Wl o Γ (.int k' z):=hz▸Nx ho hT hT' e
end K
