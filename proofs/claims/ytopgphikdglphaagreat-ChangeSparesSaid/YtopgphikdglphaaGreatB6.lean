import Derived.Test.YtopgphikdglphaaGreatB5
namespace Go.Proofs.YtopgphikdglphaaGreat
namespace K
open Go Go.Conc
theorem yP{P:Program}{w:World}{q:Question}{m:Nat}(hq:q= .select m∨∃s,q= .extern s m)(hm:0 < m):∃a d,a < m∧(choose q).run P w= .ok a (w.at d):=by
 by_cases hf:q.forced=true
 ·exact⟨0,w.drawn,hm,by simp [choose,Sem.run,hf];rfl⟩
 ·refine⟨q.cut (w.tape w.drawn q),w.drawn+1,?_,by simp [choose,Sem.run,hf];rfl⟩;rcases hq with rfl |⟨s,rfl⟩
  ·exact Nat.mod_lt _ hm
  ·simp only [Question.cut];rw [if_neg (by omega)];exact Nat.mod_lt _ hm
section
variable {P:Program}{gs:Array Goroutine}{w w1:World}{sl:Option (Nat×Nat)}{i:Nat}{g g2:Goroutine}{es:Array Event}{cases:Array CommCase}{shape:CommShape}
theorem Hf{ready:List (Nat×CommCase×List Way)}(hne:ready≠[])(hall:∀x∈ready,x.2.2≠[]):∃k c way d,(do
 let a←choose (.select ready.length)
 let (k,c,ws):=ready.getD a (0,default,[])
 let b←choose (.extern "which waiting goroutine is the partner" ws.length)
 pure (k,c,ws.getD b .closed):Sem (Nat×CommCase×Way)).run P w= .ok (k,c,way) (w.at d)∧∃ws,(k,c,ws)∈ready∧way∈ws:=by
 obtain⟨a,d,ha,h1⟩:=yP (P:=P) (w:=w) (q:=.select ready.length) (.inl rfl) (List.length_pos_iff.2 hne)
 have hm:ready[a]∈ready:=List.getElem_mem ha
 have hga:ready.getD a (0,default,[])=ready[a]:=by simp [List.getD,ha]
 generalize ready[a]=x at hm hga
 obtain⟨k,c,ws⟩:=x
 have hw:ws≠[]:=hall _ hm
 obtain⟨b,d',hb,h2⟩:=yP (P:=P) (w:=w.at d) (q:=.extern "which waiting goroutine is the partner" ws.length) (.inr ⟨_,rfl⟩) (List.length_pos_iff.2 hw)
 have hgb:ws.getD b .closed=ws[b]:=by simp [List.getD,hb]
 refine⟨k,c,ws[b],d',?_,ws,hm,List.getElem_mem hb⟩
 simp only [Sem.run_bind,h1,Result.andThen_ok,hga,h2,hgb,Sem.run_pure]
 rfl
theorem GV(hi:gs[i]? =some g)(h:stepG P (i == 0) g w= .comm g2 cases true shape w1 es)(hill:cases.any (illMade w1)=false)
 (hready:∃(k:Nat) (cc:CommCase),cases[k]? =some cc∧ways w1 (gs.setIfInBounds i ph) cc≠[])
 (hall:∀(k:Nat) (cc:CommCase) (way:Way),cases[k]? =some cc→way∈ways w1 (gs.setIfInBounds i ph) cc→∃c z j gj vj zj s,cc=rcase c z∧way= .partner j 0∧w1.heap[c]? =some (.chan 0 #[] false s s false)∧j≠i∧gs[j]? =some (parked gj #[scase c vj zj] .send)):
 ∃(k:Nat) (c:Nat) (z:Value) (j:Nat) (gj:Goroutine) (vj zj:Value) (s d:Nat),cases[k]? =some (rcase c z)∧w1.heap[c]? =some (.chan 0 #[] false s s false)∧j≠i∧gs[j]? =some (parked gj #[scase c vj zj] .send)∧
  runT P (crowd gs w sl) i=(.next (crowd ((gs.setIfInBounds j (gj.finishComm P #[scase c vj zj] .send 0 undef false)).setIfInBounds i (g2.finishComm P cases shape k vj true)) ((w1.at d).setChan c 0 #[] false (s+1) (s+1) false) sl),
   MemOp.ofEvents i g.frame.fn g.frame.place es++ #[{ g:=j,fn:=gj.frame.fn,pos:=gj.frame.place,act:=.send c s },{ g:=i,fn:=g2.frame.fn,pos:=g2.frame.place,act:=.recv c s 0 },
    { g:=j,fn:=gj.frame.fn,pos:=gj.frame.place,act:=.sendDone c s },{ g:=i,fn:=g2.frame.fn,pos:=g2.frame.place,act:=.recvDone c s }]):=by
 generalize hrd:((cases.zipIdx.toList.map fun(c,k)=>(k,c,ways w1 (gs.setIfInBounds i ph) c)).filter fun(_,_,ws)=> !ws.isEmpty)=ready
 have hmem:∀(k:Nat) (cc:CommCase) (ws:List Way),(k,cc,ws)∈ready↔cases[k]? =some cc∧ws=ways w1 (gs.setIfInBounds i ph) cc∧ws≠[]:=by
  intro k cc ws;rw [←hrd];simp only [List.mem_filter,List.mem_map,Prod.mk.injEq,Prod.exists,Bool.not_eq_true',List.isEmpty_eq_false_iff];constructor
  ·rintro⟨⟨cc',k',hm,rfl,rfl,rfl⟩,hne⟩;have:=Array.mem_zipIdx_iff_getElem?.1 (Array.mem_toList_iff.1 hm);exact⟨by simpa using this,rfl,hne⟩
  ·rintro⟨h1,rfl,hne⟩;exact⟨⟨cc,k,Array.mem_toList_iff.2 (Array.mem_zipIdx_iff_getElem?.2 (by simpa using h1)),rfl,rfl,rfl⟩,hne⟩
 have hne:ready≠[]:=by
  obtain⟨k,cc,h1,h2⟩:=hready;intro e;have:=(hmem k cc _).2 ⟨h1,rfl,h2⟩;rw [e] at this;cases this
 obtain⟨k,cc,way,d,hpick,ws,hws,hway⟩:=Hf (P:=P) (w:=w1) hne fun x hx=>((hmem x.1 x.2.1 x.2.2).1 hx).2.2
 obtain⟨hk,rfl,_⟩:=(hmem _ _ _).1 hws
 obtain⟨c,z,j,gj,vj,zj,s,rfl,rfl,hc,hij,hj⟩:=hall k cc way hk hway
 refine⟨k,c,z,j,gj,vj,zj,s,d,hk,hc,hij,hj,?_⟩
 have hj':=stand_get (i:=i) hij hj
 have hfp:=finishPartner_at P (gs.setIfInBounds i ph) hj' (cs:= #[scase c vj zj]) (sh:=.send) rfl 0 undef
 have hgd:(gs.setIfInBounds i ph).getD j default=parked gj #[scase c vj zj] .send:=by rw [Array.getD_eq_getD_getElem?,hj'];rfl
 have hov:offeredValue (gs.setIfInBounds i ph) j 0=vj:=by simp [offeredValue,hj',parked,scase]
 rw [runT_crowd_comm hi h]
 have hcd:(w1.at d).heap[c]? =some (.chan 0 #[] false s s false):=hc
 unfold communicate
 simp only [hrd]
 rw [if_neg (by rw [Bool.not_eq_true];exact hill),if_neg (by simpa using hne),hpick]
 simp [rcase,hcd,hfp,hgd,hov,set_stand2,scase,parked,World.setChan,crowd]
 rfl
end
section
variable {P:Program}{cf cb:Nat}{sd:Nat→Nat×Value}{n:Nat}{pe:Nat→Prop}{Gd:Machine→Trace→Prop}{w:World}{ws:Nat→WS}{k:Nat→Nat}{A Z:Nat→Nat→Prop}{gs:Array Goroutine}{t:Trace}
theorem CI.park(h:CI P cf cb sd n ws k A Z gs w t){i m:Nat}{fn:FuncId}{pos:String}{g2:Goroutine}{z:Value}{es:Array Event}(hp:0 < i)(hin:i < n)(hws:ws i= .run)(hes:∀e∈es,qP ⟨w,A i,Z i⟩ w.heap.size e)(hq:QuitsIn P m (Conc.served g2 undef)):
 CI P cf cb sd n (upd ws i .park) (upd k i m) A Z (gs.setIfInBounds i (parked g2 #[scase (sd i).1 (sd i).2 z] .send)) w (t++MemOp.ofEvents i fn pos es):=by
 have hG:iD ⟨w,A i,Z i⟩ w es:=⟨fun _ _ _=>rfl,Nat.le_refl _,rfl,rfl,rfl,hes⟩
 have:=h.gen (i:=i) (fn:=fn) (pos:=pos) (ws':=upd ws i .park) (k':=upd k i m) (gs':=gs.setIfInBounds i (parked g2 #[scase (sd i).1 (sd i).2 z] .send)) hin hG (by simp [h.size]) (fun j=>?_) (fun _=>by rw [hws];simp) fun j x hj hx=>?_
 ·
  rwa [uI] at this
 ·
  by_cases e:j=i
  ·subst e;rw [gK,hws];simp
  ·rw [fh e]
 ·
  by_cases e:j=i
  ·subst e;have hlt:j < gs.size:=by rw [h.size];exact hin
   rw [Array.getElem?_setIfInBounds_self_of_lt hlt] at hx;cases hx;rw [gK,gK];exact⟨g2,z,rfl,hq⟩
  ·rw [Array.getElem?_setIfInBounds_ne (fun e'=>e e'.symm)] at hx;rw [fh e,fh e];exact h.keep hin hG hj e hx
theorem CI.no_taker(h:CI P cf cb sd n ws k A Z gs w t){i:Nat}(hh:∀g,gs[0]? =some g→g.status= .running)(c:Nat):partners (gs.setIfInBounds i ph) c false=[]:=by
 refine partners_nil fun j g hj=>?_;rcases getElem?_stand gs i j g hj with⟨_,rfl⟩ |⟨_,hg⟩
 ·exact offersAt_ph _ _
 ·rcases Nat.eq_zero_or_pos j with rfl |hp
  ·exact offersAt_of_not_blocked (by rw [hh g hg];simp) _ _
  ·have hs:=h.sts j g hp hg;cases hws:ws j with
   |run=>rw [hws] at hs;obtain⟨fr,cs,rfl,_⟩:=hs;exact offersAt_of_not_blocked (by simp) _ _
   |park=>rw [hws] at hs;obtain⟨g1,z,rfl,_⟩:=hs;exact offersAt_parked_send' ..
   |quit=>rw [hws] at hs;exact offersAt_of_not_blocked (by rcases QuitsIn.status hs with h |h <;> rw [h] <;> simp) _ _
def TC(P:Program)(cf cb:Nat)(sd:Nat→Nat×Value)(n:Nat)(pe:Nat→Prop)(Gd:Machine→Trace→Prop):Tq:=fun v fr cs=>
 ∀w ws k A Z gs t sl,Sc P cf cb sd n pe (fun _=>True) v (Gr fr cs) w ws k A Z gs t→Gd (crowd gs w sl) t
theorem xB(hnx:∀m m' t ops,stepT P m=(.next m',ops)→Gd m' (t++ops)→Gd m t){v:VW}{fr:Frame}{cs:List Frame}
 (h:∀w ws k A Z gs t sl,Sc P cf cb sd n pe (fun _=>True) v (Gr fr cs) w ws k A Z gs t→∀d sl0,stepT P (crowd gs (w.at d) sl0)=runT P (crowd gs w sl) 0→Gd (crowd gs (w.at d) sl0) t):TC P cf cb sd n pe Gd v fr cs:=by
 refine BB hnx (.inl rfl) (fun _ _ _ _=>woken_running rfl) (fun w ws k A Z gs t hS=>⟨0,_,hS.head,rfl⟩) (fun _=>h) fun w ws k A Z gs t sl i fr1 cs1 hS hp hi hws hsn hpk d sl0 hst=>?_
 obtain⟨g2,z,es,m,h1,h2,h3⟩:=hsn
 have hin:i < n:=by have:=(Array.getElem?_eq_some_iff.1 hi).1;rw [hS.ci.size] at this;exact this
 have hi0:(i == 0)=false:=by simp;omega
 obtain⟨s,hc⟩:=hS.ci.chans _ (hS.ci.chn i (by rw [hws];simp))
 have hgo:=crowd_waits (sl:=sl) hi (by rw [hi0];exact h1) fun cc hcc=>by
  have e:cc=scase (sd i).1 (sd i).2 z:=by simpa using hcc
  rw [e];exact ways_send_none hc (Nat.zero_le _) (hS.ci.no_taker (fun g hg=>by rw [hS.head] at hg;cases hg;rfl) _)
 rw [←hst] at hgo
 exact hnx _ _ _ _ hgo (hpk g2 z es m trivial (hS.ci.park hp hin hws h2 h3))
theorem TC.bc(hnx:∀m m' t ops,stepT P m=(.next m',ops)→Gd m' (t++ops)→Gd m t):BC P (TC P cf cb sd n pe Gd) where
 rely v v1 fr cs hr h:=fun w ws k A Z gs t sl hS=>h w ws k A Z gs t sl ⟨trivial,hr.trans hS.rely,hS.pend,hS.ci,hS.head⟩
 step v fr cs h:=xB hnx fun w ws k A Z gs t sl hS d sl0 hst=>by
  obtain⟨fr',cs',w',es,h1,h2,h3⟩:=h _ hS.rely
  have hgo:=runT_crowd_go (sl:=sl) hS.head (by exact h1 (0 == 0))
  rw [←hst] at hgo
  refine hnx _ _ _ _ hgo ?_
  refine h3 w' ws k _ Z _ _ sl ⟨trivial,?_,hS.pend,hS.ci.step hS.head h2 (fun hp=>absurd hp (Nat.lt_irrefl 0)),rV hS.head⟩
  rw [wS]
  exact de.refl _
end
theorem oO{n z:Nat}{t:Trace}{op:MemOp}(h:Tr n z t)(hg:op.g < n)(ht:op.act.touch? =none)(hm:∀m,op.act≠.mark m):Tr n z (t++ #[op]):=by
 refine⟨h.words.append fun o ho m e=>?_,fun o ho=>?_,fun said=>?_,fun j x b hx hb=>?_⟩
 ·have:o=op:=by simpa using ho
  subst this;exact absurd e (hm m)
 ·rcases Array.mem_append.1 ho with ho |ho
  ·exact h.num o ho
  ·have:o=op:=by simpa using ho
   subst this;exact hg
 ·refine noRace_append (g:=op.g) (h.race said) (fun o ho=>?_) fun j x hx o ho y hy _=>?_
  ·have:o=op:=by simpa using ho
   subst this;rfl
  ·have:o=op:=by simpa using ho
   subst this;rw [ht] at hy;cases hy
 ·obtain⟨o,ho,hxa⟩:=touch_of hx;rcases getElem?_append_cases ho with⟨_,ho'⟩ |⟨_,hu⟩
  ·exact h.inb j x b (by rw [touchAt_of ho'];exact hxa) hb
  ·have:o=op:=by simpa using hu
   subst this;rw [ht] at hxa;cases hxa
structure ON(c s i:Nat)(u:Array MemOp):Prop where
 ex:∃o1 o2 o3 o4:MemOp,u= #[o1,o2,o3,o4]∧(o1.g=i∧o1.act= .send c s)∧(o2.g=0∧o2.act= .recv c s 0)∧(o3.g=i∧o3.act= .sendDone c s)∧(o4.g=0∧o4.act= .recvDone c s)
section
variable {P:Program}{cf cb:Nat}{sd:Nat→Nat×Value}{n:Nat}{w:World}{ws:Nat→WS}{k:Nat→Nat}{A Z:Nat→Nat→Prop}{gs:Array Goroutine}{t:Trace}
theorem yQ{c s:Nat}{A0 Z0:Nat→Prop}(ha:A0 c)(d:Nat):de ⟨w,A0,Z0⟩ ⟨(w.at d).setChan c 0 #[] false s s false,A0,Z0⟩ where
 keep b _ hb:=by
  have hne:c≠b:=fun e=>hb (e▸ha);simp [World.setChan,World.at,Array.getElem?_setIfInBounds_ne hne]
 size:=by simp [World.setChan,World.at]
 sub _ h:=h
 old _ h:=.inl h
 dom hd b hb:=by simpa [World.setChan,World.at] using hd b hb
 Z:=rfl
 os:=rfl
 tape:=rfl
 output:=rfl
theorem CI.comm(h:CI P cf cb sd n ws k A Z gs w t){i m c s d:Nat}{u:Array MemOp}{gs':Array Goroutine}(hp:0 < i)(hin:i < n)(hc:c=cf∨c=cb)(hcs:w.heap[c]? =some (.chan 0 #[] false s s false))(hu:ON c s i u)
 (hsz:gs'.size=n) (hgi:∀g,gs'[i]? =some g→QuitsIn P m g) (hgj:∀j,0 < j→j≠i→gs'[j]? =gs[j]?):
 CI P cf cb sd n (upd ws i .quit) (upd k i m) A Z gs' ((w.at d).setChan c 0 #[] false (s+1) (s+1) false) (t++u):=by
 obtain⟨o1,o2,o3,o4,hu,⟨g1,a1⟩,⟨g2,a2⟩,⟨g3,a3⟩,⟨g4,a4⟩⟩:=hu.ex
 subst hu
 have e4:t++ #[o1,o2,o3,o4]=t++ #[o1]++ #[o2]++ #[o3]++ #[o4]:=by apply Array.ext';simp
 have hnt:∀op∈(#[o1,o2,o3,o4]:Array MemOp),op.act.touch? =none:=fun op ho=>by
  simp at ho;rcases ho with rfl |rfl |rfl |rfl <;> simp [a1,a2,a3,a4,MemAct.touch?]
 have hold:∀{j:Nat} {op:MemOp} {x:Touch},(t++ #[o1,o2,o3,o4])[j]? =some op→op.act.touch? =some x→t[j]? =some op:=fun {j op x} ho hx=>by
  rcases getElem?_append_cases ho with⟨_,h'⟩ |⟨_,h'⟩
  ·exact h'
  ·rw [hnt op h'] at hx;cases hx
 have h0n:0 < n:=Nat.lt_of_le_of_lt (Nat.zero_le i) hin
 have htr:Tr n w.heap.size (t++ #[o1,o2,o3,o4]):=by
  rw [e4]
  refine oO (oO (oO (oO h.tr ?_ ?_ ?_) ?_ ?_ ?_) ?_ ?_ ?_) ?_ ?_ ?_ <;> first
   |(rw [g1];exact hin) |(rw [g2];exact h0n) |(rw [g3];exact hin) |(rw [g4];exact h0n)
   |(rw [a1];first |rfl |simp) |(rw [a2];first |rfl |simp) |(rw [a3];first |rfl |simp) |(rw [a4];first |rfl |simp)
 have hsize:((w.at d).setChan c 0 #[] false (s+1) (s+1) false).heap.size=w.heap.size:=by simp [World.setChan,World.at]
 refine⟨hsz,by rw [hsize];exact htr,fun j b hb=>by rw [hsize];exact h.domA j b hb,fun j b hb=>by rw [hsize];exact h.domZ j b hb,fun i1 j1 b q1 q2 q3 q4=>h.cover i1 j1 b q1 q2 q3 (by rw [hsize] at q4;exact q4),fun i1 j x b hi1 ha1 hx hb hA hZ=>?_,fun j op x hop hx=>?_,fun j x hj hx=>?_,fun c' hc'=>?_,h.chanA,fun j hj=>h.chn j fun e=>hj ?_⟩
 ·
  obtain⟨op,hop,hxa⟩:=touch_of hx
  exact(h.knows i1 j x b hi1 (ha1.imp id fun y e=>y (by
   by_cases e':i1=i
   ·subst e';exact gK
   ·rw [fh e'];exact e)) (by rw [touchAt_of (hold hop hxa)];exact hxa) hb hA hZ).app _
 ·
  have ho:=hold hop hx;have hjt:=lt_size_of_getElem? ho;rcases h.kn j op x ho hx with hk |⟨k1,k2⟩
  ·exact .inl (hk.app _)
  ·by_cases e:op.g=i
   ·left;have p1:(t++ #[o1,o2,o3,o4])[t.size]? =some o1:=by rw [Array.getElem?_append_right (Nat.le_refl _)];simp
    have p4:(t++ #[o1,o2,o3,o4])[t.size+3]? =some o4:=by rw [Array.getElem?_append_right (by omega)];simp
    have hb1:HappensBefore (t++ #[o1,o2,o3,o4]) j t.size:=hb_po hjt hop p1 (e.trans g1.symm);exact⟨t.size+3,o4,p4,g4,.inr (hb1.trans (.single (.inr ⟨.handOver (c:=c) (k:=s) (by rw [act?_of p1,a1]) (by rw [act?_of p4,a4]),htr.words.heard p1,htr.words.heard p4⟩)))⟩
   ·exact .inr ⟨k1,by rw [fh e];exact k2⟩
 ·
  by_cases e:j=i
  ·subst e;rw [gK,gK];exact hgi x hx
  ·rw [hgj j hj e] at hx;rw [fh e,fh e];have hs:=h.sts j x hj hx;cases hws:ws j with
   |run=>
    rw [hws] at hs;obtain⟨fr1,cs1,e1,hk⟩:=hs;exact⟨fr1,cs1,e1,hk.rely (yQ (h.chanA c hc j) d)⟩
   |park=>rw [hws] at hs;exact hs
   |quit=>rw [hws] at hs;exact hs
 ·
  by_cases e:c=c'
  ·subst e;have hlt:c < w.heap.size:=(Array.getElem?_eq_some_iff.1 hcs).1;exact⟨s+1,by simp [World.setChan,World.at,hlt]⟩
  ·obtain⟨s',hs'⟩:=h.chans c' hc';exact⟨s',by simpa [World.setChan,World.at,Array.getElem?_setIfInBounds_ne e] using hs'⟩
 ·
  by_cases e':j=i
  ·subst e';exact gK
  ·rw [fh e'];exact e
end
theorem xQ{g0 gj:Goroutine}{cs cs':Array CommCase}{sh sh':CommShape}{x:Value}(h:parked g0 cs sh=parked gj cs' sh'):Conc.served g0 x=Conc.served gj x:=by
 simp only [parked,Goroutine.mk.injEq] at h;obtain⟨h1,h2,_,h3,_⟩:=h;simp [Conc.served,h1,h2,h3]
theorem AM{g0 gj:Goroutine}{c c':Nat}{x x' z z':Value}{sh sh':CommShape}(h:parked g0 #[scase c x z] sh=parked gj #[scase c' x' z'] sh'):c=c'∧x=x':=by
 simp only [parked,scase,Goroutine.mk.injEq,Option.some.injEq,Prod.mk.injEq] at h;have h2:=h.2.2.2.2.1;simp at h2;exact⟨h2.1,h2.2.1⟩
section
variable {P:Program}{cf cb:Nat}{sd:Nat→Nat×Value}{n:Nat}{pe:Nat→Prop}{Gd:Machine→Trace→Prop}{w:World}{ws:Nat→WS}{k:Nat→Nat}{A Z:Nat→Nat→Prop}{gs:Array Goroutine}{t:Trace}
theorem CI.head(h:CI P cf cb sd n ws k A Z gs w t)(g:Goroutine):CI P cf cb sd n ws k A Z (gs.setIfInBounds 0 g) w t:=
 ⟨by simp [h.size],h.tr,h.domA,h.domZ,h.cover,h.knows,h.kn,fun j x hj hx=>h.sts j x hj (by rwa [Array.getElem?_setIfInBounds_ne (by omega)] at hx),h.chans,h.chanA,h.chn⟩
theorem CI.evs(h:CI P cf cb sd n ws k A Z gs w t){i:Nat}{fn:FuncId}{pos:String}{es:Array Event}(hin:i < n)(hi:0 < i→ws i≠.quit)(hes:∀e∈es,qP ⟨w,A i,Z i⟩ w.heap.size e):CI P cf cb sd n ws k A Z gs w (t++MemOp.ofEvents i fn pos es):=by
 have hG:iD ⟨w,A i,Z i⟩ w es:=⟨fun _ _ _=>rfl,Nat.le_refl _,rfl,rfl,rfl,hes⟩;have:=h.gen (i:=i) (fn:=fn) (pos:=pos) (ws':=ws) (k':=k) (gs':=gs) hin hG h.size (fun _=>Iff.rfl) hi fun j x hj hx=>by rw [uI];exact h.sts j x hj hx
 rwa [uI] at this
theorem CI.offers(h:CI P cf cb sd n ws k A Z gs w t){c j kk:Nat}(hm:(j,kk)∈partners (gs.setIfInBounds 0 ph) c true):kk=0∧0 < j∧j < n∧ws j= .park∧c=(sd j).1∧∃gj zj,gs[j]? =some (parked gj #[scase (sd j).1 (sd j).2 zj] .send)∧QuitsIn P (k j) (Conc.served gj undef):=by
 obtain⟨g,hg,ho⟩:=mem_partners.1 hm;rcases getElem?_stand gs 0 j g hg with⟨_,rfl⟩ |⟨hne,hg'⟩
 ·rw [offersAt_ph] at ho;cases ho
 ·have hp:0 < j:=by omega
  have hjn:j < n:=by have:=(Array.getElem?_eq_some_iff.1 hg').1;rw [h.size] at this;exact this
  have hs:=h.sts j g hp hg';cases hws:ws j with
  |run=>rw [hws] at hs;obtain⟨fr,cs,rfl,_⟩:=hs;rw [offersAt_of_not_blocked (by simp)] at ho;cases ho
  |quit=>rw [hws] at hs;rw [offersAt_of_not_blocked (by rcases QuitsIn.status hs with h |h <;> rw [h] <;> simp)] at ho;cases ho
  |park=>
   rw [hws] at hs;obtain⟨gj,zj,rfl,hq⟩:=hs;rw [offersAt_parked_send] at ho;split at ho
   ·rename_i e;simp at ho;exact⟨ho,hp,hjn,rfl,e.symm,gj,zj,hg',hq⟩
   ·cases ho
theorem Ba{fr:Frame}{cs:List Frame}{cases:Array CommCase}{sh:CommShape}{kk:Int}{x:Value}:(Gr fr cs).finishComm P cases sh kk x true=Gr (fr.finish (commResult cases sh kk x true)) cs:=rfl
theorem TC.recv(hnx:∀m m' t ops,stepT P m=(.next m',ops)→Gd m' (t++ops)→Gd m t)(hcfb:cf≠cb){v:VW}{fr:Frame}{cs:List Frame}{z1 z2:Value}
 (hsel:∀w0:World,stepG P true (Gr fr cs) w0= .comm (Gr fr cs) #[rcase cf z1,rcase cb z2] true .select w0 #[])
 (hpe:∃i,0 < i∧i < n∧pe i)
 (h:∀i,0 < i→i < n→pe i→∀kk:Nat,((sd i).1=cf∧kk=0∨(sd i).1=cb∧kk=1)→TC P cf cb sd n (upd pe i False) Gd v (fr.finish (commResult #[rcase cf z1,rcase cb z2] .select kk (sd i).2 true)) cs):
 TC P cf cb sd n pe Gd v fr cs:=by
 have after:∀(w:World) ws k A Z (gs gs':Array Goroutine) t sl (g0:Goroutine) (Iv:(Nat→WS)→Prop),Sc P cf cb sd n pe Iv v g0 w ws k A Z gs t→∀(j m s d:Nat) (u:Array MemOp),0 < j→j < n→ws j≠.quit→w.heap[(sd j).1]? =some (.chan 0 #[] false s s false)→
  ON (sd j).1 s j u→∀kk:Nat,((sd j).1=cf∧kk=0∨(sd j).1=cb∧kk=1)→gs'.size=n→(∀g,gs'[j]? =some g→QuitsIn P m g)→(∀i,0 < i→i≠j→gs'[i]? =gs[i]?)→gs'[0]? =some (Gr (fr.finish (commResult #[rcase cf z1,rcase cb z2] .select kk (sd j).2 true)) cs)→
  Gd (crowd gs' ((w.at d).setChan (sd j).1 0 #[] false (s+1) (s+1) false) sl) (t++u):=by
  intro w ws k A Z gs gs' t sl g0 Iv hS j m s d u hj hjn hq hcs hu kk hkk hsz hgj hgi hg0
  have hc:(sd j).1=cf∨(sd j).1=cb:=hkk.imp (·.1) (·.1)
  refine h j hj hjn ((hS.pend j hj hjn).2 hq) kk hkk _ (upd ws j .quit) (upd k j m) A Z gs' _ sl ⟨trivial,hS.rely.trans (yQ (hS.ci.chanA _ hc 0) d),fun i hi0 hin=>?_,hS.ci.comm hj hjn hc hcs hu hsz hgj hgi,hg0⟩
  by_cases e:i=j
  ·
   subst e;rw [gK,gK];simp
  ·
   rw [fh e,fh e];exact hS.pend i hi0 hin
 refine xB hnx fun w ws k A Z gs t sl hS d0 sl0 hst=>?_
 have hcf:=hS.ci.chans cf (.inl rfl)
 have hcb:=hS.ci.chans cb (.inr rfl)
 obtain⟨s1,hcf⟩:=hcf
 obtain⟨s2,hcb⟩:=hcb
 have hcase:∀(kk:Nat) (cc:CommCase),(#[rcase cf z1,rcase cb z2]:Array CommCase)[kk]? =some cc→(kk=0∧cc=rcase cf z1)∨(kk=1∧cc=rcase cb z2):=fun kk cc hk=>by
  match kk,hk with
  |0,hk=>exact .inl ⟨rfl,by simpa using hk.symm⟩
  |1,hk=>exact .inr ⟨rfl,by simpa using hk.symm⟩
  |kk+2,hk=>simp at hk
 have hsz0:0 < gs.size:=(Array.getElem?_eq_some_iff.1 hS.head).1
 by_cases hpk:∃i,0 < i∧i < n∧ws i= .park
 ·
  obtain⟨i,hi,hin,hws⟩:=hpk;have hil:i < gs.size:=by rw [hS.ci.size];exact hin
  have hgi:gs[i]? =some gs[i]:=Array.getElem?_eq_getElem hil;have hs:=hS.ci.sts i _ hi hgi;rw [hws] at hs;obtain⟨gi,zi,egi,_⟩:=hs;rw [egi] at hgi
  have hpar:∀c,(sd i).1=c→partners (gs.setIfInBounds 0 ph) c true≠[]:=fun c hc e=>by
   have:(i,0)∈partners (gs.setIfInBounds 0 ph) c true:=mem_partners.2 ⟨_,stand_get (by omega) hgi,by rw [offersAt_parked_send,if_pos hc];simp⟩;rw [e] at this;cases this
  have hways:∀c z s,w.heap[c]? =some (.chan 0 #[] false s s false)→ways w (gs.setIfInBounds 0 ph) (rcase c z)=(partners (gs.setIfInBounds 0 ph) c true).map fun(h,k)=>Way.partner h k:=fun c z s hc=>by
   cases hp:partners (gs.setIfInBounds 0 ph) c true with
   |nil=>simp [ways,rcase,hc,hp]
   |cons p ps=>simp [ways,rcase,hc,hp]
  obtain⟨kk,c,z,j,gj,vj,zj,s,d,e1,e2,e3,e4,e5⟩:=GV (sl:=sl) hS.head (by exact hsel w) (any_ill fun cc hcc=>by
   have:cc=rcase cf z1∨cc=rcase cb z2:=by simpa using hcc
   rcases this with rfl |rfl
   ·exact made_recv _ hcf
   ·exact made_recv _ hcb)
   (by
    rcases hS.ci.chn i (by rw [hws];simp) with hc |hc
    ·refine⟨0,rcase cf z1,rfl,?_⟩;rw [hways _ _ _ hcf];simpa using hpar cf hc
    ·refine⟨1,rcase cb z2,rfl,?_⟩;rw [hways _ _ _ hcb];simpa using hpar cb hc)
   (fun kk cc way hk hw=>by
    have key:∀c z s,w.heap[c]? =some (.chan 0 #[] false s s false)→way∈ways w (gs.setIfInBounds 0 ph) (rcase c z)→∃c' z' j gj vj zj s,rcase c z=rcase c' z'∧way= .partner j 0∧w.heap[c']? =some (.chan 0 #[] false s s false)∧j≠0∧gs[j]? =some (parked gj #[scase c' vj zj] .send):=fun c z s hc hw=>by
     rw [hways c z s hc] at hw;obtain⟨⟨j,kk⟩,hm,rfl⟩:=List.mem_map.1 hw;obtain⟨rfl,hj,_,_,rfl,gj,zj,hg,_⟩:=hS.ci.offers hm;exact⟨_,z,j,gj,_,zj,s,rfl,rfl,hc,by omega,hg⟩
    rcases hcase kk cc hk with⟨_,rfl⟩ |⟨_,rfl⟩
    ·exact key _ _ _ hcf hw
    ·exact key _ _ _ hcb hw)
  rw [←hst] at e5;refine hnx _ _ _ _ e5 ?_;rw [ofEvents_none,Array.empty_append];have hj0:0 < j:=by omega
  have hjn:j < n:=by have:=(Array.getElem?_eq_some_iff.1 e4).1;rw [hS.ci.size] at this;exact this
  have hs:=hS.ci.sts j _ hj0 e4
  have hwsj:ws j= .park:=by
   cases hw:ws j with
   |run=>rw [hw] at hs;obtain⟨fr1,cs1,e,_⟩:=hs;cases e
   |park=>rfl
   |quit=>rw [hw] at hs;rcases QuitsIn.status hs with h |h <;> cases h
  rw [hwsj] at hs;obtain⟨g0,z',eg,hq⟩:=hs;obtain⟨rfl,rfl⟩:=AM eg
  have hkk:(sd j).1=cf∧kk=0∨(sd j).1=cb∧kk=1:=by
   rcases hcase kk _ e1 with⟨h1,h2⟩ |⟨h1,h2⟩
   ·left;simp only [rcase,CommCase.mk.injEq,Value.chan.injEq,Option.some.injEq] at h2;exact⟨h2.1,h1⟩
   ·right;simp only [rcase,CommCase.mk.injEq,Value.chan.injEq,Option.some.injEq] at h2;exact⟨h2.1,h1⟩
  refine after w ws k A Z gs _ t sl _ _ hS j (k j) s d _ hj0 hjn (by rw [hwsj];simp) e2 ⟨_,_,_,_,rfl,⟨rfl,rfl⟩,⟨rfl,rfl⟩,⟨rfl,rfl⟩,⟨rfl,rfl⟩⟩ kk hkk (by simp [hS.ci.size]) (fun g hg=>?_) (fun i' hi' hne=>?_) ?_
  ·rw [Array.getElem?_setIfInBounds_ne (by omega),Array.getElem?_setIfInBounds_self_of_lt (by rw [hS.ci.size];exact hjn)] at hg;cases hg;rw [finishComm_send,xQ eg];exact hq
  ·rw [Array.getElem?_setIfInBounds_ne (by omega),Array.getElem?_setIfInBounds_ne (fun e=>hne e.symm)]
  ·rw [Array.getElem?_setIfInBounds_self_of_lt (by simpa using hsz0),Ba]
 ·
  have hno:∀i,0 < i→i < n→ws i≠.park:=fun i h1 h2 h3=>hpk ⟨i,h1,h2,h3⟩
  have hnil:∀c,partners (gs.setIfInBounds 0 ph) c true=[]:=fun c=>by
   cases hp:partners (gs.setIfInBounds 0 ph) c true with
   |nil=>rfl
   |cons p ps=>
    obtain⟨j,kk⟩:=p;obtain⟨_,hj,hjn,hw,_⟩:=hS.ci.offers (c:=c) (j:=j) (kk:=kk) (by rw [hp];exact List.mem_cons_self ..);exact absurd hw (hno j hj hjn)
  have hgo:=crowd_waits (sl:=sl) hS.head (by exact hsel w) fun cc hcc=>by
   have:cc=rcase cf z1∨cc=rcase cb z2:=by simpa using hcc
   rcases this with rfl |rfl
   ·exact ways_recv_none hcf (hnil _)
   ·exact ways_recv_none hcb (hnil _)
  rw [←hst] at hgo;refine hnx _ _ _ _ hgo ?_;rw [ofEvents_none,Array.append_empty]
  refine BB (P:=P) (cf:=cf) (cb:=cb) (sd:=sd) (n:=n) (pe:=pe) (Iv:=fun ws=>∀i,0 < i→i < n→ws i≠.park) (v:=v) (g0:=parked (Gr fr cs) #[rcase cf z1,rcase cb z2] .select) hnx (.inr rfl)
   (fun w g g' hch=>?_) (fun w ws k A Z gs t hS=>?_) (fun hr=>by cases hr) (fun w ws k A Z gs t sl i fr1 cs1 hS hp hi hws hsn _ d sl0 hst=>?_) w ws k A Z _ t sl
   ⟨hno,hS.rely,hS.pend,hS.ci.head _,Array.getElem?_setIfInBounds_self_of_lt hsz0⟩
  ·unfold Conc.woken;split
   ·refine again_all_open fun cc hcc=>?_;have:cc=rcase cf z1∨cc=rcase cb z2:=by simpa using hcc
    rcases this with rfl |rfl
    ·obtain⟨s,hs⟩:=hch cf (.inl rfl);exact⟨_,_,_,_,_,_,_,rfl,hs⟩
    ·obtain⟨s,hs⟩:=hch cb (.inr rfl);exact⟨_,_,_,_,_,_,_,rfl,hs⟩
   ·rfl
  ·obtain⟨i,hi,hin,hpi⟩:=hpe;have hil:i < gs.size:=by rw [hS.ci.size];exact hin
   have hgi:gs[i]? =some gs[i]:=Array.getElem?_eq_getElem hil;have hs:=hS.ci.sts i _ hi hgi;cases hws:ws i with
   |run=>
    rw [hws] at hs;obtain⟨fr1,cs1,e,_⟩:=hs;exact⟨i,_,hgi,by rw [e]⟩
   |park=>exact absurd hws (hS.iv i hi hin)
   |quit=>exact absurd hws ((hS.pend i hi hin).1 hpi)
  ·obtain⟨g2,z,es,m,h1,h2,h3⟩:=hsn;have hin:i < n:=by have:=(Array.getElem?_eq_some_iff.1 hi).1;rw [hS.ci.size] at this;exact this
   have hi0:(i == 0)=false:=by simp;omega
   have hcc:=hS.ci.chn i (by rw [hws];simp);obtain⟨s,hc⟩:=hS.ci.chans _ hcc;have hs00:0 < gs.size:=(Array.getElem?_eq_some_iff.1 hS.head).1
   obtain⟨kk,zj,hk,hkk⟩:∃(kk:Nat) (zj:Value),(#[rcase cf z1,rcase cb z2]:Array CommCase)[kk]? =some (rcase (sd i).1 zj)∧((sd i).1=cf∧kk=0∨(sd i).1=cb∧kk=1):=by
    rcases hcc with e |e
    ·exact⟨0,z1,by rw [e];rfl,.inl ⟨e,rfl⟩⟩
    ·exact⟨1,z2,by rw [e];rfl,.inr ⟨e,rfl⟩⟩
   have hu:∀(mm:Nat) (cc:CommCase),mm≠kk→(#[rcase cf z1,rcase cb z2]:Array CommCase)[mm]? =some cc→cc.chan≠.chan (some (sd i).1):=fun mm cc hne hm e=>by
    rcases hcase mm cc hm with⟨rfl,rfl⟩ |⟨rfl,rfl⟩ <;> rcases hkk with⟨q1,q2⟩ |⟨q1,q2⟩
    ·exact hne q2.symm
    ·simp only [rcase,Value.chan.injEq,Option.some.injEq] at e;exact hcfb (e.trans q1)
    ·simp only [rcase,Value.chan.injEq,Option.some.injEq] at e;exact hcfb (q1.symm.trans e.symm)
    ·exact hne q2.symm
   have hpart:partners (gs.setIfInBounds i ph) (sd i).1 false=[(0,kk)]:=by
    rw [partners_one (stand_get (by omega) hS.head) (fun j x hj0 hx=>?_),offersAt_parked_at hk hu]
    ·rfl
    ·rcases getElem?_stand gs i j x hx with⟨_,rfl⟩ |⟨_,hx'⟩
     ·exact offersAt_ph _ _
     ·have hsj:=hS.ci.sts j x (by omega) hx';cases hw:ws j with
      |run=>rw [hw] at hsj;obtain⟨fr2,cs2,rfl,_⟩:=hsj;exact offersAt_of_not_blocked (by simp) _ _
      |park=>rw [hw] at hsj;obtain⟨g1,z',rfl,_⟩:=hsj;exact offersAt_parked_send' ..
      |quit=>rw [hw] at hsj;exact offersAt_of_not_blocked (by rcases QuitsIn.status hsj with h |h <;> rw [h] <;> simp) _ _
   have hgo:=crowd_send_meets_sel (sl:=sl) hi (by rw [hi0];exact h1) hc (by omega) hS.head hk hpart;rw [←hst] at hgo;refine hnx _ _ _ _ hgo ?_;rw [←Array.append_assoc];have hSe:Sc P cf cb sd n pe (fun ws=>∀i,0 < i→i < n→ws i≠.park) v (parked (Gr fr cs) #[rcase cf z1,rcase cb z2] .select) w ws k A Z gs (t++MemOp.ofEvents i fr1.fn fr1.place es):=⟨hS.iv,hS.rely,hS.pend,hS.ci.evs hin (fun _=>by rw [hws];simp) h2,hS.head⟩;refine after w ws k A Z gs _ _ sl _ _ hSe i m s w.drawn _ hp hin (by rw [hws];simp) hc ⟨_,_,_,_,rfl,⟨rfl,rfl⟩,⟨rfl,rfl⟩,⟨rfl,rfl⟩,⟨rfl,rfl⟩⟩ kk hkk (by simp [hS.ci.size]) (fun g hg=>?_) (fun i' hi' hne=>?_) ?_
   ·rw [Array.getElem?_setIfInBounds_self_of_lt (by simpa [hS.ci.size] using hin)] at hg;cases hg;rw [finishComm_send];exact h3
   ·rw [Array.getElem?_setIfInBounds_ne (fun e=>hne e.symm),Array.getElem?_setIfInBounds_ne (by omega)]
   ·rw [Array.getElem?_setIfInBounds_ne (by omega),Array.getElem?_setIfInBounds_self_of_lt hs00,Ba]
end
section
variable {P:Program}{cf cb:Nat}{sd:Nat→Nat×Value}{n:Nat}{pe:Nat→Prop}{Gd:Machine→Trace→Prop}{T:Tq}
theorem IS{v:VW}{fr:Frame}{cs:List Frame}{gs:Array Goroutine}{sl:Option (Nat×Nat)}{t:Trace}{k:Nat→Nat}(hA:∀b,v.A b→b < v.heap.size)(hZ:∀b,v.Z b→b < v.heap.size)
 (hch:∀c,c=cf∨c=cb→∃s,v.heap[c]? =some (.chan 0 #[] false s s false)) (h0:gs[0]? =some (Gr fr cs)) (hq:Ab P gs k) (ht:Tr gs.size v.heap.size t) (hk:kj t 0)
 (h:TC P cf cb sd gs.size (fun _=>False) Gd ⟨v.toWorld,fun b=>v.A b∨b=cf∨b=cb,v.Z⟩ fr cs):Gd (crowd gs v.toWorld sl) t:=by
 have hlt:∀c,c=cf∨c=cb→c < v.heap.size:=fun c hc=>by
  obtain⟨s,hs⟩:=hch c hc;exact(Array.getElem?_eq_some_iff.1 hs).1
 refine h v.toWorld (fun _=>.quit) k (fun i b=>if i=0 then v.A b∨b=cf∨b=cb else b < v.heap.size) (fun i b=>if i=0 then v.Z b else False) gs t sl
  ⟨trivial,by simp only [if_true];exact de.refl _,fun i _ _=>by simp,⟨rfl,ht,fun i b hb=>?_,fun i b hb=>?_,fun i j b _ _ hne hb h1 h2=>?_,fun i j x b _ ha hx _ _ _=>?_,fun j op x hop hx=>.inl (hk j x (by rw [touchAt_of hop];exact hx)),fun i g hi hg=>hq i g hi hg,hch,fun c hc i=>?_,fun i hi=>absurd rfl hi⟩,h0⟩
 ·
  split at hb
  ·exact hb.elim (hA b) fun e=>hlt b e
  ·exact hb
 ·
  split at hb
  ·exact hZ b hb
  ·exact hb.elim
 ·
  exfalso;by_cases e:i=0
  ·by_cases e':j=0
   ·exact hne (e.trans e'.symm)
   ·rw [if_neg e'] at h2;exact h2 hb
  ·rw [if_neg e] at h1;exact h1 hb
 ·
  rcases ha with rfl |ha
  ·exact hk j x hx
  ·exact absurd rfl ha
 ·
  show(if i=0 then _ else _);split
  ·exact .inr hc
  ·exact hlt c hc
theorem TC.fin(hbc:BC P T)(hG:Gl P T Gd)(hpe:∀i,0 < i→i < n→¬pe i){v:VW}{fr:Frame}{cs:List Frame}{Z0:Nat→Prop}(h:T ⟨v.toWorld,v.A,Z0⟩ fr cs):TC P cf cb sd n pe Gd v fr cs:=by
 intro w ws k A Z gs t sl hS;have hr:=hS.rely;have hT:T ⟨w,A 0,Z0⟩ fr cs:=hbc.rely ⟨v.toWorld,v.A,Z0⟩ ⟨w,A 0,Z0⟩ _ _ ⟨hr.keep,hr.size,hr.sub,hr.old,hr.dom,rfl,hr.os,hr.tape,hr.output⟩ h
 have hquit:∀i,0 < i→i < n→ws i= .quit:=fun i h1 h2=>by
  have:=hS.pend i h1 h2;cases hw:ws i with
  |quit=>rfl
  |run=>rw [hw] at this;exact absurd (this.2 (by simp)) (hpe i h1 h2)
  |park=>rw [hw] at this;exact absurd (this.2 (by simp)) (hpe i h1 h2)
 refine hG.fin _ _ _ hT gs sl t k hS.head (fun i g hi hg=>?_) (by rw [hS.ci.size];exact hS.ci.tr) fun j x hx=>?_
 ·have hin:i < n:=by have:=(Array.getElem?_eq_some_iff.1 hg).1;rw [hS.ci.size] at this;exact this
  have:=hS.ci.sts i g hi hg;rw [hquit i hi hin] at this;exact this
 ·obtain⟨op,hop,hxa⟩:=touch_of hx;rcases hS.ci.kn j op x hop hxa with hk |⟨k1,k2⟩
  ·exact hk
  ·exact absurd (hquit op.g k1 (hS.ci.tr.num op (mem_of_getElem? hop))) k2
theorem TC.spawn(hnx:∀m m' t ops,stepT P m=(.next m',ops)→Gd m' (t++ops)→Gd m t){v:VW}{fr fr' fc:Frame}{cs:List Frame}{Sh:Nat→Prop}(hn:0 < n)
 (hst:∀w0:World,stepG P true (Gr fr cs) w0= .spawn (Gr fr' cs) (Gr fc []) w0 #[])
 (hSh:∀b,Sh b→b < v.heap.size∧¬v.A b) (hch:∀c,c=cf∨c=cb→¬Sh c)
 (hwk:∀v1,de v v1→Wk P (Jt P (sd n).1 (sd n).2) ⟨v1.toWorld,fun b=>b < v1.heap.size∧¬Sh b,Sh⟩ fc []) (hsd:(sd n).1=cf∨(sd n).1=cb)
 (h:TC P cf cb sd (n+1) (upd pe n True) Gd ⟨v.toWorld,v.A,fun b=>v.Z b∨Sh b⟩ fr' cs):TC P cf cb sd n pe Gd v fr cs:=by
 refine xB hnx fun w ws k A Z gs t sl hS d0 sl0 hst0=>?_
 have hci:=hS.ci
 have hgo:=runT_crowd_spawn (sl:=sl) hS.head (by exact hst w)
 rw [←hst0] at hgo
 refine hnx _ _ _ _ hgo ?_
 rw [ofEvents_none]
 have hr:=hS.rely
 have hszn:gs.size=n:=hci.size
 have hA0:∀b,Sh b→b < w.heap.size∧¬A 0 b:=fun b hb=>by
  obtain⟨h1,h2⟩:=hSh b hb;exact⟨Nat.lt_of_lt_of_le h1 hr.size,fun ha=>(hr.old b ha).elim h2 fun x=>by omega⟩
 let x:MemOp:={ g:=0,fn:=fr.fn,pos:=fr.place,act:=.go gs.size }
 let y:MemOp:={ g:=gs.size,fn:=fc.fn,pos:=fr.place,act:=.start }
 have hops:t++((#[]:Array MemOp).push x |>.push y)=t++ #[x,y]:=rfl
 have e2:t++ #[x,y]=t++ #[x]++ #[y]:=by apply Array.ext';simp
 have hnt:∀op∈(#[x,y]:Array MemOp),op.act.touch? =none:=fun op ho=>by
  simp at ho;rcases ho with rfl |rfl <;> rfl
 have hold:∀{j:Nat} {op:MemOp} {z:Touch},(t++ #[x,y])[j]? =some op→op.act.touch? =some z→t[j]? =some op:=fun {j op z} ho hx=>by
  rcases getElem?_append_cases ho with⟨_,h'⟩ |⟨_,h'⟩
  ·exact h'
  ·rw [hnt op h'] at hx;cases hx
 have htr:Tr (n+1) w.heap.size (t++ #[x,y]):=by
  rw [e2];refine oO (oO (hci.tr.mono (Nat.le_succ n)) (Nat.succ_pos n) rfl (fun m=>by simp [x])) ?_ rfl (fun m=>by simp [y]);show gs.size < n+1;omega
 have hws:∀i,i≠n→upd ws n .run i=ws i:=fun i hi=>fh hi
 refine h w (upd ws n .run) k (upd A n fun b=>b < w.heap.size∧¬Sh b) (fun i b=>if i=n then Sh b else if i=0 then Z 0 b∨Sh b else Z i b) ((gs.setIfInBounds 0 (Gr fr' cs)).push (Gr fc [])) (t++ #[x,y]) sl ⟨trivial,?_,fun i hi hin=>?_,⟨by simp [hszn],htr,fun i b hb=>?_,fun i b hb=>?_,fun i j b hi hj hne hb h1 h2=>?_,fun i j z b hi ha hx hb hA hZ=>?_,fun j op z hop hz=>?_,fun i g hi hg=>?_,hci.chans,fun c hc i=>?_,fun i hi=>?_⟩,?_⟩
 ·
  rw [fh (by omega:(0:Nat)≠n)];have hz:Z 0=v.Z:=hr.Z
  have:(fun b=>if 0=n then Sh b else if(0:Nat)=0 then Z 0 b∨Sh b else Z 0 b)=fun b=>v.Z b∨Sh b:=by
   funext b;rw [if_neg (by omega),if_pos rfl,hz]
  rw [this];exact⟨hr.keep,hr.size,hr.sub,hr.old,hr.dom,rfl,hr.os,hr.tape,hr.output⟩
 ·
  by_cases e:i=n
  ·subst e;rw [gK,gK];simp
  ·rw [fh e,fh e];exact hS.pend i hi (by omega)
 ·
  by_cases e:i=n
  ·subst e;rw [gK] at hb;exact hb.1
  ·rw [fh e] at hb;exact hci.domA i b hb
 ·
  split at hb
  ·exact(hA0 b hb).1
  ·split at hb
   ·exact hb.elim (hci.domZ 0 b) fun x=>(hA0 b x).1
   ·exact hci.domZ i b hb
 ·
  have hzn:∀i,i≠n→i < n+1→Sh b→¬A i b→(if i=n then Sh b else if i=0 then Z 0 b∨Sh b else Z i b):=fun i hin hil hs ha=>by
   rw [if_neg hin];split
   ·exact .inr hs
   ·rename_i h0;exact(hci.cover 0 i b hn (by omega) (fun e=>h0 e.symm) hb (hA0 b hs).2 ha).2
  by_cases ei:i=n
  ·subst ei;rw [gK] at h1;have hs:Sh b:=Classical.byContradiction fun x=>h1 ⟨hb,x⟩;rw [fh (fun e=>hne e.symm)] at h2;exact⟨by rw [if_pos rfl];exact hs,hzn j (fun e=>hne e.symm) hj hs h2⟩
  ·by_cases ej:j=n
   ·subst ej;rw [gK] at h2;have hs:Sh b:=Classical.byContradiction fun x=>h2 ⟨hb,x⟩;rw [fh ei] at h1;exact⟨hzn i ei hi hs h1,by rw [if_pos rfl];exact hs⟩
   ·rw [fh ei] at h1;rw [fh ej] at h2;obtain⟨z1,z2⟩:=hci.cover i j b (by omega) (by omega) hne hb h1 h2
    have up:∀i,i≠n→Z i b→(if i=n then Sh b else if i=0 then Z 0 b∨Sh b else Z i b):=fun i hi hz=>by
     rw [if_neg hi];split
     ·rename_i e;subst e;exact .inl hz
     ·exact hz
    exact⟨up i ei z1,up j ej z2⟩
 ·
  obtain⟨op,hop,hxa⟩:=touch_of hx;have ho:=hold hop hxa;have hxo:touchAt t j=some z:=by rw [touchAt_of ho];exact hxa
  by_cases e:i=n
  ·subst e;rw [gK] at hA;rw [if_pos rfl] at hZ;have hgz:y.g=i:=hszn
   have hkn:Knows t 0 j:=by
    by_cases hs:Sh b
    ·rcases hZ with hZ |hZ
     ·exact hci.knows 0 j z b hn (.inl rfl) hxo hb (hA0 b hs).2 (.inl hZ)
     ·exact absurd hs hZ
    ·exact absurd ⟨hci.tr.inb j z b hxo hb,hs⟩ hA
   exact ConcN.fork_knows (x:=x) (y:=y) ⟨rfl,by show MemAct.go gs.size= .go i;rw [hszn]⟩ ⟨hgz,rfl⟩ (hci.tr.words.deaf 0 _) (hci.tr.words.deaf i _) hkn
  ·rw [fh e] at hA;rw [hws i e] at ha;refine(hci.knows i j z b (by omega) ha hxo hb hA (hZ.imp id fun hz hz'=>hz ?_)).app _;rw [if_neg e];split
   ·rename_i e0;subst e0;exact .inl hz'
   ·exact hz'
 ·
  have ho:=hold hop hz;have hg:=hci.tr.num op (mem_of_getElem? ho);rcases hci.kn j op z ho hz with hk |⟨k1,k2⟩
  ·exact .inl (hk.app _)
  ·exact .inr ⟨k1,by rw [hws _ (by omega)];exact k2⟩
 ·
  have hgi:i < n+1:=by have:=(Array.getElem?_eq_some_iff.1 hg).1;simp [hszn] at this;omega
  by_cases e:i=n
  ·subst e
   have:g=Gr fc []:=by
    rw [Array.getElem?_push] at hg;simpa [hszn] using hg.symm
   subst this;have hwkk:=hwk _ hS.rely;have e1:upd ws i .run i= .run:=gK;rw [e1,gK];have hz:(fun b=>if i=i then Sh b else if i=0 then Z 0 b∨Sh b else Z i b)=Sh:=by funext b;rw [if_pos rfl]
   rw [hz];exact⟨fc,[],rfl,hwkk⟩
  ·have hg':gs[i]? =some g:=by
    rw [Array.getElem?_push] at hg;rw [if_neg (by simp [hszn];exact e)] at hg;rwa [Array.getElem?_setIfInBounds_ne (by omega)] at hg
   have hs:=hci.sts i g hi hg';rw [hws i e,fh e]
   have hzz:(fun b=>if i=n then Sh b else if i=0 then Z 0 b∨Sh b else Z i b)=Z i:=by
    funext b;rw [if_neg e,if_neg (by omega)]
   rw [hzz];exact hs
 ·
  by_cases e:i=n
  ·subst e;rw [gK];exact⟨hci.domA 0 c (hci.chanA c hc 0),hch c hc⟩
  ·rw [fh e];exact hci.chanA c hc i
 ·
  by_cases e:i=n
  ·subst e;exact hsd
  ·rw [hws i e] at hi;exact hci.chn i hi
 ·
  rw [Array.getElem?_push,if_neg (by simp [hszn];omega)];exact Array.getElem?_setIfInBounds_self_of_lt (by rw [hszn];exact hn)
end
theorem qa{P:Program}{fn:FuncId}:seen P fn #[]= #[]:=by simp [seen]
theorem wQ{b:Frame}:(if b.kind == .early then(#[]:Array Event) else #[])= #[]:=by split <;> rfl
section
variable {P:Program}{main:Bool}{b:Frame}{a:Act}{k:List Item}{cs:List Frame}{ops:Array Oper}{i:Nat}{rest:List Nat}{o:Oper}{w:World}
theorem M4{ch x:Operand}{c:Nat}(ho:ops[i]? =some o)(hw:Region.wanted o (yielded ops a.tmps)=true)(hop:o.op= .send ch x)(hc:a.eval ch= .chan (some c)):
 stepG P main (Gr (b.atR a (.inRegion ops (i::rest)::k)) cs) w= .comm (Gr (b.atR a (.inRegion ops (i::rest)::k)) cs) #[scase c (a.eval x) (.tuple #[])] true .send w #[]:=by
 have he:execOp a.eval o=pure (.comm #[scase c (a.eval x) (.tuple #[])] true .send):=by
  unfold execOp;rw [hop];simp [hc,scase]
 have hT:(pure (Next.comm #[scase c (a.eval x) (.tuple #[])] true .send):Sem Next).runT P w #[]=(.ok (.comm #[scase c (a.eval x) (.tuple #[])] true .send) w, #[]):=rfl
 rw [ye ho hw,Oper.semAt_eq _ _ _ (by simp [hop]),he]
 simp only [stepG.apply,if_true,hT,wQ,qa,GStep.after,Array.append_empty]
def ia(P:Program)(d:Deferred):Frame:={ (default:Frame) with fn:=P.funcs.size,defers:=[d],mode:=.panicking [goexitEntry] }
theorem Pg{cl:Call}{s g:Nat}{cap:Array Value}{ts:Array TypeId}(ho:ops[i]? =some o)(hw:Region.wanted o (yielded ops a.tmps)=true)(hop:o.op= .go cl)(hcl:cl={ callee:=.value (.tmp s),args:= #[],argTypes:=ts })
 (hv:a.eval (.tmp s)= .func (.func g) #[] cap):
 stepG P main (Gr (b.atR a (.inRegion ops (i::rest)::k)) cs) w= .spawn (Gr (b.atR (a.put o.dst undef) (.inRegion ops rest::k)) cs) (Gr (ia P { target:=.fn (.func g) cap,args:= #[] }) []) w #[]:=by
 have he:execOp a.eval o=pure (.spawn { target:=.fn (.func g) cap,args:= #[] }):=by
  unfold execOp;rw [hop,hcl];simp [resolve,hv,Deferred.ofValue]
 have hT:(pure (Next.spawn { target:=.fn (.func g) cap,args:= #[] }):Sem Next).runT P w #[]=(.ok (.spawn { target:=.fn (.func g) cap,args:= #[] }) w, #[]):=rfl
 have hfin:(b.atR a (.inRegion ops (i::rest)::k)).finish undef=b.atR (a.put o.dst undef) (.inRegion ops rest::k):=by rw [Frame.finish_atR,ho];rfl
 rw [ye ho hw,Oper.semAt_eq _ _ _ (by simp [hop]),he]
 simp only [stepG.apply,if_true,hT,wQ,qa,GStep.after,hfin]
 simp [ia]
theorem zM{g:Nat}{cap:Array Value}(hen:an P g):stepG P main (Gr (ia P { target:=.fn (.func g) cap,args:= #[] }) []) w= .go (Gr (Frame.enter P g cap .deferred) [{ ia P { target:=.fn (.func g) cap,args:= #[] } with defers:=[] }]) w #[]:=by
 have hi:invoke (.fn (.func g) cap) #[]=callFunc g cap:=by simp [invoke]
 simp only [stepG,ia,unwind,callDeferred,hi,pz hen,GStep.after,Array.append_empty,qa];rfl
theorem CY{d:Deferred}:QuitsIn P 1 (Gr { ia P d with defers:=[] } []):=by
 refine .inr ⟨rfl,{ Gr { ia P d with defers:=[] } [] with status:=.finished },fun w=>?_,rfl⟩
 have hc:({ ia P d with defers:=[] }:Frame).catches P=false:=by
  simp [Frame.catches,ia];rfl
 simp [stepG,unwind,ia,goexitEntry] at hc⊢;simp [Frame.catches];rfl
theorem AK{d:Deferred}{fn:Func}(hb:b.kind= .deferred)(hro:b.roundOf=none)(hf:P.funcs[b.fn]? =some fn)(hr:fn.results= #[])(ha:a.defers=[]):QuitsIn P 4 (Gr (b.atR a (.inRegion ops []::[])) [{ ia P d with defers:=[] }]):=by
 refine .inr ⟨rfl,_,fun w=>mK,.inr ⟨rfl,_,fun w=>Bl hro,.inr ⟨rfl,_,fun w=>?_,CY (d:=d)⟩⟩⟩
 have hres:(results fn a.tmps).runT P w #[]=(.ok (.tuple #[]) w, #[]):=by
  simp [results,hr]
 simp only [stepG,Frame.atR,unwind,ha,hf,hres,doReturn,hb,GStep.after,Array.append_empty,qa,ia,goexitEntry]
theorem AB{x:Value}:Conc.served (Gr (b.atR a (.inRegion ops (i::rest)::k)) cs) x=Gr (b.atR (a.put ((ops[i]?).bind (·.dst)) x) (.inRegion ops rest::k)) cs:=by
 simp only [Conc.served,Frame.finish_atR]
theorem Ia{cf cb:Nat}{x1 x2:Operand}{T1 T2:TypeId}{z1 z2:Value}(ho:ops[i]? =some o)(hw:Region.wanted o (yielded ops a.tmps)=true)(hop:o.op= .select #[{ chan:=x1,send:=none,elem:=T1 },{ chan:=x2,send:=none,elem:=T2 }] true)
 (h1:a.eval x1= .chan (some cf)) (h2:a.eval x2= .chan (some cb)) (hz1:∀w:World,(zeroValue T1).runT P w #[]=(.ok z1 w, #[])) (hz2:∀w:World,(zeroValue T2).runT P w #[]=(.ok z2 w, #[])):
 stepG P main (Gr (b.atR a (.inRegion ops (i::rest)::k)) cs) w= .comm (Gr (b.atR a (.inRegion ops (i::rest)::k)) cs) #[rcase cf z1,rcase cb z2] true .select w #[]:=by
 have hT:(execOp a.eval o).runT P w #[]=(.ok (.comm #[rcase cf z1,rcase cb z2] true .select) w, #[]):=by
  have r1:(zeroValue T1).run P w= .ok z1 w:=by rw [←Sem.runT_fst P _ _ #[],hz1]
  have r2:(zeroValue T2).run P w= .ok z2 w:=by rw [←Sem.runT_fst P _ _ #[],hz2]
  have e1:(zeroValue T1).events P w #[]= #[]:=by unfold Sem.events;rw [hz1]
  unfold execOp;rw [hop];simp [r1,r2,e1,h1,h2,rcase,Array.mapM_eq_mapM_toList]
 rw [ye ho hw,Oper.semAt_eq _ _ _ (by simp [hop])]
 simp only [stepG.apply,if_true,hT,wQ,qa,GStep.after,Array.append_empty]
end
theorem Hi{P:Program}{M:Md P}{rd:Option Nat}{Q:Exit→Act→VW→Prop}{K:Act→VW→Prop}{a:Act}{v:VW}{ops:Array Oper}{i:Nat}{rest:List Nat}{o:Oper}(ho:ops[i]? =some o)(hw:Region.wanted o (yielded ops a.tmps)=true)(h:o.wk M rd a v K Q)
 {T:Tq} (hT:M.ok T) {b:Frame} {k:List Item} {cs:List Frame} (hb:b.roundOf=rd) (hK:∀a' v',K a' v'→T v' (b.atR a' (.inRegion ops rest::k)) cs) (hQ:∀ch a' v',Q (.panic ch) a' v'→nT T b k cs (.panic ch) a' v'):
 T v (b.atR a (.inRegion ops (i::rest)::k)) cs:=by
 have B:=M.bc T hT
 subst hb
 refine B.step _ _ _ fun v1 hr=>?_
 obtain⟨hS,hU⟩:=h v1 hr
 generalize hres:(o.semAt b.roundOf a.eval).run P v1.toWorld=r at hU
 cases r with
 |ok x w'=>
  have hG:=hS.ok hres;cases x with
  |value x=>
   obtain⟨es,h1,h2⟩:=zK (b:=b) (k:=k) (cs:=cs) (rest:=rest) ho hw hres;exact⟨_,_,w',es,h2,hG.sub h1,hK _ _ hU⟩
  |skip=>
   obtain⟨es,h1,h2⟩:=Ib (b:=b) (k:=k) (cs:=cs) (rest:=rest) ho hw hres;exact⟨_,_,w',es,h2,hG.sub h1,hK _ _ hU⟩
  |«defer» d=>
   obtain⟨es,h1,h2⟩:=Eo (b:=b) (k:=k) (cs:=cs) (rest:=rest) ho hw hres;exact⟨_,_,w',es,h2,hG.sub h1,hK _ _ hU⟩
  |enter f args=>
   obtain⟨es,h1,h2⟩:=En (b:=b) (k:=k) (cs:=cs) (rest:=rest) ho hw hres;refine⟨_,_,w',es,h2,hG.sub h1,hU T hT _ fun e v' fr q hf hk hl=>?_⟩;cases e with
   |returned x=>
    refine uF B hl hk ?_;have hfin:(b.atR a (.inRegion ops (i::rest)::k)).finish x=b.atR (a.put o.dst x) (.inRegion ops rest::k):=by rw [Frame.finish_atR,ho];rfl
    rw [hfin];exact hK _ _ q
   |panicked chain=>exact vg B hl (by rw [Frame.raise_atR];exact hQ _ _ _ q _)
   |outgrown=>exact q.elim
  |round l f tmps assign body=>
   obtain⟨es,h1,h2⟩:=Ek (b:=b) (k:=k) (cs:=cs) (rest:=rest) ho hw hres;refine⟨_,_,w',es,h2,hG.sub h1,hU T hT _ _ (fun x v' q=>?_) (fun ch v' q=>by rw [Frame.raise_atR];exact hQ _ _ _ q _) (fun v' q=>q)⟩;have hfin:(b.atR a (.inRegion ops (i::rest)::k)).finish x=b.atR (a.put o.dst x) (.inRegion ops rest::k):=by rw [Frame.finish_atR,ho];rfl
   rw [hfin];exact hK _ _ q
  |_=>exact hU.elim
 |halt x w'=>
  have hG:=hS.halt hres;cases x with
  |panic x=>
   obtain⟨es,h1,h2⟩:=Em (b:=b) (k:=k) (cs:=cs) (rest:=rest) ho hw hres;exact⟨_,_,w',es,h2,hG.sub h1,hQ _ _ _ hU _⟩
  |_=>exact hU.elim
def OK(P:Program)(T:TypeId):Prop:=∀w:World,(Instr.makeChan T (.int .i64 0)).runT P w #[]=(.ok (.chan (some w.heap.size)) (w.alloc (.chan 0 #[] false 0 0 false)), #[])
section
variable {P:Program}{M:Md P}{o:Oper}{T:TypeId}
theorem dj(ho:o.op= .makeChan T (.const (.int .i64 0)))(hT:OK P T):bZ M o [] [] (fun z:Nat=>(.eq (.chan (some z)),[.raw z (.chan 0 #[] false 0 0 false)])):=by
 have hnd:nd o.op=true:=by simp only [nd, *]
 refine⟨hnd,fun rd S v a next Q hd _ hO k v1 hr=>?_⟩;rw [Oper.semAt_eq _ _ _ (fun c e=>by rw [e] at hnd;cases hnd)];have h1:=hT v1.toWorld;have r1:(Instr.makeChan T (.int .i64 0)).run P v1= .ok (.chan (some v1.heap.size)) (v1.alloc (.chan 0 #[] false 0 0 false)):=by rw [←Sem.runT_fst P _ _ #[],h1]
 have e1:(Instr.makeChan T (.int .i64 0)).events P v1 #[]= #[]:=by unfold Sem.events;rw [h1]
 have hx:execOp a.eval o=(do pure (.value (←Instr.makeChan T (.int .i64 0))):Sem Next):=by unfold execOp;rw [ho];rfl
 have hrun:(execOp a.eval o).run P v1= .ok (.value (.chan (some v1.heap.size))) (v1.alloc (.chan 0 #[] false 0 0 false)):=by rw [hx];simp [r1]
 have hev:(execOp a.eval o).events P v1 #[]= #[]:=by rw [hx];simp [e1]
 have hd1:∀b,S b→b < v1.heap.size:=fun b hb=>Nat.lt_of_lt_of_le (hd b hb) hr.size;have hO1:=hO.rely hd hr;refine⟨?_,?_⟩
 ·unfold Sg;rw [hrun];refine⟨fun b hb _=>jg v1 _ b hb,by simp,rfl,rfl,rfl,fun e he=>by rw [hev] at he;simp at he⟩
 ·rw [hrun];refine k v1.heap.size S (v1.upd (v1.alloc (.chan 0 #[] false 0 0 false))) _ ((bX.rely hd hr).trans (bX.of (iL (X:=aS []) hd1 _)) fun b hb=>.inl hb) rfl (hO1.alloc hd1 _) fun b hb=>?_;have:v1.heap.size=b:=by simpa [D.foot] using ir.1 hb
  exact .inr (this▸hr.size)
end
section
variable {c:Cx}{Γ:Ga}{F:List D}
theorem Gk{b b2:Nat}{T T2:TypeId}{t:Ty}{x:t.den}{a0:A}(ss:List Nat)(he:sR a0 t x)(hh:pK Γ (.pointer (some ⟨b,0,none⟩)) ss):
 SE c Γ (.obj b T a0:: .obj b2 T2 (.eq (.pointer (some ⟨b,0,none⟩)))::F) (rY Γ (.at t x) ss) (.obj b2 T2 (.at t x)::F):=fun a w h=>by
 obtain⟨h1,h2,S,h3,h4,h5,h6⟩:=h
 obtain⟨cs,q1,q2⟩:=h5.holds _ (List.mem_cons_self ..)
 obtain⟨cs2,p1,p2⟩:=h5.holds (.obj b2 T2 (.eq (.pointer (some ⟨b,0,none⟩)))) (List.mem_cons_of_mem _ (List.mem_cons_self ..))
 have hp:=List.pairwise_cons.1 h5.apart
 have hfe:aS (.obj b T a0:: .obj b2 T2 (.eq (.pointer (some ⟨b,0,none⟩)))::F) b:=⟨_,List.mem_cons_self ..,rfl⟩
 have hown:=h5.own b hfe
 have hK:jZ S w w:=fun _ _=>rfl
 have hat:(A.at t x).holds (fun x=>S x∨x=b) w (.pointer (some ⟨b,0,none⟩)):=by
  have hr:=he.cells q2;have l:=aX t hr;refine⟨b,0,cs.toArray,T,(0,0),rfl,.inr rfl,q1,?_⟩;rw [List.toList_toArray,List.drop_zero,List.take_of_length_le (by omega)];exact eZ (fun _ h=>.inl h) hK t hr
 have hft:∀y,aS (.obj b2 T2 (.at t x)::F) y→aS (.obj b T a0:: .obj b2 T2 (.eq (.pointer (some ⟨b,0,none⟩)))::F) y∧y≠b:=fun y ⟨e,he,hb⟩=>by
  rcases List.mem_cons.1 he with rfl |he
  ·have hy:(D.obj b2 T2 (.eq (.pointer (some ⟨b,0,none⟩)))).foot=some y:=hb;exact⟨⟨_,List.mem_cons_of_mem _ (List.mem_cons_self ..),hy⟩,fun e=>hp.1 _ (List.mem_cons_self ..) b rfl (e▸hy)⟩
  ·exact⟨⟨e,List.mem_cons_of_mem _ (List.mem_cons_of_mem _ he),hb⟩,fun e'=>hp.1 e (List.mem_cons_of_mem _ he) b rfl (e'▸hb)⟩
 refine⟨h1,h2,fun x=>S x∨x=b,⟨fun x hx=>.inl (h3.sub x hx),fun x hx=>?_,fun x hx=>?_,h3.size,h3.keep,h3.os,h3.tape,h3.output,h3.subA,h3.oldA,h3.Z⟩,fun y hy=>h4 y (hft y hy).1,h5.re ⟨fun e he=>?_,fun y hy=>?_,?_⟩ (fun y hy=>(hft y hy).1) (fun x (hx:S x∨x=b)=>hx.imp id fun e=>by rw [e];exact hfe),fun s q hq=>?_⟩
 ·
  rcases hx with hx |hx
  ·exact h3.new x hx
  ·subst hx;exact .inr ((h4 x hfe).symm)
 ·
  rcases hx with hx |hx
  ·exact h3.dom x hx
  ·subst hx;exact hown.2
 ·
  rcases List.mem_cons.1 he with rfl |he
  ·refine⟨cs2,p1,?_⟩;have e2:cs2=[.pointer (some ⟨b,0,none⟩)]:=p2.1;subst e2;exact hat
  ·exact dL (fun _ h=>.inl h) hK e (fun _ _=>rfl) (h5.holds e (List.mem_cons_of_mem _ (List.mem_cons_of_mem _ he)))
 ·
  have h7:=h5.own y (hft y hy).1;exact⟨fun hx=>hx.elim h7.1 (hft y hy).2,h7.2⟩
 ·
  have hp2:=List.pairwise_cons.1 hp.2;exact List.pairwise_cons.2 ⟨fun e he=>hp2.1 e he,hp2.2⟩
 ·
  rcases rf hq with⟨hs,rfl⟩ |hq
  ·have e1:a.tmps.getD s undef= .pointer (some ⟨b,0,none⟩):=h6 s _ (hh.mem hs);rw [e1];exact hat
  ·exact A.mono (fun _ h=>.inl h) hK q (h6 s q hq)
end
@[reducible] def ez(v:VW):VW:=⟨v.toWorld,v.A,fun _=>False⟩
theorem bX.ez{X:Nat→Prop}{S S':FS}{v v':VW}(h:bX X S v S' v'):bX X S (K.ez v) S' (K.ez v'):=⟨h.sub,h.new,h.dom,h.size,h.keep,h.os,h.tape,h.output,h.subA,h.oldA,rfl⟩
end K
end Go.Proofs.YtopgphikdglphaaGreat
