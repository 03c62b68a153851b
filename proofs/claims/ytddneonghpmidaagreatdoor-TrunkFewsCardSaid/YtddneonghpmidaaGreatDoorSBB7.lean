import Derived.Test.YtddneonghpmidaaGreatDoorSBB5
import Derived.Conc.CrowdTrace
import Derived.Conc.CrowdSel
import Derived.Conc.LeavingOf
import Derived.Conc.QuitsD
set_option linter.unusedVariables false
set_option linter.unusedSimpArgs false
namespace Go.Proofs.YtddneonghpmidaaGreatDoor
namespace K
open Go Go.Conc
def blk:Loc→Option Nat
 | .cell a=>some a.block
 | .obj b=>some b
 |_=>none
theorem qc{v:VW}{n b:Nat}{e:Event}(h:oZ v n e)(hb:blk e.loc=some b):b < n∧¬v.A b∧(e.write=true→¬v.Z b):=by
 unfold oZ at h;unfold blk at hb;split at h
 ·rename_i a ha;rw [ha] at hb;cases hb;exact h.2
 ·rename_i r hr;rw [hr] at hb;cases hb;exact h.2
 ·rename_i m hm;rw [hm] at hb;cases hb
 ·exact h.elim
theorem zB{l:Loc}(h:l.isMemory=true):∃b,blk l=some b:=by
 cases l <;> first |exact⟨_,rfl⟩ |cases h
theorem DY{v:VW}{n:Nat}{e:Event}(h:oZ v n e):e.loc≠.mark .disable∧e.loc≠.mark .enable:=by
 unfold oZ at h;constructor <;> (intro he;rw [he] at h;cases h)
structure zS(n z:Nat)(t:Trace):Prop where
 num:∀op∈t,op.g < n
 race:∀said,¬Race said t
 inb:∀j x b,touchAt t j=some x→blk x.loc=some b→b < z
 norel:∀op∈t,∀a,op.act≠.mark (.release a)
theorem t5{v:VW}{n i:Nat}{fn:FuncId}{pos:String}{es:Array Event}(h:∀e∈es,oZ v n e):∀op∈MemOp.ofEvents i fn pos es,op.g=i∧(∀m,op.act= .mark m→Ov m=true)∧(∀x,op.act.touch? =some x→∃e∈es,x=⟨e.loc,e.write,.plain⟩):=by
 intro op hop;unfold MemOp.ofEvents at hop;split at hop
 ·simp at hop
 ·obtain⟨e,he,rfl⟩:=Array.mem_map.1 hop;refine⟨rfl,?_,?_⟩
  ·intro m hm;have h0:=h e he;obtain⟨l,wr,sy⟩:=e;unfold oZ at h0;cases l with
   |cell a=>simp [MemAct.ofEvent] at hm
   |obj b=>
    obtain⟨rfl,_⟩:=h0;cases wr <;> simp [MemAct.ofEvent] at hm
   |mark m'=>
    simp only [MemAct.ofEvent,MemAct.mark.injEq] at hm;subst hm;exact h0
   |_=>exact h0.elim
  ·intro x hx;have h0:=h e he;refine⟨e,he,?_⟩;obtain⟨l,wr,sy⟩:=e;unfold oZ at h0;cases l with
   |cell a=>
    obtain⟨rfl,_⟩:=h0;simpa [MemAct.ofEvent,MemAct.touch?,eq_comm] using hx
   |obj b=>
    obtain⟨rfl,_⟩:=h0;cases wr <;> simpa [MemAct.ofEvent,MemAct.touch?,eq_comm] using hx
   |mark m'=>
    have h0:Ov m'=true:=h0;cases m' <;> first |(cases h0;done) |simp [MemAct.ofEvent,MemAct.touch?] at hx
   |_=>exact h0.elim
theorem zS.mono{n n' z z':Nat}{t:Trace}(h:zS n z t)(hn:n≤n')(hz:z≤z'):zS n' z' t:=⟨fun op ho=>Nat.lt_of_lt_of_le (h.num op ho) hn,h.race,fun j x b hx hb=>Nat.lt_of_lt_of_le (h.inb j x b hx hb) hz,h.norel⟩
theorem zS.app{n z k i:Nat}{t u:Trace}(h:zS n z t)(hz:z≤k)(hi:i < n)(hg:∀op∈u,op.g=i)(hb:∀op∈u,∀x,op.act.touch? =some x→∀b,blk x.loc=some b→b < k)(hr:∀op∈u,∀a,op.act≠.mark (.release a))
 (hk:∀j x,touchAt t j=some x→∀op∈u,∀y,op.act.touch? =some y→∀said,x.conflicts said y→Knows t i j):zS n k (t++u):=by
 refine⟨fun op hop=>?_,fun said=>noRace_append (g:=i) (h.race said) hg fun j x hx op hop y hy hc=>hk j x hx op hop y hy said hc,fun j x b hx hbl=>?_,fun op hop=>?_⟩
 ·
  rcases Array.mem_append.1 hop with hop |hop
  ·exact h.num op hop
  ·rw [hg op hop];exact hi
 ·
  obtain⟨op,hop,hxa⟩:=touch_of hx;rcases getElem?_append_cases hop with⟨_,hop'⟩ |⟨_,hu⟩
  ·exact Nat.lt_of_lt_of_le (h.inb j x b (by rw [touchAt_of hop'];exact hxa) hbl) hz
  ·exact hb op hu x hxa b hbl
 ·
  rcases Array.mem_append.1 hop with hop |hop
  ·exact h.norel op hop
  ·exact hr op hop
theorem zS.step{v:VW}{n k i z:Nat}{t:Trace}{fn:FuncId}{pos:String}{es:Array Event}(h:zS n z t)(hz:z≤k)(hi:i < n)(he:∀e∈es,oZ v k e)
 (hk:∀j x,touchAt t j=some x→∀e∈es,x.loc=e.loc→x.loc.isMemory=true→(x.write=true∨e.write=true)→Knows t i j):zS n k (t++MemOp.ofEvents i fn pos es):=by
 have ho:=t5 (i:=i) (fn:=fn) (pos:=pos) he
 refine h.app hz hi (fun op hop=>(ho op hop).1) (fun op hop x hx b hb=>?_) (fun op hop a e=>?_) fun j x hx op hop y hy said hc=>?_
 ·
  obtain⟨e,hem,rfl⟩:=(ho op hop).2.2 x hx;exact(qc (he e hem) hb).1
 ·
  have:=(ho op hop).2.1 _ e;cases this
 ·
  obtain⟨e,hem,rfl⟩:=(ho op hop).2.2 y hy;obtain⟨c1,c2,c3,_⟩:=hc;exact hk j x hx e hem c1 c2 (by simpa using c3)
theorem q7{v:VW}{n i g:Nat}{t:Trace}{fn:FuncId}{pos:String}{es:Array Event}(he:∀e∈es,oZ v n e):Deaf (t++MemOp.ofEvents i fn pos es) g=Deaf t g:=by
 by_cases h:i=g
 ·subst h;rw [Deaf_own];unfold deafBehind;obtain⟨l⟩:=es;simp only [List.foldl_toArray'];generalize Deaf t i=d
  induction l generalizing d with
  |nil=>rfl
  |cons e l ih=>
   have h1:=DY (he e (by simp));rw [List.foldl_cons]
   have:(match e.loc with | .mark .disable=>d+1 | .mark .enable=>d - 1 |_=>d)=d:=by
    split
    ·rename_i e';exact absurd e' h1.1
    ·rename_i e';exact absurd e' h1.2
    ·rfl
   exact(congrArg (fun d=>List.foldl (fun d (e:Event)=>match e.loc with | .mark .disable=>d+1 | .mark .enable=>d - 1 |_=>d) d l) this).trans (ih (fun e he'=>he e (by simp at he'⊢;exact .inr he')) d)
 ·exact Deaf_other t h _ fun op hop=>(t5 he op hop).1
theorem je{t u:Trace}{j:Nat}(hj:j < t.size):(t++u).counts j↔t.counts j:=by
 unfold Trace.counts;rw [show(t++u).act? j=t.act? j by simp only [Trace.act?,getElem?_append_old hj],heard_old hj]
structure KA(A:Nat→Prop)(t:Trace):Prop where
 own:∀j x b,touchAt t j=some x→blk x.loc=some b→¬A b→Knows t 0 j
 cnt:∀j,t.counts j→Knows t 0 j
theorem KA.mono{A A':Nat→Prop}{t:Trace}(h:KA A t)(hA:∀b,A b→A' b):KA A' t:=⟨fun j x b hx hb ha=>h.own j x b hx hb fun x=>ha (hA b x),h.cnt⟩
theorem KA.app{A:Nat→Prop}{t u:Trace}(h:KA A t)(hu:∀op∈u,op.g=0):KA A (t++u):=by
 refine⟨fun j x b hx hb ha=>?_,fun j hj=>?_⟩
 ·obtain⟨op,hop,hxa⟩:=touch_of hx;rcases getElem?_append_cases hop with⟨_,hop'⟩ |⟨_,hm⟩
  ·exact(h.own j x b (by rw [touchAt_of hop'];exact hxa) hb ha).app _
  ·have:=knows_own hop;rwa [hu op hm] at this
 ·obtain⟨x,hx,_⟩:=id hj;obtain⟨op,hop,_⟩:=touch_of hx;rcases getElem?_append_cases hop with⟨hlt,_⟩ |⟨_,hm⟩
  ·exact(h.cnt j ((je hlt).1 hj)).app _
  ·have:=knows_own hop;rwa [hu op hm] at this
section
variable (P:Program)(Post:Value→World→Prop)
def xw(m:Machine)(t:Trace):Prop:=∃n last o w' t',runNT P (n+1) m t=(.ended o w',t')∧runN P n m= .next last∧step P last= .ended o w'∧Conc.Good P Post last o w' t'
variable {P Post}
theorem xw.next{m m':Machine}{t:Trace}{ops:Array MemOp}(hs:stepT P m=(.next m',ops))(h:xw P Post m' (t++ops)):xw P Post m t:=by
 obtain⟨n,last,o,w',t',h1,h2,h3,h4⟩:=h;exact⟨n+1,last,o,w',t',by rw [runNT_succ_next hs];exact h1,by rw [runN_succ_next hs];exact h2,h3,h4⟩
end
def aS(k:Nat→Nat):Nat→Nat
 |0=>0
 |n+1=>aS k n+k n
def upd{α:Type}(f:Nat→α)(i:Nat)(x:α):Nat→α:=fun j=>if j=i then x else f j
theorem dQ{α:Type}{f:Nat→α}{i:Nat}{x:α}:upd f i x i=x:=if_pos rfl
theorem dC{α:Type}{f:Nat→α}{i j:Nat}{x:α}(h:j≠i):upd f i x j=f j:=if_neg h
theorem kM{k k':Nat→Nat}:∀{n:Nat},(∀j,j < n→k' j=k j)→aS k' n=aS k n
 |0,_=>rfl
 |n+1,h=>by
  simp only [aS]
  rw [kM fun j hj=>h j (by omega),h n (by omega)]
theorem pX{k:Nat→Nat}{i x:Nat}:∀{n:Nat},i < n→aS (upd k i x) n+k i=aS k n+x
 |n+1,h=>by
  simp only [aS]
  by_cases e:i=n
  ·
   subst e
   rw [kM (k:=k) (n:=i) fun j hj=>dC (by omega),dQ]
   omega
  ·
   have:=pX (k:=k) (x:=x) (n:=n) (i:=i) (by omega)
   rw [dC (f:=k) (fun e'=>e e'.symm)]
   omega
theorem EM{k:Nat→Nat}{i:Nat}:∀{n:Nat},i < n→k i≤aS k n
 |n+1,h=>by
  simp only [aS]
  by_cases e:i=n
  ·
   subst e;omega
  ·
   have:=EM (k:=k) (n:=n) (i:=i) (by omega)
   omega
theorem ye{k:Nat→Nat}:∀{n:Nat},aS k n=0→∀i,i < n→k i=0
 |n+1,h,i,hi=>by
  simp only [aS] at h
  by_cases e:i=n
  ·
   subst e;omega
  ·
   exact ye (k:=k) (n:=n) (by omega) i (by omega)
def BQ(P:Program)(gs:Array Goroutine)(t:Trace)(k:Nat→Nat):Prop:=∀i g,0 < i→gs[i]? =some g→QuitsD P (k i) (Deaf t i) g
structure zI(P:Program)(v:VW)(fr:Frame)(cs:List Frame)(gs:Array Goroutine)(t:Trace)(k:Nat→Nat):Prop where
 head:gs[0]? =some (Gr fr cs)
 quit:BQ P gs t k
 tr:zS gs.size v.heap.size t
 ka:KA v.A t
 deaf:Deaf t 0=0
def qo(P:Program)(Post:Value→World→Prop):Tq:=fun v fr cs=>
 ∀v1,cd v v1→∀(gs:Array Goroutine) (sl:Option (Nat×Nat)) (t:Trace) (k:Nat→Nat),zI P v1 fr cs gs t k→xw P Post (crowd gs v1.toWorld sl) t
section
variable {P:Program}{Post:Value→World→Prop}
theorem Db{gs:Array Goroutine}{t:Trace}{k:Nat→Nat}{g0:Goroutine}(h0:gs[0]? =some g0)(hr:g0.status= .running)(hq:BQ P gs t k):∀g∈gs,awake g:=fun g hg=>by
 obtain⟨i,hi,rfl⟩:=Array.getElem_of_mem hg
 have e:gs[i]? =some gs[i]:=Array.getElem?_eq_getElem hi
 rcases Nat.eq_zero_or_pos i with rfl |hp
 ·
  rw [h0] at e
  cases e
  exact awake_of (.inl hr)
 ·
  have:=(hq i _ hp e).status
  exact awake_of (this.elim .inl fun h=>.inr (.inr h))
theorem ml{gs:Array Goroutine}{i j:Nat}{g g' x:Goroutine}{w':World}(hi:gs[i]? =some g)(h:((gs.map (woken P g g' w')).setIfInBounds i g')[j]? =some x):(j=i∧x=g')∨(j≠i∧∃y,gs[j]? =some y∧x=woken P g g' w' y):=by
 have hlt:=(Array.getElem?_eq_some_iff.1 hi).1;by_cases e:i=j
 ·subst e;simp [hlt] at h;exact .inl ⟨rfl,h.symm⟩
 ·rw [Array.getElem?_setIfInBounds_ne e,Array.getElem?_map] at h;obtain⟨y,hy,rfl⟩:=Option.map_eq_some_iff.1 h;exact .inr ⟨fun e'=>e e'.symm,y,hy,rfl⟩
theorem iO{gs:Array Goroutine}{i:Nat}{g g':Goroutine}{w':World}(hi:gs[i]? =some g):((gs.map (woken P g g' w')).setIfInBounds i g')[i]? =some g':=by
 have hlt:=(Array.getElem?_eq_some_iff.1 hi).1;simp [hlt]
theorem vG{gs:Array Goroutine}{i j:Nat}{g g' y:Goroutine}{w':World}(hne:j≠i)(hj:gs[j]? =some y)(hy:woken P g g' w' y=y):((gs.map (woken P g g' w')).setIfInBounds i g')[j]? =some y:=by
 rw [Array.getElem?_setIfInBounds_ne (fun e=>hne e.symm),Array.getElem?_map,hj];simp [hy]
theorem wa{i:Nat}{fn:FuncId}{pos:String}{es:Array Event}(h:∀e∈es,Event.mute e=true):∀op∈MemOp.ofEvents i fn pos es,op.g=i∧op.act.touch? =none∧(∀a,op.act≠.mark (.release a))∧(op.act= .mark .disable∨op.act= .mark .enable):=by
 intro op hop;unfold MemOp.ofEvents at hop;split at hop
 ·simp at hop
 ·obtain⟨e,he,rfl⟩:=Array.mem_map.1 hop;have h0:=h e he;obtain⟨l,wr,sy⟩:=e;unfold Event.mute at h0;cases l with
  |mark m=>cases m <;> simp at h0 <;> simp [MemAct.ofEvent,MemAct.touch?]
  |_=>simp at h0
theorem zS.words{n z i:Nat}{t u:Trace}(h:zS n z t)(hi:i < n)(hg:∀op∈u,op.g=i)(ht:∀op∈u,op.act.touch? =none)(hr:∀op∈u,∀a,op.act≠.mark (.release a)):zS n z (t++u):=
 h.app (Nat.le_refl _) hi hg (fun op ho x hx=>by rw [ht op ho] at hx;cases hx) hr fun j x hx op ho y hy=>by rw [ht op ho] at hy;cases hy
theorem eX{t u:Trace}{j:Nat}{x:Touch}(ht:∀op∈u,op.act.touch? =none)(hx:touchAt (t++u) j=some x):j < t.size∧touchAt t j=some x:=by
 obtain⟨op,hop,hxa⟩:=touch_of hx;rcases getElem?_append_cases hop with⟨hlt,hop'⟩ |⟨_,hm⟩
 ·exact⟨hlt,by rw [touchAt_of hop'];exact hxa⟩
 ·rw [ht op hm] at hxa;cases hxa
theorem KA.words{A:Nat→Prop}{t u:Trace}(h:KA A t)(ht:∀op∈u,op.act.touch? =none):KA A (t++u):=
 ⟨fun j x b hx hb ha=>(h.own j x b (eX ht hx).2 hb ha).app _,fun j hj=>by
  obtain⟨x,hx,_⟩:=id hj
  have:=(eX ht hx).1
  exact(h.cnt j ((je this).1 hj)).app _⟩
theorem wu{v:VW}{fr:Frame}{cs:List Frame}
 (h:∀v1,cd v v1→∀(gs:Array Goroutine) (sl:Option (Nat×Nat)) (t:Trace) (k:Nat→Nat),zI P v1 fr cs gs t k→
  ∀d sl0,stepT P (crowd gs (v1.toWorld.at d) sl0)=runT P (crowd gs v1.toWorld sl) 0→xw P Post (crowd gs (v1.toWorld.at d) sl0) t):qo P Post v fr cs:=by
 have key:∀N,∀v1,cd v v1→∀(gs:Array Goroutine) (sl:Option (Nat×Nat)) (t:Trace) (k:Nat→Nat),aS k gs.size≤N→zI P v1 fr cs gs t k→xw P Post (crowd gs v1.toWorld sl) t:=by
  intro N
  induction N using Nat.strongRecOn with
  |_ N ih=>
   intro v1 hr gs sl t k hN hL;obtain⟨h0,hq,ht,hk,hd⟩:=hL;obtain⟨i,g,d,sl',hi,hg,hst⟩:=crowd_pick (P:=P) (w:=v1.toWorld) (sl:=sl) (Db h0 rfl hq) ⟨0,_,h0,rfl⟩;have hr':cd v (v1.upd (v1.toWorld.at d)):=hr.trans (cd.drawn v1 d);rcases Nat.eq_zero_or_pos i with rfl |hp
   ·exact h _ hr' gs sl' t k ⟨h0,hq,ht,hk,hd⟩ v1.drawn sl hst
   ·have hqi:=hq i g hp hi;cases hki:k i with
    |zero=>
     rw [hki] at hqi;have hqi:g.status= .finished:=hqi.1;rw [hqi] at hg;cases hg
    |succ n=>
     rw [hki] at hqi;rcases hqi with hf |⟨_,g',es,hm,hw,hq'⟩
     ·rw [hf.1] at hg;cases hg
     ·have hi0:(i == 0)=false:=by simp;omega
      have hgo:=runT_crowd_go (sl:=sl') hi (by rw [hi0];exact hw (v1.toWorld.at d));rw [←hst] at hgo;refine xw.next hgo ?_;have hlt:=(Array.getElem?_eq_some_iff.1 hi).1;have hsz:((gs.map (woken P g g' (v1.toWorld.at d))).setIfInBounds i g').size=gs.size:=by simp
      have hmu:=wa (i:=i) (fn:=g.frame.fn) (pos:=g.frame.place) hm;have hu:=pX (k:=k) (x:=n) hlt;refine ih (aS (upd k i n) gs.size) (by omega) (v1.upd (v1.toWorld.at d)) hr' _ sl' _ (upd k i n) (by rw [hsz];exact Nat.le_refl _) ⟨?_,?_,?_,?_,?_⟩
      ·exact vG (by omega) h0 (woken_running rfl)
      ·intro j x hj hx;rcases ml hi hx with⟨rfl,rfl⟩ |⟨hne,y,hy,rfl⟩
       ·rw [dQ,Deaf_own];exact hq'
       ·rw [dC hne,woken_quitsD (hq j y hj hy),Deaf_other t (fun e=>hne e.symm) _ fun op ho=>(hmu op ho).1];exact hq j y hj hy
      ·rw [hsz];exact ht.words hlt (fun op ho=>(hmu op ho).1) (fun op ho=>(hmu op ho).2.1) fun op ho=>(hmu op ho).2.2.1
      ·exact hk.words fun op ho=>(hmu op ho).2.1
      ·rw [Deaf_other t (by omega) _ fun op ho=>(hmu op ho).1];exact hd
 intro v1 hr gs sl t k hL
 exact key _ v1 hr gs sl t k (Nat.le_refl _) hL
theorem zI.step{v1:VW}{fr fr':Frame}{cs cs':List Frame}{gs:Array Goroutine}{t:Trace}{k:Nat→Nat}{w':World}{es:Array Event}(h:zI P v1 fr cs gs t k)(hG:iJ v1 w' es):
 zI P (v1.upd w') fr' cs' ((gs.map (woken P (Gr fr cs) (Gr fr' cs') w')).setIfInBounds 0 (Gr fr' cs')) (t++MemOp.ofEvents 0 fr.fn fr.place es) k:=by
 obtain⟨h0,hq,ht,hk,hd⟩:=h
 have ho:=t5 (i:=0) (fn:=fr.fn) (pos:=fr.place) hG.evs
 have hsz:((gs.map (woken P (Gr fr cs) (Gr fr' cs') w')).setIfInBounds 0 (Gr fr' cs')).size=gs.size:=by simp
 refine⟨iO h0,fun j x hj hx=>?_,?_,hk.app fun op hop=>(ho op hop).1,by rw [q7 hG.evs];exact hd⟩
 ·
  rw [q7 hG.evs];rcases ml h0 hx with⟨rfl,rfl⟩ |⟨hne,y,hy,rfl⟩
  ·exact absurd hj (Nat.lt_irrefl _)
  ·rw [woken_quitsD (hq j y hj hy)];exact hq j y hj hy
 ·
  rw [hsz];refine ht.step hG.size (by have:=(Array.getElem?_eq_some_iff.1 h0).1;omega) hG.evs fun j x hx e he hl hm _=>?_;obtain⟨b,hb⟩:=zB hm;exact hk.own j x b hx hb (qc (hG.evs e he) (hl▸hb)).2.1
theorem qo.bc:BC P (qo P Post) where
 rely v v1 fr cs hr h v2 hr':=h v2 (hr.trans hr')
 step v fr cs h:=wu fun v1 hr gs sl t k hL d sl0 hm=>by
  obtain⟨fr',cs',w',es,h1,h2,h3⟩:=h v1 hr
  have hgo:=runT_crowd_go (sl:=sl) hL.head (by exact h1 (0 == 0))
  rw [←hm] at hgo
  exact xw.next hgo (h3 (v1.upd w') (cd.refl _) _ sl _ k (hL.step h2))
theorem C4{gs:Array Goroutine}{w w':World}{sl:Option (Nat×Nat)}{i:Nat}{g:Goroutine}{o:Outcome}{es:Array Event}(hi:gs[i]? =some g)(h:stepG P (i == 0) g w= .ended o w' es):
 runT P (crowd gs w sl) i=(.ended o w',MemOp.ofEvents i g.frame.fn g.frame.place es):=by
 obtain⟨hlt,rfl⟩:=Array.getElem?_eq_some_iff.1 hi
 have hsw:=swapAt_of_lt hlt { (default:Goroutine) with status:=.finished }
 show runT P { world:=w,gs:=gs,rest:={ timers:= #[],alone:=none,slice:=sl } } i=_
 unfold runT
 simp only [hsw,h,GStep.es]
theorem OE{fr:Frame}{w:World}{x:Value}{fn:Func}(h1:fr.mode= .returning)(h2:fr.defers=[])(hk:fr.kind= .normal)(hin:P.inits.idxOf? fr.fn=none)(h3:P.funcs[fr.fn]? =some fn)(h4:(results fn fr.tmps).run P w= .ok x w):
 stepG P true (Gr fr []) w= .ended (.done x) w (seen P fr.fn ((results fn fr.tmps).events P w #[])):=by
 simp [stepG,unwind,h1,h2,h3,h4,doReturn,hk,hin,GStep.after]
theorem Gi{t:Trace}{A:Nat→Prop}(h:KA A t):t.HandedOver:=by
 intro i g hg hne hc;obtain⟨q,z,h1,h2,h3⟩:=h.cnt i hc;refine⟨q,by simp [Trace.g?,h1,h2],?_⟩;rcases h3 with rfl |h3
 ·simp only [Trace.g?,h1,Option.map_some,Option.some.injEq] at hg;exact absurd (hg.symm.trans h2) hne
 ·exact h3
theorem FO{gs:Array Goroutine}{w:World}{sl:Option (Nat×Nat)}{t:Trace}{k:Nat→Nat}(hq:BQ P gs t k):(crowd gs w sl).OnlyLeaving P:=by
 refine⟨fun g hg=>?_,rfl⟩;obtain⟨j,hj⟩:=List.mem_iff_getElem?.1 hg;rw [List.getElem?_drop] at hj
 have hj':gs[1+j]? =some g:=by
  have:(crowd gs w sl).gs.toList[1+j]? =some g:=hj;rwa [show(crowd gs w sl).gs=gs from rfl,Array.getElem?_toList] at this
 exact⟨k (1+j),(hq _ g (by omega) hj').leaves⟩
theorem FP{gs:Array Goroutine}{w:World}{sl:Option (Nat×Nat)}{k:Nat→Nat}{t:Trace}(hq:BQ P gs t k):(crowd gs w sl).EndHearing P t:=by
 intro i g hg hne;exact⟨k i,(hq i g (by omega) hg).hears _⟩
theorem qo.ret{v:VW}{fr:Frame}{x:Value}(hl:Lv P fr v (.returned x))(hk0:fr.kind= .normal)(hin:P.inits.idxOf? fr.fn=none)(hp:∀v1,cd v v1→Post x v1.toWorld):qo P Post v fr []:=by
 obtain⟨l1,l2,fn,l3,l4⟩:=hl;refine wu fun v1 hr gs sl t k hL d sl0 hst=>?_;obtain⟨h0,hq,ht,hk,hd⟩:=hL;obtain⟨r1,r2⟩:=l4 v1 hr;have hend:=C4 (sl:=sl) h0 (OE l1 l2 hk0 hin l3 r1);rw [←hst] at hend;have r3:∀e∈seen P fr.fn ((results fn fr.tmps).events P v1.toWorld #[]),oZ v1 v1.heap.size e:=fun e he=>r2.evs e (Conc.mem_seen he);have ho:=t5 (i:=0) (fn:=fr.fn) (pos:=fr.place) r3
 have htr:=ht.step (Nat.le_refl _) (i:=0) (fn:=fr.fn) (pos:=fr.place) (by have:=(Array.getElem?_eq_some_iff.1 h0).1;omega) r3 fun j x hx e he hl hm _=>by
  obtain⟨b,hb⟩:=zB hm;exact hk.own j x b hx hb (qc (r3 e he) (hl▸hb)).2.1
 have hka:=hk.app fun op hop=>(ho op hop).1;have hq':BQ P gs (t++MemOp.ofEvents 0 fr.fn fr.place (seen P fr.fn ((results fn fr.tmps).events P v1.toWorld #[]))) k:=fun i g hi hg=>by rw [q7 r3];exact hq i g hi hg
 exact⟨0,crowd gs (v1.toWorld.at d) sl0,.done x,v1.toWorld,_,by simp [runNT,hend],rfl,by simp [step,hend],x,rfl,hp v1 hr,htr.race,Gi hka,FO hq',FP hq'⟩
end
structure Gl(P:Program)(T:Tq)(Gd:Machine→Trace→Prop):Prop where
 next:∀m m' t ops,stepT P m=(.next m',ops)→Gd m' (t++ops)→Gd m t
 fin:∀v fr cs,T v fr cs→∀gs sl t k,zI P v fr cs gs t k→Gd (crowd gs v.toWorld sl) t
def Ep(P:Program)(T:Tq):Prop:=∀v fr cs,(∀Gd,Gl P T Gd→∀v1,cd v v1→∀gs sl t k,zI P v1 fr cs gs t k→Gd (crowd gs v1.toWorld sl) t)→T v fr cs
def jg(P:Program):Md P:=⟨fun T=>BC P T∧Ep P T,fun _ h=>h.1⟩
theorem qo.ok{P:Program}{Post:Value→World→Prop}:(jg P).ok (qo P Post):=
 ⟨qo.bc,fun v fr cs h v1 hr gs sl t k hL=>h (xw P Post) ⟨fun _ _ _ _ hs hw=>xw.next hs hw,fun v' fr' cs' hT gs sl t k hL=>hT v' (cd.refl v') gs sl t k hL⟩ v1 hr gs sl t k hL⟩
theorem KG{P:Program}{Post:Value→World→Prop}{f:FuncId}{args:Array Value}{W:World}(hin:P.inits.idxOf? f=none)
 (h:nC (jg P) .normal f args (vw W) fun e v'=>∃x,e= .returned x∧∀v1,cd v' v1→Post x v1.toWorld):
 ∃M last o w' t',runNT P (M+1) (solo (G (Frame.enter P f args .normal) []) W) #[]=(.ended o w',t')∧runN P M (solo (G (Frame.enter P f args .normal) []) W)= .next last∧step P last= .ended o w'∧Conc.Good P Post last o w' t':=by
 have hT:qo P Post (vw W) (Frame.enter P f args .normal) []:=h _ qo.ok [] fun e v' fr ⟨x,he,hp⟩ hf hk hl=>by
  subst he;exact qo.ret hl hk (by rw [hf];exact hin) hp
 have hno:∀i x,touchAt (#[]:Trace) i=some x→False:=fun i x hx=>by simp [touchAt,Trace.act?] at hx
 exact hT (vw W) (cd.refl _) #[G (Frame.enter P f args .normal) []] none #[] (fun _=>0) ⟨rfl,fun i g hi hg=>by
  have:i=0:=by
   rcases Nat.lt_or_ge i 1 with h |h
   ·omega
   ·rw [Array.getElem?_eq_none (by simpa using h)] at hg;cases hg
  omega,⟨fun op ho=>by simp at ho,fun said ⟨i,j,_,⟨a,b,ha,_⟩,_⟩=>(hno i a ha).elim,fun j x b hx _=>(hno j x hx).elim,fun op ho=>by simp at ho⟩,⟨fun j x b hx _ _=>(hno j x hx).elim,fun j ⟨x,hx,_⟩=>(hno j x hx).elim⟩,rfl⟩
section
variable {α:Type}(r:α→α→Prop)
def Sb(b a:α):Prop:=∀x,r x b→r x a
def Dn(n:Nat)(s' s:Nat→α):Prop:=∃i,i < n∧r (s' i) (s i)∧∀j,j < n→j≠i→Sb r (s' j) (s j)
variable {r}
theorem Sb.refl(a:α):Sb r a a:=fun _ h=>h
theorem Sb.trans{a b c:α}(h:Sb r c b)(h':Sb r b a):Sb r c a:=fun x hx=>h' x (h x hx)
theorem Jv:∀(n:Nat) (s:Nat→α),(∀i,i < n→Acc r (s i))→Acc (Dn r n) s
 |0,s,_=>Acc.intro s fun s' ⟨i,hi,_⟩=>absurd hi (Nat.not_lt_zero i)
 |n+1,s,h=>by
  have key:∀a,Acc r a→∀s0,Acc (Dn r n) s0→∀s,Sb r (s n) a→(∀j,j < n→Sb r (s j) (s0 j))→Acc (Dn r (n+1)) s:=by
   intro a ha
   induction ha with
   |intro a _ ih1=>
    intro s0 h0
    induction h0 with
    |intro s0 h0 ih2=>
     intro s hn hs;refine Acc.intro s fun s' ⟨i,hi,h1,h2⟩=>?_;by_cases e:i=n
     ·subst e;exact ih1 (s' i) (hn _ h1) s0 (Acc.intro s0 h0) s' (Sb.refl _) fun j hj=>(h2 j (by omega) (by omega)).trans (hs j hj)
     ·have hin:i < n:=by omega
      refine ih2 s' ⟨i,hin,hs i hin _ h1,fun j hj hne=>(h2 j (by omega) hne).trans (hs j hj)⟩ s' ((h2 n (by omega) (fun e'=>e e'.symm)).trans hn) fun j _=>Sb.refl _
  exact key (s n) (h n (Nat.lt_succ_self n)) s (Jv n s fun i hi=>h i (by omega)) s (Sb.refl _) fun j _=>Sb.refl _
end
inductive Ph where
 |work (m:Nat) |rel |deaf |l1 |l2 |l3 |quit
 deriving DecidableEq
structure lz where
 c:Nat
 wt:Nat
 sm:Nat
 x:Nat
structure Gp where
 bw:Nat
 bs:Nat
 tW:TypeId
 tS:TypeId
def Gp.sh(p:Gp)(b:Nat):Prop:=b=p.bw∨b=p.bs
def Gp.stA(p:Gp):Addr:=⟨p.bw,0,none⟩
def Gp.smA(p:Gp):Addr:=⟨p.bw,1,none⟩
def Gp.xA(p:Gp):Addr:=⟨p.bs,0,none⟩
structure Gp.At(p:Gp)(w:World)(s:lz):Prop where
 wg:w.heap[p.bw]? =some (.cells #[.int .u64 ((s.c * 4294967296+s.wt:Nat):Int),.int .u32 (s.sm:Int)] p.tW)
 sum:w.heap[p.bs]? =some (.cells #[.int .i64 (s.x:Int)] p.tS)
def Gp.Live(p:Gp)(w:World):Prop:=∃q,p.At w q
def Ph.nx(tot:Nat):Ph→lz→Ph
 | .work m,_=>if m < tot then .work (m+1) else .rel
 | .rel,_=>.deaf
 | .deaf,s=>if 2≤s.c∨s.wt=0 then .quit else .l1
 | .l1,_=>.l2
 | .l2,_=>.l3
 | .l3,_=>.quit
 | .quit,_=>.quit
def Ph.eff(tot:Nat):Ph→lz→lz
 | .work m,s=>if m < tot then { s with x:=s.x+1 } else s
 | .deaf,s=>{ s with c:=s.c - 1 }
 | .l2,s=>{ s with c:=0,wt:=0 }
 | .l3,s=>{ s with sm:=s.sm+1 }
 |_,s=>s
def Ph.pre(tot:Nat):Ph→lz→Prop
 | .work m,s=>m < tot→s.x+1 < 9223372036854775808
 | .deaf,s=>1≤s.c∧s.c < 2147483648∧s.wt≤1∧s.sm=0
 | .l1,s=>s.c=0∧s.wt=1∧s.sm=0
 | .l2,s=>s.c=0∧s.wt=1∧s.sm=0
 | .l3,s=>s.c=0∧s.wt=0∧s.sm=0
 |_,_=>True
def vc(a:Addr):Event:=⟨.cell a,false,true⟩
def zR(a:Addr):Event:=⟨.cell a,true,true⟩
def kP(m:Mark):Event:=⟨.mark m,false,true⟩
def Ph.evs(p:Gp)(tot:Nat):Ph→Array Event
 | .work m=>if m < tot then #[vc p.xA,zR p.xA] else #[kP (.releaseMerge p.stA)]
 | .rel=> #[kP .disable]
 | .deaf=> #[vc p.stA,zR p.stA]
 | .l1=> #[vc p.stA]
 | .l2=> #[zR p.stA]
 | .l3=> #[kP .disable,vc p.smA,zR p.smA,kP .enable]
 | .quit=> #[]
structure Gp.Eff(p:Gp)(w w':World)(s':lz):Prop where
 at_:p.At w' s'
 keep:∀b,¬p.sh b→w'.heap[b]? =w.heap[b]?
 size:w'.heap.size=w.heap.size
 os:w'.os=w.os
 tape:w'.tape=w.tape
 output:w'.output=w.output
def Ez(es:Array Event):Prop:=∀e∈es,e.sync=false∨∃m,Ov m=true∧e.loc= .mark m
theorem Az{v:VW}{n:Nat}{es:Array Event}(h:∀e∈es,oZ v n e):Ez es:=fun e he=>by
 have:=h e he
 unfold oZ at this
 split at this
 ·
  exact .inl this.1
 ·
  exact .inl this.1
 ·
  rename_i m hm;exact .inr ⟨m,this,hm⟩
 ·
  exact this.elim
theorem uR{p:Gp}{tot:Nat}{s:Ph}(h:s≠.quit):¬Ez (s.evs p tot):=by
 intro hp
 have key:∃e∈s.evs p tot,e.sync=true∧∀m,Ov m=true→e.loc≠.mark m:=by
  cases s with
  |work m=>
   by_cases hm:m < tot
   ·exact⟨vc p.xA,by simp [Ph.evs,hm],rfl,fun m hm h=>by cases h⟩
   ·exact⟨kP (.releaseMerge p.stA),by simp [Ph.evs,hm],rfl,fun m hm h=>by cases h;cases hm⟩
  |rel=>exact⟨kP .disable,by simp [Ph.evs],rfl,fun m hm h=>by cases h;cases hm⟩
  |deaf=>exact⟨vc p.stA,by simp [Ph.evs],rfl,fun m hm h=>by cases h⟩
  |l1=>exact⟨vc p.stA,by simp [Ph.evs],rfl,fun m hm h=>by cases h⟩
  |l2=>exact⟨zR p.stA,by simp [Ph.evs],rfl,fun m hm h=>by cases h⟩
  |l3=>exact⟨kP .disable,by simp [Ph.evs],rfl,fun m hm h=>by cases h;cases hm⟩
  |quit=>exact absurd rfl h
 obtain⟨e,he,h1,h2⟩:=key;rcases hp e he with h3 |h3
 ·rw [h1] at h3;cases h3
 ·obtain⟨m,h4,h5⟩:=h3;exact h2 m h4 h5
inductive Ww(P:Program)(p:Gp)(tot:Nat):Ph→VW→Frame→List Frame→Prop
 |priv {m:Nat} {v:VW} {fr:Frame} {cs:List Frame} (f:VW→Frame) (c:VW→List Frame) (w:VW→World) (es:VW→Array Event)
  (h1:∀v1,cd v v1→stepG P false (Gr fr cs) v1.toWorld= .go (Gr (f v1) (c v1)) (w v1) (es v1)) (h2:∀v1,cd v v1→iJ v1 (w v1) (es v1))
  (h3:∀v1,cd v v1→Ww P p tot (.work m) (v1.upd (w v1)) (f v1) (c v1)):Ww P p tot (.work m) v fr cs
 |mute {s:Ph} {v:VW} {fr fr':Frame} {cs cs':List Frame} (hs:s≠.quit) (h1:∀w:World,p.Live w→stepG P false (Gr fr cs) w= .go (Gr fr' cs') w #[]) (h3:∀v1,cd v v1→Ww P p tot s v1 fr' cs'):Ww P p tot s v fr cs
 |act {s:Ph} {v:VW} {fr:Frame} {cs:List Frame} (hs:s≠.quit) (hm:s= .l3→mayWake P (Gr fr cs)=true) (f:VW→lz→Frame) (c:VW→lz→List Frame) (w:VW→lz→World)
  (h1:∀v1 q,cd v v1→p.At v1 q→s.pre tot q→stepG P false (Gr fr cs) v1.toWorld= .go (Gr (f v1 q) (c v1 q)) (w v1 q) (s.evs p tot))
  (h2:∀v1 q,cd v v1→p.At v1 q→s.pre tot q→p.Eff v1 (w v1 q) (s.eff tot q))
  (h3:∀v1 q,cd v v1→p.At v1 q→s.pre tot q→Ww P p tot (s.nx tot q) (v1.upd (w v1 q)) (f v1 q) (c v1 q)):Ww P p tot s v fr cs
 |quit {v:VW} {fr:Frame} {cs:List Frame} (m:Nat) (h:QuitsD P m 1 (Gr fr cs)):Ww P p tot .quit v fr cs
section
variable {P:Program}{p:Gp}{tot:Nat}
theorem Ww.rely{s:Ph}{v v':VW}{fr:Frame}{cs:List Frame}(hr:cd v v')(h:Ww P p tot s v fr cs):Ww P p tot s v' fr cs:=by
 cases h with
 |priv f c w es h1 h2 h3=>exact .priv f c w es (fun v1 h=>h1 v1 (hr.trans h)) (fun v1 h=>h2 v1 (hr.trans h)) fun v1 h=>h3 v1 (hr.trans h)
 |mute hs h1 h3=>exact .mute hs h1 fun v1 h=>h3 v1 (hr.trans h)
 |act hs hm f c w h1 h2 h3=>exact .act hs hm f c w (fun v1 q h=>h1 v1 q (hr.trans h)) (fun v1 q h=>h2 v1 q (hr.trans h)) fun v1 q h=>h3 v1 q (hr.trans h)
 |quit m h=>exact .quit m h
theorem Ww.move{s:Ph}(hs:s≠.quit){v:VW}{fr fr':Frame}{cs cs':List Frame}(h1:∀w:World,p.Live w→stepG P false (Gr fr cs) w= .go (Gr fr' cs') w #[])(h:Ww P p tot s v fr' cs'):Ww P p tot s v fr cs:=.mute hs h1 fun _ hr=>h.rely hr
theorem Ww.bc{m:Nat}:BC P (Ww P p tot (.work m)) where
 rely _ _ _ _ hr h:=h.rely hr
 step v fr cs h:=by
  classical
  refine .priv (fun v1=>if hr:cd v v1 then Classical.choose (h v1 hr) else fr) (fun v1=>if hr:cd v v1 then Classical.choose (Classical.choose_spec (h v1 hr)) else cs)
   (fun v1=>if hr:cd v v1 then Classical.choose (Classical.choose_spec (Classical.choose_spec (h v1 hr))) else v1.toWorld) (fun v1=>if hr:cd v v1 then Classical.choose (Classical.choose_spec (Classical.choose_spec (Classical.choose_spec (h v1 hr)))) else #[])
   (fun v1 hr=>?_) (fun v1 hr=>?_) (fun v1 hr=>?_)
  ·simp only [dif_pos hr];exact(Classical.choose_spec (Classical.choose_spec (Classical.choose_spec (Classical.choose_spec (h v1 hr))))).1 false
  ·simp only [dif_pos hr];exact(Classical.choose_spec (Classical.choose_spec (Classical.choose_spec (Classical.choose_spec (h v1 hr))))).2.1
  ·simp only [dif_pos hr];exact(Classical.choose_spec (Classical.choose_spec (Classical.choose_spec (Classical.choose_spec (h v1 hr))))).2.2
def ww(P:Program)(p:Gp)(tot:Nat):Option (Ph×VW×Frame×List Frame)→Option (Ph×VW×Frame×List Frame)→Prop
 |_,none=>False
 |none,some _=>True
 |some y,some x=>y.1≠.quit∧∃v1 q w' es,cd x.2.1 v1∧p.At v1 q∧x.1.pre tot q∧(stepG P false (Gr x.2.2.1 x.2.2.2) v1.toWorld= .go (Gr y.2.2.1 y.2.2.2) w' es)∧y.2.1=v1.upd w'∧(Ez es→y.1=x.1)∧(¬Ez es→y.1=x.1.nx tot q)
theorem sj:Acc (ww P p tot) none:=Acc.intro _ fun y hy=>by cases y <;> exact hy.elim
theorem Kz{s:Ph}{v v':VW}{fr:Frame}{cs:List Frame}(hr:cd v v'):Sb (ww P p tot) (some (s,v',fr,cs)) (some (s,v,fr,cs)):=fun y hy=>by
 cases y with
 |none=>trivial
 |some y=>
  obtain⟨h0,v1,q,w',es,h1,h2⟩:=hy
  exact⟨h0,v1,q,w',es,hr.trans h1,h2⟩
def wm(s:Ph)(v:VW)(fr:Frame)(cs:List Frame):Option (Ph×VW×Frame×List Frame):=if s= .quit then none else some (s,v,fr,cs)
theorem Ww.acc{s:Ph}{v:VW}{fr:Frame}{cs:List Frame}(h:Ww P p tot s v fr cs):Acc (ww P p tot) (wm s v fr cs):=by
 induction h with
 | @priv m v fr cs f c w es h1 h2 h3 ih=>
  have hs:Ph.work m≠.quit:=by simp
  unfold wm;rw [if_neg hs];refine Acc.intro _ fun y hy=>?_;cases y with
  |none=>exact sj
  |some y=>
   obtain⟨_,v1,q,w',es',g1,_,_,g2,g3,g4,_⟩:=hy;have e:=g2.symm.trans (h1 v1 g1);simp only [GStep.go.injEq,Goroutine.mk.injEq] at e;obtain⟨⟨e1,e2,_⟩,e3,e4⟩:=e;obtain⟨y0,y1,y2,y3⟩:=y;dsimp only at e1 e2 g3 g4;have e0:=g4 (by rw [e4];exact Az (h2 v1 g1).evs);subst e0 e1 e2 e3 g3;have:=ih v1 g1;unfold wm at this;rwa [if_neg hs] at this
 | @mute s v fr fr' cs cs' hs h1 h3 ih=>
  unfold wm;rw [if_neg hs];refine Acc.intro _ fun y hy=>?_;cases y with
  |none=>exact sj
  |some y=>
   obtain⟨_,v1,q,w',es',g1,gA,_,g2,g3,g4,_⟩:=hy;have e:=g2.symm.trans (h1 v1.toWorld ⟨q,gA⟩);simp only [GStep.go.injEq,Goroutine.mk.injEq] at e;obtain⟨⟨e1,e2,_⟩,e3,e4⟩:=e;obtain⟨y0,y1,y2,y3⟩:=y;dsimp only at e1 e2 g3 g4;have e0:=g4 (by rw [e4];exact fun e he=>by simp at he);subst e0 e1 e2 e3 g3;have:=ih v1 g1;unfold wm at this;rwa [if_neg hs] at this
 | @act s v fr cs hs hm f c w h1 h2 h3 ih=>
  unfold wm;rw [if_neg hs];refine Acc.intro _ fun y hy=>?_;cases y with
  |none=>exact sj
  |some y=>
   obtain⟨g0,v1,q,w',es',g1,ga,gp,g2,g3,_,g4⟩:=hy;have e:=g2.symm.trans (h1 v1 q g1 ga gp);simp only [GStep.go.injEq,Goroutine.mk.injEq] at e;obtain⟨⟨e1,e2,_⟩,e3,e4⟩:=e;obtain⟨y0,y1,y2,y3⟩:=y;dsimp only at e1 e2 g3 g4;have e0:=g4 (by rw [e4];exact uR hs);subst e1 e2 e3 g3;have:=ih v1 q g1 ga gp;unfold wm at this;rw [←e0,if_neg g0] at this;exact this
 |quit m h=>unfold wm;rw [if_pos rfl];exact sj
end
def Ph.act:Ph→Nat
 | .work _ | .rel | .deaf=>1
 |_=>0
def iH:Ph→Nat
 | .l1 | .l2=>1
 |_=>0
def jr:Ph→Nat
 | .l3=>1
 |_=>0
def Ph.m(tot:Nat):Ph→Nat
 | .work m=>m
 |_=>tot
def Ph.df:Ph→Nat
 | .work _ | .rel | .quit=>0
 |_=>1
def al(n:Nat)(sg:Nat→Ph)(f:Ph→Nat):Nat:=aS (fun i=>f (sg i)) n
theorem zE{n i:Nat}{sg:Nat→Ph}{f:Ph→Nat}{s:Ph}(h:i < n):al n (upd sg i s) f+f (sg i)=al n sg f+f s:=by
 have e:(fun j=>f (upd sg i s j))=upd (fun j=>f (sg j)) i (f s):=by
  funext j;by_cases hj:j=i
  ·subst hj;rw [dQ,dQ]
  ·rw [dC hj,dC hj]
 unfold al;rw [e];exact pX h
theorem BI{n i:Nat}{sg:Nat→Ph}{f:Ph→Nat}(h:i < n):f (sg i)≤al n sg f:=EM (k:=fun i=>f (sg i)) h
theorem qY{n i:Nat}{sg:Nat→Ph}{f:Ph→Nat}(h:al n sg f=0)(hi:i < n):f (sg i)=0:=ye (k:=fun i=>f (sg i)) h i hi
def am(n:Nat)(tot:Nat→Nat)(sg:Nat→Ph):Nat:=aS (fun i=>(sg i).m (tot i)) n
theorem Po{n i:Nat}{tot:Nat→Nat}{sg:Nat→Ph}{s:Ph}(h:i < n):am n tot (upd sg i s)+(sg i).m (tot i)=am n tot sg+s.m (tot i):=by
 have e:(fun j=>(upd sg i s j).m (tot j))=upd (fun j=>(sg j).m (tot j)) i (s.m (tot i)):=by
  funext j;by_cases hj:j=i
  ·subst hj;rw [dQ,dQ]
  ·rw [dC hj,dC hj]
 unfold am;rw [e];exact pX h
theorem yg{k k':Nat→Nat}:∀{n:Nat},(∀j,j < n→k j≤k' j)→aS k n≤aS k' n
 |0,_=>Nat.le_refl _
 |n+1,h=>by
  simp only [aS]
  have:=yg (k:=k) (k':=k') (n:=n) fun j hj=>h j (by omega)
  have:=h n (by omega)
  omega
theorem EL{k k':Nat→Nat}{i:Nat}:∀{n:Nat},(∀j,j < n→k j≤k' j)→i < n→k i < k' i→aS k n < aS k' n
 |n+1,h,hi,hl=>by
  simp only [aS]
  by_cases e:i=n
  ·
   subst e
   have:=yg (k:=k) (k':=k') (n:=i) fun j hj=>h j (by omega)
   omega
  ·
   have:=EL (k:=k) (k':=k') (n:=n) (i:=i) (fun j hj=>h j (by omega)) (by omega) hl
   have:=h n (by omega)
   omega
structure Bk(n:Nat)(tot:Nat→Nat)(sg:Nat→Ph)(rg:Bool)(pd:Nat)(q:lz):Prop where
 x:q.x=am n tot sg
 c:q.c=al n sg Ph.act+pd
 un:rg=false→q.wt=0∧q.sm=0∧al n sg iH=0∧al n sg jr=0
 re:rg=true→pd=0∧(0 < q.c→q.wt=1∧q.sm=0∧al n sg iH=0∧al n sg jr=0)∧(q.c=0→q.wt=al n sg iH∧al n sg iH+al n sg jr+q.sm=1)
 le:∀i,i < n→(sg i).m (tot i)≤tot i
 s0:sg 0= .quit
 big:q.c < 2147483648
 tb:aS tot n < 9223372036854775808
theorem Bk.pre{n:Nat}{tot:Nat→Nat}{sg:Nat→Ph}{rg:Bool}{pd:Nat}{q:lz}(h:Bk n tot sg rg pd q){i:Nat}(hi:i < n):(sg i).pre (tot i) q:=by
 have hc:=h.c;have hb:=h.big;have ha:=BI (sg:=sg) (f:=Ph.act) hi;have h1:=BI (sg:=sg) (f:=iH) hi;have h2:=BI (sg:=sg) (f:=jr) hi;cases hs:sg i with
 |work m=>
  intro hm;have:=h.x;have hlt:am n tot sg < aS tot n:=EL (i:=i) h.le hi (by show(sg i).m (tot i) < tot i;rw [hs];exact hm);have:=h.tb;omega
 |deaf=>
  rw [hs] at ha;simp only [Ph.act] at ha;refine⟨by omega,by omega,?_⟩;cases hr:rg with
  |false=>have:=h.un hr;omega
  |true=>have:=(h.re hr).2.1 (by omega);omega
 |l1=>
  rw [hs] at h1;simp only [iH] at h1;cases hr:rg with
  |false=>have:=h.un hr;omega
  |true=>
   have h3:=(h.re hr).2
   have:q.c=0:=by
    rcases Nat.eq_zero_or_pos q.c with e |e
    ·exact e
    ·have:=h3.1 e;omega
   have:=h3.2 this;show q.c=0∧q.wt=1∧q.sm=0;omega
 |l2=>
  rw [hs] at h1;simp only [iH] at h1;cases hr:rg with
  |false=>have:=h.un hr;omega
  |true=>
   have h3:=(h.re hr).2
   have:q.c=0:=by
    rcases Nat.eq_zero_or_pos q.c with e |e
    ·exact e
    ·have:=h3.1 e;omega
   have:=h3.2 this;show q.c=0∧q.wt=1∧q.sm=0;omega
 |l3=>
  rw [hs] at h2;simp only [jr] at h2;cases hr:rg with
  |false=>have:=h.un hr;omega
  |true=>
   have h3:=(h.re hr).2
   have:q.c=0:=by
    rcases Nat.eq_zero_or_pos q.c with e |e
    ·exact e
    ·have:=h3.1 e;omega
   have:=h3.2 this;show q.c=0∧q.wt=0∧q.sm=0;omega
 |rel=>trivial
 |quit=>trivial
theorem Bk.step{n:Nat}{tot:Nat→Nat}{sg:Nat→Ph}{rg:Bool}{pd:Nat}{q:lz}(h:Bk n tot sg rg pd q){i:Nat}(hi:i < n)(h0:0 < i):Bk n tot (upd sg i ((sg i).nx (tot i) q)) rg pd ((sg i).eff (tot i) q):=by
 have hp:=h.pre hi;have u1:=zE (sg:=sg) (f:=Ph.act) (s:=(sg i).nx (tot i) q) hi;have u2:=zE (sg:=sg) (f:=iH) (s:=(sg i).nx (tot i) q) hi;have u3:=zE (sg:=sg) (f:=jr) (s:=(sg i).nx (tot i) q) hi;have u4:=Po (tot:=tot) (sg:=sg) (s:=(sg i).nx (tot i) q) hi;have hx:=h.x;have hc:=h.c;have hm:=h.le i hi;have hbg:=h.big
 have hle:∀j,j < n→(upd sg i ((sg i).nx (tot i) q) j).m (tot j)≤tot j:=fun j hj=>by
  by_cases e:j=i
  ·subst e;rw [dQ];cases hs:sg j <;> simp only [Ph.nx]
   ·split <;> simp only [Ph.m] <;> omega
   all_goals first |exact Nat.le_refl _ |(split <;> exact Nat.le_refl _)
  ·rw [dC e];exact h.le j hj
 have hs0:upd sg i ((sg i).nx (tot i) q) 0= .quit:=by rw [dC (by omega)];exact h.s0
 cases hs:sg i with
 |work m=>
  rw [hs] at u1 u2 u3 u4 hle hs0 hm;simp only [Ph.nx,Ph.m] at u1 u2 u3 u4 hle hs0 hm⊢;by_cases hlt:m < tot i
  ·simp only [Ph.eff,if_pos hlt] at u1 u2 u3 u4 hle hs0⊢;simp only [Ph.act,iH,jr,Ph.m] at u1 u2 u3 u4;refine⟨by show q.x+1=_;omega,by show q.c=_;omega,fun e=>?_,fun e=>?_,hle,hs0,(by first |exact h.big |(show _ < 2147483648;omega) |(show q.c - 1 < 2147483648;omega) |(show 0 < 2147483648;omega)),h.tb⟩
   ·have:=h.un e;exact⟨this.1,this.2.1,by omega,by omega⟩
   ·have:=h.re e;exact⟨this.1,fun hc'=>⟨(this.2.1 hc').1,(this.2.1 hc').2.1,by have:=this.2.1 hc';omega,by have:=this.2.1 hc';omega⟩,fun hc'=>by have:=this.2.2 hc';exact⟨by show q.wt=_;omega,by show _+_+q.sm=1;omega⟩⟩
  ·simp only [Ph.eff,if_neg hlt] at u1 u2 u3 u4 hle hs0⊢;simp only [Ph.act,iH,jr,Ph.m] at u1 u2 u3 u4;refine⟨by omega,by omega,fun e=>?_,fun e=>?_,hle,hs0,(by first |exact h.big |(show _ < 2147483648;omega) |(show q.c - 1 < 2147483648;omega) |(show 0 < 2147483648;omega)),h.tb⟩
   ·have:=h.un e;omega
   ·have:=h.re e;exact⟨this.1,fun hc'=>by have:=this.2.1 hc';omega,fun hc'=>by have:=this.2.2 hc';omega⟩
 |rel=>
  rw [hs] at u1 u2 u3 u4 hle hs0;simp only [Ph.nx,Ph.eff,Ph.act,iH,jr,Ph.m] at u1 u2 u3 u4 hle hs0⊢;refine⟨by omega,by omega,fun e=>?_,fun e=>?_,hle,hs0,(by first |exact h.big |(show _ < 2147483648;omega) |(show q.c - 1 < 2147483648;omega) |(show 0 < 2147483648;omega)),h.tb⟩
  ·have:=h.un e;omega
  ·have:=h.re e;exact⟨this.1,fun hc'=>by have:=this.2.1 hc';omega,fun hc'=>by have:=this.2.2 hc';omega⟩
 |deaf=>
  rw [hs] at u1 u2 u3 u4 hle hs0 hp;obtain⟨p1,p2,p3,p4⟩:=hp;simp only [Ph.nx,Ph.eff] at u1 u2 u3 u4 hle hs0⊢;by_cases hq:2≤q.c∨q.wt=0
  ·simp only [if_pos hq,Ph.act,iH,jr,Ph.m] at u1 u2 u3 u4 hle hs0⊢;refine⟨by show q.x=_;omega,by show q.c - 1=_;omega,fun e=>?_,fun e=>?_,hle,hs0,(by first |exact h.big |(show _ < 2147483648;omega) |(show q.c - 1 < 2147483648;omega) |(show 0 < 2147483648;omega)),h.tb⟩
   ·have:=h.un e;exact⟨this.1,this.2.1,by omega,by omega⟩
   ·have h3:=h.re e;have:=h3.2.1 (by omega);refine⟨h3.1,fun _=>⟨this.1,this.2.1,by omega,by omega⟩,fun hc'=>?_⟩;have hc':q.c - 1=0:=hc';omega
  ·simp only [if_neg hq,Ph.act,iH,jr,Ph.m] at u1 u2 u3 u4 hle hs0⊢;have q1:q.c=1:=by omega
   refine⟨by show q.x=_;omega,by show q.c - 1=_;omega,fun e=>?_,fun e=>?_,hle,hs0,(by first |exact h.big |(show _ < 2147483648;omega) |(show q.c - 1 < 2147483648;omega) |(show 0 < 2147483648;omega)),h.tb⟩
   ·have:=h.un e;omega
   ·have h3:=h.re e;have:=h3.2.1 (by omega);refine⟨h3.1,fun hc'=>?_,fun _=>⟨by show q.wt=_;omega,by show _+_+q.sm=1;omega⟩⟩;have hc':0 < q.c - 1:=hc';omega
 |l1=>
  rw [hs] at u1 u2 u3 u4 hle hs0;simp only [Ph.nx,Ph.eff,Ph.act,iH,jr,Ph.m] at u1 u2 u3 u4 hle hs0⊢;refine⟨by omega,by omega,fun e=>?_,fun e=>?_,hle,hs0,(by first |exact h.big |(show _ < 2147483648;omega) |(show q.c - 1 < 2147483648;omega) |(show 0 < 2147483648;omega)),h.tb⟩
  ·have:=h.un e;omega
  ·have:=h.re e;exact⟨this.1,fun hc'=>by have:=this.2.1 hc';omega,fun hc'=>by have:=this.2.2 hc';omega⟩
 |l2=>
  rw [hs] at u1 u2 u3 u4 hle hs0 hp;obtain⟨p1,p2,p3⟩:=hp;simp only [Ph.nx,Ph.eff,Ph.act,iH,jr,Ph.m] at u1 u2 u3 u4 hle hs0⊢;have h1:=BI (sg:=sg) (f:=iH) hi;rw [hs] at h1;simp only [iH] at h1;refine⟨by show q.x=_;omega,by show 0=_;omega,fun e=>?_,fun e=>?_,hle,hs0,(by first |exact h.big |(show _ < 2147483648;omega) |(show q.c - 1 < 2147483648;omega) |(show 0 < 2147483648;omega)),h.tb⟩
  ·have:=h.un e;omega
  ·have h3:=h.re e;have:=h3.2.2 p1;refine⟨h3.1,fun hc'=>absurd hc' (Nat.lt_irrefl 0),fun _=>⟨by show 0=_;omega,by show _+_+q.sm=1;omega⟩⟩
 |l3=>
  rw [hs] at u1 u2 u3 u4 hle hs0 hp;obtain⟨p1,p2,p3⟩:=hp;simp only [Ph.nx,Ph.eff,Ph.act,iH,jr,Ph.m] at u1 u2 u3 u4 hle hs0⊢;have h1:=BI (sg:=sg) (f:=jr) hi;rw [hs] at h1;simp only [jr] at h1;refine⟨by show q.x=_;omega,by show q.c=_;omega,fun e=>?_,fun e=>?_,hle,hs0,(by first |exact h.big |(show _ < 2147483648;omega) |(show q.c - 1 < 2147483648;omega) |(show 0 < 2147483648;omega)),h.tb⟩
  ·have:=h.un e;omega
  ·have h3:=h.re e;have:=h3.2.2 p1;exact⟨h3.1,fun hc'=>by have hc':0 < q.c:=hc';omega,fun _=>⟨by show q.wt=_;omega,by show _+_+(q.sm+1)=1;omega⟩⟩
 |quit=>
  rw [hs] at u1 u2 u3 u4 hle hs0;simp only [Ph.nx,Ph.eff,Ph.act,iH,jr,Ph.m] at u1 u2 u3 u4 hle hs0⊢;refine⟨by omega,by omega,fun e=>?_,fun e=>?_,hle,hs0,(by first |exact h.big |(show _ < 2147483648;omega) |(show q.c - 1 < 2147483648;omega) |(show 0 < 2147483648;omega)),h.tb⟩
  ·have:=h.un e;omega
  ·have:=h.re e;exact⟨this.1,fun hc'=>by have:=this.2.1 hc';omega,fun hc'=>by have:=this.2.2 hc';omega⟩
def I0(A:Nat→Nat→Prop)(i n n':Nat):Nat→Nat→Prop:=fun j b=>A j b∨(j≠i∧n≤b∧b < n')
theorem sZ{A:Nat→Nat→Prop}{i n n':Nat}:I0 A i n n' i=A i:=by
 funext b;simp [I0]
def NS(P:Program)(p:Gp)(tot:Nat)(v:VW)(g:Goroutine)(k d:Nat)(s:Ph):Prop:=(s= .quit→QuitsD P k d g)∧(s≠.quit→∃fr cs,g=Gr fr cs∧Ww P p tot s v fr cs)
def P3(p:Gp)(t:Trace)(j:Nat):Prop:=∃q z,t[q]? =some z∧z.act= .mark (.releaseMerge p.stA)∧t.heard q∧Before t j q
theorem P3.app{p:Gp}{t:Trace}{j:Nat}(u:Trace)(h:P3 p t j):P3 p (t++u) j:=by
 obtain⟨q,z,h1,h2,h3,h4⟩:=h;have hlt:=lt_size_of_getElem? h1;exact⟨q,z,by rw [getElem?_append_old hlt];exact h1,h2,(heard_old hlt).2 h3,h4.app u⟩
structure CW(P:Program)(p:Gp)(tot:Nat→Nat)(n:Nat)(sg:Nat→Ph)(k:Nat→Nat)(md:Nat)(rg:Bool)(pd:Nat)(A Z:Nat→Nat→Prop)(gs:Array Goroutine)(w:World)(t:Trace):Prop where
 size:gs.size=n
 tr:zS n w.heap.size t
 domA:∀i b,A i b→b < w.heap.size
 domZ:∀i b,Z i b→b < w.heap.size
 cover:∀i j b,i < n→j < n→i≠j→b < w.heap.size→¬A i b→¬A j b→Z i b∧Z j b
 knows:∀i j x b,i < n→(i=0∨sg i≠.quit)→touchAt t j=some x→blk x.loc=some b→¬A i b→(x.write=true∨¬Z i b∨x.kind≠.plain)→Knows t i j
 shp:∀i j x b,i < n→(i=0∨sg i≠.quit)→touchAt t j=some x→blk x.loc=some b→p.sh b→x.kind= .plain→Knows t i j
 shs:∀(j:Nat) (x:Touch) (b:Nat),touchAt t j=some x→blk x.loc=some b→p.sh b→x.kind= .said→Knows t 0 j
 kn:∀(j:Nat) (op:MemOp),t[j]? =some op→t.counts j→Knows t 0 j∨(0 < op.g∧∃m,sg op.g= .work m)∨P3 p t j
 deaf0:Deaf t 0=md
 deaf:∀i,0 < i→i < n→sg i≠.quit→Deaf t i=(sg i).df
 sts:∀i g,0 < i→gs[i]? =some g→NS P p (tot i) ⟨w,A i,Z i⟩ g (k i) (Deaf t i) (sg i)
 bk:∃q,p.At w q∧Bk n tot sg rg pd q
 shA:∀b,p.sh b→∀i,A i b
 ne:p.bw≠p.bs
section
variable {P:Program}{p:Gp}{tot:Nat→Nat}{n:Nat}{sg:Nat→Ph}{k:Nat→Nat}{md:Nat}{rg:Bool}{pd:Nat}{A Z:Nat→Nat→Prop}{gs:Array Goroutine}{w w':World}{t:Trace}
theorem CW.others(h:CW P p tot n sg k md rg pd A Z gs w t){i j:Nat}{es:Array Event}(hi:i < n)(hj:j < n)(hne:j≠i)(hG:iJ ⟨w,A i,Z i⟩ w' es):cd ⟨w,A j,Z j⟩ ⟨w',I0 A i w.heap.size w'.heap.size j,Z j⟩ where
 keep b hb ha:=by
  refine hG.keep b hb ?_;by_cases h1:A i b
  ·exact .inl h1
  ·exact .inr (h.cover i j b hi hj (fun e=>hne e.symm) hb h1 ha).1
 size:=hG.size
 sub b hb:=.inl hb
 old b hb:=hb.imp id fun x=>x.2.1
 dom hd b hb:=by
  rcases hb with hb |hb
  ·exact Nat.lt_of_lt_of_le (hd b hb) hG.size
  ·exact hb.2.2
 Z:=rfl
 os:=hG.os
 tape:=hG.tape
 output:=hG.output
theorem Gp.Eff.rely{q:lz}(h:p.Eff w w' q){a z:Nat→Prop}(ha:∀b,p.sh b→a b):cd ⟨w,a,z⟩ ⟨w',a,z⟩ where
 keep b _ hb:=h.keep b fun x=>hb (ha b x)
 size:=Nat.le_of_eq h.size.symm
 sub _ hb:=hb
 old _ hb:=.inl hb
 dom hd b hb:=by show b < w'.heap.size;rw [h.size];exact hd b hb
 Z:=rfl
 os:=h.os
 tape:=h.tape
 output:=h.output
theorem NS.awake{q:Nat}{V:VW}{g:Goroutine}{m d:Nat}{s:Ph}(h:NS P p q V g m d s):awake g:=by
 by_cases hs:s= .quit
 ·exact awake_of ((h.1 hs).status.elim .inl fun h=>.inr (.inr h))
 ·obtain⟨fr,cs,rfl,_⟩:=h.2 hs;exact awake_of (.inl rfl)
theorem NS.woken{q:Nat}{V:VW}{g g1 g2:Goroutine}{m d:Nat}{s:Ph}{w1:World}(h:NS P p q V g m d s):Conc.woken P g1 g2 w1 g=g:=by
 by_cases hs:s= .quit
 ·exact woken_quitsD (h.1 hs)
 ·obtain⟨fr,cs,rfl,_⟩:=h.2 hs;exact woken_running rfl
theorem NS.rely{q:Nat}{V V':VW}{g:Goroutine}{m d d':Nat}{s:Ph}(hr:cd V V')(hd:s= .quit→d'=d)(h:NS P p q V g m d s):NS P p q V' g m d' s:=
 ⟨fun e=>by rw [hd e];exact h.1 e,fun e=>by obtain⟨fr,cs,e1,hk⟩:=h.2 e;exact⟨fr,cs,e1,hk.rely hr⟩⟩
theorem CW.at(h:CW P p tot n sg k md rg pd A Z gs w t)(d:Nat):CW P p tot n sg k md rg pd A Z gs (w.at d) t:=
 { h with sts:=fun i g hi hg=>(h.sts i g hi hg).rely (cd.drawn ⟨w,A i,Z i⟩ d) fun _=>rfl,bk:=by obtain⟨q,h1,h2⟩:=h.bk;exact⟨q,⟨h1.wg,h1.sum⟩,h2⟩ }
theorem CW.lt(h:CW P p tot n sg k md rg pd A Z gs w t){i:Nat}{g:Goroutine}(hi:gs[i]? =some g):i < n:=by
 have:=(Array.getElem?_eq_some_iff.1 hi).1;rwa [h.size] at this
theorem CW.step(h:CW P p tot n sg k md rg pd A Z gs w t){i:Nat}{fr fr':Frame}{cs cs':List Frame}{es:Array Event}(hi:gs[i]? =some (Gr fr cs))(hG:iJ ⟨w,A i,Z i⟩ w' es)
 (hw:0 < i→(∃m,sg i= .work m)∧Ww P p (tot i) (sg i) ⟨w',A i,Z i⟩ fr' cs'):
 CW P p tot n sg k md rg pd (I0 A i w.heap.size w'.heap.size) Z ((gs.map (Conc.woken P (Gr fr cs) (Gr fr' cs') w')).setIfInBounds i (Gr fr' cs')) w' (t++MemOp.ofEvents i fr.fn fr.place es):=by
 have hin:=h.lt hi
 have hiq:i=0∨sg i≠.quit:=by
  rcases Nat.eq_zero_or_pos i with e |e
  ·exact .inl e
  ·obtain⟨m,hm⟩:=(hw e).1;exact .inr (by rw [hm];simp)
 have hops:=t5 (i:=i) (fn:=fr.fn) (pos:=fr.place) hG.evs
 have hD:∀j,Deaf (t++MemOp.ofEvents i fr.fn fr.place es) j=Deaf t j:=fun j=>q7 hG.evs
 have hnew:∀{op:MemOp} {x:Touch} {b:Nat},op∈MemOp.ofEvents i fr.fn fr.place es→op.act.touch? =some x→blk x.loc=some b→b < w'.heap.size∧¬A i b∧(x.write=true→¬Z i b)∧x.kind= .plain:=fun {op x b} hu hx hb=>by
  obtain⟨e,he,rfl⟩:=(hops op hu).2.2 x hx;have:=qc (hG.evs e he) hb;exact⟨this.1,this.2.1,this.2.2,rfl⟩
 obtain⟨q,hat,hbk⟩:=h.bk
 have hkeep:∀b,p.sh b→w'.heap[b]? =w.heap[b]? :=fun b hb=>hG.keep b (h.domA i b (h.shA b hb i)) (.inl (h.shA b hb i))
 refine⟨by simp [h.size],?_,fun j b hb=>?_,fun j b hb=>Nat.lt_of_lt_of_le (h.domZ j b hb) hG.size,fun i1 j1 b hi1 hj1 hne hb h1 h2=>?_,fun i1 j x b hi1 ha1 hx hb hA hZ=>?_,fun i1 j x b hi1 ha1 hx hb hs hk=>?_,fun j x b hx hb hs hk=>?_,fun j op hop hc=>?_,by rw [hD];exact h.deaf0,fun j hj hjn hq=>by rw [hD];exact h.deaf j hj hjn hq,fun j x hj hx=>?_,⟨q,⟨(hkeep _ (.inl rfl)).trans hat.wg,(hkeep _ (.inr rfl)).trans hat.sum⟩,hbk⟩,fun b hb j=>.inl (h.shA b hb j),h.ne⟩
 ·
  refine h.tr.step hG.size hin hG.evs fun j x hx e he hl hm hwr=>?_;obtain⟨b,hb⟩:=zB hm;have:=qc (hG.evs e he) (hl▸hb);exact h.knows i j x b hin hiq hx hb this.2.1 (hwr.imp id fun e=>.inl (this.2.2 e))
 ·
  rcases hb with hb |hb
  ·exact Nat.lt_of_lt_of_le (h.domA j b hb) hG.size
  ·exact hb.2.2
 ·
  have hlt:b < w.heap.size:=by
   rcases Nat.lt_or_ge b w.heap.size with hlt |hge
   ·exact hlt
   ·exfalso;by_cases e:i1=i
    ·exact h2 (.inr ⟨fun e'=>hne (e.trans e'.symm),hge,hb⟩)
    ·exact h1 (.inr ⟨e,hge,hb⟩)
  exact h.cover i1 j1 b hi1 hj1 hne hlt (fun x=>h1 (.inl x)) fun x=>h2 (.inl x)
 ·
  obtain⟨op,hop,hxa⟩:=touch_of hx;rcases getElem?_append_cases hop with⟨_,hop'⟩ |⟨_,hu⟩
  ·exact(h.knows i1 j x b hi1 ha1 (by rw [touchAt_of hop'];exact hxa) hb (fun y=>hA (.inl y)) hZ).app _
  ·by_cases e:i1=i
   ·subst e;have:=knows_own hop;rwa [(hops op hu).1] at this
   ·obtain⟨hb1,hb2,hb3,hb4⟩:=hnew hu hxa hb
    have hlt:b < w.heap.size:=by
     rcases Nat.lt_or_ge b w.heap.size with hlt |hge
     ·exact hlt
     ·exact absurd (.inr ⟨e,hge,hb1⟩) hA
    obtain⟨z1,z2⟩:=h.cover i i1 b hin hi1 (fun e'=>e e'.symm) hlt hb2 fun y=>hA (.inl y);rcases hZ with hZ |hZ |hZ
    ·exact absurd z1 (hb3 hZ)
    ·exact absurd z2 hZ
    ·exact absurd hb4 hZ
 ·
  obtain⟨op,hop,hxa⟩:=touch_of hx;rcases getElem?_append_cases hop with⟨_,hop'⟩ |⟨_,hu⟩
  ·exact(h.shp i1 j x b hi1 ha1 (by rw [touchAt_of hop'];exact hxa) hb hs hk).app _
  ·exact absurd (h.shA b hs i) (hnew hu hxa hb).2.1
 ·
  obtain⟨op,hop,hxa⟩:=touch_of hx;rcases getElem?_append_cases hop with⟨_,hop'⟩ |⟨_,hu⟩
  ·exact(h.shs j x b (by rw [touchAt_of hop'];exact hxa) hb hs hk).app _
  ·exact absurd (h.shA b hs i) (hnew hu hxa hb).2.1
 ·
  rcases getElem?_append_cases hop with⟨hlt,hop'⟩ |⟨_,hu⟩
  ·exact(h.kn j op hop' ((je hlt).1 hc)).imp (·.app _) (.imp id (·.app _))
  ·have hg:=(hops op hu).1;rcases Nat.eq_zero_or_pos i with e |hp
   ·left;subst e;have:=knows_own hop;rwa [hg] at this
   ·exact .inr (.inl ⟨by rw [hg];exact hp,by rw [hg];exact(hw hp).1⟩)
 ·
  rcases ml hi hx with⟨rfl,rfl⟩ |⟨hne,y,hy,rfl⟩
  ·obtain⟨⟨m,hm⟩,hk⟩:=hw hj;rw [sZ];exact⟨fun e=>(by rw [hm] at e;cases e),fun _=>⟨fr',cs',rfl,hk⟩⟩
  ·have hs:=h.sts j y hj hy;rw [hs.woken,hD];exact hs.rely (h.others hin (h.lt hy) hne hG) fun _=>rfl
theorem CW.mute(h:CW P p tot n sg k md rg pd A Z gs w t){i:Nat}{fr fr':Frame}{cs cs':List Frame}(h0:0 < i)(hi:gs[i]? =some (Gr fr cs))(hs:sg i≠.quit)(hw:Ww P p (tot i) (sg i) ⟨w,A i,Z i⟩ fr' cs'):
 CW P p tot n sg k md rg pd A Z ((gs.map (Conc.woken P (Gr fr cs) (Gr fr' cs') w)).setIfInBounds i (Gr fr' cs')) w t:=by
 refine { h with size:=by simp [h.size],sts:=fun j x hj hx=>?_ }
 rcases ml hi hx with⟨rfl,rfl⟩ |⟨hne,y,hy,rfl⟩
 ·
  exact⟨fun e=>absurd e hs,fun _=>⟨fr',cs',rfl,hw⟩⟩
 ·
  have hs:=h.sts j y hj hy;rw [hs.woken];exact hs
theorem CW.quitStep(h:CW P p tot n sg k md rg pd A Z gs w t){i m:Nat}{g g':Goroutine}{es:Array Event}{fn:FuncId}{pos:String}(h0:0 < i)(hi:gs[i]? =some g)(hs:sg i= .quit)(hes:∀e∈es,Event.mute e=true)(hq:QuitsD P m (deafBehind (Deaf t i) es) g'):
 CW P p tot n sg (upd k i m) md rg pd A Z ((gs.map (Conc.woken P g g' w)).setIfInBounds i g') w (t++MemOp.ofEvents i fn pos es):=by
 have hin:=h.lt hi
 have hmu:=wa (i:=i) (fn:=fn) (pos:=pos) hes
 have hg:=fun op ho=>(hmu op ho).1
 have ht:=fun op ho=>(hmu op ho).2.1
 have hoth:∀j,j≠i→Deaf (t++MemOp.ofEvents i fn pos es) j=Deaf t j:=fun j hj=>Deaf_other t (fun e=>hj e.symm) _ hg
 refine { h with size:=by simp [h.size],tr:=h.tr.words hin hg ht fun op ho=>(hmu op ho).2.2.1,knows:=fun i1 j x b h1 h2 hx hb ha hz=>(h.knows i1 j x b h1 h2 (eX ht hx).2 hb ha hz).app _,shp:=fun i1 j x b h1 h2 hx hb hs' hk=>(h.shp i1 j x b h1 h2 (eX ht hx).2 hb hs' hk).app _,shs:=fun j x b hx hb hs' hk=>(h.shs j x b (eX ht hx).2 hb hs' hk).app _,kn:=fun j op hop hc=>?_,deaf0:=by rw [hoth 0 (by omega)];exact h.deaf0,deaf:=fun j hj hjn hq=>by rw [hoth j fun e=>hq (e▸hs)];exact h.deaf j hj hjn hq,sts:=fun j x hj hx=>?_ }
 ·
  rcases getElem?_append_cases hop with⟨hlt,hop'⟩ |⟨_,hm⟩
  ·exact(h.kn j op hop' ((je hlt).1 hc)).imp (·.app _) (.imp id (·.app _))
  ·obtain⟨x,hx,_⟩:=hc;obtain⟨op',hop2,hxa⟩:=touch_of hx;rw [hop] at hop2;cases hop2;rw [ht op hm] at hxa;cases hxa
 ·
  rcases ml hi hx with⟨rfl,rfl⟩ |⟨hne,y,hy,rfl⟩
  ·rw [dQ,Deaf_own];exact⟨fun _=>hq,fun e=>absurd hs e⟩
  ·have hs':=h.sts j y hj hy;rw [hs'.woken,dC hne,hoth j hne];exact hs'
structure lA(p:Gp)(i:Nat)(u:Trace):Prop where
 num:∀op∈u,op.g=i
 touch:∀op∈u,∀x,op.act.touch? =some x→∃b,blk x.loc=some b∧p.sh b∧(x.kind= .atomic∨(x.kind= .said∧i=0))
 rel:∀op∈u,∀a,op.act≠.mark (.release a)
theorem CW.tr_ops(h:CW P p tot n sg k md rg pd A Z gs w t){i:Nat}{u:Trace}(hin:i < n)(hiq:i=0∨sg i≠.quit)(hu:lA p i u):zS n w.heap.size (t++u):=by
 refine h.tr.app (Nat.le_refl _) hin hu.num (fun op ho x hx b hb=>?_) hu.rel fun j x hx op ho y hy said hc=>?_
 ·obtain⟨b',hb',hs,_⟩:=hu.touch op ho x hx;rw [hb] at hb';cases hb';exact h.domA 0 b (h.shA b hs 0)
 ·obtain⟨b,hb,hs,hk⟩:=hu.touch op ho y hy;obtain⟨c1,c2,c3,c4⟩:=hc;rw [←c1] at hb;have hpl:x.kind= .plain→Knows t i j:=fun e=>h.shp i j x b hin hiq hx hb hs e;rcases c4 with c4 |c4 |⟨_,c4,c5⟩
  ·exact hpl c4
  ·rcases hk with hk |⟨hk,_⟩ <;> (rw [hk] at c4;cases c4)
  ·rcases hk with hk |⟨_,hk⟩
   ·rw [hk] at c5;cases c5
   ·rw [hk];exact h.shs j x b hx hb hs c4
theorem CW.knows_ops(h:CW P p tot n sg k md rg pd A Z gs w t){i:Nat}{u:Trace}(hu:lA p i u){i1 j:Nat}{x:Touch}{b:Nat}(h1:i1 < n)(h2:i1=0∨sg i1≠.quit)(hx:touchAt (t++u) j=some x)(hb:blk x.loc=some b)(ha:¬A i1 b)(hz:x.write=true∨¬Z i1 b∨x.kind≠.plain):Knows (t++u) i1 j:=by
 obtain⟨op,hop,hxa⟩:=touch_of hx;rcases getElem?_append_cases hop with⟨_,hop'⟩ |⟨_,hm⟩
 ·exact(h.knows i1 j x b h1 h2 (by rw [touchAt_of hop'];exact hxa) hb ha hz).app _
 ·obtain⟨b',hb',hs,_⟩:=hu.touch op hm x hxa;rw [hb] at hb';cases hb';exact absurd (h.shA b hs i1) ha
theorem CW.shp_ops(h:CW P p tot n sg k md rg pd A Z gs w t){i:Nat}{u:Trace}(hu:lA p i u){i1 j:Nat}{x:Touch}{b:Nat}(h1:i1 < n)(h2:i1=0∨sg i1≠.quit)(hx:touchAt (t++u) j=some x)(hb:blk x.loc=some b)(hs:p.sh b)(hk:x.kind= .plain):Knows (t++u) i1 j:=by
 obtain⟨op,hop,hxa⟩:=touch_of hx;rcases getElem?_append_cases hop with⟨_,hop'⟩ |⟨_,hm⟩
 ·exact(h.shp i1 j x b h1 h2 (by rw [touchAt_of hop'];exact hxa) hb hs hk).app _
 ·obtain⟨_,_,_,hkk⟩:=hu.touch op hm x hxa;rw [hk] at hkk;rcases hkk with hkk |⟨hkk,_⟩ <;> cases hkk
theorem CW.shs_ops(h:CW P p tot n sg k md rg pd A Z gs w t){i:Nat}{u:Trace}(hu:lA p i u){j:Nat}{x:Touch}{b:Nat}(hx:touchAt (t++u) j=some x)(hb:blk x.loc=some b)(hs:p.sh b)(hk:x.kind= .said):Knows (t++u) 0 j:=by
 obtain⟨op,hop,hxa⟩:=touch_of hx;rcases getElem?_append_cases hop with⟨_,hop'⟩ |⟨_,hm⟩
 ·exact(h.shs j x b (by rw [touchAt_of hop'];exact hxa) hb hs hk).app _
 ·obtain⟨_,_,_,hkk⟩:=hu.touch op hm x hxa;rcases hkk with hkk |⟨_,hkk⟩
  ·rw [hk] at hkk;cases hkk
  ·have:=knows_own hop;rwa [hu.num op hm,hkk] at this
theorem L2{i:Nat}{fn:FuncId}{pos:String}{s:Ph}{m:Nat}:lA p i (MemOp.ofEvents i fn pos (s.evs p m)):=by
 have key:∀e∈s.evs p m,(∃a,(e=vc a∨e=zR a)∧p.sh a.block)∨e=kP .disable∨e=kP .enable∨e=kP (.releaseMerge p.stA):=by
  intro e he;cases s with
  |work m'=>
   simp only [Ph.evs] at he;split at he
   ·simp at he;rcases he with rfl |rfl
    ·exact .inl ⟨p.xA,.inl rfl,.inr rfl⟩
    ·exact .inl ⟨p.xA,.inr rfl,.inr rfl⟩
   ·simp at he;exact .inr (.inr (.inr he))
  |rel=>simp [Ph.evs] at he;exact .inr (.inl he)
  |deaf=>
   simp [Ph.evs] at he;rcases he with rfl |rfl
   ·exact .inl ⟨p.stA,.inl rfl,.inl rfl⟩
   ·exact .inl ⟨p.stA,.inr rfl,.inl rfl⟩
  |l1=>simp [Ph.evs] at he;exact .inl ⟨p.stA,.inl he,.inl rfl⟩
  |l2=>simp [Ph.evs] at he;exact .inl ⟨p.stA,.inr he,.inl rfl⟩
  |l3=>
   simp [Ph.evs] at he;rcases he with rfl |rfl |rfl |rfl
   ·exact .inr (.inl rfl)
   ·exact .inl ⟨p.smA,.inl rfl,.inl rfl⟩
   ·exact .inl ⟨p.smA,.inr rfl,.inl rfl⟩
   ·exact .inr (.inr (.inl rfl))
  |quit=>simp [Ph.evs] at he
 have hop:∀op∈MemOp.ofEvents i fn pos (s.evs p m),∃e∈s.evs p m,op={ g:=i,fn,pos,act:=.ofEvent e }:=fun op ho=>by
  unfold MemOp.ofEvents at ho;split at ho
  ·simp at ho
  ·obtain⟨e,he,rfl⟩:=Array.mem_map.1 ho;exact⟨e,he,rfl⟩
 refine⟨fun op ho=>?_,fun op ho x hx=>?_,fun op ho a ha=>?_⟩
 ·obtain⟨e,_,rfl⟩:=hop op ho;rfl
 ·obtain⟨e,he,rfl⟩:=hop op ho;rcases key e he with⟨a,rfl |rfl,hs⟩ |rfl |rfl |rfl
  ·simp [MemAct.ofEvent,vc,MemAct.touch?] at hx;subst hx;exact⟨a.block,rfl,hs,.inl rfl⟩
  ·simp [MemAct.ofEvent,zR,MemAct.touch?] at hx;subst hx;exact⟨a.block,rfl,hs,.inl rfl⟩
  ·simp [MemAct.ofEvent,kP,MemAct.touch?] at hx
  ·simp [MemAct.ofEvent,kP,MemAct.touch?] at hx
  ·simp [MemAct.ofEvent,kP,MemAct.touch?] at hx
 ·obtain⟨e,he,rfl⟩:=hop op ho;rcases key e he with⟨b,rfl |rfl,hs⟩ |rfl |rfl |rfl <;> simp [MemAct.ofEvent,vc,zR,kP] at ha
end
section
variable {P:Program}{p:Gp}{tot:Nat→Nat}{n:Nat}{sg:Nat→Ph}{k:Nat→Nat}{md:Nat}{rg:Bool}{pd:Nat}{A Z:Nat→Nat→Prop}{gs:Array Goroutine}{w w':World}{t:Trace}
theorem mz{i:Nat}{fn:FuncId}{pos:String}{m:Mark}:MemOp.ofEvents i fn pos #[kP m]= #[{ g:=i,fn:=fn,pos:=pos,act:=.mark m }]:=by
 rw [ofEvents_eq];simp [kP,MemAct.ofEvent]
theorem Jw{s:Ph}{m:Nat}(h1:s≠.quit)(h2:s.df=1):∀j,j < (s.evs p m).size→0 < deafBehind 1 ((s.evs p m).extract 0 j):=by
 intro j hj;cases s with
 |work _=>cases h2
 |rel=>cases h2
 |quit=>exact absurd rfl h1
 |deaf=>
  simp only [Ph.evs,List.size_toArray,List.length_cons,List.length_nil] at hj;rcases j with _ |_ |j
  ·exact Nat.one_pos
  ·exact Nat.one_pos
  ·omega
 |l1=>
  simp only [Ph.evs,List.size_toArray,List.length_cons,List.length_nil] at hj;rcases j with _ |j
  ·exact Nat.one_pos
  ·omega
 |l2=>
  simp only [Ph.evs,List.size_toArray,List.length_cons,List.length_nil] at hj;rcases j with _ |j
  ·exact Nat.one_pos
  ·omega
 |l3=>
  simp only [Ph.evs,List.size_toArray,List.length_cons,List.length_nil] at hj;rcases j with _ |_ |_ |_ |j
  ·exact Nat.one_pos
  ·exact Nat.two_pos
  ·exact Nat.two_pos
  ·exact Nat.two_pos
  ·omega
theorem MD{s:Ph}{m:Nat}{q:lz}(h1:s≠.quit):deafBehind s.df (s.evs p m)=if s.nx m q= .quit then 1 else(s.nx m q).df:=by
 cases s with
 |work m'=>
  by_cases hm:m' < m
  ·simp only [Ph.nx,Ph.evs,if_pos hm];rfl
  ·simp only [Ph.nx,Ph.evs,if_neg hm];rfl
 |deaf=>
  simp only [Ph.nx];split
  ·rfl
  ·rfl
 |quit=>exact absurd rfl h1
 |_=>rfl
theorem CW.act(h:CW P p tot n sg k md rg pd A Z gs w t){i:Nat}{fr fr':Frame}{cs cs':List Frame}{q:lz}(h0:0 < i)(hi:gs[i]? =some (Gr fr cs))(hs:sg i≠.quit)(hat:p.At w q)(hbk:Bk n tot sg rg pd q)
 (hE:p.Eff w w' ((sg i).eff (tot i) q)) (hw:Ww P p (tot i) ((sg i).nx (tot i) q) ⟨w',A i,Z i⟩ fr' cs'):
 ∃k',CW P p tot n (upd sg i ((sg i).nx (tot i) q)) (upd k i k') md rg pd A Z ((gs.map (Conc.woken P (Gr fr cs) (Gr fr' cs') w')).setIfInBounds i (Gr fr' cs')) w' (t++MemOp.ofEvents i fr.fn fr.place ((sg i).evs p (tot i))):=by
 have hin:=h.lt hi
 have hiq:i=0∨sg i≠.quit:=.inr hs
 have hu:lA p i (MemOp.ofEvents i fr.fn fr.place ((sg i).evs p (tot i))):=L2
 have hup:∀j,(j=0∨upd sg i ((sg i).nx (tot i) q) j≠.quit)→(j=0∨sg j≠.quit):=fun j hj=>by
  by_cases e:j=i
  ·subst e;exact .inr hs
  ·rwa [dC e] at hj
 have hDi:Deaf t i=(sg i).df:=h.deaf i h0 hin hs
 have hoth:∀j,j≠i→Deaf (t++MemOp.ofEvents i fr.fn fr.place ((sg i).evs p (tot i))) j=Deaf t j:=fun j hj=>Deaf_other t (fun e=>hj e.symm) _ hu.num
 have hown:Deaf (t++MemOp.ofEvents i fr.fn fr.place ((sg i).evs p (tot i))) i=if(sg i).nx (tot i) q= .quit then 1 else((sg i).nx (tot i) q).df:=by
  rw [Deaf_own,hDi];exact MD hs
 have hq:∃k',(sg i).nx (tot i) q= .quit→QuitsD P k' 1 (Gr fr' cs'):=by
  by_cases e:(sg i).nx (tot i) q= .quit
  ·rw [e] at hw;cases hw with
   |mute hs'=>exact absurd rfl hs'
   |act hs'=>exact absurd rfl hs'
   |quit m hm=>exact⟨m,fun _=>hm⟩
  ·exact⟨0,fun e'=>absurd e' e⟩
 obtain⟨k',hk'⟩:=hq
 refine⟨k',by simp [h.size],by rw [hE.size];exact h.tr_ops hin hiq hu,fun j b hb=>by rw [hE.size];exact h.domA j b hb,fun j b hb=>by rw [hE.size];exact h.domZ j b hb,fun i1 j b h1 h2 hne hb=>h.cover i1 j b h1 h2 hne (by rw [←hE.size];exact hb),
  fun i1 j x b h1 h2 hx hb ha hz=>h.knows_ops hu h1 (hup i1 h2) hx hb ha hz,fun i1 j x b h1 h2 hx hb hsh hk=>h.shp_ops hu h1 (hup i1 h2) hx hb hsh hk,fun j x b hx hb hsh hk=>h.shs_ops hu hx hb hsh hk,fun j op hop hc=>?_,
  by rw [hoth 0 (by omega)];exact h.deaf0,fun j hj hjn hjq=>?_,fun j x hj hx=>?_,⟨_,hE.at_,hbk.step hin h0⟩,h.shA,h.ne⟩
 ·
  rcases getElem?_append_cases hop with⟨hlt,hop'⟩ |⟨hge,hm⟩
  ·rcases h.kn j op hop' ((je hlt).1 hc) with h1 |⟨h1,m,h2⟩ |h1
   ·exact .inl (h1.app _)
   ·by_cases e:op.g=i
    ·rw [e] at h2;by_cases hm:m < tot i
     ·exact .inr (.inl ⟨h1,m+1,by rw [e,dQ,h2];simp only [Ph.nx,if_pos hm]⟩)
     ·refine .inr (.inr ⟨t.size,{ g:=i,fn:=fr.fn,pos:=fr.place,act:=.mark (.releaseMerge p.stA) },?_,rfl,?_,?_⟩)
      ·rw [Array.getElem?_append_right (Nat.le_refl _),Nat.sub_self,h2];simp only [Ph.evs,if_neg hm,mz];rfl
      ·refine⟨i,?_,by rw [deaf_old (Nat.le_refl _)];show Deaf t i=0;rw [hDi,h2];rfl⟩;simp only [Trace.g?];rw [Array.getElem?_append_right (Nat.le_refl _),Nat.sub_self,h2];simp only [Ph.evs,if_neg hm,mz];rfl
      ·refine .inr (hb_po hlt (by rw [getElem?_append_old hlt];exact hop') (y:={ g:=i,fn:=fr.fn,pos:=fr.place,act:=.mark (.releaseMerge p.stA) }) ?_ e);rw [Array.getElem?_append_right (Nat.le_refl _),Nat.sub_self,h2];simp only [Ph.evs,if_neg hm,mz];rfl
    ·exact .inr (.inl ⟨h1,m,by rw [dC e];exact h2⟩)
   ·exact .inr (.inr (h1.app _))
  ·have hg:=hu.num op hm;obtain⟨x,hx,hmem,hcc⟩:=hc;obtain⟨op',hop2,hxa⟩:=touch_of hx;rw [hop] at hop2;cases hop2;obtain⟨b,_,_,hk⟩:=hu.touch op hm x hxa
   have hk:x.kind= .atomic:=by
    rcases hk with hk |⟨_,hk⟩
    ·exact hk
    ·omega
   have hheard:(t++MemOp.ofEvents i fr.fn fr.place ((sg i).evs p (tot i))).heard j:=by
    rcases hcc with hcc |hcc
    ·exact absurd hk hcc
    ·exact hcc
   obtain⟨g,hg1,hg2⟩:=hheard
   have hgi:g=i:=by
    simp only [Trace.g?,hop,Option.map_some,Option.some.injEq] at hg1;rw [←hg1,hg]
   subst hgi
   have hsz:j < t.size+((sg g).evs p (tot g)).size:=by
    have:=lt_size_of_getElem? hop;rw [Array.size_append] at this;have e2:(MemOp.ofEvents g fr.fn fr.place ((sg g).evs p (tot g))).size=((sg g).evs p (tot g)).size:=by rw [ofEvents_eq];simp
    omega
   by_cases hdf:(sg g).df=1
   ·exfalso;have hd:=deaf_inside t g fr.fn fr.place ((sg g).evs p (tot g)) (j - t.size) (by omega);have e3:t.size+(j - t.size)=j:=by omega
    rw [e3,hg2,hDi,hdf] at hd;have:=Jw (p:=p) (m:=tot g) hs hdf (j - t.size) (by omega);omega
   ·cases hsg:sg g with
    |work m=>
     by_cases hlt:m < tot g
     ·exact .inr (.inl ⟨by rw [hg];exact h0,m+1,by rw [hg,dQ];simp only [Ph.nx,if_pos hlt]⟩)
     ·exfalso;rw [hsg] at hm;simp only [Ph.evs,if_neg hlt] at hm;simp [MemOp.ofEvents,kP,MemAct.ofEvent] at hm;subst hm;simp [MemAct.touch?] at hxa
    |rel=>
     exfalso;rw [hsg] at hm;simp [Ph.evs,MemOp.ofEvents,kP,MemAct.ofEvent] at hm;subst hm;simp [MemAct.touch?] at hxa
    |quit=>exact absurd hsg hs
    |deaf=>rw [hsg] at hdf;exact absurd rfl hdf
    |l1=>rw [hsg] at hdf;exact absurd rfl hdf
    |l2=>rw [hsg] at hdf;exact absurd rfl hdf
    |l3=>rw [hsg] at hdf;exact absurd rfl hdf
 ·
  by_cases e:j=i
  ·subst e;rw [dQ] at hjq⊢;rw [hown,if_neg hjq]
  ·rw [dC e] at hjq⊢;rw [hoth j e];exact h.deaf j hj hjn hjq
 ·
  rcases ml hi hx with⟨rfl,rfl⟩ |⟨hne,y,hy,rfl⟩
  ·rw [dQ,dQ,hown];refine⟨fun e=>?_,fun e=>⟨fr',cs',rfl,hw⟩⟩;rw [if_pos e];exact hk' e
  ·have hs':=h.sts j y hj hy;rw [hs'.woken,dC hne,dC hne,hoth j hne];exact hs'.rely (hE.rely fun b hb=>h.shA b hb j) fun _=>rfl
end
structure Sw(P:Program)(p:Gp)(tot:Nat→Nat)(n:Nat)(md:Nat)(rg:Bool)(pd:Nat)(jn:Bool)(Iv:(Nat→Ph)→Prop)(v:VW)(g0:Goroutine)(w:World)(sg:Nat→Ph)(k:Nat→Nat)(A Z:Nat→Nat→Prop)(gs:Array Goroutine)(t:Trace):Prop where
 iv:Iv sg
 rely:cd v ⟨w,A 0,Z 0⟩
 cw:CW P p tot n sg k md rg pd A Z gs w t
 head:gs[0]? =some g0
 join:jn=true→(∀i,i < n→sg i= .quit)∧KA (A 0) t
section
variable {P:Program}{p:Gp}{tot:Nat→Nat}{n:Nat}{md:Nat}{rg:Bool}{pd:Nat}{jn:Bool}{Iv:(Nat→Ph)→Prop}{v:VW}{g0:Goroutine}{w:World}{sg:Nat→Ph}{k:Nat→Nat}{A Z:Nat→Nat→Prop}{gs:Array Goroutine}{t:Trace}
theorem Sw.at(h:Sw P p tot n md rg pd jn Iv v g0 w sg k A Z gs t)(d:Nat):Sw P p tot n md rg pd jn Iv v g0 (w.at d) sg k A Z gs t:=
 ⟨h.iv,h.rely.trans (cd.drawn ⟨w,A 0,Z 0⟩ d),h.cw.at d,h.head,h.join⟩
def mw(sg:Nat→Ph)(A Z:Nat→Nat→Prop)(gs:Array Goroutine)(w:World)(i:Nat):Option (Ph×VW×Frame×List Frame):=
 if 0 < i∧sg i≠.quit then(gs[i]?).map fun g=>(sg i,⟨w,A i,Z i⟩,g.frame,g.callers) else none
theorem rU{i:Nat}{fr:Frame}{cs:List Frame}(hi:0 < i)(hw:sg i≠.quit)(hg:gs[i]? =some (Gr fr cs)):mw sg A Z gs w i=some (sg i,⟨w,A i,Z i⟩,fr,cs):=by
 unfold mw;rw [if_pos ⟨hi,hw⟩,hg];rfl
theorem zc{i:Nat}(h:¬(0 < i∧sg i≠.quit)):mw sg A Z gs w i=none:=if_neg h
def N9(P:Program)(p:Gp)(tot:Nat→Nat)(y x:Nat×Option (Ph×VW×Frame×List Frame)):Prop:=y.1=x.1∧ww P p (tot x.1) y.2 x.2
theorem KV{i:Nat}{x:Option (Ph×VW×Frame×List Frame)}(h:Acc (ww P p (tot i)) x):Acc (N9 P p tot) (i,x):=by
 induction h with
 |intro x _ ih=>
  refine Acc.intro _ fun y hy=>?_;obtain⟨j,y⟩:=y;obtain⟨rfl,h2⟩:=hy;exact ih y h2
def mp(sg:Nat→Ph)(A Z:Nat→Nat→Prop)(gs:Array Goroutine)(w:World)(i:Nat):Nat×Option (Ph×VW×Frame×List Frame):=(i,mw sg A Z gs w i)
theorem Ou(h:CW P p tot n sg k md rg pd A Z gs w t)(i:Nat)(hi:i < n):Acc (N9 P p tot) (mp sg A Z gs w i):=by
 refine KV ?_;by_cases hr:0 < i∧sg i≠.quit
 ·have hlt:i < gs.size:=by rw [h.size];exact hi
  have hg:gs[i]? =some gs[i]:=Array.getElem?_eq_getElem hlt;obtain⟨fr,cs,e,hk⟩:=(h.sts i _ hr.1 hg).2 hr.2;rw [e] at hg;rw [rU hr.1 hr.2 hg];have:=hk.acc;unfold wm at this;rwa [if_neg hr.2] at this
 ·rw [zc hr];exact sj
theorem KT{i:Nat}{x y:Option (Ph×VW×Frame×List Frame)}(h:Sb (ww P p (tot i)) x y):Sb (N9 P p tot) (i,x) (i,y):=fun z hz=>⟨hz.1,h _ hz.2⟩
theorem xP{sg':Nat→Ph}{A':Nat→Nat→Prop}{gs':Array Goroutine}{w':World}(h:CW P p tot n sg k md rg pd A Z gs w t){j:Nat}(hws:sg' j=sg j)(hgs:0 < j→sg j≠.quit→gs'[j]? =gs[j]?)(hr:cd ⟨w,A j,Z j⟩ ⟨w',A' j,Z j⟩):Sb (N9 P p tot) (mp sg' A' Z gs' w' j) (mp sg A Z gs w j):=by
 refine KT ?_;by_cases hx:0 < j∧sg j≠.quit
 ·have hg':=hgs hx.1 hx.2;cases hg:gs[j]? with
  |none=>
   have e1:mw sg' A' Z gs' w' j=none:=by unfold mw;rw [hg',hg];split <;> rfl
   rw [e1];exact fun y hy=>by cases y <;> exact hy.elim
  |some g=>
   obtain⟨fr,cs,rfl,_⟩:=(h.sts j g hx.1 hg).2 hx.2;rw [rU hx.1 hx.2 hg,rU hx.1 (by rw [hws];exact hx.2) (hg'.trans hg),hws];exact Kz hr
 ·rw [zc (fun h=>hx ⟨h.1,hws▸h.2⟩)];exact fun y hy=>by cases y <;> exact hy.elim
theorem Ci{fr0:Frame}{cs0:List Frame}{g g':Goroutine}{w':World}:Conc.woken P g g' w' { Gr fr0 cs0 with status:=.blocked }=Gr fr0 cs0∨Conc.woken P g g' w' { Gr fr0 cs0 with status:=.blocked }={ Gr fr0 cs0 with status:=.blocked }:=by
 unfold Conc.woken;split
 ·exact .inl rfl
 ·exact .inr rfl
theorem zV{fr0:Frame}{cs0:List Frame}{g g':Goroutine}{w':World}(h:mayWake P g=true)(h':g'.status= .running):Conc.woken P g g' w' { Gr fr0 cs0 with status:=.blocked }=Gr fr0 cs0:=by
 unfold Conc.woken;rw [h,h'];rfl
theorem Bw{Gd:Machine→Trace→Prop}(hnx:∀m m' t ops,stepT P m=(.next m',ops)→Gd m' (t++ops)→Gd m t){fr0:Frame}{cs0:List Frame}(b0:Bool)
 (hblk:b0=true→rg=true) (hIv:∀(sg:Nat→Ph) (i:Nat) (q:lz),0 < i→i < n→sg i≠.quit→Iv sg→Iv (upd sg i ((sg i).nx (tot i) q)))
 (hmain:∀w sg k A Z gs t sl,Sw P p tot n md rg pd jn Iv v (Gr fr0 cs0) w sg k A Z gs t→
  (b0=true→(∃q,p.At w q∧q.sm=0)→Gd (crowd (gs.setIfInBounds 0 { Gr fr0 cs0 with status:=.blocked }) w sl) t)→
  ∀d sl0,stepT P (crowd gs (w.at d) sl0)=runT P (crowd gs w sl) 0→Gd (crowd gs (w.at d) sl0) t):
 ∀w sg k A Z gs t sl,Sw P p tot n md rg pd jn Iv v (Gr fr0 cs0) w sg k A Z gs t→Gd (crowd gs w sl) t:=by
 have key:∀s0,Acc (Dn (N9 P p tot) n) s0→∀N,∀(g0:Goroutine) w sg k A Z gs t sl,(g0=Gr fr0 cs0∨(b0=true∧g0={ Gr fr0 cs0 with status:=.blocked }∧∃q,p.At w q∧q.sm=0))→Sw P p tot n md rg pd jn Iv v g0 w sg k A Z gs t→
  (∀j,j < n→Sb (N9 P p tot) (mp sg A Z gs w j) (s0 j))→2 * aS k n+(if g0.status= .running then 1 else 0)≤N→Gd (crowd gs w sl) t:=by
  intro s0 h0
  induction h0 with
  |intro s0 _ ih1=>
   intro N
   induction N using Nat.strongRecOn with
   |_ N ih2=>
    intro g0 w sg k A Z gs t sl hg0 hS hb hN;have hcw:=hS.cw
    have hst0:g0.status= .running∨g0.status= .blocked:=by
     rcases hg0 with rfl |⟨_,rfl,_⟩
     ·exact .inl rfl
     ·exact .inr rfl
    have haw:∀g∈gs,awake g:=fun g hg=>by
     obtain⟨j,hj,rfl⟩:=Array.getElem_of_mem hg;have e:gs[j]? =some gs[j]:=Array.getElem?_eq_getElem hj;rcases Nat.eq_zero_or_pos j with rfl |hp
     ·rw [hS.head] at e;cases e;exact awake_of (hst0.elim .inl fun h=>.inr (.inl h))
     ·exact(hcw.sts j _ hp e).awake
    have hsome:∃(i:Nat) (g:Goroutine),gs[i]? =some g∧g.status= .running:=by
     rcases hg0 with rfl |⟨hb0,rfl,q,hq1,hq2⟩
     ·exact⟨0,_,hS.head,rfl⟩
     ·obtain⟨q',h1,h2⟩:=hcw.bk
      have hex:∃i,i < n∧sg i≠.quit:=by
       apply Classical.byContradiction;intro hno;have hall:∀i,i < n→sg i= .quit:=fun i hi=>Classical.byContradiction fun e=>hno ⟨i,hi,e⟩
       have z:∀f:Ph→Nat,f .quit=0→al n sg f=0:=fun f hf=>by
        have:∀m,m≤n→al m sg f=0:=by
         intro m
         induction m with
         |zero=>exact fun _=>rfl
         |succ m ihm=>
          intro hm;show al m sg f+f (sg m)=0;rw [ihm (by omega),hall m (by omega),hf]
        exact this n (Nat.le_refl _)
       have e1:=z Ph.act rfl;have e2:=z iH rfl;have e3:=z jr rfl;have h3:=h2.re (hblk hb0);have hc:=h2.c;have h4:=h3.2.2 (by omega)
       have hsm:q'.sm=q.sm:=by
        have:=hq1.wg.symm.trans h1.wg;simp only [Option.some.injEq,Obj.cells.injEq] at this;have:=congrArg Array.toList this.1;simp only [List.cons.injEq,Value.int.injEq,true_and] at this;omega
       omega
      obtain⟨i,hi,hq⟩:=hex
      have hp:0 < i:=by
       rcases Nat.eq_zero_or_pos i with rfl |hp
       ·exact absurd h2.s0 hq
       ·exact hp
      have hlt:i < gs.size:=by rw [hcw.size];exact hi
      have e:gs[i]? =some gs[i]:=Array.getElem?_eq_getElem hlt;obtain⟨fr,cs,e1,_⟩:=(hcw.sts i _ hp e).2 hq;exact⟨i,_,e,by rw [e1]⟩
    obtain⟨i,g,d,sl',hi,hg,hst⟩:=crowd_pick (P:=P) (w:=w) (sl:=sl) haw hsome;have hSd:=hS.at d;have hin:i < n:=hcw.lt hi;rcases Nat.eq_zero_or_pos i with rfl |hp
    ·rw [hS.head] at hi;cases hi;rcases hg0 with rfl |⟨_,rfl,_⟩
     ·refine hmain _ sg k A Z gs t sl' hSd (fun hb0 hq=>?_) w.drawn sl hst;refine ih2 (2 * aS k n) (by simp only [if_true] at hN;omega) { Gr fr0 cs0 with status:=.blocked } (w.at d) sg k A Z _ t sl' (.inr ⟨hb0,rfl,hq⟩) ⟨hSd.iv,hSd.rely,?_,?_,hSd.join⟩ (fun j hj=>?_) (by simp)
      ·exact { hSd.cw with size:=by simp [hcw.size],sts:=fun j x hj hx=>hSd.cw.sts j x hj (by rwa [Array.getElem?_setIfInBounds_ne (by omega)] at hx) }
      ·exact Array.getElem?_setIfInBounds_self_of_lt (by rw [hcw.size];exact hin)
      ·refine(xP hcw rfl (fun hj0 _=>?_) (cd.drawn ⟨w,A j,Z j⟩ d)).trans (hb j hj);rw [Array.getElem?_setIfInBounds_ne (by omega)]
     ·cases hg
    ·have hi0:(i == 0)=false:=by simp;omega
     have hs:=hSd.cw.sts i g hp hi;have hbd:∀j,j < n→Sb (N9 P p tot) (mp sg A Z gs (w.at d) j) (s0 j):=fun j hj=>(xP hcw rfl (fun _ _=>rfl) (cd.drawn ⟨w,A j,Z j⟩ d)).trans (hb j hj)
     have hg0':∀(g':Goroutine) (w':World),((∃q,p.At w q∧q.sm=0)→(Conc.woken P g g' w' { Gr fr0 cs0 with status:=.blocked }=Gr fr0 cs0)∨∃q,p.At w' q∧q.sm=0)→
      (Conc.woken P g g' w' g0=Gr fr0 cs0∨(b0=true∧Conc.woken P g g' w' g0={ Gr fr0 cs0 with status:=.blocked }∧∃q,p.At w' q∧q.sm=0)):=fun g' w' hq=>by
      rcases hg0 with rfl |⟨hb0,rfl,hq0⟩
      ·
       exact .inl (woken_running rfl)
      ·
       rcases hq hq0 with h1 |h1
       ·exact .inl h1
       ·rcases Ci (P:=P) (fr0:=fr0) (cs0:=cs0) (g:=g) (g':=g') (w':=w') with h2 |h2
        ·exact .inl h2
        ·exact .inr ⟨hb0,h2,h1⟩
     have hhead:∀(g':Goroutine) (w':World),((gs.map (Conc.woken P g g' w')).setIfInBounds i g')[0]? =some (Conc.woken P g g' w' g0):=fun g' w'=>by
      rw [Array.getElem?_setIfInBounds_ne (by omega),Array.getElem?_map,hS.head];rfl
     have hrest:∀(g':Goroutine) (w':World) (j:Nat),0 < j→j≠i→j < n→((gs.map (Conc.woken P g g' w')).setIfInBounds i g')[j]? =gs[j]? :=fun g' w' j hj0 hne hj=>by
      have hjs:j < gs.size:=by rw [hcw.size];exact hj
      have hy:gs[j]? =some gs[j]:=Array.getElem?_eq_getElem hjs;rw [vG hne hy (hcw.sts j _ hj0 hy).woken,hy]
     by_cases hq:sg i= .quit
     ·have hqd:=hs.1 hq;cases hki:k i with
      |zero=>
       rw [hki] at hqd;have hqd:g.status= .finished:=hqd.1;rw [hqd] at hg;cases hg
      |succ m=>
       rw [hki] at hqd;rcases hqd with hf |⟨_,g',es,hmu,hw,hq'⟩
       ·rw [hf.1] at hg;cases hg
       ·have hgo:=runT_crowd_go (sl:=sl') hi (by rw [hi0];exact hw (w.at d));rw [←hst] at hgo;refine hnx _ _ _ _ hgo ?_;have hcw':=hSd.cw.quitStep (fn:=g.frame.fn) (pos:=g.frame.place) hp hi hq hmu hq';have hu:=pX (k:=k) (x:=m) hin;refine ih2 (2 * aS (upd k i m) n+1) (by split at hN <;> omega) _ (w.at d) sg (upd k i m) A Z _ _ sl' (hg0' g' (w.at d) fun⟨q,h1,h2⟩=>.inr ⟨q,⟨h1.wg,h1.sum⟩,h2⟩) ⟨hSd.iv,hSd.rely,hcw',hhead g' _,fun e=>⟨(hSd.join e).1,(hSd.join e).2.words fun op ho=>(wa hmu op ho).2.1⟩⟩ (fun j hj=>?_) (by split <;> omega);refine(xP hSd.cw rfl (fun hj0 hr=>?_) (cd.refl _)).trans (hbd j hj);exact hrest g' _ j hj0 (fun e=>hr (e▸hq)) hj
     ·obtain⟨fr,cs,rfl,hk⟩:=hs.2 hq;have hms:mp sg A Z gs (w.at d) i=(i,some (sg i,⟨w.at d,A i,Z i⟩,fr,cs)):=by unfold mp;rw [rU hp hq hi]
      obtain⟨q0,hat0,hbk0⟩:=hSd.cw.bk;have hpre0:=hbk0.pre hin;have hrf:=cd.refl ⟨w.at d,A i,Z i⟩;generalize hsg:sg i=s at hk hq hms hpre0;cases hk with
      |quit m hm=>exact absurd rfl hq
      | @priv m _ _ _ f c w1 es h1 h2 h3=>
       have hgo:=runT_crowd_go (sl:=sl') hi (by rw [hi0];exact h1 _ hrf);rw [←hst] at hgo;refine hnx _ _ _ _ hgo ?_;have hG:=h2 _ hrf;have hcw':=hSd.cw.step hi hG fun _=>⟨⟨m,hsg⟩,by rw [hsg];exact h3 _ hrf⟩;refine ih1 (mp sg (I0 A i (w.at d).heap.size (w1 ⟨w.at d,A i,Z i⟩).heap.size) Z _ (w1 ⟨w.at d,A i,Z i⟩)) ⟨i,hin,?_,fun j hj hne=>?_⟩ _ _ _ sg k _ Z _ _ sl' (hg0' _ _ fun⟨q,g1,g2⟩=>.inr ⟨q,?_,g2⟩) ⟨hSd.iv,hSd.rely.trans (hSd.cw.others hin (by omega) (by omega) hG),hcw',hhead _ _,fun e=>absurd ((hSd.join e).1 i hin) (by first |exact hq |(rw [hsg];exact hq))⟩ (fun j _=>Sb.refl _) (Nat.le_refl _)
       ·have:=hbd i hin;rw [hms] at this;refine this _ ?_;unfold mp;rw [rU hp (by rw [hsg];simp) (iO hi),sZ];exact⟨rfl,by rw [hsg];simp,_,q0,_,_,hrf,hat0,hpre0,h1 _ hrf,rfl,fun _=>hsg,fun hne=>absurd (Az hG.evs) hne⟩
       ·refine(xP hSd.cw rfl (fun hj0 _=>?_) (hSd.cw.others hin hj hne hG)).trans (hbd j hj);exact hrest _ _ j hj0 hne hj
       ·have hkeep:∀b,p.sh b→(w1 ⟨w.at d,A i,Z i⟩).heap[b]? =w.heap[b]? :=fun b hb=>hG.keep b (hcw.domA i b (hcw.shA b hb i)) (.inl (hcw.shA b hb i));exact⟨(hkeep _ (.inl rfl)).trans g1.wg,(hkeep _ (.inr rfl)).trans g1.sum⟩
      | @mute _ _ _ fr' _ cs' hs' h1 h3=>
       have hgo:=runT_crowd_go (sl:=sl') hi (by rw [hi0];exact h1 (w.at d) ⟨q0,hat0⟩);rw [←hst] at hgo;refine hnx _ _ _ _ hgo ?_;rw [ofEvents_none,Array.append_empty];have hcw':=hSd.cw.mute hp hi (by rw [hsg];exact hq) (by rw [hsg];exact h3 _ hrf);refine ih1 (mp sg A Z _ (w.at d)) ⟨i,hin,?_,fun j hj hne=>?_⟩ _ _ _ sg k _ Z _ _ sl' (hg0' _ _ fun⟨q,g1,g2⟩=>.inr ⟨q,⟨g1.wg,g1.sum⟩,g2⟩) ⟨hSd.iv,hSd.rely,hcw',hhead _ _,fun e=>absurd ((hSd.join e).1 i hin) (by first |exact hq |(rw [hsg];exact hq))⟩ (fun j _=>Sb.refl _) (Nat.le_refl _)
       ·have:=hbd i hin;rw [hms] at this;refine this _ ?_;unfold mp;rw [rU hp (by rw [hsg];exact hq) (iO hi)];exact⟨rfl,by rw [hsg];exact hq,_,q0,_,_,hrf,hat0,hpre0,h1 _ ⟨q0,hat0⟩,rfl,fun _=>hsg,fun hne=>absurd (fun e he=>by simp at he) hne⟩
       ·refine(xP hSd.cw rfl (fun hj0 _=>?_) (cd.refl _)).trans (hbd j hj);exact hrest _ _ j hj0 hne hj
      |act hs' hmw f c w1 h1 h2 h3=>
       have hgo:=runT_crowd_go (sl:=sl') hi (by rw [hi0];exact h1 _ q0 hrf hat0 hpre0);rw [←hst] at hgo;refine hnx _ _ _ _ hgo ?_;have hE:=h2 _ q0 hrf hat0 hpre0;have hW:=h3 _ q0 hrf hat0 hpre0;subst hsg;obtain⟨k',hcw'⟩:=hSd.cw.act hp hi hq hat0 hbk0 hE hW;refine ih1 (mp (upd sg i ((sg i).nx (tot i) q0)) A Z _ (w1 ⟨w.at d,A i,Z i⟩ q0)) ⟨i,hin,?_,fun j hj hne=>?_⟩ _ _ _ _ _ A Z _ _ sl' (hg0' _ _ fun⟨q,g1,g2⟩=>?_) ⟨hIv sg i q0 hp hin hq hSd.iv,hSd.rely.trans (hE.rely fun b hb=>hcw.shA b hb 0),hcw',hhead _ _,fun e=>absurd ((hSd.join e).1 i hin) (by first |exact hq |(rw [hsg];exact hq))⟩ (fun j _=>Sb.refl _) (Nat.le_refl _)
       ·have:=hbd i hin;rw [hms] at this;refine this _ ?_;by_cases e:(sg i).nx (tot i) q0= .quit
        ·unfold mp;rw [zc (by rw [dQ];exact fun h=>h.2 e)];exact⟨rfl,trivial⟩
        ·unfold mp;rw [rU hp (by rw [dQ];exact e) (iO hi),dQ];exact⟨rfl,e,_,q0,_,_,hrf,hat0,hpre0,h1 _ q0 hrf hat0 hpre0,rfl,fun h=>absurd h (uR hq),fun _=>rfl⟩
       ·refine(xP hSd.cw (dC hne) (fun hj0 _=>?_) (hE.rely fun b hb=>hcw.shA b hb j)).trans (hbd j hj);exact hrest _ _ j hj0 hne hj
       ·by_cases e:sg i= .l3
        ·exact .inl (zV (hmw e) rfl)
        ·refine .inr ⟨_,hE.at_,?_⟩
         have hsm:q0.sm=q.sm:=by
          have:=hat0.wg.symm.trans g1.wg;simp only [Option.some.injEq,Obj.cells.injEq] at this;have:=congrArg Array.toList this.1;simp only [List.cons.injEq,Value.int.injEq,true_and] at this;omega
         have:((sg i).eff (tot i) q0).sm=q0.sm:=by
          cases hx:sg i <;> simp only [Ph.eff] <;> first |rfl |(split <;> rfl) |exact absurd hx e
         omega
 intro w sg k A Z gs t sl hS
 exact key _ (Jv n _ fun i hi=>Ou hS.cw i hi) _ _ w sg k A Z gs t sl (.inl rfl) hS (fun j _=>Sb.refl _) (Nat.le_refl _)
end
section
variable {P:Program}{p:Gp}{tot:Nat→Nat}{n:Nat}{md:Nat}{rg:Bool}{pd:Nat}{jn:Bool}{Iv:(Nat→Ph)→Prop}{Gd:Machine→Trace→Prop}{v:VW}{w w':World}{sg:Nat→Ph}{k:Nat→Nat}{A Z:Nat→Nat→Prop}{gs:Array Goroutine}{t:Trace}
def Kp(tot:Nat→Nat)(n:Nat)(Iv:(Nat→Ph)→Prop):Prop:=∀(sg:Nat→Ph) (i:Nat) (q:lz),0 < i→i < n→sg i≠.quit→Iv sg→Iv (upd sg i ((sg i).nx (tot i) q))
def Q6:(Nat→Ph)→Prop:=fun _=>True
def uO(n:Nat):(Nat→Ph)→Prop:=fun sg=>∀i,i < n→sg i= .quit
def rm(n B:Nat):(Nat→Ph)→Prop:=fun sg=>al n sg Ph.act≤B
theorem SS:Kp tot n Q6:=fun _ _ _ _ _ _ _=>trivial
theorem Ba:Kp tot n (uO n):=fun sg i _ _ hi hq h=>absurd (h i hi) hq
theorem rj{B:Nat}:Kp tot n (rm n B):=fun sg i q _ hi _ h=>by
 have u:=zE (sg:=sg) (f:=Ph.act) (s:=(sg i).nx (tot i) q) hi
 have h:al n sg Ph.act≤B:=h
 show al n (upd sg i ((sg i).nx (tot i) q)) Ph.act≤B
 have:((sg i).nx (tot i) q).act≤(sg i).act:=by
  cases hs:sg i with
  |work m=>simp only [Ph.nx];split <;> exact Nat.le_refl _
  |deaf=>simp only [Ph.nx];split <;> exact Nat.zero_le _
  |_=>simp [Ph.nx,Ph.act]
 omega
def TW(P:Program)(p:Gp)(tot:Nat→Nat)(n md:Nat)(rg:Bool)(pd:Nat)(jn:Bool)(Iv:(Nat→Ph)→Prop)(Gd:Machine→Trace→Prop):Tq:=fun v fr cs=>
 ∀w sg k A Z gs t sl,Sw P p tot n md rg pd jn Iv v (Gr fr cs) w sg k A Z gs t→Gd (crowd gs w sl) t
theorem tq(hnx:∀m m' t ops,stepT P m=(.next m',ops)→Gd m' (t++ops)→Gd m t)(hK:Kp tot n Iv){fr:Frame}{cs:List Frame}
 (h:∀w sg k A Z gs t sl,Sw P p tot n md rg pd jn Iv v (Gr fr cs) w sg k A Z gs t→∀d sl0,stepT P (crowd gs (w.at d) sl0)=runT P (crowd gs w sl) 0→Gd (crowd gs (w.at d) sl0) t):TW P p tot n md rg pd jn Iv Gd v fr cs:=
 Bw hnx false (fun e=>by cases e) hK fun w sg k A Z gs t sl hS _=>h w sg k A Z gs t sl hS
theorem TW.bc(hnx:∀m m' t ops,stepT P m=(.next m',ops)→Gd m' (t++ops)→Gd m t)(hK:Kp tot n Iv):BC P (TW P p tot n md rg pd jn Iv Gd) where
 rely v v1 fr cs hr h:=fun w sg k A Z gs t sl hS=>h w sg k A Z gs t sl ⟨hS.iv,hr.trans hS.rely,hS.cw,hS.head,hS.join⟩
 step v fr cs h:=tq hnx hK fun w sg k A Z gs t sl hS d sl0 hst=>by
  obtain⟨fr',cs',w',es,h1,h2,h3⟩:=h _ hS.rely
  have hgo:=runT_crowd_go (sl:=sl) hS.head (by exact h1 (0 == 0))
  rw [←hst] at hgo
  refine hnx _ _ _ _ hgo ?_
  refine h3 w' sg k _ Z _ _ sl ⟨hS.iv,?_,hS.cw.step hS.head h2 (fun hp=>absurd hp (Nat.lt_irrefl 0)),iO hS.head,fun e=>⟨(hS.join e).1,?_⟩⟩
  ·
   rw [sZ]
   exact cd.refl _
  ·
   rw [sZ]
   exact(hS.join e).2.app fun op ho=>(t5 h2.evs op ho).1
theorem CW.main(h:CW P p tot n sg k md rg pd A Z gs w t){g g':Goroutine}{es:Array Event}{fn:FuncId}{pos:String}{rg':Bool}{pd':Nat}{q':lz}(hi:gs[0]? =some g)(hu:lA p 0 (MemOp.ofEvents 0 fn pos es))(hE:p.Eff w w' q')(hbk:Bk n tot sg rg' pd' q'):
 CW P p tot n sg k (deafBehind md es) rg' pd' A Z ((gs.map (Conc.woken P g g' w')).setIfInBounds 0 g') w' (t++MemOp.ofEvents 0 fn pos es):=by
 have hin:0 < n:=h.lt hi
 have hoth:∀j,j≠0→Deaf (t++MemOp.ofEvents 0 fn pos es) j=Deaf t j:=fun j hj=>Deaf_other t (fun e=>hj e.symm) _ hu.num
 refine⟨by simp [h.size],by rw [hE.size];exact h.tr_ops hin (.inl rfl) hu,fun j b hb=>by rw [hE.size];exact h.domA j b hb,fun j b hb=>by rw [hE.size];exact h.domZ j b hb,fun i1 j b h1 h2 hne hb=>h.cover i1 j b h1 h2 hne (by rw [←hE.size];exact hb),
  fun i1 j x b h1 h2 hx hb ha hz=>h.knows_ops hu h1 h2 hx hb ha hz,fun i1 j x b h1 h2 hx hb hsh hk=>h.shp_ops hu h1 h2 hx hb hsh hk,fun j x b hx hb hsh hk=>h.shs_ops hu hx hb hsh hk,fun j op hop hc=>?_,
  by rw [Deaf_own,h.deaf0],fun j hj hjn hjq=>by rw [hoth j (by omega)];exact h.deaf j hj hjn hjq,fun j x hj hx=>?_,⟨_,hE.at_,hbk⟩,h.shA,h.ne⟩
 ·
  rcases getElem?_append_cases hop with⟨hlt,hop'⟩ |⟨_,hm⟩
  ·exact(h.kn j op hop' ((je hlt).1 hc)).imp (·.app _) (.imp id (·.app _))
  ·have:=knows_own hop;rw [hu.num op hm] at this;exact .inl this
 ·
  rcases ml hi hx with⟨rfl,rfl⟩ |⟨hne,y,hy,rfl⟩
  ·exact absurd hj (Nat.lt_irrefl _)
  ·have hs':=h.sts j y hj hy;rw [hs'.woken,hoth j hne];exact hs'.rely (hE.rely fun b hb=>h.shA b hb j) fun _=>rfl
theorem Gp.Eff.refl{q:lz}(h:p.At w q):p.Eff w w q:=⟨h,fun _ _=>rfl,rfl,rfl,rfl,rfl⟩
theorem TW.act(hnx:∀m m' t ops,stepT P m=(.next m',ops)→Gd m' (t++ops)→Gd m t)(hK:Kp tot n Iv){fr:Frame}{cs:List Frame}{es:lz→Array Event}{fr':lz→Frame}{cs':List Frame}{W:World→lz→World}{e:lz→lz}{rg':lz→Bool}{pd':lz→Nat}{Iv':lz→(Nat→Ph)→Prop}
 (hu:∀q fn pos,lA p 0 (MemOp.ofEvents 0 fn pos (es q)))
 (h1:∀v1 q sg,cd v v1→p.At v1 q→Bk n tot sg rg pd q→Iv sg→stepG P true (Gr fr cs) v1.toWorld= .go (Gr (fr' q) cs') (W v1.toWorld q) (es q)∧p.Eff v1 (W v1.toWorld q) (e q)∧Bk n tot sg (rg' q) (pd' q) (e q)∧Iv' q sg)
 (h2:∀v1 q,cd v v1→p.At v1 q→(∃sg,Bk n tot sg rg pd q∧Iv sg)→TW P p tot n (deafBehind md (es q)) (rg' q) (pd' q) jn (Iv' q) Gd (v1.upd (W v1.toWorld q)) (fr' q) cs'):TW P p tot n md rg pd jn Iv Gd v fr cs:=
 tq hnx hK fun w sg k A Z gs t sl hS d sl0 hst=>by
  obtain⟨q,hat,hbk⟩:=hS.cw.bk
  obtain⟨g1,g2,g3,g4⟩:=h1 ⟨w,A 0,Z 0⟩ q sg hS.rely hat hbk hS.iv
  have hgo:=runT_crowd_go (sl:=sl) hS.head (by exact g1)
  rw [←hst] at hgo
  refine hnx _ _ _ _ hgo ?_
  exact h2 ⟨w,A 0,Z 0⟩ q hS.rely hat ⟨sg,hbk,hS.iv⟩ _ sg k A Z _ _ sl ⟨g4,cd.refl _,hS.cw.main hS.head (hu q _ _) g2 g3,iO hS.head,fun e=>⟨(hS.join e).1,(hS.join e).2.app (hu q _ _).num⟩⟩
theorem tl(hnx:∀m m' t ops,stepT P m=(.next m',ops)→Gd m' (t++ops)→Gd m t)(hK:Kp tot n Iv){fr fr':Frame}{cs cs':List Frame}{es:Array Event}(hu:∀fn pos,lA p 0 (MemOp.ofEvents 0 fn pos es))
 (h1:∀w0:World,p.Live w0→stepG P true (Gr fr cs) w0= .go (Gr fr' cs') w0 es) (h:TW P p tot n (deafBehind md es) rg pd jn Iv Gd v fr' cs'):TW P p tot n md rg pd jn Iv Gd v fr cs:=
 TW.act hnx hK (es:=fun _=>es) (fr':=fun _=>fr') (cs':=cs') (W:=fun w _=>w) (e:=id) (rg':=fun _=>rg) (pd':=fun _=>pd) (Iv':=fun _=>Iv) (fun _ fn pos=>hu fn pos)
  (fun v1 q sg _ hat hbk hiv=>⟨h1 _ ⟨q,hat⟩,Gp.Eff.refl hat,hbk,hiv⟩) fun v1 q hr _ _=>by
   intro w sg k A Z gs t sl hS
   exact h w sg k A Z gs t sl ⟨hS.iv,hr.trans hS.rely,hS.cw,hS.head,hS.join⟩
theorem rP{m:Mark}(hm:(MemAct.mark m).touch? =none)(hr:∀a,m≠.release a)(fn:FuncId)(pos:String):lA p 0 (MemOp.ofEvents 0 fn pos #[kP m]):=by
 rw [mz];refine⟨fun op ho=>?_,fun op ho x hx=>?_,fun op ho a ha=>?_⟩
 ·simp at ho;subst ho;rfl
 ·simp at ho;subst ho;rw [hm] at hx;cases hx
 ·simp at ho;subst ho;simp only [MemAct.mark.injEq] at ha;exact hr a ha
theorem vJ{a:Addr}{wr:Bool}(h:p.sh a.block)(fn:FuncId)(pos:String):lA p 0 (MemOp.ofEvents 0 fn pos #[kP (if wr then .write a else .read a)]):=by
 rw [mz];refine⟨fun op ho=>?_,fun op ho x hx=>?_,fun op ho b ha=>?_⟩
 ·simp at ho;subst ho;rfl
 ·simp at ho;subst ho;cases wr <;> (simp [MemAct.touch?] at hx;subst hx;exact⟨_,rfl,h,.inr ⟨rfl,rfl⟩⟩)
 ·simp at ho;subst ho;cases wr <;> simp at ha
theorem qF{es:Array Event}(h:∀e∈es,(∃a,(e=vc a∨e=zR a)∧p.sh a.block)∨e=kP .disable∨e=kP .enable)(fn:FuncId)(pos:String):lA p 0 (MemOp.ofEvents 0 fn pos es):=by
 have hop:∀op∈MemOp.ofEvents 0 fn pos es,∃e∈es,op={ g:=0,fn,pos,act:=.ofEvent e }:=fun op ho=>by
  unfold MemOp.ofEvents at ho;split at ho
  ·simp at ho
  ·obtain⟨e,he,rfl⟩:=Array.mem_map.1 ho;exact⟨e,he,rfl⟩
 refine⟨fun op ho=>?_,fun op ho x hx=>?_,fun op ho a ha=>?_⟩
 ·obtain⟨e,_,rfl⟩:=hop op ho;rfl
 ·obtain⟨e,he,rfl⟩:=hop op ho;rcases h e he with⟨a,rfl |rfl,hs⟩ |rfl |rfl
  ·simp [MemAct.ofEvent,vc,MemAct.touch?] at hx;subst hx;exact⟨a.block,rfl,hs,.inl rfl⟩
  ·simp [MemAct.ofEvent,zR,MemAct.touch?] at hx;subst hx;exact⟨a.block,rfl,hs,.inl rfl⟩
  ·simp [MemAct.ofEvent,kP,MemAct.touch?] at hx
  ·simp [MemAct.ofEvent,kP,MemAct.touch?] at hx
 ·obtain⟨e,he,rfl⟩:=hop op ho;rcases h e he with⟨b,rfl |rfl,hs⟩ |rfl |rfl <;> simp [MemAct.ofEvent,vc,zR,kP] at ha
theorem PL(hnx:∀m m' t ops,stepT P m=(.next m',ops)→Gd m' (t++ops)→Gd m t){fr fr':Frame}{cs cs':List Frame}{W:World→lz→World}
 (h0:∀v1 q,cd v v1→p.At v1 q→q.sm=0→stepG P true (Gr fr cs) v1.toWorld= .go { Gr fr cs with status:=.blocked } v1.toWorld #[])
 (h1:∀v1 q,cd v v1→p.At v1 q→q.sm=1→stepG P true (Gr fr cs) v1.toWorld= .go (Gr fr' cs') (W v1.toWorld q) #[kP .disable,vc p.smA,zR p.smA,kP .enable]∧p.Eff v1 (W v1.toWorld q) { q with sm:=0 })
 (h2:∀v1 q,cd v v1→p.At v1 q→TW P p tot n md false 0 false (uO n) Gd (v1.upd (W v1.toWorld q)) fr' cs') (hmd:0 < md):TW P p tot n md true 0 false Q6 Gd v fr cs:=by
 refine Bw hnx true (fun _=>rfl) SS fun w sg k A Z gs t sl hS hbl d sl0 hst=>?_
 obtain⟨q,hat,hbk⟩:=hS.cw.bk
 have hre:=hbk.re rfl
 by_cases hsm:q.sm=0
 ·
  have hgo:=runT_crowd_go (sl:=sl) hS.head (by exact h0 ⟨w,A 0,Z 0⟩ q hS.rely hat hsm);rw [←hst] at hgo;refine hnx _ _ _ _ hgo ?_;rw [ofEvents_none,Array.append_empty]
  have hmap:gs.map (Conc.woken P (Gr fr cs) { Gr fr cs with status:=.blocked } w)=gs:=by
   have:(fun o=>Conc.woken P (Gr fr cs) { Gr fr cs with status:=.blocked } w o)=id:=by
    funext o;unfold Conc.woken;rw [if_neg (by simp)];rfl
   have e:gs.map (Conc.woken P (Gr fr cs) { Gr fr cs with status:=.blocked } w)=gs.map id:=congrArg (Array.map · gs) this;rw [e,Array.map_id]
  rw [hmap];exact hbl rfl ⟨q,hat,hsm⟩
 ·
  have hc0:q.c=0:=by
   rcases Nat.eq_zero_or_pos q.c with e |e
   ·exact e
   ·exact absurd (hre.2.1 e).2.1 hsm
  have h3:=hre.2.2 hc0;have hs1:q.sm=1:=by omega
  obtain⟨g1,g2⟩:=h1 ⟨w,A 0,Z 0⟩ q hS.rely hat hs1;have hgo:=runT_crowd_go (sl:=sl) hS.head (by exact g1);rw [←hst] at hgo;refine hnx _ _ _ _ hgo ?_;have hc:=hbk.c;have hwt:q.wt=0:=by omega
  have hbk':Bk n tot sg false 0 { q with sm:=0 }:=⟨hbk.x,by show q.c=_;omega,fun _=>⟨hwt,rfl,by omega,by omega⟩,fun e=>(by cases e),hbk.le,hbk.s0,hbk.big,hbk.tb⟩
  have hcw:=hS.cw.main (g':=Gr fr' cs') (fn:=fr.fn) (pos:=fr.place) hS.head (qF (p:=p) (es:= #[kP .disable,vc p.smA,zR p.smA,kP .enable]) (fun e he=>by
   simp at he;rcases he with rfl |rfl |rfl |rfl
   ·exact .inr (.inl rfl)
   ·exact .inl ⟨_,.inl rfl,.inl rfl⟩
   ·exact .inl ⟨_,.inr rfl,.inl rfl⟩
   ·exact .inr (.inr rfl)) _ _) g2 hbk'
  have hd:deafBehind md #[kP .disable,vc p.smA,zR p.smA,kP .enable]=md:=by
   show md+1 - 1=md;omega
  rw [hd] at hcw;refine h2 ⟨w,A 0,Z 0⟩ q hS.rely hat _ sg k A Z _ _ sl ⟨fun i hi=>?_,cd.refl _,hcw,iO hS.head,fun e=>(by cases e)⟩;have a1:=qY (sg:=sg) (f:=Ph.act) (by omega) hi;have a2:=qY (sg:=sg) (f:=iH) (by omega) hi;have a3:=qY (sg:=sg) (f:=jr) (by omega) hi;cases hx:sg i <;> rw [hx] at a1 a2 a3 <;> simp [Ph.act,iH,jr] at a1 a2 a3
end
section
variable {P:Program}{p:Gp}{tot:Nat→Nat}{n:Nat}{md:Nat}{rg:Bool}{pd:Nat}{jn:Bool}{Iv:(Nat→Ph)→Prop}{Gd:Machine→Trace→Prop}{T:Tq}
theorem vu{n:Nat}{f:Ph→Nat}(hf:f .quit=0):al n (fun _=>.quit) f=0:=by
 unfold al
 induction n with
 |zero=>rfl
 |succ n ih=>simp only [aS];rw [ih,hf]
theorem oc{k:Nat→Nat}:∀{n:Nat},(∀i,i < n→k i=0)→aS k n=0
 |0,_=>rfl
 |n+1,h=>by simp only [aS];rw [oc fun i hi=>h i (by omega),h n (by omega)]
theorem JS{v:VW}{fr:Frame}{cs:List Frame}{gs:Array Goroutine}{sl:Option (Nat×Nat)}{t:Trace}{k:Nat→Nat}(hA:∀b,v.A b→b < v.heap.size)(hZ:∀b,v.Z b→b < v.heap.size)
 (hat:p.At v ⟨0,0,0,0⟩) (hne:p.bw≠p.bs) (hown:∀b,p.sh b→¬v.A b) (htot:∀i,i < gs.size→tot i=0) (hL:zI P v fr cs gs t k)
 (h:TW P p tot gs.size 0 false 0 false (rm gs.size 0) Gd ⟨v.toWorld,fun b=>v.A b∨p.sh b,v.Z⟩ fr cs):Gd (crowd gs v.toWorld sl) t:=by
 obtain⟨h0,hq,ht,hk,hd⟩:=hL
 have hlt:∀c,p.sh c→c < v.heap.size:=fun c hc=>by
  rcases hc with rfl |rfl
  ·exact(Array.getElem?_eq_some_iff.1 hat.wg).1
  ·exact(Array.getElem?_eq_some_iff.1 hat.sum).1
 refine h v.toWorld (fun _=>.quit) k (fun i b=>if i=0 then v.A b∨p.sh b else b < v.heap.size) (fun i b=>if i=0 then v.Z b else False) gs t sl
  ⟨Nat.le_of_eq (vu rfl),by simp only [if_true];exact cd.refl _,⟨rfl,ht,fun i b hb=>?_,fun i b hb=>?_,fun i j b _ _ hne hb h1 h2=>?_,fun i j x b _ ha hx hb hA _=>?_,fun i j x b _ ha hx hb hs _=>?_,fun j x b hx hb hs _=>hk.own j x b hx hb (hown b hs),fun j op hop hc=>.inl (hk.cnt j hc),
   hd,fun i hi hin hq=>absurd rfl hq,fun i g hi hg=>⟨fun _=>hq i g hi hg,fun e=>absurd rfl e⟩,⟨⟨0,0,0,0⟩,hat,⟨?_,(vu rfl).symm,fun _=>⟨rfl,rfl,vu rfl,vu rfl⟩,fun e=>(by cases e),fun i _=>Nat.le_refl _,rfl,by decide,by rw [oc htot];decide⟩⟩,fun b hb i=>?_,hne⟩,h0,fun e=>(by cases e)⟩
 ·
  split at hb
  ·exact hb.elim (hA b) fun e=>hlt b e
  ·exact hb
 ·
  split at hb
  ·exact hZ b hb
  ·exact hb.elim
 ·
  exfalso;by_cases e:i=0
  ·by_cases e':j=0
   ·exact hne (e.trans e'.symm)
   ·rw [if_neg e'] at h2;exact h2 hb
  ·rw [if_neg e] at h1;exact h1 hb
 ·
  rcases ha with rfl |ha
  ·rw [if_pos rfl] at hA;exact hk.own j x b hx hb fun e=>hA (.inl e)
  ·exact absurd rfl ha
 ·
  rcases ha with rfl |ha
  ·exact hk.own j x b hx hb (hown b hs)
  ·exact absurd rfl ha
 ·
  show 0=am gs.size tot fun _=>.quit;unfold am;rw [oc fun i hi=>(by show tot i=0;exact htot i hi)]
 ·
  show(if i=0 then _ else _);split
  ·exact .inr hb
  ·exact hlt b hb
theorem ut{t:Trace}{g:Nat}(h:∀op∈t,op.g≠g):∀i,t.deaf g i=0
 |0=>rfl
 |i+1=>by
  cases hy:t[i]? with
  |none=>
   unfold Trace.deaf
   rw [hy]
   exact ut h i
  |some y=>
   rw [deaf_succ hy,ut h i]
   have:=h y (mem_of_getElem? hy)
   unfold deafStep
   split
   ·
    rw [if_neg this]
   ·
    rw [if_neg this]
   ·
    rfl
theorem TW.spawn(hnx:∀m m' t ops,stepT P m=(.next m',ops)→Gd m' (t++ops)→Gd m t)(hK:Kp tot n Iv){v:VW}{fr fr' fc:Frame}{cs:List Frame}{Sh:Nat→Prop}{Iv':(Nat→Ph)→Prop}(hn:0 < n)
 (hst:∀w0:World,stepG P true (Gr fr cs) w0= .spawn (Gr fr' cs) (Gr fc []) w0 #[])
 (hSh:∀b,Sh b→b < v.heap.size∧¬v.A b) (htb:aS tot (n+1) < 9223372036854775808) (hI:∀sg,Iv sg→Iv' (upd sg n (.work 0)))
 (hwk:∀v1,cd v v1→Ww P p (tot n) (.work 0) ⟨v1.toWorld,fun b=>b < v1.heap.size∧¬Sh b,Sh⟩ fc [])
 (h:TW P p tot (n+1) 0 false 0 false Iv' Gd ⟨v.toWorld,v.A,fun b=>v.Z b∨Sh b⟩ fr' cs):TW P p tot n 0 false 1 false Iv Gd v fr cs:=by
 refine tq hnx hK fun w sg k A Z gs t sl hS d0 sl0 hst0=>?_
 have hcw:=hS.cw
 have hgo:=runT_crowd_spawn (sl:=sl) hS.head (by exact hst w)
 rw [←hst0] at hgo
 refine hnx _ _ _ _ hgo ?_
 rw [ofEvents_none]
 have hr:=hS.rely
 have hszn:gs.size=n:=hcw.size
 have hA0:∀b,Sh b→b < w.heap.size∧¬A 0 b:=fun b hb=>by
  obtain⟨h1,h2⟩:=hSh b hb;exact⟨Nat.lt_of_lt_of_le h1 hr.size,fun ha=>(hr.old b ha).elim h2 fun x=>by omega⟩
 let x:MemOp:={ g:=0,fn:=fr.fn,pos:=fr.place,act:=.go gs.size }
 let y:MemOp:={ g:=gs.size,fn:=fc.fn,pos:=fr.place,act:=.start }
 have hops:t++((#[]:Array MemOp).push x |>.push y)=t++ #[x,y]:=rfl
 have e2:t++ #[x,y]=t++ #[x]++ #[y]:=by apply Array.ext';simp
 have hnt:∀op∈(#[x,y]:Array MemOp),op.act.touch? =none:=fun op ho=>by
  simp at ho;rcases ho with rfl |rfl <;> rfl
 have hnd:∀g,Deaf (t++ #[x,y]) g=Deaf t g:=fun g=>by
  rw [e2,Deaf_push,Deaf_push];rfl
 have htn:∀i,t.deaf n i=0:=ut fun op ho=>Nat.ne_of_lt (hcw.tr.num op ho)
 have htr:zS (n+1) w.heap.size (t++ #[x,y]):=by
  rw [e2];refine zS.words (zS.words (hcw.tr.mono (Nat.le_succ n) (Nat.le_refl _)) (Nat.succ_pos n) (i:=0) ?_ ?_ ?_) (Nat.lt_succ_self n) (i:=n) ?_ ?_ ?_
  ·intro op ho;simp at ho;subst ho;rfl
  ·intro op ho;simp at ho;subst ho;rfl
  ·intro op ho a ha;simp at ho;subst ho;cases ha
  ·intro op ho;simp at ho;subst ho;exact hszn
  ·intro op ho;simp at ho;subst ho;rfl
  ·intro op ho a ha;simp at ho;subst ho;cases ha
 have hws:∀i,i≠n→upd sg n (.work 0) i=sg i:=fun i hi=>dC hi
 have hws':∀i,i < n+1→i≠n→(i=0∨upd sg n (.work 0) i≠.quit)→(i=0∨sg i≠.quit):=fun i _ e h=>by rwa [hws i e] at h
 obtain⟨q,hat,hbk⟩:=hcw.bk
 have hun:=hbk.un rfl
 have u:∀f:Ph→Nat,al (n+1) (upd sg n (.work 0)) f=al n sg f+f (.work 0):=fun f=>by
  unfold al;simp only [aS];rw [dQ,kM fun j hj=>by rw [dC (by omega)]]
 have um:am (n+1) tot (upd sg n (.work 0))=am n tot sg:=by
  unfold am;simp only [aS];rw [dQ,kM fun j hj=>by rw [dC (by omega)]];rfl
 have fork:∀{j:Nat},Knows t 0 j→Knows (t++ #[x,y]) n j:=fun {j} hkn=>
  ConcN.fork_knows (x:=x) (y:=y) ⟨rfl,by show MemAct.go gs.size= .go n;rw [hszn]⟩ ⟨hszn,rfl⟩ hcw.deaf0 (htn _) hkn
 refine h w (upd sg n (.work 0)) k (upd A n fun b=>b < w.heap.size∧¬Sh b) (fun i b=>if i=n then Sh b else if i=0 then Z 0 b∨Sh b else Z i b) ((gs.setIfInBounds 0 (Gr fr' cs)).push (Gr fc [])) (t++ #[x,y]) sl ⟨hI sg hS.iv,?_,⟨by simp [hszn],htr,fun i b hb=>?_,fun i b hb=>?_,fun i j b hi hj hne hb h1 h2=>?_,fun i j z b hi ha hx hb hA hZ=>?_,fun i j z b hi ha hx hb hs hk=>?_,fun j z b hx hb hs hk=>(hcw.shs j z b (eX hnt hx).2 hb hs hk).app _,fun j op hop hc=>?_,
  by rw [hnd];exact hcw.deaf0,fun i hi hin hq=>?_,fun i g hi hg=>?_,⟨q,hat,⟨by rw [um];exact hbk.x,by rw [u];have:=hbk.c;show q.c=_+1+0;omega,fun _=>⟨hun.1,hun.2.1,by rw [u];exact hun.2.2.1,by rw [u];exact hun.2.2.2⟩,fun e=>(by cases e),fun i hi=>?_,by rw [dC (by omega)];exact hbk.s0,hbk.big,htb⟩⟩,fun b hb i=>?_,hcw.ne⟩,?_,fun e=>(by cases e)⟩
 ·
  rw [dC (by omega:(0:Nat)≠n)];have hz:Z 0=v.Z:=hr.Z
  have:(fun b=>if 0=n then Sh b else if(0:Nat)=0 then Z 0 b∨Sh b else Z 0 b)=fun b=>v.Z b∨Sh b:=by
   funext b;rw [if_neg (by omega),if_pos rfl,hz]
  rw [this];exact⟨hr.keep,hr.size,hr.sub,hr.old,hr.dom,rfl,hr.os,hr.tape,hr.output⟩
 ·
  by_cases e:i=n
  ·subst e;rw [dQ] at hb;exact hb.1
  ·rw [dC e] at hb;exact hcw.domA i b hb
 ·
  split at hb
  ·exact(hA0 b hb).1
  ·split at hb
   ·exact hb.elim (hcw.domZ 0 b) fun x=>(hA0 b x).1
   ·exact hcw.domZ i b hb
 ·
  have hzn:∀i,i≠n→i < n+1→Sh b→¬A i b→(if i=n then Sh b else if i=0 then Z 0 b∨Sh b else Z i b):=fun i hin hil hs ha=>by
   rw [if_neg hin];split
   ·exact .inr hs
   ·rename_i h0;exact(hcw.cover 0 i b hn (by omega) (fun e=>h0 e.symm) hb (hA0 b hs).2 ha).2
  by_cases ei:i=n
  ·subst ei;rw [dQ] at h1;have hs:Sh b:=Classical.byContradiction fun x=>h1 ⟨hb,x⟩;rw [dC (fun e=>hne e.symm)] at h2;exact⟨by rw [if_pos rfl];exact hs,hzn j (fun e=>hne e.symm) hj hs h2⟩
  ·by_cases ej:j=n
   ·subst ej;rw [dQ] at h2;have hs:Sh b:=Classical.byContradiction fun x=>h2 ⟨hb,x⟩;rw [dC ei] at h1;exact⟨hzn i ei hi hs h1,by rw [if_pos rfl];exact hs⟩
   ·rw [dC ei] at h1;rw [dC ej] at h2;obtain⟨z1,z2⟩:=hcw.cover i j b (by omega) (by omega) hne hb h1 h2
    have up:∀i,i≠n→Z i b→(if i=n then Sh b else if i=0 then Z 0 b∨Sh b else Z i b):=fun i hi hz=>by
     rw [if_neg hi];split
     ·rename_i e;subst e;exact .inl hz
     ·exact hz
    exact⟨up i ei z1,up j ej z2⟩
 ·
  have hxo:=(eX hnt hx).2;by_cases e:i=n
  ·subst e;rw [dQ] at hA;rw [if_pos rfl] at hZ;by_cases hs:Sh b
   ·refine fork (hcw.knows 0 j z b hn (.inl rfl) hxo hb (hA0 b hs).2 ?_);rcases hZ with hZ |hZ |hZ
    ·exact .inl hZ
    ·exact absurd hs hZ
    ·exact .inr (.inr hZ)
   ·exact absurd ⟨hcw.tr.inb j z b hxo hb,hs⟩ hA
  ·rw [dC e] at hA;refine(hcw.knows i j z b (by omega) (hws' i hi e ha) hxo hb hA (hZ.imp id (.imp (fun hz hz'=>hz ?_) id))).app _;rw [if_neg e];split
   ·rename_i e0;subst e0;exact .inl hz'
   ·exact hz'
 ·
  have hxo:=(eX hnt hx).2;by_cases e:i=n
  ·subst e;exact fork (hcw.shp 0 j z b hn (.inl rfl) hxo hb hs hk)
  ·exact(hcw.shp i j z b (by omega) (hws' i hi e ha) hxo hb hs hk).app _
 ·
  rcases getElem?_append_cases hop with⟨hlt,hop'⟩ |⟨_,hm⟩
  ·rcases hcw.kn j op hop' ((je hlt).1 hc) with h1 |⟨h1,m,h2⟩ |h1
   ·exact .inl (h1.app _)
   ·have:=hcw.tr.num op (mem_of_getElem? hop');exact .inr (.inl ⟨h1,m,by rw [hws _ (by omega)];exact h2⟩)
   ·exact .inr (.inr (h1.app _))
  ·obtain⟨x',hx',_⟩:=hc;obtain⟨op',hop2,hxa⟩:=touch_of hx';rw [hop] at hop2;cases hop2;rw [hnt op hm] at hxa;cases hxa
 ·
  rw [hnd];by_cases e:i=n
  ·subst e;rw [dQ];exact htn _
  ·rw [hws i e] at hq⊢;exact hcw.deaf i hi (by omega) hq
 ·
  have hgi:i < n+1:=by have:=(Array.getElem?_eq_some_iff.1 hg).1;simp [hszn] at this;omega
  by_cases e:i=n
  ·subst e
   have:g=Gr fc []:=by
    rw [Array.getElem?_push] at hg;simpa [hszn] using hg.symm
   subst this;have hwkk:=hwk _ hS.rely;have e1:upd sg i (.work 0) i= .work 0:=dQ;rw [e1,dQ];have hz:(fun b=>if i=i then Sh b else if i=0 then Z 0 b∨Sh b else Z i b)=Sh:=by funext b;rw [if_pos rfl]
   rw [hz];exact⟨fun e=>(by cases e),fun _=>⟨fc,[],rfl,hwkk⟩⟩
  ·have hg':gs[i]? =some g:=by
    rw [Array.getElem?_push] at hg;rw [if_neg (by simp [hszn];exact e)] at hg;rwa [Array.getElem?_setIfInBounds_ne (by omega)] at hg
   have hs:=hcw.sts i g hi hg';rw [hws i e,dC e,hnd]
   have hzz:(fun b=>if i=n then Sh b else if i=0 then Z 0 b∨Sh b else Z i b)=Z i:=by
    funext b;rw [if_neg e,if_neg (by omega)]
   rw [hzz];exact hs
 ·
  by_cases e:i=n
  ·subst e;rw [dQ];exact Nat.zero_le _
  ·rw [hws i e];exact hbk.le i (by omega)
 ·
  by_cases e:i=n
  ·subst e;rw [dQ];exact⟨hcw.domA 0 b (hcw.shA b hb 0),fun hs=>(hA0 b hs).2 (hcw.shA b hb 0)⟩
  ·rw [dC e];exact hcw.shA b hb i
 ·
  rw [Array.getElem?_push,if_neg (by simp [hszn];omega)];exact Array.getElem?_setIfInBounds_self_of_lt (by rw [hszn];exact hn)
theorem P3.acq{t:Trace}{j:Nat}{z:MemOp}(h:P3 p t j)(hz:z.g=0∧z.act= .mark (.acquire p.stA))(hd:Deaf t 0=0)(hr:∀op∈t,∀a,op.act≠.mark (.release a)):Knows (t++ #[z]) 0 j:=by
 obtain⟨q,y,h1,h2,h3,h4⟩:=h;have hlt:=lt_size_of_getElem? h1;have hzp:(t++ #[z])[t.size]? =some z:=by rw [Array.getElem?_append_right (Nat.le_refl _)];simp
 have hyp:(t++ #[z])[q]? =some y:=by rw [getElem?_append_old hlt];exact h1
 have e0:(t++ #[z]).heard t.size:=⟨0,by simp [Trace.g?,hzp,hz.1],by rw [deaf_old (Nat.le_refl _)];exact hd⟩;have e1:(t++ #[z]).heard q:=(heard_old hlt).2 h3
 have hb:HappensBefore (t++ #[z]) q t.size:=.single (.inr ⟨.marked (a:=p.stA) hlt (.inr (by rw [act?_of hyp,h2])) (by rw [act?_of hzp,hz.2]) (fun k h1 h2 h3=>by
  have hk:(t++ #[z]).act? k=t.act? k:=by simp only [Trace.act?,getElem?_append_old h2]
  rw [hk] at h3;obtain⟨op,hop,ho⟩:=Option.map_eq_some_iff.1 h3;exact hr op (mem_of_getElem? hop) _ ho),e1,e0⟩)
 exact⟨t.size,z,hzp,hz.1,.inr ((h4.app _).hb hb)⟩
theorem TW.acq(hnx:∀m m' t ops,stepT P m=(.next m',ops)→Gd m' (t++ops)→Gd m t){v:VW}{fr fr':Frame}{cs cs':List Frame}(h1:∀w0:World,p.Live w0→stepG P true (Gr fr cs) w0= .go (Gr fr' cs') w0 #[kP (.acquire p.stA)])
 (h:TW P p tot n 0 rg pd true (uO n) Gd v fr' cs'):TW P p tot n 0 rg pd false (uO n) Gd v fr cs:=
 tq hnx Ba fun w sg k A Z gs t sl hS d sl0 hst=>by
  obtain⟨q,hat,hbk⟩:=hS.cw.bk
  have hgo:=runT_crowd_go (sl:=sl) hS.head (by exact h1 w ⟨q,hat⟩)
  rw [←hst] at hgo
  refine hnx _ _ _ _ hgo ?_
  have hu:=rP (p:=p) (m:=.acquire p.stA) rfl (fun a e=>by cases e) fr.fn fr.place
  have hcw:=hS.cw.main (g':=Gr fr' cs') hS.head hu (Gp.Eff.refl hat) hbk
  have hRl:∀j op,t[j]? =some op→t.counts j→Knows (t++MemOp.ofEvents 0 fr.fn fr.place #[kP (.acquire p.stA)]) 0 j:=fun j op hop hc=>by
   rcases hS.cw.kn j op hop hc with h1 |⟨_,m,h2⟩ |h1
   ·
    exact h1.app _
   ·
    have:=hS.iv op.g (hS.cw.tr.num op (mem_of_getElem? hop))
    rw [h2] at this;cases this
   ·
    rw [mz]
    exact h1.acq ⟨rfl,rfl⟩ hS.cw.deaf0 hS.cw.tr.norel
  have hnt:∀op∈MemOp.ofEvents 0 fr.fn fr.place #[kP (.acquire p.stA)],op.act.touch? =none:=fun op ho=>by
   rw [mz] at ho;simp at ho;subst ho;rfl
  refine h w sg k A Z _ _ sl ⟨hS.iv,hS.rely,hcw,iO hS.head,fun _=>⟨hS.iv,⟨fun j x b hx hb ha=>?_,fun j hj=>?_⟩⟩⟩
  ·
   have hxo:=(eX hnt hx).2
   by_cases hpl:x.kind= .plain
   ·
    obtain⟨op,hop,hxa⟩:=touch_of hxo
    refine hRl j op hop ⟨x,hxo,?_,.inl (by rw [hpl];simp)⟩
    cases hl:x.loc <;> rw [hl] at hb <;> first |rfl |cases hb
   ·
    exact(hS.cw.knows 0 j x b (hS.cw.lt hS.head) (.inl rfl) hxo hb ha (.inr (.inr hpl))).app _
  ·
   obtain⟨x,hx,_⟩:=id hj
   obtain⟨hlt,hxo⟩:=eX hnt hx
   obtain⟨op,hop,_⟩:=touch_of hxo
   exact hRl j op hop ((je hlt).1 hj)
theorem TW.fin(hbc:BC P T)(hG:Gl P T Gd){v:VW}{fr:Frame}{cs:List Frame}{Z0:Nat→Prop}(h:T ⟨v.toWorld,v.A,Z0⟩ fr cs):TW P p tot n 0 rg pd true Iv Gd v fr cs:=by
 intro w sg k A Z gs t sl hS;have hr:=hS.rely;have hT:T ⟨w,A 0,Z0⟩ fr cs:=hbc.rely ⟨v.toWorld,v.A,Z0⟩ ⟨w,A 0,Z0⟩ _ _ ⟨hr.keep,hr.size,hr.sub,hr.old,hr.dom,rfl,hr.os,hr.tape,hr.output⟩ h;obtain⟨hq,hka⟩:=hS.join rfl;exact hG.fin _ _ _ hT gs sl t k ⟨hS.head,fun i g hi hg=>(hS.cw.sts i g hi hg).1 (hq i (hS.cw.lt hg)),by rw [hS.cw.size];exact hS.cw.tr,hka,hS.cw.deaf0⟩
end
theorem pG{P:Program}{fn:FuncId}:seen P fn #[]= #[]:=by simp [seen]
theorem IS{b:Frame}:(if b.kind == .early then(#[]:Array Event) else #[])= #[]:=by split <;> rfl
def Mv(P:Program)(Wl:World→Prop)(main:Bool)(T:Tq):Prop:=∀v fr fr' cs cs',(∀w:World,Wl w→stepG P main (Gr fr cs) w= .go (Gr fr' cs') w #[])→T v fr' cs'→T v fr cs
abbrev Gv:=List (Nat×Value)
def lv:Gv→Nat→Option Value
 |[],_=>none
 |(s,x)::l,k=>if s=k then some x else lv l k
def ev(Γ:Gv):Operand→Option Value
 | .tmp s=>lv Γ s
 | .const x=>some x
 | .func f=>some (.func (.func f) #[] #[])
 |_=>none
structure QS(N:Nat)(df:List Deferred)(Γ:Gv)(a:Act):Prop where
 size:a.tmps.size=N
 defers:a.defers=df
 val:∀s x,lv Γ s=some x→a.tmps.getD s undef=x
theorem QS.ev{N:Nat}{df:List Deferred}{Γ:Gv}{a:Act}(h:QS N df Γ a){x:Operand}{u:Value}(e:ev Γ x=some u):a.eval x=u:=by
 cases x with
 |tmp s=>exact h.val s u e
 |const x=>cases e;rfl
 |func f=>cases e;rfl
 |global g=>cases e
theorem QS.put{N:Nat}{df:List Deferred}{Γ:Gv}{a:Act}(h:QS N df Γ a){d:Nat}{x:Value}(hd:Nat.blt d N=true):QS N df ((d,x)::Γ) (a.put (some d) x):=by
 have hd:=Nat.blt_eq▸hd;refine⟨by simpa [Act.put] using h.size,by simpa [Act.put] using h.defers,fun s y hl=>?_⟩;rw [mG (by rw [h.size];exact hd)];simp only [lv] at hl;split at hl
 ·rename_i e;cases hl;rw [if_pos e]
 ·rename_i e;rw [if_neg e];exact h.val s y hl
def Qt(T:Tq)(v:VW)(b:Frame)(cs:List Frame)(N:Nat)(df:List Deferred)(its:List Item)(Γ:Gv):Prop:=∀a,QS N df Γ a→T v (b.at a its) cs
def Qr(T:Tq)(v:VW)(b:Frame)(cs:List Frame)(N:Nat)(df:List Deferred)(Γ:Gv):Prop:=∀a todo,QS N df Γ a→T v { b.at a todo with mode:=.returning } cs
def OV(P:Program)(Wl:World→Prop)(o:Oper)(Γ:Gv)(x:Value):Prop:=∀(N:Nat) (df:List Deferred) (a:Act),QS N df Γ a→∀w:World,Wl w→(execOp a.eval o).runT P w #[]=(.ok (.value x) w, #[])
section
variable {P:Program}{Wl:World→Prop}{main:Bool}{T:Tq}{v:VW}{b:Frame}{cs:List Frame}{N:Nat}{df:List Deferred}{Γ:Gv}{k:List Item}{x y:Code}
theorem Qt.seq(hT:Mv P Wl main T)(h:Qt T v b cs N df (.code x:: .code y::k) Γ):Qt T v b cs N df (.code (.seq x y)::k) Γ:=fun a ha=>hT _ _ _ _ _ (fun _ _=>stepG_seq) (h a ha)
theorem Qt.skip(hT:Mv P Wl main T)(h:Qt T v b cs N df k Γ):Qt T v b cs N df (.code .skip::k) Γ:=fun a ha=>hT _ _ _ _ _ (fun _ _=>stepG_skip) (h a ha)
theorem Qt.cond(hT:Mv P Wl main T){c:Operand}(t:Bool)(h:Qt T v b cs N df (.code (if t then x else y)::k) Γ)(hc:ev Γ c=some (.bool t):=by exact rfl):Qt T v b cs N df (.code (.cond c x y)::k) Γ:=fun a ha=>hT _ _ _ _ _ (fun _ _=>stepG_cond (ha.ev hc)) (h a ha)
theorem Qt.block(hT:Mv P Wl main T){id:Nat}(h:Qt T v b cs N df (.code x:: .inBlock id::k) Γ):Qt T v b cs N df (.code (.block id x)::k) Γ:=fun a ha=>hT _ _ _ _ _ (fun _ _=>stepG_block) (h a ha)
theorem Qt.inBlock(hT:Mv P Wl main T){id:Nat}(h:Qt T v b cs N df k Γ):Qt T v b cs N df (.inBlock id::k) Γ:=fun a ha=>hT _ _ _ _ _ (fun _ _=>stepG_inBlock) (h a ha)
theorem Qt.loop(hT:Mv P Wl main T)(h:Qt T v b cs N df (.code x:: .inLoop x::k) Γ):Qt T v b cs N df (.code (.loop x)::k) Γ:=fun a ha=>hT _ _ _ _ _ (fun _ _=>stepG_loop) (h a ha)
theorem Qt.inLoop(hT:Mv P Wl main T)(h:Qt T v b cs N df (.code x:: .inLoop x::k) Γ):Qt T v b cs N df (.inLoop x::k) Γ:=fun a ha=>hT _ _ _ _ _ (fun _ _=>stepG_inLoop) (h a ha)
theorem Qt.exit(hT:Mv P Wl main T){id:Nat}{k':List Item}(he:exitTo id k=some k')(h:Qt T v b cs N df k' Γ):Qt T v b cs N df (.code (.exit id)::k) Γ:=fun a ha=>hT _ _ _ _ _ (fun _ _=>stepG_exit he) (h a ha)
theorem Qt.region(hT:Mv P Wl main T){id:Nat}{ops:Array Oper}(h:Qt T v b cs N df (.inRegion ops (List.range ops.size)::k) Γ):Qt T v b cs N df (.code (.region id ops false)::k) Γ:=fun a ha=>hT _ _ _ _ _ (fun _ _=>stepG_region) (h a ha)
theorem zG(hT:Mv P Wl main T){ops:Array Oper}(h:Qt T v b cs N df k Γ):Qt T v b cs N df (.inRegion ops []::k) Γ:=fun a ha=>hT _ _ _ _ _ (fun _ _=>stepG_region_end) (h a ha)
theorem Qt.ret(hT:Mv P Wl main T)(h:Qr T v b cs N df Γ):Qt T v b cs N df (.code .ret::k) Γ:=fun a ha=>hT _ _ _ _ _ (fun _ _=>stepG_ret') (h a _ ha)
theorem Qt.fin(hT:Mv P Wl main T)(h:Qr T v b cs N df Γ):Qt T v b cs N df [] Γ:=fun a ha=>hT _ _ _ _ _ (fun _ _=>stepG_end) (h a _ ha)
theorem I3{ops:Array Oper}{i:Nat}{rest:List Nat}{o:Oper}{a:Act}{u:Value}{w:World}(ho:ops[i]? =some o)(hw:Region.wanted o (yielded ops a.tmps)=true)(hk:b.kind≠.early)(hr:(execOp a.eval o).runT P w #[]=(.ok (.value u) w, #[])):
 stepG P main (G (b.at a (.inRegion ops (i::rest)::k)) cs) w= .go (G (b.at (a.put o.dst u) (.inRegion ops rest::k)) cs) w #[]:=by
 have h1:(execOp a.eval o).run P w= .ok (.value u) w:=by rw [←Sem.runT_fst P _ _ #[],hr]
 have h2:(execOp a.eval o).events P w #[]= #[]:=by unfold Sem.events;rw [hr]
 rw [stepG_value ho hw hk h1]
 unfold listed
 rw [h2,pG]
theorem I2{a:Act}{s:Nat}{x:Value}(h:a.tmps.getD s undef=x)(hx:x≠undef):a.tmps[s]? =some x:=by
 rw [Array.getD_eq_getD_getElem?] at h;cases he:a.tmps[s]? with
 |none=>rw [he] at h;exact absurd h.symm hx
 |some y=>rw [he] at h;exact congrArg some h
theorem Qt.op(hT:Mv P Wl main T){ops:Array Oper}{i d:Nat}{rest:List Nat}{o:Oper}{u:Value}(ho:ops[i]? =some o)(hop:OV P Wl o Γ u)(h:Qt T v b cs N df (.inRegion ops rest::k) ((d,u)::Γ))(hg:o.guard=none:=by exact rfl)(hd:o.dst=some d:=by exact rfl)(hN:Nat.blt d N=true:=by exact rfl)(hk:b.kind≠.early:=by exact fun h=>nomatch h):
 Qt T v b cs N df (.inRegion ops (i::rest)::k) Γ:=fun a ha=>
 hT _ _ _ _ _ (fun w hl=>I3 ho (aA hg _) hk (hop N df a ha w hl)) (by rw [hd];exact h _ (ha.put hN))
theorem sf(hT:Mv P Wl main T){ops:Array Oper}{i d j s:Nat}{g:Bool}{rest:List Nat}{o oj:Oper}{u:Value}(ho:ops[i]? =some o)(hop:OV P Wl o Γ u)(h:Qt T v b cs N df (.inRegion ops rest::k) ((d,u)::Γ))(hg:o.guard=some (j,g):=by exact rfl)(hj:ops[j]? =some oj:=by exact rfl)(hs:oj.dst=some s:=by exact rfl)(hl:lv Γ s=some (.bool g):=by exact rfl)(hd:o.dst=some d:=by exact rfl)(hN:Nat.blt d N=true:=by exact rfl)(hk:b.kind≠.early:=by exact fun h=>nomatch h):
 Qt T v b cs N df (.inRegion ops (i::rest)::k) Γ:=fun a ha=>by
 have hw:Region.wanted o (yielded ops a.tmps)=true:=by
  unfold Region.wanted yielded;rw [hg];simp [hj,hs,I2 (ha.val s _ hl) (by simp [undef])]
 exact hT _ _ _ _ _ (fun w hl'=>I3 ho hw hk (hop N df a ha w hl')) (by rw [hd];exact h _ (ha.put hN))
theorem PQ(hT:Mv P Wl main T){ops:Array Oper}{i d j s:Nat}{g c:Bool}{rest:List Nat}{o oj:Oper}(ho:ops[i]? =some o)(h:Qt T v b cs N df (.inRegion ops rest::k) ((d,undef)::Γ))(hg:o.guard=some (j,g):=by exact rfl)(hj:ops[j]? =some oj:=by exact rfl)(hs:oj.dst=some s:=by exact rfl)(hl:lv Γ s=some (.bool c):=by exact rfl)(hc:(c == g)=false:=by exact rfl)(hd:o.dst=some d:=by exact rfl)(hN:Nat.blt d N=true:=by exact rfl):
 Qt T v b cs N df (.inRegion ops (i::rest)::k) Γ:=fun a ha=>by
 have hw:Region.wanted o (yielded ops a.tmps)=false:=by
  unfold Region.wanted yielded;rw [hg];have:=I2 (ha.val s _ hl) (by simp [undef]);cases c <;> cases g <;> simp [hj,hs,this] at hc⊢
 refine hT _ _ _ _ _ (fun w _=>stepG_unwanted ho hw) ?_
 rw [hd];exact h _ (ha.put hN)
theorem OV.of{o:Oper}{u:Value}(_:nd o.op=true)(h:∀(N:Nat) (df:List Deferred) (a:Act),QS N df Γ a→∀w:World,Wl w→(execOp a.eval o).runT P w #[]=(.ok (.value u) w, #[])):OV P Wl o Γ u:=h
variable {o:Oper}{p q r:Operand}{TT T':TypeId}{u u':Value}
theorem ni(ho:o.op= .move p)(e:ev Γ p=some u):OV P Wl o Γ u:=.of (by simp [nd,ho]) fun N df a ha w hl=>by simp [execOp,ho,ha.ev e]
theorem vz(ho:o.op= .assign p)(e:ev Γ p=some u):OV P Wl o Γ u:=.of (by simp [nd,ho]) fun N df a ha w hl=>by simp [execOp,ho,ha.ev e]
theorem Hj(ho:o.op= .pick p q r)(t:Bool)(e:ev Γ p=some (.bool t))(e':ev Γ (if t then q else r)=some u):OV P Wl o Γ u:=.of (by simp [nd,ho]) fun N df a ha w hl=>by
 have h1:=ha.ev e
 cases t
 ·
  have h2:a.eval r=u:=ha.ev (by simpa using e')
  simp [execOp,ho,h1,asBool,h2]
 ·
  have h2:a.eval q=u:=ha.ev (by simpa using e')
  simp [execOp,ho,h1,asBool,h2]
def sU(b:BinOp)(k:IntKind)(n m:Int):Option Value:=match b with
 | .add=>some (.int k (k.wrap (n+m)))
 | .sub=>some (.int k (k.wrap (n - m)))
 | .lss=>some (.bool (decide (n < m)))
 | .leq=>some (.bool (decide (n≤m)))
 | .gtr=>some (.bool (decide (m < n)))
 | .eql=>some (.bool (decide (n=m)))
 | .neq=>some (.bool (!decide (n=m)))
 | .and=>some (.int k (xu k n m))
 |_=>none
theorem gX{b:BinOp}{k:IntKind}{n m:Int}(ho:o.op= .binOp b TT p q T')(e1:ev Γ p=some (.int k n))(e2:ev Γ q=some (.int k m))(hr:sU b k n m=some u):OV P Wl o Γ u:=.of (by simp [nd,ho]) fun N df a ha w hl=>by
 have h1:=ha.ev e1
 have h2:=ha.ev e2
 have hne:(n != m)= !decide (n=m):=by by_cases h:n=m <;> simp [h]
 have heq:(n == m)=decide (n=m):=by by_cases h:n=m <;> simp [h]
 cases b <;> simp only [sU,Option.some.injEq,reduceCtorEq] at hr <;> subst hr <;> simp [execOp,ho,h1,h2,eqGuard,binOp,Op.intArith,Op.intCmp,Op.intBits,xu,hne,heq]
theorem Qn{k k':IntKind}{n m:Int}(ho:o.op= .binOp .shl TT p q T')(e1:ev Γ p=some (.int k n))(e2:ev Γ q=some (.int k' m))(h:0≤m):OV P Wl o Γ (.int k (np k n m)):=.of (by simp [nd,ho]) fun N df a ha w hl=>by
 simp [execOp,ho,ha.ev e1,ha.ev e2,eqGuard,binOp,Op.shift,np,show¬m < 0 by omega]
theorem Qm{k k':IntKind}{n m:Int}(ho:o.op= .binOp .shr TT p q T')(e1:ev Γ p=some (.int k n))(e2:ev Γ q=some (.int k' m))(h:0≤m):OV P Wl o Γ (.int k (iI k n m)):=.of (by simp [nd,ho]) fun N df a ha w hl=>by
 simp [execOp,ho,ha.ev e1,ha.ev e2,eqGuard,binOp,Op.shift,iI,show¬m < 0 by omega]
theorem NZ{k k':IntKind}{n:Int}(ho:o.op= .convert TT T' p)(hT:P.underlying TT=some (.int k))(hT':P.underlying T'=some (.int k'))(e:ev Γ p=some (.int k n)):OV P Wl o Γ (.int k' (k'.wrap n)):=.of (by simp [nd,ho]) fun N df a ha w hl=>by
 simp [execOp,ho,ha.ev e,convert,run_underlying hT,run_underlying hT',Conv.intToInt]
theorem py{ad:Addr}(ho:o.op= .convert TT T' p)(hc:∀w,Wl w→(convert TT T' (.pointer (some ad))).runT P w #[]=(.ok (.pointer (some ad)) w, #[]))(e:ev Γ p=some (.pointer (some ad))):OV P Wl o Γ (.pointer (some ad)):=.of (by simp [nd,ho]) fun N df a ha w hl=>by
 have h1:Sem.run P (convert TT T' (.pointer (some ad))) w= .ok (.pointer (some ad)) w:=by rw [←Sem.runT_fst P _ _ #[],hc w hl]
 have h2:Sem.events P (convert TT T' (.pointer (some ad))) w #[]= #[]:=by unfold Sem.events;rw [hc w hl]
 simp [execOp,ho,ha.ev e,h1,h2]
theorem Hk{ad:Addr}(ho:o.op= .nilCheck p)(e:ev Γ p=some (.pointer (some ad))):OV P Wl o Γ (.pointer (some ad)):=.of (by simp [nd,ho]) fun N df a ha w hl=>by
 simp [execOp,ho,ha.ev e]
theorem eC{b off f k:Nat}(ho:o.op= .fieldAddr TT p f)(hf:∀w:World,(Instr.fieldAt TT (.pointer (some ⟨b,off,none⟩)) f).runT P w #[]=(.ok (.pointer (some ⟨b,off+k,none⟩)) w, #[]))(e:ev Γ p=some (.pointer (some ⟨b,off,none⟩))):OV P Wl o Γ (.pointer (some ⟨b,off+k,none⟩)):=.of (by simp [nd,ho]) fun N df a ha w hl=>by
 have h1:Sem.run P (Instr.fieldAt TT (.pointer (some ⟨b,off,none⟩)) f) w= .ok (.pointer (some ⟨b,off+k,none⟩)) w:=by rw [←Sem.runT_fst P _ _ #[],hf]
 have h2:Sem.events P (Instr.fieldAt TT (.pointer (some ⟨b,off,none⟩)) f) w #[]= #[]:=by unfold Sem.events;rw [hf]
 simp [execOp,ho,ha.ev e,h1,h2]
end
end K
