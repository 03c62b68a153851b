import Derived.Test.YtopgphikdglphaaGreatB9
import Derived.Test.YtopgphikdglphaaGreatB7
namespace Go.Proofs.YtopgphikdglphaaGreat
open K Go Go.Proofs
def sP(c:ae)(ts:List (Bool×Int)):(Nat→Int)×(Nat→Int)→List ap→(Nat→Int)×(Nat→Int)
 |x,[]=>x
 |x,s::p=>sP c ts (upd x.1 s.1.toNat (gI c ts x.1 x.2 s),upd x.2 s.2.toNat (gI c ts x.1 x.2 s)) p
theorem EA{c:ae}{ts:List (Bool×Int)}:∀{p:List ap} {E F:Nat→Int},(sP c ts (E,F) p).1=sQ c ts E F p
 |[],_,_=>rfl
 |s::p,E,F=>by rw [sP,sQ];exact EA
theorem zY{c:ae}{ts:List (Bool×Int)}:∀{p r:List ap} {x:(Nat→Int)×(Nat→Int)},sP c ts x (p++r)=sP c ts (sP c ts x p) r
 |[],_,_=>rfl
 |s::p,r,x=>by rw [List.cons_append,sP,sP];exact zY
theorem II{c:ae}{ts:List (Bool×Int)}:∀{p:List ap} {E F:Nat→Int} {i:Nat} {s:ap},p[i]? =some s→(vO c ts E F p)[i]? =some (sK c ts (sP c ts (E,F) (p.take i)).1 (sP c ts (E,F) (p.take i)).2 s)
 |[],_,_,_,_,h=>by simp at h
 |x::p,E,F,0,s,h=>by
  simp only [List.getElem?_cons_zero,Option.some.injEq] at h
  subst h
  simp [vO,sP]
 |x::p,E,F,i+1,s,h=>by
  simp only [List.getElem?_cons_succ] at h
  rw [vO,List.getElem?_cons_succ,II h,List.take_succ_cons,sP]
theorem BM{c:ae}{ts:List (Bool×Int)}:∀{p:List ap} {E F:Nat→Int},(vO c ts E F p).length=p.length
 |[],_,_=>rfl
 |s::p,_,_=>by simp [vO,BM (p:=p)]
theorem BN{c:ae}{ts:List (Bool×Int)}{i:Nat}:∀{p:List ap} {E F:Nat→Int},(∀s∈p,s.1.toNat≠i)→sQ c ts E F p i=E i
 |[],_,_,_=>rfl
 |s::p,E,F,h=>by
  rw [sQ,BN fun x hx=>h x (List.mem_cons_of_mem _ hx)]
  unfold upd
  rw [if_neg (Ne.symm (h s (by simp)))]
def Am(c:ae)(ts:List (Bool×Int))(p:List ap)(i:Nat)(s:ap):Int:=sK c ts (sP c ts (E0,F0 c) (p.take i)).1 (sP c ts (E0,F0 c) (p.take i)).2 s
def Cf(c:ae)(ts:List (Bool×Int))(p:List ap)(i:Nat)(s:ap):Int:=Am c ts p i s+jF c (lJ ts s.1)
theorem IH{c:ae}{ts:List (Bool×Int)}{p:List ap}{i:Nat}{s:ap}(h:p[i]? =some s):(vO c ts E0 (F0 c) p)[i]? =some (Am c ts p i s):=II h
theorem Av{p:List ap}{i:Nat}{s:ap}(h:p[i]? =some s):p.take (i+1)=p.take i++[s]:=by rw [List.take_add_one,h];rfl
theorem vM{c:ae}{ts:List (Bool×Int)}{p:List ap}(h0:∀s∈p,0≤s.1)(hn:(p.map (·.1)).Nodup){k:Nat}{s:ap}(hk:p[k]? =some s):∀{i:Nat},k < i→i≤p.length→(sP c ts (E0,F0 c) (p.take i)).1 s.1.toNat=Cf c ts p k s
 |0,h,_=>by omega
 |i+1,h,hl=>by
  have hi:i < p.length:=by omega
  have hg:=List.getElem?_eq_getElem hi
  rw [Av hg,zY,sP,sP]
  simp only
  unfold upd
  by_cases hki:k=i
  ·
   subst hki
   rw [hk] at hg
   cases hg
   rw [if_pos rfl]
   rfl
  ·
   have hne:s.1.toNat≠p[i].1.toNat:=fun e=>by
    have h1:=h0 s (List.mem_of_getElem? hk)
    have h2:=h0 p[i] (List.getElem_mem hi)
    have e1:(p.map (·.1))[k]? =some s.1:=by rw [List.getElem?_map,hk];rfl
    have e2:(p.map (·.1))[i]? =some s.1:=by rw [List.getElem?_map,hg];simp only [Option.map_some,Option.some.injEq];omega
    have hkl:k < (p.map (·.1)).length:=(List.getElem?_eq_some_iff.1 e1).1
    exact hki ((List.getElem?_inj hkl hn).1 (e1.trans e2.symm))
   rw [if_neg hne]
   exact vM h0 hn hk (by omega) (by omega)
theorem pG{n:Int}{c:ae}{mv:List Bool}(hc:VC n c){s:ap}(h:gZ c (aI c mv) s):1≤jF c (lJ (aI c mv) s.1)∧jF c (lJ (aI c mv) s.1)≤4:=rD hc (kV h)
theorem BJ{n:Int}{c:ae}{mv:List Bool}(hc:VC n c){p:List ap}(hs:∀s∈p,gZ c (aI c mv) s){d:Nat}{x:Int}:∀{i:Nat},i≤p.length→
 ((sP c (aI c mv) (E0,F0 c) (p.take i)).2 d≤x↔F0 c d≤x∧∀k s,k < i→p[k]? =some s→s.2.toNat=d→Cf c (aI c mv) p k s≤x)
 |0,_=>by simp [sP]
 |i+1,hl=>by
  have hi:i < p.length:=by omega
  have hg:=List.getElem?_eq_getElem hi
  have hS:=hs p[i] (List.getElem_mem hi)
  have ih:=BJ hc hs (d:=d) (x:=x) (i:=i) (by omega)
  rw [Av hg,zY,sP,sP]
  simp only
  unfold upd
  have he:gI c (aI c mv) (sP c (aI c mv) (E0,F0 c) (p.take i)).1 (sP c (aI c mv) (E0,F0 c) (p.take i)).2 p[i]=Cf c (aI c mv) p i p[i]:=rfl
  rw [he]
  by_cases hd:d=p[i].2.toNat
  ·
   rw [if_pos hd]
   have hge:(sP c (aI c mv) (E0,F0 c) (p.take i)).2 d≤Cf c (aI c mv) p i p[i]:=by
    have h1:=(su (E:=(sP c (aI c mv) (E0,F0 c) (p.take i)).1) (l:=g8 c (aI c mv) p[i].1.toNat) (m:=(sP c (aI c mv) (E0,F0 c) (p.take i)).2 p[i].2.toNat)).1;have h2:=(pG hc hS).1;rw [hd];unfold Cf Am sK;omega
   constructor
   ·intro h;obtain⟨h1,h2⟩:=ih.1 (Int.le_trans hge h);refine⟨h1,fun k s hk hks hsd=>?_⟩;by_cases hki:k=i
    ·subst hki;rw [hg] at hks;cases hks;exact h
    ·exact h2 k s (by omega) hks hsd
   ·rintro⟨_,h2⟩;exact h2 i _ (by omega) hg hd.symm
  ·rw [if_neg hd,ih];constructor
   ·rintro⟨h1,h2⟩;refine⟨h1,fun k s hk hks hsd=>?_⟩;by_cases hki:k=i
    ·subst hki;rw [hg] at hks;cases hks;exact absurd hsd.symm hd
    ·exact h2 k s (by omega) hks hsd
   ·rintro⟨h1,h2⟩;exact⟨h1,fun k s hk=>h2 k s (by omega)⟩
theorem BE{c:ae}{ts:List (Bool×Int)}:∀{p:List ap} {done:List Int} {i:Nat} {s:ap},qD c ts done p=0→p[i]? =some s→∀a∈g8 c ts s.1.toNat,(a:Int)∈done∨∃k s',k < i∧p[k]? =some s'∧s'.1=(a:Int)
 |[],_,_,_,_,h=>by simp at h
 |x::p,done,i,s,hc,h=>by
  rw [qD] at hc
  by_cases h0:dC c ts done x=0
  ·
   rw [if_neg (by simp [h0])] at hc
   intro a ha
   cases i with
   |zero=>
    simp only [List.getElem?_cons_zero,Option.some.injEq] at h
    subst h
    have hx:=wK.2 h0
    unfold tJ at hx
    simp only [List.mem_flatMap] at hx
    obtain⟨t,_,hx⟩:=hx
    split at hx
    ·
     rename_i hm
     have e1:=(wJ.1 hx).1
     have e2:x.1.toNat=t:=by omega
     rw [e2] at ha
     exact .inl ((qo.1 hm).2 a ha)
    ·
     cases hx
   |succ i=>
    simp only [List.getElem?_cons_succ] at h
    rcases BE hc h a ha with h1 |⟨k,s',h1,h2,h3⟩
    ·
     rcases List.mem_append.1 h1 with h1 |h1
     ·
      exact .inl h1
     ·
      simp only [List.mem_singleton] at h1
      exact .inr ⟨0,x,by omega,rfl,h1.symm⟩
    ·
     exact .inr ⟨k+1,s',by omega,by simpa using h2,h3⟩
  ·
   rw [if_pos h0] at hc;exact absurd hc h0
theorem Nn{n:Int}{c:ae}{mv:List Bool}(hc:VC n c){p:List ap}(hp:tL c (aI c mv) p=0){i:Nat}{s:ap}(hi:p[i]? =some s){x:Int}:
 Am c (aI c mv) p i s≤x↔F0 c s.2.toNat≤x∧(∀k s',k < i→p[k]? =some s'→s'.2.toNat=s.2.toNat→Cf c (aI c mv) p k s'≤x)∧(∀k s',k < i→p[k]? =some s'→s'.1.toNat∈g8 c (aI c mv) s.1.toNat→Cf c (aI c mv) p k s'≤x):=by
 obtain⟨_,hgo⟩:=qC hp
 obtain⟨h3,hn⟩:=nQ hgo
 have hs:∀s∈p,gZ c (aI c mv) s:=fun s hs=>(h3 s hs).1
 have hil:i < p.length:=(List.getElem?_eq_some_iff.1 hi).1
 have h0:∀s∈p,0≤s.1:=fun s h=>(hs s h).1
 unfold Am sK
 rw [nk,BJ hc hs (by omega)]
 constructor
 ·
  rintro⟨⟨h1,h2⟩,h4⟩;refine⟨h1,h2,fun k s' hk hks hb=>?_⟩;rw [←vM h0 hn hks hk (by omega)];exact h4 _ hb
 ·
  rintro⟨h1,h2,h4⟩;refine⟨⟨h1,h2⟩,fun a ha=>?_⟩;rcases BE hgo hi a ha with h |⟨k,s',hk,hks,e⟩
  ·simp at h
  ·have e2:a=s'.1.toNat:=by omega
   rw [e2,vM h0 hn hks hk (by omega)];exact h4 k s' hk hks (by rw [←e2];exact ha)
theorem EE{n:Int}{c:ae}{mv:List Bool}(hc:VC n c){p:List ap}(hs:∀s∈p,gZ c (aI c mv) s){i:Nat}{s:ap}(hi:p[i]? =some s)(hp:p.length≤4):0≤Am c (aI c mv) p i s∧Am c (aI c mv) p i s≤25:=by
 have key:∀(r:List ap) (x:(Nat→Int)×(Nat→Int)) (b:Int),(∀s∈r,gZ c (aI c mv) s)→An x.1 b→An x.2 b→An (sP c (aI c mv) x r).1 (b+4 * r.length)∧An (sP c (aI c mv) x r).2 (b+4 * r.length):=by
  intro r
  induction r with
  |nil=>intro x b _ h1 h2;rw [sP];exact⟨h1.mono (by simp),h2.mono (by simp)⟩
  |cons s r ih=>
   intro x b hs h1 h2;have hb:=rD hc (kV (hs s (by simp)));have hat:=tW (c:=c) (ts:=aI c mv) (s:=s) h1 h2;have hv:0≤gI c (aI c mv) x.1 x.2 s∧gI c (aI c mv) x.1 x.2 s≤b+4:=by unfold gI;omega
   rw [sP];have:=ih (upd x.1 s.1.toNat (gI c (aI c mv) x.1 x.2 s),upd x.2 s.2.toNat (gI c (aI c mv) x.1 x.2 s)) (b+4) (fun y hy=>hs y (List.mem_cons_of_mem _ hy)) ((h1.mono (b':=b+4) (by omega)).upd hv) ((h2.mono (b':=b+4) (by omega)).upd hv);exact⟨this.1.mono (by simp only [List.length_cons];omega),this.2.mono (by simp only [List.length_cons];omega)⟩
 have hil:i < p.length:=(List.getElem?_eq_some_iff.1 hi).1;obtain⟨h1,h2⟩:=key (p.take i) (E0,F0 c) 9 (fun s h=>hs s (List.mem_of_mem_take h)) (fun i=>by simp [E0]) (DU hc);have:=tW (c:=c) (ts:=aI c mv) (s:=s) h1 h2;rw [List.length_take] at this;unfold Am;omega
theorem Bq{α ε:Type}(P:Nat→Bool)(e:ε):∀(l:List α) (j:Nat),lH (fun(_:Unit) j (_:α)=>if P j=true then Except.error e else .ok ()) j l ()=if(List.range' j l.length).any P=true then .error e else .ok ()
 |[],j=>by simp [lH]
 |x::l,j=>by
  rw [lH,List.length_cons,List.range'_succ,List.any_cons]
  cases h:P j with
  |true=>simp
  |false=>simp only [Bool.false_eq_true,if_false,Bool.false_or];exact Bq P e l (j+1)
theorem AG{k:Nat}{p:List ap}{t:Int}(h:p.length < k)(hl:p.length≤1000000):W (ot k p t) fun r=> -1≤r∧(0≤r↔t∈p.map (·.1)):=by
 have key:=mV (f:=iH k p t) p (fun(_:Unit) j=>j) (fun _ (j:Nat) (s:ap)=>if(fun s:ap=>decide (s.1=t)) s=true then Except.error (j:Int) else .ok ()) (fun _ _=>True) (fun r=>some r)
  (fun n s j h _=>by
   have hck:ck ((j:Int)+1)=some ((j:Int)+1):=bK (by omega) (by omega);simp only [iH,Int.ofNat_lt,h,if_true,aY h,bs,hck];by_cases hx:p[j].1=t <;> simp [hx]) (fun n s _=>by simp [iH]) (n:=k) (s0:=()) h trivial
 unfold ot;rw [show iH k p t k 0=_ from key,pu];cases hf:p.findIdx? (fun s=>decide (s.1=t)) with
 |none=>
  rw [lU];refine W.ret ⟨Int.le_refl _,⟨fun h=>by omega,fun hm=>?_⟩⟩;obtain⟨s,hs,rfl⟩:=List.mem_map.1 hm;have:=List.findIdx?_eq_none_iff.1 hf s hs;simp at this
 |some i=>
  rw [pH];obtain⟨hi,h1,_⟩:=List.findIdx?_eq_some_iff_getElem.1 hf;refine W.ret ⟨by omega,⟨fun _=>?_,fun _=>by omega⟩⟩;rw [←of_decide_eq_true h1];exact List.mem_map_of_mem (List.getElem_mem hi)
section
variable {k:Nat}{n:Int}{c:ae}{mv:List Bool}
theorem vT{s:ap}(h:gZ c (aI c mv) s):aL ((aI c mv).map fun x=>(x.2,x.1)) s.1=some ((lJ (aI c mv) s.1).2,(lJ (aI c mv) s.1).1):=by
 have hl:s.1.toNat < (aI c mv).length:=by have:=h.1;have:=h.2.1;omega
 rw [pq h.1 (by rw [List.length_map];exact hl),List.getElem_map,lJ,List.getElem?_eq_getElem hl];rfl
theorem JL(hc:VC n c){d:Int}{w:Bool×Int}(hk:50≤k)(hd:0≤d∧d < c.2.1.length)(hw:w∈aI c mv):ta k c (oK c d) (w.2,w.1)=some (ji c d w):=by
 obtain⟨w1,w2,w3,w4,w5⟩:=hc.wl;obtain⟨i,hi,ei⟩:=km w hw;obtain⟨wb,wv⟩:=w;simp only at ei;subst ei;have gi:=List.getElem?_eq_getElem hi
 have hdl:(oK c d).1.length≤4:=by
  have:=tC hd.1 hd.2;unfold aL at this;rw [if_pos hd.1] at this;exact w5 _ (List.mem_of_getElem? this)
 unfold ta ji;simp only [mZ gi];rw [aY hi,bs,iO (by omega) (by omega),bs];by_cases a:(i:Int)∈(oK c d).1
 ·simp only [a,decide_true,if_true,Bool.true_and];by_cases b:c.1[i].2.2.2.1=0
  ·simp [b]
  ·simp only [b,if_false,decide_false,Bool.false_or];by_cases b2:(oK c d).2.1=0
   ·simp [b2]
   ·simp only [b2,if_false,decide_false,Bool.false_or,bs];congr 1;rw [decide_eq_decide];exact eq_comm
 ·simp [a]
theorem yq{w:Bool×Int}(hw:w∈aI c mv):mQ k c (w.2,w.1)=some (jF c w):=by
 obtain⟨i,hi,ei⟩:=km w hw;obtain⟨wb,wv⟩:=w;simp only at ei;subst ei;have gi:=List.getElem?_eq_getElem hi;unfold mQ jF;simp only [mZ gi,aY hi,bs];cases wb <;> simp
theorem GW(hk:50≤k)(hc:VC n c)(hF:xH c mv)(ht:(aI c mv).length≤4){p:List ap}(hp:p.length≤40){s:ap}:j8 k c p s=some (dC c (aI c mv) (p.map (·.1)) s):=by
 have hdl:=hc.dl;obtain⟨t,d⟩:=s;unfold j8 dC;rw [kG hk hc hF,bs,List.length_map,bK (by omega) (by omega),bs,oH,bs];simp only;by_cases h1:0≤t∧t < (aI c mv).length
 ·rw [decide_eq_true (show 0≤t∧t≤((aI c mv).length:Int) - 1 by omega),if_neg (by simp),if_neg (by omega)];obtain⟨r,er,_,hr⟩:=AG (k:=k) (p:=p) (t:=t) (by omega) (by omega);rw [er,bs];by_cases h2:t∈p.map (·.1)
  ·rw [if_pos (hr.2 h2),if_pos h2]
  ·rw [if_neg (fun h=>h2 (hr.1 h)),if_neg h2,bK (by omega) (by omega),bs,oH,bs];by_cases h3:0≤d∧d < c.2.1.length
   ·rw [decide_eq_true (show 0≤d∧d≤(c.2.1.length:Int) - 1 by omega),if_neg (by simp),if_neg (by omega),tC h3.1 h3.2,bs];have hS:gZ c (aI c mv) (t,d):=⟨h1.1,h1.2,h3.1,h3.2⟩;have htm:=kV hS;rw [vT hS,bs,JL hc hk h3 htm,bs];have htk:lJ (aI c mv) t=(aI c mv)[t.toNat]?.getD (false,0):=rfl;rw [←htk];by_cases h4:ji c d (lJ (aI c mv) t)=true
    ·rw [h4,if_neg (by simp),if_neg (by simp)]
     have key:=mV (f:=dT k c p (t,d) ((aI c mv).map fun x=>(x.2,x.1))) (aI c mv) (fun(_:Unit) j=>j) (fun _ (j:Nat) _=>if(fun(j:Nat)=>Ak c (aI c mv) j t.toNat && !decide ((j:Int)∈p.map (·.1))) j=true then Except.error (5:Int) else .ok ()) (fun _ _=>True) (fun r=>some r)
      (fun m _ j h _=>by
       have hck:ck ((j:Int)+1)=some ((j:Int)+1):=bK (by omega) (by omega);obtain⟨r,er,h0,hr⟩:=AG (k:=k) (p:=p) (t:=(j:Int)) (by omega) (by omega);have hjm:j < ((aI c mv).map fun x=>(x.2,x.1)).length:=by rw [List.length_map];exact h
       have hlt:(j:Int) < (((aI c mv).map fun x=>(x.2,x.1)).length:Int):=by omega
       have hbe:Ak c (aI c mv) j t.toNat=vA c (aI c mv)[j] (lJ (aI c mv) t):=by
        have hl:t.toNat < (aI c mv).length:=by omega
        unfold Ak;rw [List.getElem?_eq_getElem h,List.getElem?_eq_getElem hl];simp only [lJ,List.getElem?_eq_getElem hl];rfl
       simp only [dT,hlt,if_true,aY hjm,List.getElem_map,bs,vT hS,tc hk hc (List.getElem_mem h) htm,←hbe,er,hck]
       have hd2:decide (r < 0)= !decide ((j:Int)∈p.map (·.1)):=by
        by_cases hm:(j:Int)∈p.map (·.1)
        ·rw [decide_eq_true hm,decide_eq_false (by have:=hr.2 hm;omega)];rfl
        ·rw [decide_eq_false hm,decide_eq_true (by have:=mt hr.1 hm;omega)];rfl
       rw [hd2];by_cases hb:Ak c (aI c mv) j t.toNat=true <;> by_cases hm:(j:Int)∈p.map (·.1) <;> simp only [hb,hm] <;> simp) (fun m s _=>by simp [dT]) (n:=k) (s0:=()) (by omega) trivial
     rw [show dT k c p (t,d) _ k 0=_ from key,Bq (fun(j:Nat)=>Ak c (aI c mv) j t.toNat && !decide ((j:Int)∈p.map (·.1))) (5:Int) (aI c mv) 0]
     have hiff:(List.range' 0 (aI c mv).length).any (fun(j:Nat)=>Ak c (aI c mv) j t.toNat && !decide ((j:Int)∈p.map (·.1)))=true↔¬∀a∈g8 c (aI c mv) t.toNat,(a:Int)∈p.map (·.1):=by
      rw [List.any_eq_true];constructor
      ·rintro⟨j,_,hj⟩ hall;simp only [Bool.and_eq_true,Bool.not_eq_true',decide_eq_false_iff_not] at hj;exact hj.2 (hall j (qm.2 hj.1))
      ·intro hn;simp only [Classical.not_forall] at hn;obtain⟨a,ha,hna⟩:=hn;have hb:=ED a ha;exact⟨a,by simp only [List.mem_range'_1];omega,by simp only [Bool.and_eq_true,Bool.not_eq_true',decide_eq_false_iff_not];exact⟨qm.1 ha,hna⟩⟩
     by_cases h5:∀a∈g8 c (aI c mv) t.toNat,(a:Int)∈p.map (·.1)
     ·rw [if_neg (fun h=>hiff.1 h h5),lU,if_neg (fun h=>h h5)]
     ·rw [if_pos (hiff.2 h5),pH,if_pos h5]
    ·have h4:ji c d (lJ (aI c mv) t)=false:=by simpa using h4
     rw [h4,if_pos (by simp),if_pos rfl]
   ·rw [decide_eq_false (show¬(0≤d∧d≤(c.2.1.length:Int) - 1) by omega),if_pos (by simp),if_pos (by omega)]
 ·rw [decide_eq_false (show¬(0≤t∧t≤((aI c mv).length:Int) - 1) by omega),if_pos (by simp),if_pos (by omega)]
end
section
variable {k:Nat}{n:Int}{c:ae}{mv:List Bool}
theorem K9{s s':ap}(h:gZ c (aI c mv) s)(h':gZ c (aI c mv) s'):vA c (lJ (aI c mv) s'.1) (lJ (aI c mv) s.1)=true↔s'.1.toNat∈g8 c (aI c mv) s.1.toNat:=by
 have l1:s.1.toNat < (aI c mv).length:=by have:=h.1;have:=h.2.1;omega
 have l2:s'.1.toNat < (aI c mv).length:=by have:=h'.1;have:=h'.2.1;omega
 rw [qm];unfold Ak;rw [List.getElem?_eq_getElem l1,List.getElem?_eq_getElem l2];unfold lJ;rw [List.getElem?_eq_getElem l1,List.getElem?_eq_getElem l2];exact Iff.rfl
theorem CX(hk:50≤k)(hc:VC n c)(hF:xH c mv)(ht:(aI c mv).length≤4){p:List ap}(h0:tL c (aI c mv) p=0):m8 k c p=some (vO c (aI c mv) E0 (F0 c) p):=by
 obtain⟨hl,hgo⟩:=qC h0;have hs:∀s∈p,gZ c (aI c mv) s:=fun s h=>((nQ hgo).1 s h).1;have hBl:(vO c (aI c mv) E0 (F0 c) p).length=p.length:=BM;have hbd:∀(i:Nat) (hi:i < p.length),0≤Am c (aI c mv) p i p[i]∧Am c (aI c mv) p i p[i]≤25:=fun i hi=>EE hc hs (List.getElem?_eq_getElem hi) (by omega);have hbr:∀(i:Nat) (hi:i < p.length),1≤jF c (lJ (aI c mv) p[i].1)∧jF c (lJ (aI c mv) p[i].1)≤4:=fun i hi=>pG hc (hs _ (List.getElem_mem hi))
 have due:∀(o:List Int) (i:Nat) (hi:i < p.length) (x:ax),o=(vO c (aI c mv) E0 (F0 c) p).take i→x.2.2=F0 c p[i].2.toNat→
  fA k c p ((aI c mv).map fun x=>(x.2,x.1)) (o,(i:Int)) ((lJ (aI c mv) p[i].1).2,(lJ (aI c mv) p[i].1).1) k (x.2.2,0)=some (Am c (aI c mv) p i p[i]):=fun o i hi x ho hx=>by
  subst ho
  have key:W (fA k c p ((aI c mv).map fun x=>(x.2,x.1)) ((vO c (aI c mv) E0 (F0 c) p).take i,(i:Int)) ((lJ (aI c mv) p[i].1).2,(lJ (aI c mv) p[i].1).1) k (x.2.2,0)) fun r=>∀x,r≤x↔Am c (aI c mv) p i p[i]≤x:=by
   refine W.loop (f:=fA k c p ((aI c mv).map fun x=>(x.2,x.1)) ((vO c (aI c mv) E0 (F0 c) p).take i,(i:Int)) ((lJ (aI c mv) p[i].1).2,(lJ (aI c mv) p[i].1).1)) (fun m y=>∃j:Nat,y.2=(j:Int)∧j≤i∧m=i - j∧∀x,y.1≤x↔F0 c p[i].2.toNat≤x∧∀t s',t < j→p[t]? =some s'→(s'.2.toNat=p[i].2.toNat∨s'.1.toNat∈g8 c (aI c mv) p[i].1.toNat)→Cf c (aI c mv) p t s'≤x) ?_ i k (x.2.2,0) (by omega)
    ⟨0,rfl,by omega,by omega,fun z=>by simp only [hx];simp⟩
   rintro aH m ⟨r,y⟩ ⟨j,hj,hle,hm,hr⟩ ih;simp only at hj hr;subst hj;have o1:j < i→m - 1 < m∧m - 1=i - (j+1)∧j+1≤i:=by clear hr ih;omega
   unfold fA;dsimp only
   refine W.ite (fun hlt=>?_) (fun hge=>W.ret fun x=>by
    have hji:j=i:=by clear hr ih;omega
    subst hji;rw [hr,Nn hc h0 (List.getElem?_eq_getElem hi)];constructor
    ·rintro⟨a,b⟩;exact⟨a,fun t s' h1 h2 h3=>b t s' h1 h2 (.inl h3),fun t s' h1 h2 h3=>b t s' h1 h2 (.inr h3)⟩
    ·rintro⟨a,b,d⟩;exact⟨a,fun t s' h1 h2 h3=>h3.elim (b t s' h1 h2) (d t s' h1 h2)⟩)
   have hji:j < i:=by clear hr ih;omega
   have hjl:j < p.length:=by clear hr ih;omega
   have hS:=hs _ (List.getElem_mem hjl);have hSi:=hs _ (List.getElem_mem hi)
   have hgb:aL ((vO c (aI c mv) E0 (F0 c) p).take i) (j:Int)=some (Am c (aI c mv) p j p[j]):=qw (by clear hr ih;omega) (by
    rw [Int.toNat_natCast,List.getElem?_take,if_pos hji];exact IH (List.getElem?_eq_getElem hjl))
   have hB:=hbd j hjl;have hR:=hbr j hjl;have hck:ck ((j:Int)+1)=some ((j:Int)+1):=bK (by clear hr ih;omega) (by clear hr ih;omega);have hck2:ck (Am c (aI c mv) p j p[j]+jF c (lJ (aI c mv) p[j].1))=some (Cf c (aI c mv) p j p[j]):=bK (by clear hr ih;omega) (by clear hr ih;omega)
   have hneed:(if p[j].2=p[i].2 then some true else some (vA c (lJ (aI c mv) p[j].1) (lJ (aI c mv) p[i].1)))=some (decide (p[j].2.toNat=p[i].2.toNat∨p[j].1.toNat∈g8 c (aI c mv) p[i].1.toNat)):=by
    have a1:p[j].2=p[i].2↔p[j].2.toNat=p[i].2.toNat:=by have:=hS.2.2.1;have:=hSi.2.2.1;clear hr ih;omega
    by_cases e:p[j].2=p[i].2
    ·rw [if_pos e,decide_eq_true (.inl (a1.1 e))]
    ·rw [if_neg e];refine congrArg some ?_;rw [Bool.eq_iff_iff,K9 hSi hS,decide_eq_true_eq];exact⟨.inr,fun h=>h.resolve_left fun h=>e (a1.2 h)⟩
   have hstep:∀x,(∀t s',t < j+1→p[t]? =some s'→(s'.2.toNat=p[i].2.toNat∨s'.1.toNat∈g8 c (aI c mv) p[i].1.toNat)→Cf c (aI c mv) p t s'≤x)↔(∀t s',t < j→p[t]? =some s'→(s'.2.toNat=p[i].2.toNat∨s'.1.toNat∈g8 c (aI c mv) p[i].1.toNat)→Cf c (aI c mv) p t s'≤x)∧((p[j].2.toNat=p[i].2.toNat∨p[j].1.toNat∈g8 c (aI c mv) p[i].1.toNat)→Cf c (aI c mv) p j p[j]≤x):=fun x=>by
    constructor
    ·intro h;exact⟨fun t s' h1=>h t s' (by clear hr ih;omega),h j _ (by clear hr ih;omega) (List.getElem?_eq_getElem hjl)⟩
    ·rintro⟨h1,h2⟩ t s' h3 h4 h5;by_cases htj:t=j
     ·subst htj;rw [List.getElem?_eq_getElem hjl] at h4;cases h4;exact h2 h5
     ·exact h1 t s' (by clear hr ih;omega) h4 h5
   simp only [hgb,bs,aY hjl,aY hi,vT hS,yq (kV hS),hck2,tc hk hc (kV hS) (kV hSi),hneed];by_cases hnd:p[j].2.toNat=p[i].2.toNat∨p[j].1.toNat∈g8 c (aI c mv) p[i].1.toNat
   ·rw [decide_eq_true hnd,if_pos rfl,bs,hck,bs];refine ih (m - 1) (_,(j:Int)+1) (o1 hji).1 ⟨j+1,rfl,(o1 hji).2.2,(o1 hji).2.1,fun x=>?_⟩;simp only;rw [tz,hr,hstep,and_assoc];constructor
    ·rintro⟨a,b,d⟩;exact⟨a,b,fun _=>d⟩
    ·rintro⟨a,b,d⟩;exact⟨a,b,d hnd⟩
   ·rw [decide_eq_false hnd,if_neg (by simp),bs,hck,bs];refine ih (m - 1) (_,(j:Int)+1) (o1 hji).1 ⟨j+1,rfl,(o1 hji).2.2,(o1 hji).2.1,fun x=>?_⟩;simp only;rw [hr,hstep];constructor
    ·rintro⟨a,b⟩;exact⟨a,b,fun h=>absurd h hnd⟩
    ·rintro⟨a,b,_⟩;exact⟨a,b⟩
  obtain⟨r,e,hr⟩:=key
  have:r=Am c (aI c mv) p i p[i]:=by
   have a:=(hr r).1 (Int.le_refl _);have b:=(hr (Am c (aI c mv) p i p[i])).2 (Int.le_refl _);omega
  rw [e,this]
 unfold m8;rw [kG hk hc hF,bs]
 have key:W (gU k c p ((aI c mv).map fun x=>(x.2,x.1)) k ([],0)) fun r=>r=vO c (aI c mv) E0 (F0 c) p:=by
  refine W.loop (f:=gU k c p ((aI c mv).map fun x=>(x.2,x.1))) (fun m y=>∃i:Nat,y.2=(i:Int)∧i≤p.length∧m=p.length - i∧y.1=(vO c (aI c mv) E0 (F0 c) p).take i) ?_ p.length k ([],0) (by omega) ⟨0,rfl,by omega,by omega,by simp⟩;rintro aH m ⟨o,y⟩ ⟨i,hi,hle,hm,ho⟩ ih;simp only at hi ho;subst hi ho;unfold gU;dsimp only
  refine W.ite (fun hlt=>?_) (fun hge=>W.ret (by
   have:i=p.length:=by omega
   subst this;rw [←hBl,List.take_length]))
  have hlt':i < p.length:=by omega
  have hS:=hs _ (List.getElem_mem hlt');have hF':(oK c p[i].2).2.2=F0 c p[i].2.toNat:=by unfold F0;rw [show((p[i].2.toNat:Nat):Int)=p[i].2 by have:=hS.2.2.1;omega]
  rw [aY hlt',bs,vT hS,bs,bs,tC hS.2.2.1 hS.2.2.2,bs,due _ i hlt' _ rfl hF',bs,cO (bH (by simp only [List.length_take,List.length_cons,List.length_nil];omega)),bs,bs,bK (by omega) (by omega),bs];refine ih (m - 1) (_,(i:Int)+1) (by omega) ⟨i+1,rfl,by omega,by omega,?_⟩;simp only;rw [List.take_add_one,IH (List.getElem?_eq_getElem hlt')];rfl
 obtain⟨r,e,rfl⟩:=key;rw [e,bs]
theorem KA(hc:VC n c){p:List ap}(h0:tL c (aI c mv) p=0)(ht:(aI c mv).length≤4)(x:Int):gX c (aI c mv) p≤x↔0≤x∧∀t s',p[t]? =some s'→Cf c (aI c mv) p t s'≤x:=by
 obtain⟨hl,hgo⟩:=qC h0;have hs:∀s∈p,gZ c (aI c mv) s:=fun s h=>((nQ hgo).1 s h).1;have hn:=(nQ hgo).2
 have hE:∀j s,p[j]? =some s→sQ c (aI c mv) E0 (F0 c) p s.1.toNat=Cf c (aI c mv) p j s:=fun j s hj=>by
  have hjl:j < p.length:=(List.getElem?_eq_some_iff.1 hj).1;have:=vM (c:=c) (ts:=aI c mv) (fun s h=>(hs s h).1) hn hj (i:=p.length) hjl (Nat.le_refl _);rw [List.take_length,EA] at this;exact this
 have hB:=EC hc (mv:=mv) (p:=p) (E:=E0) (F:=F0 c) (b:=9) hs (fun i=>by simp [E0]) (DU hc)
 have hiff:gX c (aI c mv) p≤x↔((sQ c (aI c mv) E0 (F0 c) p 0≤x∧sQ c (aI c mv) E0 (F0 c) p 1≤x)∧sQ c (aI c mv) E0 (F0 c) p 2≤x)∧sQ c (aI c mv) E0 (F0 c) p 3≤x:=by
  unfold gX Kx;simp only [tz]
 rw [hiff];constructor
 ·rintro⟨⟨⟨a,b⟩,d⟩,e⟩;refine⟨Int.le_trans (hB 0).1 a,fun t s' h1=>?_⟩;rw [←hE t s' h1];have hS:=hs s' (List.mem_of_getElem? h1);have hx:s'.1.toNat=0∨s'.1.toNat=1∨s'.1.toNat=2∨s'.1.toNat=3:=by have:=hS.1;have:=hS.2.1;omega
  rcases hx with e' |e' |e' |e' <;> rw [e'] <;> assumption
 ·rintro⟨a,b⟩
  have hall:∀i,sQ c (aI c mv) E0 (F0 c) p i≤x:=fun i=>by
   by_cases hx:∃s'∈p,s'.1.toNat=i
   ·obtain⟨s',hs',e⟩:=hx;obtain⟨t,ht'⟩:=List.mem_iff_getElem?.1 hs';rw [←e,hE t s' ht'];exact b t s' ht'
   ·rw [BN fun s hs' e=>hx ⟨s,hs',e⟩];exact a
  exact⟨⟨⟨hall 0,hall 1⟩,hall 2⟩,hall 3⟩
theorem G4(hk:50≤k)(hc:VC n c)(hF:xH c mv)(ht:(aI c mv).length≤4){p:List ap}(h0:tL c (aI c mv) p=0):m9 k c p=some (gX c (aI c mv) p):=by
 obtain⟨hl,hgo⟩:=qC h0;have hs:∀s∈p,gZ c (aI c mv) s:=fun s h=>((nQ hgo).1 s h).1;unfold m9;rw [kG hk hc hF,bs,CX hk hc hF ht h0,bs]
 have key:W (jx k c p ((aI c mv).map fun x=>(x.2,x.1)) (vO c (aI c mv) E0 (F0 c) p) k (0,0)) fun r=>∀x,r≤x↔gX c (aI c mv) p≤x:=by
  refine W.loop (f:=jx k c p ((aI c mv).map fun x=>(x.2,x.1)) (vO c (aI c mv) E0 (F0 c) p)) (fun m y=>∃i:Nat,y.2=(i:Int)∧i≤p.length∧m=p.length - i∧∀x,y.1≤x↔0≤x∧∀t s',t < i→p[t]? =some s'→Cf c (aI c mv) p t s'≤x) ?_ p.length k (0,0) (by omega) ⟨0,rfl,by omega,by omega,fun x=>by simp⟩;rintro aH m ⟨r,y⟩ ⟨i,hi,hle,hm,hr⟩ ih;simp only at hi hr;subst hi;have o1:i < p.length→m - 1 < m∧m - 1=p.length - (i+1)∧i+1≤p.length:=by clear hr ih;omega
  unfold jx;dsimp only
  refine W.ite (fun hlt=>?_) (fun hge=>W.ret fun x=>by
   rw [hr,KA hc h0 ht];refine and_congr Iff.rfl ⟨fun h t s' h1=>h t s' ?_ h1,fun h t s' _ h1=>h t s' h1⟩;have:=(List.getElem?_eq_some_iff.1 h1).1;clear hr ih;omega)
  have hlt':i < p.length:=by clear hr ih;omega
  have hS:=hs _ (List.getElem_mem hlt');have hB:=EE hc hs (List.getElem?_eq_getElem hlt') (by clear hr ih;omega);have hR:=pG hc hS;have hgb:aL (vO c (aI c mv) E0 (F0 c) p) (i:Int)=some (Am c (aI c mv) p i p[i]):=qw (by clear hr ih;omega) (by simpa using IH (List.getElem?_eq_getElem hlt'));have hck:ck ((i:Int)+1)=some ((i:Int)+1):=bK (by clear hr ih;omega) (by clear hr ih;omega);have hck2:ck (Am c (aI c mv) p i p[i]+jF c (lJ (aI c mv) p[i].1))=some (Cf c (aI c mv) p i p[i]):=bK (by clear hr ih;omega) (by clear hr ih;omega);rw [hgb,bs,aY hlt',bs,vT hS,bs,yq (kV hS),bs,hck2,bs,hck,bs];refine ih (m - 1) (_,(i:Int)+1) (o1 hlt').1 ⟨i+1,rfl,(o1 hlt').2.2,(o1 hlt').2.1,fun x=>?_⟩;simp only;rw [tz,hr,and_assoc];refine and_congr Iff.rfl ?_;constructor
  ·rintro⟨a,b⟩ t s' h1 h2;by_cases hti:t=i
   ·subst hti;rw [List.getElem?_eq_getElem hlt'] at h2;cases h2;exact b
   ·exact a t s' (by clear hr ih;omega) h2
  ·intro h;exact⟨fun t s' h1=>h t s' (by clear hr ih;omega),h i _ (by clear hr ih;omega) (List.getElem?_eq_getElem hlt')⟩
 obtain⟨r,e,hr⟩:=key
 have:r=gX c (aI c mv) p:=by
  have a:=(hr r).1 (Int.le_refl _);have b:=(hr (gX c (aI c mv) p)).2 (Int.le_refl _);omega
 rw [e,bs,this]
end
theorem kP{α β:Type}{f:α→List β}{b:Nat}:∀{l:List α},(∀x∈l,(f x).length≤b)→(l.flatMap f).length≤l.length * b
 |[],_=>by simp
 |x::l,h=>by
  rw [List.flatMap_cons,List.length_append,List.length_cons,Nat.succ_mul]
  have:=h x (by simp)
  have:=kP (l:=l) (f:=f) fun y hy=>h y (by simp [hy])
  omega
def Aj(c:ae)(ts:List (Bool×Int))(done:List Int)(t m:Nat):List ap:=((List.range m).filter fun(d:Nat)=>decide (dC c ts done ((t:Int),(d:Int))=0)).map fun(d:Nat)=>((t:Int),(d:Int))
theorem Az{c:ae}{ts:List (Bool×Int)}{done:List Int}{t m:Nat}:Aj c ts done t (m+1)=Aj c ts done t m++(if dC c ts done ((t:Int),(m:Int))=0 then [((t:Int),(m:Int))] else []):=by
 unfold Aj;rw [List.range_succ,List.filter_append,List.map_append];congr 1;by_cases h:dC c ts done ((t:Int),(m:Int))=0 <;> simp [h]
theorem zg{c:ae}{ts:List (Bool×Int)}{done:List Int}{t m:Nat}:(Aj c ts done t m).length≤m:=by
 unfold Aj;rw [List.length_map];exact Nat.le_trans (List.length_filter_le _ _) (by simp)
theorem va:∀{n:Nat},List.range' 0 n=List.range n:=fun {n}=>by rw [List.range_eq_range']
theorem Es{c:ae}{ts:List (Bool×Int)}{done:List Int}:tJ c ts done 0=(List.range ts.length).flatMap fun t=>Aj c ts done t c.2.1.length:=by
 unfold tJ;rw [Nat.sub_zero,va]
 have:∀t∈List.range ts.length,(if wL c ts done t=true then vo c ts t 0 else [])=Aj c ts done t c.2.1.length:=fun t ht=>by
  have htl:t < ts.length:=List.mem_range.1 ht;unfold Aj vo;rw [Nat.sub_zero,va];by_cases hm:wL c ts done t=true
  ·rw [if_pos hm];congr 1;apply List.filter_congr;intro d hd;have hdl:d < c.2.1.length:=List.mem_range.1 hd;obtain⟨m1,m2⟩:=qo.1 hm;unfold dC;simp only;rw [if_neg (by omega),if_neg m1,if_neg (by omega)];show ji c (d:Int) (lJ ts (t:Int))=decide ((if ji c (d:Int) (lJ ts (t:Int))=false then(8:Int) else if¬(∀a∈g8 c ts t,(a:Int)∈done) then 5 else 0)=0);cases ji c (d:Int) (lJ ts (t:Int)) with
   |false=>simp
   |true=>rw [if_neg (by simp),if_neg (by simpa using m2)];simp
  ·rw [if_neg hm];symm;rw [List.map_eq_nil_iff,List.filter_eq_nil_iff];intro d hd h0;have h0:=of_decide_eq_true h0;refine hm (qo.2 ?_);unfold dC at h0;simp only at h0;have hdl:d < c.2.1.length:=List.mem_range.1 hd;rw [if_neg (by omega)] at h0;by_cases a2:(t:Int)∈done
   ·rw [if_pos a2] at h0;cases h0
   ·rw [if_neg a2,if_neg (by omega)] at h0;by_cases a4:ji c (d:Int) (ts[((t:Nat):Int).toNat]?.getD (false,0))=false
    ·rw [if_pos a4] at h0;cases h0
    ·rw [if_neg a4] at h0;by_cases a5:∀a∈g8 c ts ((t:Nat):Int).toNat,(a:Int)∈done
     ·exact⟨a2,a5⟩
     ·rw [if_pos a5] at h0;cases h0
 generalize List.range ts.length=l at *
 induction l with
 |nil=>rfl
 |cons x l ih=>
  rw [List.flatMap_cons,List.flatMap_cons,this x (by simp),ih fun t ht=>this t (by simp [ht])]
theorem tD{c:ae}{ts:List (Bool×Int)}(ht:ts.length≤4)(hd:c.2.1.length≤3):∀{r:Nat} {done:List Int} {p:List ap},(gen c ts r done p).length≤12 ^ r
 |0,_,_=>by simp [gen]
 |r+1,done,p=>by
  rw [gen]
  have h1:=kP (l:=tJ c ts done 0) (f:=fun s=>gen c ts r (done++[s.1]) (p++[s])) (b:=12 ^ r) fun s _=>tD ht hd
  have h2:(tJ c ts done 0).length≤12:=by
   rw [Es];have:=kP (l:=List.range ts.length) (f:=fun t=>Aj c ts done t c.2.1.length) (b:=3) fun t _=>Nat.le_trans zg hd;rw [List.length_range] at this;omega
  have h3:=Nat.mul_le_mul_right (12 ^ r) h2;rw [Nat.pow_succ];omega
section
variable {k:Nat}{n:Int}{c:ae}{mv:List Bool}
theorem CU(hk:50≤k)(hc:VC n c)(hF:xH c mv)(ht:(aI c mv).length≤4){self:ae→List ap→Option (List (List ap))}{p:List ap}{r t:Nat}(hp:p.length≤4)(hr:r≤3)
 (hself:∀d:Nat,d < c.2.1.length→self c (p++[((t:Int),(d:Int))])=some (gen c (aI c mv) r (p.map (·.1)++[(t:Int)]) (p++[((t:Int),(d:Int))]))) {o:List (List ap)} (ho:o.length≤100000):
 gd k c p self (o,(t:Int)) k (o,0)=some (o++(Aj c (aI c mv) (p.map (·.1)) t c.2.1.length).flatMap fun s=>gen c (aI c mv) r (p.map (·.1)++[s.1]) (p++[s])):=by
 have hdl:=hc.dl
 have hB:12 ^ r≤1728:=by
  have:=Nat.pow_le_pow_right (n:=12) (by decide) hr;exact this
 have key:W (gd k c p self (o,(t:Int)) k (o,0)) fun x=>x=o++(Aj c (aI c mv) (p.map (·.1)) t c.2.1.length).flatMap fun s=>gen c (aI c mv) r (p.map (·.1)++[s.1]) (p++[s]):=by
  refine W.loop (f:=gd k c p self (o,(t:Int))) (fun m y=>∃j:Nat,y.2=(j:Int)∧j≤c.2.1.length∧m=c.2.1.length - j∧y.1=o++(Aj c (aI c mv) (p.map (·.1)) t j).flatMap fun s=>gen c (aI c mv) r (p.map (·.1)++[s.1]) (p++[s])) ?_ c.2.1.length k (o,0) (by omega) ⟨0,rfl,by omega,by omega,by simp [Aj]⟩;rintro aH m ⟨x,y⟩ ⟨j,hj,hle,hm,hx⟩ ih;simp only at hj hx;subst hj hx;unfold gd;dsimp only
  refine W.ite (fun hlt=>?_) (fun hge=>W.ret (by
   have:j=c.2.1.length:=by omega
   rw [this]))
  have hfl:=kP (l:=Aj c (aI c mv) (p.map (·.1)) t j) (f:=fun s=>gen c (aI c mv) r (p.map (·.1)++[s.1]) (p++[s])) (b:=1728) fun s _=>Nat.le_trans (tD ht hdl.2) hB;have hsl:=zg (c:=c) (ts:=aI c mv) (done:=p.map (·.1)) (t:=t) (m:=j);have hgl:=tD (c:=c) (ts:=aI c mv) ht hdl.2 (r:=r) (done:=p.map (·.1)++[(t:Int)]) (p:=p++[((t:Int),(j:Int))]);have hck:ck ((j:Int)+1)=some ((j:Int)+1):=bK (by omega) (by omega);rw [GW hk hc hF ht (by omega),bs];by_cases h0:dC c (aI c mv) (p.map (·.1)) ((t:Int),(j:Int))=0
  ·rw [if_pos h0,cO (bH (by simp only [List.length_nil];omega)),bs,cO (bH (by simp only [List.nil_append,List.length_cons,List.length_nil];omega)),bs,List.nil_append,hself j (by omega),bs,cO (by unfold cx;rw [List.length_append];omega),bs,bs,hck,bs];refine ih (m - 1) (_,(j:Int)+1) (by omega) ⟨j+1,rfl,by omega,by omega,?_⟩;simp only;rw [Az,if_pos h0,List.flatMap_append,←List.append_assoc];simp
  ·rw [if_neg h0,bs,hck,bs];refine ih (m - 1) (_,(j:Int)+1) (by omega) ⟨j+1,rfl,by omega,by omega,?_⟩;simp only;rw [Az,if_neg h0,List.append_nil]
 obtain⟨x,e,rfl⟩:=key
 exact e
theorem E8(hk:50≤k)(hc:VC n c)(hF:xH c mv)(ht:(aI c mv).length≤4):∀(r m:Nat) {p:List ap},p.length+r=(aI c mv).length→r < m→ig k m c p=some (gen c (aI c mv) r (p.map (·.1)) p):=by
 have hdl:=hc.dl;intro r
 induction r with
 |zero=>
  intro m p hp hm;obtain⟨m,rfl⟩:∃m',m=m'+1:=⟨m - 1,by omega⟩;rw [ig,kG hk hc hF,bs,List.length_map,if_pos (by omega),gen]
 |succ r ih=>
  intro m p hp hm;obtain⟨m,rfl⟩:∃m',m=m'+1:=⟨m - 1,by omega⟩;rw [ig,kG hk hc hF,bs,List.length_map,if_neg (by omega),gen,Es];have hB:12 ^ r≤1728:=Nat.pow_le_pow_right (n:=12) (by decide) (show r≤3 by omega)
  have key:W (iM k c p (ig k m) ((aI c mv).map fun x=>(x.2,x.1)) k ([],0)) fun x=>x=((List.range (aI c mv).length).flatMap fun t=>Aj c (aI c mv) (p.map (·.1)) t c.2.1.length).flatMap fun s=>gen c (aI c mv) r (p.map (·.1)++[s.1]) (p++[s]):=by
   refine W.loop (f:=iM k c p (ig k m) ((aI c mv).map fun x=>(x.2,x.1))) (fun m y=>∃t:Nat,y.2=(t:Int)∧t≤(aI c mv).length∧m=(aI c mv).length - t∧y.1=((List.range t).flatMap fun t=>Aj c (aI c mv) (p.map (·.1)) t c.2.1.length).flatMap fun s=>gen c (aI c mv) r (p.map (·.1)++[s.1]) (p++[s])) ?_ (aI c mv).length k ([],0) (by omega) ⟨0,rfl,by omega,by omega,by simp⟩;rintro aH mm ⟨x,y⟩ ⟨t,hj,hle,hmm,hx⟩ ih2;simp only at hj hx;subst hj hx;unfold iM;dsimp only;rw [List.length_map]
   refine W.ite (fun hlt=>?_) (fun hge=>W.ret (by
    have:t=(aI c mv).length:=by omega
    rw [this]))
   have h1:=kP (l:=(List.range t).flatMap fun t=>Aj c (aI c mv) (p.map (·.1)) t c.2.1.length) (f:=fun s=>gen c (aI c mv) r (p.map (·.1)++[s.1]) (p++[s])) (b:=1728) fun s _=>Nat.le_trans (tD ht hdl.2) hB;have h2:=kP (l:=List.range t) (f:=fun t=>Aj c (aI c mv) (p.map (·.1)) t c.2.1.length) (b:=3) fun t _=>Nat.le_trans zg hdl.2;rw [List.length_range] at h2
   rw [CU hk hc hF ht (r:=r) (by omega) (by omega) (fun d hd=>by
    have:=ih m (p:=p++[((t:Int),(d:Int))]) (by rw [List.length_append];simp only [List.length_cons,List.length_nil];omega) (by omega);rw [this,List.map_append];rfl) (by omega),bs,bK (by omega) (by omega),bs]
   refine ih2 (mm - 1) (_,(t:Int)+1) (by omega) ⟨t+1,rfl,by omega,by omega,?_⟩;simp only;rw [List.range_succ,List.flatMap_append,List.flatMap_append];simp
  obtain⟨x,e,rfl⟩:=key;rw [e,bs]
theorem Fb(hk:50≤k)(hc:VC n c)(hF:xH c mv)(ht:(aI c mv).length≤4):ou k c=some (jy c (aI c mv)):=by
 unfold ou jy;rw [E8 hk hc hF ht (aI c mv).length k (p:=[]) (by simp) (by omega),bs];rfl
theorem A9{f:List ap→Int}:∀{l m:List (List ap)} {b:Bool×Int×List ap},kf f b (l++m)=kf f (kf f b l) m
 |[],m,b=>rfl
 |p::l,m,b=>by rw [List.cons_append,kf,kf,A9]
theorem vC(hk:30000≤k)(hc:VC n c)(hF:xH c mv)(ht:(aI c mv).length≤4):fK k c=some ((bB c (aI c mv)).2.2,(bB c (aI c mv)).2.1,(bB c (aI c mv)).1):=by
 have hk5:50≤k:=by omega
 have hl:(jy c (aI c mv)).length≤20736:=Nat.le_trans (tD ht hc.dl.2) (Nat.pow_le_pow_right (n:=12) (by decide) ht);have hm:∀p∈jy c (aI c mv),m9 k c p=some (gX c (aI c mv) p):=fun p hp=>G4 hk5 hc hF ht (pm.1 hp);unfold fK bB;rw [Fb hk5 hc hF ht,bs];generalize jy c (aI c mv)=L at *;cases L with
 |nil=>rw [if_pos (by simp)];rfl
 |cons p0 l=>
  rw [if_neg (by simp only [List.length_cons];omega),show aL (p0::l) 0=some p0 from rfl,bs,hm p0 (by simp),bs]
  have e0:kf (gX c (aI c mv)) (false,0,[]) (p0::l)=kf (gX c (aI c mv)) (true,gX c (aI c mv) p0,p0) (p0::l):=by
   rw [kf,kf,if_pos (.inl rfl),if_neg (by simp)]
  rw [e0]
  have key:W (gR k c (p0::l) k (0,gX c (aI c mv) p0,0)) fun r=>∃pl,aL (p0::l) r.1=some pl∧kf (gX c (aI c mv)) (true,gX c (aI c mv) p0,p0) (p0::l)=(true,r.2,pl):=by
   refine W.loop (f:=gR k c (p0::l)) (fun m y=>∃j:Nat,y.2.2=(j:Int)∧j≤(p0::l).length∧m=(p0::l).length - j∧∃pl,aL (p0::l) y.1=some pl∧kf (gX c (aI c mv)) (true,gX c (aI c mv) p0,p0) ((p0::l).take j)=(true,y.2.1,pl)) ?_ (p0::l).length k (0,gX c (aI c mv) p0,0) (by omega)
    ⟨0,rfl,by omega,by omega,p0,rfl,rfl⟩
   rintro aH m ⟨b,v,y⟩ ⟨j,hj,hle,hmm,pl,h1,h2⟩ ih;simp only at hj h1 h2;subst hj;unfold gR;dsimp only
   refine W.ite (fun hlt=>?_) (fun hge=>W.ret ⟨pl,h1,by
    have:j=(p0::l).length:=by omega
    rw [this,List.take_length] at h2;exact h2⟩)
   have hlt':j < (p0::l).length:=by omega
   have hck:ck ((j:Int)+1)=some ((j:Int)+1):=bK (by omega) (by omega)
   have hs:kf (gX c (aI c mv)) (true,gX c (aI c mv) p0,p0) ((p0::l).take (j+1))=if gX c (aI c mv) (p0::l)[j] < v then(true,gX c (aI c mv) (p0::l)[j],(p0::l)[j]) else(true,v,pl):=by
    rw [List.take_add_one,List.getElem?_eq_getElem hlt',A9,h2];simp only [Option.toList_some,kf,Bool.true_eq_false,false_or]
   rw [aY hlt',bs,hm _ (List.getElem_mem hlt'),bs];by_cases hv:gX c (aI c mv) (p0::l)[j] < v
   ·rw [if_pos hv,bs,hck,bs];exact ih (m - 1) (_,_,(j:Int)+1) (by omega) ⟨j+1,rfl,by omega,by omega,_,aY hlt',by rw [hs,if_pos hv]⟩
   ·rw [if_neg hv,bs,hck,bs];exact ih (m - 1) (_,_,(j:Int)+1) (by omega) ⟨j+1,rfl,by omega,by omega,pl,h1,by rw [hs,if_neg hv]⟩
  obtain⟨r,e,pl,h1,h2⟩:=key;rw [e,bs,h1,bs,h2]
end
theorem xh{k:Nat}(hk:50≤k){c:ae}(h1:c.1.length≤20)(h2:c.2.1.length≤20)(h3:∀t∈c.1,t.1.length≤20)(h4:∀d∈c.2.1,d.1.length≤20)(h5:c.2.2.1.length≤20)(h6:c.2.2.2.length≤20):fk k c=some c:=by
 have k1:W (dQ k c k ([],0)) fun r=>r=c.1:=by
  refine W.loop (f:=dQ k c) (fun m y=>∃j:Nat,y.2=(j:Int)∧j≤c.1.length∧m=c.1.length - j∧y.1=c.1.take j) ?_ c.1.length k _ (by omega) ⟨0,rfl,by omega,by omega,by simp⟩;rintro aH m ⟨o,y⟩ ⟨j,hj,hle,hq,ho⟩ ih;simp only at hj ho;subst hj ho;unfold dQ;dsimp only
  refine W.ite (fun hlt=>?_) (fun hge=>W.ret (by have:j=c.1.length:=by omega
                                                 subst this;rw [List.take_length]))
  have hlt':j < c.1.length:=by omega
  refine W.bindE (aY hlt') (W.bindE (gx (by have:=h3 _ (List.getElem_mem hlt');omega)) (W.chk (bH (by simp only [List.length_take,List.length_cons,List.length_nil];omega)) (W.ck (by omega) (by omega) (ih (m - 1) (_,(j:Int)+1) (by omega) ⟨j+1,?_,by omega,by omega,?_⟩))))
  ·show(j:Int)+1=((j+1:Nat):Int);omega
  ·show c.1.take j++[_]=_;rw [List.take_add_one,List.getElem?_eq_getElem hlt'];rfl
 have k2:W (dP k c k ([],0)) fun r=>r=c.2.1:=by
  refine W.loop (f:=dP k c) (fun m y=>∃j:Nat,y.2=(j:Int)∧j≤c.2.1.length∧m=c.2.1.length - j∧y.1=c.2.1.take j) ?_ c.2.1.length k _ (by omega) ⟨0,rfl,by omega,by omega,by simp⟩;rintro aH m ⟨o,y⟩ ⟨j,hj,hle,hq,ho⟩ ih;simp only at hj ho;subst hj ho;unfold dP;dsimp only
  refine W.ite (fun hlt=>?_) (fun hge=>W.ret (by have:j=c.2.1.length:=by omega
                                                 subst this;rw [List.take_length]))
  have hlt':j < c.2.1.length:=by omega
  refine W.bindE (aY hlt') (W.bindE (gx (by have:=h4 _ (List.getElem_mem hlt');omega)) (W.chk (bH (by simp only [List.length_take,List.length_cons,List.length_nil];omega)) (W.ck (by omega) (by omega) (ih (m - 1) (_,(j:Int)+1) (by omega) ⟨j+1,?_,by omega,by omega,?_⟩))))
  ·show(j:Int)+1=((j+1:Nat):Int);omega
  ·show c.2.1.take j++[_]=_;rw [List.take_add_one,List.getElem?_eq_getElem hlt'];rfl
 obtain⟨x1,e1,rfl⟩:=k1;obtain⟨x2,e2,rfl⟩:=k2;unfold fk;rw [gx (by omega),gx (by omega),e1,e2];rfl
theorem wV{ε:Type}{f:Nat→Int→Option (Except ε Unit)}{N k:Nat}(hk:N < k)(step:∀n (j:Nat),j < N→f (n+1) (j:Int)=f n ((j:Int)+1))(stop:∀n,f (n+1) (N:Int)=some (.ok ())):f k 0=some (.ok ()):=by
 have key:∀(m j n:Nat),N - j=m→j≤N→m < n→f n (j:Int)=some (.ok ()):=by
  intro m
  induction m with
  |zero=>
   intro j n h1 h2 h3;obtain⟨n,rfl⟩:∃n',n=n'+1:=⟨n - 1,by omega⟩;have:j=N:=by omega
   subst this;exact stop n
  |succ m ih=>
   intro j n h1 h2 h3;obtain⟨n,rfl⟩:∃n',n=n'+1:=⟨n - 1,by omega⟩;rw [step n j (by omega)];exact ih (j+1) n (by omega) (by omega) (by omega)
 exact key N 0 k rfl (Nat.zero_le _) hk
theorem uk{k:Nat}(hk:50≤k){c:ae}(hs:iZ c):iU k c c=some true:=by
 have h1:=hs.things;have h2:=hs.dressers;have h3:=hs.wears;have h4:=hs.wants
 have k1:dO k c c k 0=some (.ok ()):=wV (N:=c.1.length) (by omega) (fun n j hj=>by
  have:=hs.over _ (List.getElem_mem hj);have hck:ck ((j:Int)+1)=some ((j:Int)+1):=bK (by omega) (by omega);simp only [dO,Int.ofNat_lt,hj,if_true,aY hj,bs,j7 (show(c.1[j]).1.length < k by omega) (show(c.1[j]).1.length≤1000000 by omega),not_true_eq_false,if_false,hck,decide_true,Bool.not_true,Bool.false_eq_true]) (fun n=>by simp [dO])
 have k2:dN k c c k 0=some (.ok ()):=wV (N:=c.2.1.length) (by omega) (fun n j hj=>by
  have:=hs.can _ (List.getElem_mem hj);have hck:ck ((j:Int)+1)=some ((j:Int)+1):=bK (by omega) (by omega);simp only [dN,Int.ofNat_lt,hj,if_true,aY hj,bs,j7 (show(c.2.1[j]).1.length < k by omega) (show(c.2.1[j]).1.length≤1000000 by omega),not_true_eq_false,if_false,hck,decide_true,Bool.not_true,Bool.false_eq_true]) (fun n=>by simp [dN])
 unfold iU;simp only [j7 (show c.2.2.1.length < k by omega) (show c.2.2.1.length≤1000000 by omega),j7 (show c.2.2.2.length < k by omega) (show c.2.2.2.length≤1000000 by omega),bs,not_true_eq_false,if_false,decide_true,Bool.not_true,Bool.false_eq_true,k1,k2,lU]
theorem xg{k:Nat}(hk:50≤k){c:ae}(hs:iZ c):fP k c=some c:=yh hk hs.things hs.dressers hs.over hs.can hs.wears hs.wants
theorem vi{k:Nat}(hk:50≤k){c:ae}(hs:iZ c):fk k c=some c:=xh hk hs.things hs.dressers hs.over hs.can hs.wears hs.wants
theorem u0{n:Int}{c:ae}(hc:VC n c):iZ c:=by
 obtain⟨w1,w2,w3,w4,w5⟩:=hc.wl;have:=hc.dl;exact⟨by omega,by omega,by omega,by omega,fun t h=>by have:=w4 t h;omega,fun d h=>by have:=w5 d h;omega⟩
theorem yE{α:Type}{l:List α}{g:α→Nat}{f:Nat→Int→Option (Except Bool Unit)}{k:Nat}(hk:l.length < k)(step:∀n (j:Nat) (h:j < l.length),f (n+1) (j:Int)=if 20 < g l[j] then some (.error true) else f n ((j:Int)+1))(stop:∀n,f (n+1) (l.length:Int)=some (.ok ())):
 W (f k 0) fun r=>r= .error true∨(r= .ok ()∧∀x∈l,g x≤20):=by
 have key:∀(m j n:Nat),l.length - j=m→j≤l.length→m < n→W (f n (j:Int)) fun r=>r= .error true∨(r= .ok ()∧∀x∈l.drop j,g x≤20):=by
  intro m
  induction m with
  |zero=>
   intro j n h1 h2 h3;obtain⟨n,rfl⟩:∃n',n=n'+1:=⟨n - 1,by omega⟩;have:j=l.length:=by omega
   subst this;exact⟨_,stop n,.inr ⟨rfl,by simp⟩⟩
  |succ m ih=>
   intro j n h1 h2 h3;obtain⟨n,rfl⟩:∃n',n=n'+1:=⟨n - 1,by omega⟩;have hj:j < l.length:=by omega
   rw [step n j hj];by_cases hg:20 < g l[j]
   ·rw [if_pos hg];exact⟨_,rfl,.inl rfl⟩
   ·rw [if_neg hg];obtain⟨r,e,h⟩:=ih (j+1) n (by omega) (by omega) (by omega);refine⟨r,e,h.imp id fun⟨h1,h2⟩=>⟨h1,fun x hx=>?_⟩⟩;rw [List.drop_eq_getElem_cons hj,List.mem_cons] at hx;rcases hx with rfl |hx
    ·omega
    ·exact h2 x hx
 exact key l.length 0 k rfl (Nat.zero_le _) hk
theorem Kz{k:Nat}(hk:50≤k){c:ae}:W (qq k c) fun r=>r=false→iZ c:=by
 unfold qq;by_cases h1:(20:Int) < (c.1.length:Int)
 ·rw [if_pos h1,bs,if_pos rfl];exact⟨_,rfl,fun h=>(nomatch h)⟩
 by_cases h2:(20:Int) < (c.2.1.length:Int)
 ·rw [if_neg h1,if_pos h2,bs,if_pos rfl];exact⟨_,rfl,fun h=>(nomatch h)⟩
 by_cases h3:(20:Int) < (c.2.2.1.length:Int)
 ·rw [if_neg h1,if_neg h2,if_pos h3,bs,if_pos rfl];exact⟨_,rfl,fun h=>(nomatch h)⟩
 by_cases h4:(20:Int) < (c.2.2.2.length:Int)
 ·rw [if_neg h1,if_neg h2,if_neg h3,bs,if_pos (decide_eq_true h4)];exact⟨_,rfl,fun h=>(nomatch h)⟩
 rw [if_neg h1,if_neg h2,if_neg h3,bs,if_neg (by simpa using h4)]
 obtain⟨r1,e1,g1⟩:=yE (l:=c.1) (g:=fun t=>t.1.length) (f:=jC k c) (k:=k) (by omega) (fun n j h=>by
  have hck:ck ((j:Int)+1)=some ((j:Int)+1):=bK (by omega) (by omega);simp only [jC,Int.ofNat_lt,h,if_true,aY h,bs,hck];by_cases hx:20 < (c.1[j]).1.length
  ·rw [if_pos (by omega),if_pos hx]
  ·rw [if_neg (by omega),if_neg hx]) (fun n=>by simp [jC])
 obtain⟨r2,e2,g2⟩:=yE (l:=c.2.1) (g:=fun t=>t.1.length) (f:=jB k c) (k:=k) (by omega) (fun n j h=>by
  have hck:ck ((j:Int)+1)=some ((j:Int)+1):=bK (by omega) (by omega);simp only [jB,Int.ofNat_lt,h,if_true,aY h,bs,hck];by_cases hx:20 < (c.2.1[j]).1.length
  ·rw [if_pos (by omega),if_pos hx]
  ·rw [if_neg (by omega),if_neg hx]) (fun n=>by simp [jB])
 rw [e1,e2];rcases g1 with rfl |⟨rfl,g1⟩
 ·rw [pH];exact⟨_,rfl,fun h=>(nomatch h)⟩
 rcases g2 with rfl |⟨rfl,g2⟩
 ·rw [lU,pH];exact⟨_,rfl,fun h=>(nomatch h)⟩
 rw [lU,lU];exact⟨_,rfl,fun _=>⟨by omega,by omega,by omega,by omega,g1,g2⟩⟩
theorem GU{k:Nat}(hk:50≤k){c:ae}(hs:iZ c){l:cr}{m:Int}(hl:Lo l m)(hm:0≤m∧m≤1000):W (oG k c l) fun r=>Lo r.2 (m+310)∧r.1.length=4∧(∀x∈r.1,iZ x)∧r.1[0]? =some c∧∃c1,r.1[1]? =some c1∧∃n mv q,VC n c1∧bM k c1=some (some q,0)∧QV n c1 mv q:=by
 obtain⟨r2,e2,hlo,_,n,mv,q,hc,hbg,hq⟩:=Ky hk hl hm;have hs2:=u0 hc;have hn:=hc.n4;have hl2:=hc.len;have hd2:=hc.dl;obtain⟨r9,e9,_,_,h9⟩:=nI (k:=k) (n:=2) hlo (by omega) (by decide);unfold oG;rw [e2,bs,xg hk hs2,bs]
 have fin:∀(x:(List bp)×(List ax)×(List Int)×(List Int)×Int×Int),Lo (x.2.2.2.1,x.2.2.2.2.1,x.2.2.2.2.2) (m+310)→iZ (x.1,x.2.1,r2.1.2.2.1,x.2.2.1)→
  W ((some x).bind fun x7=>some ([c,r2.1,(x7.1,x7.2.1,r2.1.2.2.1,x7.2.2.1),r2.1],(x7.2.2.2.1,x7.2.2.2.2.1,x7.2.2.2.2.2))) fun r=>Lo r.2 (m+310)∧r.1.length=4∧(∀x∈r.1,iZ x)∧r.1[0]? =some c∧∃c1,r.1[1]? =some c1∧∃n mv q,VC n c1∧bM k c1=some (some q,0)∧QV n c1 mv q:=fun x h1 h2=>by
  refine W.ret ⟨h1,rfl,fun y hy=>?_,rfl,_,rfl,n,mv,q,hc,hbg,hq⟩
  simp only [List.mem_cons,List.not_mem_nil,or_false] at hy
  rcases hy with rfl |rfl |rfl |rfl
  ·
   exact hs
  ·
   exact hs2
  ·
   exact h2
  ·
   exact hs2
 rw [show cy k (r2.2.1,r2.2.2.1,r2.2.2.2) 2=some r9 from e9,bs];by_cases c0:r9.1=0
 ·rw [if_pos c0,gx (by have:=hs.wants;omega),bs];exact fin _ (h9.mono (by omega)) ⟨hs2.things,hs2.dressers,hs2.wears,hs.wants,hs2.over,hs2.can⟩
 rw [if_neg c0];by_cases c1:r9.1=1
 ·rw [if_pos c1];by_cases hp:(0:Int) < (c.1.length:Int)
  ·rw [if_pos hp,bK (by omega) (by omega),bs];obtain⟨r14,e14,a14,b14,h14⟩:=nI (k:=k) (n:=(r2.1.1.length:Int) - 1) h9 (by omega) (by omega);rw [show cy k (r9.2.1,r9.2.2.1,r9.2.2.2) _=some r14 from e14,bs,vi hk hs,bs];have b14:=b14 (by omega);have hg0:0 < c.1.length:=by omega
   rw [show aL c.1 0=some c.1[0] from aY (i:=0) hg0,bs,pq a14 (by omega),bs];refine fin _ (h14.mono (by omega)) ⟨by simpa using hs2.things,hs2.dressers,hs2.wears,hs2.wants,fun t ht=>?_,hs2.can⟩;rcases List.mem_or_eq_of_mem_set ht with h |rfl
   ·exact hs2.over t h
   ·exact hs.over _ (List.getElem_mem hg0)
  ·rw [if_neg hp];exact fin _ (h9.mono (by omega)) hs2
 rw [if_neg c1];by_cases c2:r9.1=2
 ·rw [if_pos c2];by_cases hp:(0:Int) < (c.2.1.length:Int)
  ·rw [if_pos hp,bK (by omega) (by omega),bs];obtain⟨r14,e14,a14,b14,h14⟩:=nI (k:=k) (n:=(r2.1.2.1.length:Int) - 1) h9 (by omega) (by omega);rw [show cy k (r9.2.1,r9.2.2.1,r9.2.2.2) _=some r14 from e14,bs,vi hk hs,bs];have b14:=b14 (by omega);have hg0:0 < c.2.1.length:=by omega
   rw [show aL c.2.1 0=some c.2.1[0] from aY (i:=0) hg0,bs,pq a14 (by omega),bs];refine fin _ (h14.mono (by omega)) ⟨hs2.things,by simpa using hs2.dressers,hs2.wears,hs2.wants,hs2.over,fun t ht=>?_⟩;rcases List.mem_or_eq_of_mem_set ht with h |rfl
   ·exact hs2.can t h
   ·exact hs.can _ (List.getElem_mem hg0)
  ·rw [if_neg hp];exact fin _ (h9.mono (by omega)) hs2
 ·rw [if_neg c2];exact fin _ (h9.mono (by omega)) hs2
theorem EB(p:Prop):∃b:Bool,b=true↔p:=by
 by_cases h:p
 ·exact⟨true,by simp [h]⟩
 ·exact⟨false,by simp [h]⟩
theorem JG{k:Nat}(hk:50≤k){c:ae}(hs:iZ c){l:cr}{m:Int}(hl:Lo l m)(hm:0≤m∧m≤1000):W (oG k c l) fun r=>Lo r.2 (m+310)∧r.1.length=4∧∀x∈r.1,iZ x:=(GU hk hs hl hm).mono fun _ h=>⟨h.1,h.2.1,h.2.2.1⟩
theorem uW{k:Nat}(hk:50≤k){c:ae}(hs:iZ c):(∃e:Int,e≠0∧bM k c=some (none,e)∧jd k c=some e)∨∃n mv q,QV n c mv q∧bM k c=some (some q,0)∧jd k c=some 0:=by
 obtain⟨b,hb⟩:=EB (∃i,lF c i i);by_cases h:sD c b=0
 ·have hc:=ug hs hb h;obtain⟨mv,hF⟩:=hc.fix;have ha:=u9 hk hs hb (fun _=>hF);rw [if_neg (by simp [h])] at ha;by_cases h4:4 < (aI c mv).length
  ·rw [if_pos h4] at ha;exact .inl ⟨6,by decide,(qK hk hc hF).1 h4,ha⟩
  ·rw [if_neg h4] at ha;obtain⟨q,hbg,hq⟩:=(qK hk hc hF).2 (by omega);exact .inr ⟨_,mv,q,hq,hbg,ha⟩
 ·have ha:=u9 hk hs hb (mv:=[]) (fun h'=>absurd h' h);rw [if_pos h] at ha;refine .inl ⟨_,h,?_,ha⟩;unfold bM;rw [qJ hk hs hb,bs,if_pos h]
theorem OY{c:ae}{ds:List ax}{i j:Nat}:lF (wD c ds) i j↔lF c i j:=by
 constructor
 ·intro h
  induction h with
  |one h=>exact .one h
  |cons h _ ih=>exact .cons h ih
 ·intro h
  induction h with
  |one h=>exact .one h
  |cons h _ ih=>exact .cons h ih
theorem KF{n:Int}{i:Nat}{d:ax}(h:kl n d):Ci n i d=0:=by
 have h1:jW n (-1) none d.1=0:=oC.2 ⟨fun x hx=>by have:=h.can.2 x hx;exact⟨this.1,this.2,by omega⟩,h.can.1,fun p hp=>nomatch hp⟩;have h2:=h.side;have h3:=h.start;unfold Ci;rw [if_neg (by simp [h1]),if_neg (by simp [h2]),if_neg (by simp [h3])]
theorem L9{m:Nat}(h:1≤m∧m≤3):xN m 3=0:=by
 unfold xN;rw [if_neg (by omega),if_neg (by omega)]
theorem IB{c:ae}{ds:List ax}{b:Bool}(hd:∀x∈ds,kl (c.1.length:Int) x)(hl:1≤ds.length∧ds.length≤3)(h:sD c b=0):sD (wD c ds) b=0:=by
 have k4:kh (Ci (c.1.length:Int)) 0 ds=0:=oJ.2 fun i x hx=>KF (hd x (List.mem_of_getElem? hx));have k3:=L9 hl;unfold sD at h⊢;by_cases z1:xN c.1.length 4=0
 ·rw [if_neg (by simp [z1])] at h⊢;by_cases z2:kh (CG (c.1.length:Int)) 0 c.1=0
  ·rw [if_neg (by simp [z2])] at h⊢;cases b with
   |true=>rw [if_pos rfl] at h;cases h
   |false=>
    rw [if_neg (by decide)] at h⊢;rw [if_neg (by simp [k3]),if_neg (by simp [k4])];by_cases z3:xN c.2.1.length 3=0
    ·rw [if_neg (by simp [z3])] at h;by_cases z4:kh (Ci (c.1.length:Int)) 0 c.2.1=0
     ·rw [if_neg (by simp [z4])] at h;exact h
     ·rw [if_pos z4] at h;exact absurd h z4
    ·rw [if_pos z3] at h;exact absurd h z3
  ·rw [if_pos z2] at h;exact absurd h z2
 ·rw [if_pos z1] at h;exact absurd h z1
theorem OP{n:Int}{c:ae}{ds:List ax}(hc:VC n c)(hd:∀x∈ds,kl n x)(hl:1≤ds.length∧ds.length≤3):VC n (wD c ds):=by
 have hs:=u0 hc;obtain⟨b,hb⟩:=EB (∃i,lF c i i)
 have h0:sD c b=0:=by
  have e:=hc.chk 50 (by decide);rw [qJ (by decide) hs hb] at e;exact Option.some.inj e
 have hn:=hc.n4;have hl':n=(c.1.length:Int):=by have:=hc.len;omega
 have hs':iZ (wD c ds):=⟨hs.things,by simp only;omega,hs.wears,hs.wants,hs.over,fun d h=>by
  have:=(hd d h).can.len (by omega);omega⟩
 rw [hl'] at hd⊢;exact ug (c:=wD c ds) hs' (b:=b) (by rw [hb];exact exists_congr fun i=>OY.symm) (IB hd hl h0)
theorem Nl{k:Nat}(hk:50≤k){n:Int}{c:ae}{mv:List Bool}{q:cS}{ds:List ax}(hq:QV n c mv q)(hd:∀x∈ds,kl n x)(hl:1≤ds.length∧ds.length≤3):
 ∃q',bM k (wD c ds)=some (some q',0)∧QV n (wD c ds) mv q':=
 (qK hk (OP hq.vc hd hl) (tH hq.fix)).2 hq.t4
end Go.Proofs.YtopgphikdglphaaGreat
set_option linter.unusedVariables false
set_option maxRecDepth 4000
set_option maxHeartbeats 1000000
namespace Go.Proofs.YtopgphikdglphaaGreat
open K Go Go.Proofs
def cY(k:Nat)(a1:Int)(r6:(List ae)×cr)(y9:Int)(r14:ae):Nat→Int→Option (Except Bool Unit)
 |0,_=>none
 |n+1,y25=>
  if y25≤(3:Int) then(((if y25 < (0:Int) then(some a1) else(some y25)):Option (Int)).bind fun x27=>
  (jP k (r14.1,r14.2.1,r14.2.2.1,r14.2.2.2) x27).bind fun r29=>
  (aL r6.1 y9).bind fun x30=>
  (lL k x30 x27).bind fun r31=>
  ((if¬(r29.1=r31.1) then(some true) else(some (!decide (r29.2=r31.2)))):Option (Bool)).bind fun x32=>
  if x32=true then(some (.error false)) else((ck (y25+(1:Int))).bind fun x34=>
  cY k a1 r6 y9 r14 n x34)) else(some (.ok ()))
def dz(k:Nat)(a1:Int)(r6:(List ae)×cr):Nat→Int→Option (Except Bool Unit)
 |0,_=>none
 |n+1,y9=>
  if y9 < (3:Int) then(bE (α:=Unit) ((aL r6.1 y9).bind fun x13=>
  (fP k x13).bind fun r14=>
  (iS k (r14.1,r14.2.1,r14.2.2.1,r14.2.2.2)).bind fun r17=>
  (aL r6.1 y9).bind fun x18=>
  (jH k x18).bind fun r19=>
  ((if¬(r17.2=r19.2) then(some true) else((dG k r17.1 r19.1).bind fun r22=>
  some (!r22))):Option (Bool)).bind fun x20=>
  if x20=true then(some (.error false)) else(bE (α:=Unit) (cY k a1 r6 y9 r14 k (-1:Int)) (fun e=>some (.error e)) fun _=>
  (kQ k (r14.1,r14.2.1,r14.2.2.1,r14.2.2.2)).bind fun r35=>
  (aL r6.1 y9).bind fun x36=>
  (lM k x36).bind fun r37=>
  ((if¬(r35.1=r37.1) then(some true) else(if¬(r35.2.1=r37.2.1) then(some true) else(if¬(r35.2.2.1=r37.2.2.1) then(some true) else(if¬(r35.2.2.2=r37.2.2.2) then(some true) else((aL r6.1 y9).bind fun x40=>
  (iU k (r14.1,r14.2.1,r14.2.2.1,r14.2.2.2) x40).bind fun r41=>
  some (!r41)))))):Option (Bool)).bind fun x38=>
  if x38=true then(some (.error false)) else(some (.ok ())))) (fun e=>some (.error e)) fun _=>
  (ck (y9+(1:Int))).bind fun x42=>
  dz k a1 r6 n x42) else(some (.ok ()))
def jJ(k:Nat)(a0:ae)(a1:Int)(a2:(List Int)):Option Bool:=
 (qq k a0).bind fun r2=>
 if r2=true then((kL k).bind fun r3=>
 some r3) else((nN k a2).bind fun r4=>
 (oG k a0 (r4.1,r4.2.1,r4.2.2)).bind fun r6=>
 bE (α:=Unit) (dz k a1 r6 k (0:Int)) (some) fun _=>
 (kL k).bind fun r43=>
 some r43)
theorem rH(k:Nat)(a0:ae)(a1:Int)(a2:(List Int))(r:Bool)(h:jJ k a0 a1 a2=some r):
 kE (BV Tryz.prog) 3 [.rep ag a0,I a1,Ri a2] [] (fun _:Unit=>(bG [.eq (.bool r)],[])):=by
 unfold jJ at h
 replace h:=bi h
 refine kE.of 142 Tryz.func3 rfl Tryz.ntmps3 rfl fun S w0=>?_
 refine sr ?_
 refine bx fun b1=>?_
 refine cq ?_
 refine nt ?_
 refine aj ?_
 refine sr ?_
 refine lo bL ?_
 obtain⟨r2,er2,h⟩:=aa h
 have cr2:=Bd k a0 r2 er2
 refine ja (ak [.tmp 28] rfl rfl Qx rfl cr2) ?_
 refine nt ?_
 refine cv h (fun h=>?_) (fun h=>?_)
 ·
  refine sr ?_;obtain⟨r3,er3,h⟩:=aa h;refine dx rfl (ak [] rfl rfl Qm rfl (qs k r3 er3)) trivial ?_;refine aq (nt (rx ?_));cases h;exact ra
 ·
  refine sk (aj (i8 ?_));refine fy 0 rfl rfl rfl rfl (ai rfl bL (sn) rfl) ⟨rfl,trivial⟩ ?_;refine aP rfl rfl rfl (bg rfl) ⟨rfl,trivial⟩ ?_;obtain⟨r4,er4,h⟩:=aa h;refine kx (vr 64 (.agg (.pair (Ri r4.1) (.pair (I r4.2.1) (.eq (.int .u64 r4.2.2)))))) (fun _=>rfl) rfl rfl rfl (ak [.tmp 32] rfl rfl Qv rfl (wP k a2 r4 er4)) ⟨rfl,trivial⟩ ?_;refine mA 3 [true,true,true] [7,34] [] [] rfl (by kernel_rfl) (by kernel_rfl) (by kernel_rfl) bw (fun vs hv hB=>?_);obtain⟨w0,vs1,rfl,hv1⟩:=ar hv;obtain⟨w1,vs2,rfl,hv2⟩:=ar hv1;obtain⟨w2,vs3,rfl,hv3⟩:=ar hv2;obtain rfl:=kp hv3;obtain⟨b5,rfl⟩:=nW hB.2.2.1;refine⟨[0,1],[.obj b1 26 (.rep ag a0),.obj b5 64 (.agg (.pair (Ri r4.1) (.pair (I r4.2.1) (.eq (.int .u64 r4.2.2)))))],by kernel_rfl,by decide,?_⟩;obtain⟨r6,er6,h⟩:=aa h;refine i7 1 rfl ?_;refine I4 rfl rfl rfl rfl (ak [.tmp 31,.tmp 33] rfl rfl Qw rfl (Bc k a0 (r4.1,r4.2.1,r4.2.2) b5 r6 er6)) ⟨rfl,rfl,trivial⟩ (by kernel_rfl) ?_;refine uZ rfl rfl rfl rfl (il rfl) ⟨rfl,trivial⟩ (by kernel_rfl) ?_;refine sN ?_;refine bC (SE.fin (Γ':=[(1,I a1),(7,Rs ag r6.1)]) (Δ':=[.obj b5 64 (.agg (.pair (Ri r6.2.1) (.pair (I r6.2.2.1) (.eq (.int .u64 r6.2.2.2))))),.obj b1 26 (.rep ag a0)]) [0,1] ⟨rfl,rfl,trivial⟩ rfl) ?_;refine tn (cE (Z:=Unit) (α:=Unit) (fun z8 x7=>[]) (fun z8 x7=>[]) (fun e=>e=r) h (fun e h=>Option.some.inj h) (fun K hR h=>?_) (fun z8 x7 h=>?_))
  ·refine sr (cq (nt (al ?_)));refine aD (Z:=Unit) (α:=Int) (fun z10 y9=>[(1,I a1),(7,Rs ag r6.1),(8,I y9)]) (fun z10 y9=>[]) (dz k a1 r6) k () (0:Int) (fun _=>rfl) h (SE.fin [] ⟨rfl,rfl,rfl,trivial⟩ rfl) (fun n z10 y9 h=>?_);unfold dz at h;refine aj (sr (mq ?_));refine jb (ba rfl) ?_;refine nt (ci h (fun h=>?_) (fun h=>?_))
   ·refine sk (cE (Z:=Unit) (α:=Unit) (fun z12 x11=>[(1,I a1),(7,Rs ag r6.1),(8,I y9)]) (fun z12 x11=>[]) (fun e=>e=r) h (fun e h=>hR e h) (fun K hR h=>?_) (fun z12 x11 h=>?_))
    ·refine al (sr ?_);iterate 2 refine mq ?_
     obtain⟨x13,ex13,h⟩:=aa h;refine jb (aC (t:=ag) rfl Le bL ex13) ?_;refine ja (ao (t:=ag) rfl bL rfl) ?_;obtain⟨r14,er14,h⟩:=aa h;refine be (Δ:=[]) (F:=_) (fun _ _ _=>az rfl _) rfl rfl (ak [.tmp 42] rfl rfl OQ rfl (nO k x13 r14 er14)) ⟨rfl,trivial⟩ fun z15=>?_;refine aA rfl rfl rfl (aF rfl oS rM) trivial fun b16=>?_;refine aK rfl rfl (aE rfl bL trivial rfl rfl) ⟨rfl,rfl,trivial⟩ ?_;refine nt (sr (fr 1 ?_));refine eX (cD (off:=0) [] trivial rfl rfl) ?_;refine fr 1 ?_;refine eX (cD (off:=1) [] trivial rfl rfl) ?_;refine lo bL ?_;obtain⟨r17,er17,h⟩:=aa h;refine ja (gJ (N:=[(.tmp 45,.agg (.pair (Rs aJ r14.1) (.pair (Rs aw r14.2.1) (.pair (Ri r14.2.2.1) (Ri r14.2.2.2)))))]) (D7 [.tmp 45] rfl rfl Qu rfl (vz k (r14.1,r14.2.1,r14.2.2.1,r14.2.2.2) r17 er17)) fun _ _ _ hn=>⟨(fe (t:=ag) (x:=(r14.1,r14.2.1,r14.2.2.1,r14.2.2.2)) (.agg (.pair .rep (.pair .rep (.pair .rep .rep)))) trivial rfl hn.1),trivial⟩) ?_;refine mq ?_;refine xr ?_;refine xr ?_;refine aq ?_;refine aq (nt (sr ?_));iterate 2 refine mq ?_
     obtain⟨x18,ex18,h⟩:=aa h;refine jb (aC (t:=ag) rfl Le bL ex18) ?_;refine ja (ao (t:=ag) rfl bL rfl) ?_;obtain⟨r19,er19,h⟩:=aa h;refine ja (ak [.tmp 53] rfl rfl P9 rfl (vq k x18 r19 er19)) ?_;refine mq ?_;refine xr ?_;refine xr ?_;refine aq ?_;refine aq (nt (aj ?_));refine ay (Z:=Unit) (α:=Bool) (fun z21 x20=>[(1,I a1),(7,Rs ag r6.1),(8,I y9),(9,Pt b16),(65,.eq (.bool x20))]) (fun z21 x20=>[.obj b16 26 (Qc r14)]) h (fun K h=>?_) (fun z21 x20 h=>?_)
     ·refine ah ?_;iterate 2 refine mq ?_
      refine jb (bT rfl) ?_;refine mq ?_;refine aM (s:=60) rfl (fun hb=>?_) (fun hb=>?_)
      ·replace h:=bY (Ef hb) h;iterate 4 refine gn ?_
       refine pt (nl ?_);exact jz ((),true) h [0]
      ·replace h:=bj (tu hb) h;refine gm ?_;refine gm ?_;obtain⟨r22,er22,h⟩:=aa h;refine gb (ak [.tmp 61,.tmp 62] rfl rfl Bw rfl (eF k r17.1 r19.1 r22 er22)) ?_;refine ga (eE rfl) ?_;refine pf (nl ?_);exact jz ((), !r22) h [0]
     ·refine cv h (fun h=>?_) (fun h=>?_)
      ·refine sr (cq (nt (rx (br (aV (aR ?_))))));obtain rfl:=hR _ h;exact ra
      ·refine sk (cE (Z:=Unit) (α:=Unit) (fun z24 x23=>[(1,I a1),(7,Rs ag r6.1),(8,I y9),(9,Pt b16)]) (fun z24 x23=>[.obj b16 26 (Qc r14)]) (fun e=>e=r) h (fun e h=>hR e h) (fun K hR h=>?_) (fun z24 x23 h=>?_))
       ·refine sr (cq (nt (al ?_)));refine aD (Z:=Unit) (α:=Int) (fun z26 y25=>[(1,I a1),(7,Rs ag r6.1),(8,I y9),(9,Pt b16),(14,I y25)]) (fun z26 y25=>[.obj b16 26 (Qc r14)]) (cY k a1 r6 y9 r14) k () (-1:Int) (fun _=>rfl) h (SE.fin [0] ⟨rfl,rfl,rfl,rfl,rfl,trivial⟩ rfl) (fun n z26 y25 h=>?_);unfold cY at h;refine aj (sr (mq ?_));refine jb (qj rfl) ?_;refine nt (ci h (fun h=>?_) (fun h=>?_))
        ·refine sk (aj (al (sr (mq ?_))));refine aq (nt ?_);refine ay (Z:=Unit) (α:=Int) (fun z28 x27=>[(1,I a1),(7,Rs ag r6.1),(8,I y9),(9,Pt b16),(14,I y25),(15,I x27)]) (fun z28 x27=>[.obj b16 26 (Qc r14)]) h (fun K h=>?_) (fun z28 x27 h=>?_)
         ·refine sr (mq ?_);refine jb (ba rfl) ?_;refine nt (ci h (fun h=>?_) (fun h=>?_))
          ·refine ah (mq ?_);refine aq (nl ?_);exact jz ((),a1) h [0]
          ·refine aU (a7 ?_);exact jz ((),y25) h [0]
         ·refine sr (lo bL ?_);refine mq ?_;obtain⟨r29,er29,h⟩:=aa h;refine jb (gJ (N:=[(.tmp 75,.agg (.pair (Rs aJ r14.1) (.pair (Rs aw r14.2.1) (.pair (Ri r14.2.2.1) (Ri r14.2.2.2))))),(.tmp 76,I x27)]) (ak [.tmp 75,.tmp 76] rfl rfl Om rfl (tR k (r14.1,r14.2.1,r14.2.2.1,r14.2.2.2) x27 r29 er29)) fun _ _ _ hn=>⟨(fe (t:=ag) (x:=(r14.1,r14.2.1,r14.2.2.1,r14.2.2.2)) (.agg (.pair .rep (.pair .rep (.pair .rep .rep)))) trivial rfl hn.1),hn.2.1,trivial⟩) ?_;refine mq ?_;refine xr ?_;refine xr ?_;refine aq ?_;refine aq (nt (sr ?_));iterate 2 refine mq ?_
          obtain⟨x30,ex30,h⟩:=aa h;refine jb (aC (t:=ag) rfl Le bL ex30) ?_;refine ja (ao (t:=ag) rfl bL rfl) ?_;refine mq ?_;obtain⟨r31,er31,h⟩:=aa h;refine jb (ak [.tmp 84,.tmp 85] rfl rfl P8 rfl (zn k x30 x27 r31 er31)) ?_;refine mq ?_;refine xr ?_;refine xr ?_;refine aq ?_;refine aq (nt ?_);refine ay (Z:=Unit) (α:=Bool) (fun z33 x32=>[(1,I a1),(7,Rs ag r6.1),(8,I y9),(9,Pt b16),(14,I y25),(96,.eq (.bool x32))]) (fun z33 x32=>[.obj b16 26 (Qc r14)]) h (fun K h=>?_) (fun z33 x32 h=>?_)
          ·refine ah ?_;iterate 2 refine mq ?_
           refine jb (bT rfl) ?_;refine mq ?_;refine aM (s:=92) rfl (fun hb=>?_) (fun hb=>?_)
           ·replace h:=bY (Ef hb) h;iterate 3 refine gn ?_
            refine pt (nl ?_);exact jz ((),true) h [0]
           ·replace h:=bj (tu hb) h;refine gm ?_;refine gm ?_;refine gb (bT rfl) ?_;refine pf (nl ?_);exact jz ((), !decide (r29.2=r31.2)) h [0]
          ·refine cv h (fun h=>?_) (fun h=>?_)
           ·refine sr (cq (nt (aG (br (aV (aR (br (aV (aR ?_)))))))));obtain rfl:=hR _ h;exact ra
           ·refine aU (aO (tn (ah (mq ?_))));obtain⟨x34,ex34,h⟩:=aa h;refine jb (bh rfl ex34) ?_;refine aq (nl ?_);exact jz ((),x34) h [0]
        ·refine xa ?_;exact jz ((),()) h [0]
       ·refine sr (lo bL ?_);obtain⟨r35,er35,h⟩:=aa h;refine ja (gJ (N:=[(.tmp 98,.agg (.pair (Rs aJ r14.1) (.pair (Rs aw r14.2.1) (.pair (Ri r14.2.2.1) (Ri r14.2.2.2)))))]) (ak [.tmp 98] rfl rfl Ol rfl (tU k (r14.1,r14.2.1,r14.2.2.1,r14.2.2.2) r35 er35)) fun _ _ _ hn=>⟨(fe (t:=ag) (x:=(r14.1,r14.2.1,r14.2.2.1,r14.2.2.2)) (.agg (.pair .rep (.pair .rep (.pair .rep .rep)))) trivial rfl hn.1),trivial⟩) ?_;refine mq ?_;refine xr ?_;refine xr ?_;refine xr ?_;refine xr ?_;refine aq ?_;refine aq ?_;refine aq ?_;refine aq (nt (sr ?_));iterate 2 refine mq ?_
        obtain⟨x36,ex36,h⟩:=aa h;refine jb (aC (t:=ag) rfl Le bL ex36) ?_;refine ja (ao (t:=ag) rfl bL rfl) ?_;obtain⟨r37,er37,h⟩:=aa h;refine ja (ak [.tmp 108] rfl rfl P7 rfl (zp k x36 r37 er37)) ?_;refine mq ?_;refine xr ?_;refine xr ?_;refine xr ?_;refine xr ?_;refine aq ?_;refine aq ?_;refine aq ?_;refine aq (nt ?_);refine ay (Z:=Unit) (α:=Bool) (fun z39 x38=>[(1,I a1),(7,Rs ag r6.1),(8,I y9),(140,.eq (.bool x38))]) (fun z39 x38=>[]) h (fun K h=>?_) (fun z39 x38 h=>?_)
        ·refine a6 ?_;refine dm ?_;refine dm ?_;refine db (bT rfl) ?_;refine l9 rfl rfl rfl (bg rfl) ⟨rfl,trivial⟩ (fun hb=>?_) (fun hb=>?_)
         ·replace h:=bY (Ef hb) h;iterate 3 refine dg ?_
          refine db (dw rfl) ?_;refine dm ?_;iterate 3 refine dg ?_
          refine db (dw rfl) ?_;refine dm ?_;iterate 3 refine dg ?_
          refine db (dw rfl) ?_;refine dm ?_;iterate 5 refine dg ?_
          refine df bw ?_;iterate 2 refine gn ?_
          refine pt (nl ?_);exact jz ((),true) h []
         ·replace h:=bj (tu hb) h;refine bm rfl rfl rfl rfl rfl (bg rfl) ⟨rfl,rfl,trivial⟩ ?_;refine bm rfl rfl rfl rfl rfl (bg rfl) ⟨rfl,rfl,trivial⟩ ?_;refine bm rfl rfl rfl rfl rfl (bT rfl) ⟨rfl,rfl,rfl,trivial⟩ ?_;refine db (dV rfl) ?_;refine l9 rfl rfl rfl (bg rfl) ⟨rfl,trivial⟩ (fun hb=>?_) (fun hb=>?_)
          ·replace h:=bY (Ef hb) h;iterate 3 refine dg ?_
           refine db (dw rfl) ?_;refine dm ?_;iterate 3 refine dg ?_
           refine db (dw rfl) ?_;refine dm ?_;iterate 5 refine dg ?_
           refine df bw ?_;iterate 2 refine gn ?_
           refine pt (nl ?_);exact jz ((),true) h []
          ·replace h:=bj (tu hb) h;refine bm rfl rfl rfl rfl rfl (bg rfl) ⟨rfl,rfl,trivial⟩ ?_;refine bm rfl rfl rfl rfl rfl (bg rfl) ⟨rfl,rfl,trivial⟩ ?_;refine bm rfl rfl rfl rfl rfl (bT rfl) ⟨rfl,rfl,rfl,trivial⟩ ?_;refine db (dV rfl) ?_;refine l9 rfl rfl rfl (bg rfl) ⟨rfl,trivial⟩ (fun hb=>?_) (fun hb=>?_)
           ·replace h:=bY (Ef hb) h;iterate 3 refine dg ?_
            refine db (dw rfl) ?_;refine dm ?_;iterate 5 refine dg ?_
            refine df bw ?_;iterate 2 refine gn ?_
            refine pt (nl ?_);exact jz ((),true) h []
           ·replace h:=bj (tu hb) h;refine bm rfl rfl rfl rfl rfl (bg rfl) ⟨rfl,rfl,trivial⟩ ?_;refine bm rfl rfl rfl rfl rfl (bg rfl) ⟨rfl,rfl,trivial⟩ ?_;refine bm rfl rfl rfl rfl rfl (bT rfl) ⟨rfl,rfl,rfl,trivial⟩ ?_;refine db (dV rfl) ?_;refine l9 rfl rfl rfl (bg rfl) ⟨rfl,trivial⟩ (fun hb=>?_) (fun hb=>?_)
            ·replace h:=bY (Ef hb) h;iterate 5 refine dg ?_
             refine df bw ?_;iterate 2 refine gn ?_
             refine pt (nl ?_);exact jz ((),true) h []
            ·replace h:=bj (tu hb) h;refine lC 0 rfl rfl rfl rfl rfl rfl (ai rfl bL (sn) rfl) ⟨rfl,rfl,trivial⟩ ?_;refine bm rfl rfl rfl rfl rfl (bg rfl) ⟨rfl,rfl,trivial⟩ ?_;refine bm rfl rfl rfl rfl rfl (bg rfl) ⟨rfl,rfl,trivial⟩ ?_;obtain⟨x40,ex40,h⟩:=aa h;refine bm rfl rfl rfl rfl rfl (aC (t:=ag) rfl Le bL ex40) ⟨rfl,rfl,rfl,trivial⟩ ?_;refine bm rfl rfl rfl rfl rfl (ao (t:=ag) rfl bL rfl) ⟨rfl,rfl,trivial⟩ ?_;refine df bw ?_;obtain⟨r41,er41,h⟩:=aa h;refine gb (gJ (N:=[(.tmp 133,.agg (.pair (Rs aJ r14.1) (.pair (Rs aw r14.2.1) (.pair (Ri r14.2.2.1) (Ri r14.2.2.2))))),(.tmp 137,.rep ag x40)]) (ak [.tmp 133,.tmp 137] rfl rfl P6 rfl (sw k (r14.1,r14.2.1,r14.2.2.1,r14.2.2.2) x40 r41 er41)) fun _ _ _ hn=>⟨(fe (t:=ag) (x:=(r14.1,r14.2.1,r14.2.2.1,r14.2.2.2)) (.agg (.pair .rep (.pair .rep (.pair .rep .rep)))) trivial rfl hn.1),hn.2.1,trivial⟩) ?_;refine ga (eE rfl) ?_;refine pf (nl ?_);exact jz ((), !r41) h []
        ·refine cv h (fun h=>?_) (fun h=>?_)
         ·refine sr (cq (nt (aG (br (aV (aR ?_))))));obtain rfl:=hR _ h;exact ra
         ·refine aU (bn ?_);exact jz ((),()) h []
    ·refine ah (mq ?_);obtain⟨x42,ex42,h⟩:=aa h;refine jb (bh rfl ex42) ?_;refine aq (nl ?_);exact jz ((),x42) h []
   ·refine xa ?_;exact jz ((),()) h []
  ·refine sr ?_;obtain⟨r43,er43,h⟩:=aa h;refine dx rfl (ak [] rfl rfl Qm rfl (qs k r43 er43)) trivial ?_;refine aq (nt (aG ?_));cases h;exact ra
theorem wc{k:Nat}{c:ae}{d:Nat}{x:ax}(hd:d < c.2.1.length)(hl:c.2.1.length≤1000):m7 k c (d:Int) x=some (wD c (c.2.1.set d x)):=by
 unfold m7;rw [cO (bH (by simp only [List.length_nil];omega)),bs,List.nil_append,aY hd,bs];rfl
theorem GY{k:Nat}(hk:30000≤k){n:Int}{c:ae}{mv:List Bool}{q:cS}(hq:QV n c mv q){d:Nat}{x:ax}(hx:kl n x):
 fK k (wD c (c.2.1.set d x))=some ((bB (wD c (c.2.1.set d x)) (aI c mv)).2.2,(bB (wD c (c.2.1.set d x)) (aI c mv)).2.1,(bB (wD c (c.2.1.set d x)) (aI c mv)).1):=by
 have hdl:=hq.vc.dl
 exact vC hk (OP hq.vc (tB hq.vc.dressers hx) (by simpa using hdl)) (tH hq.fix) hq.t4
theorem ya{k:Nat}(hk:30000≤k){c:ae}(hs:iZ c):∃r,iS k c=some r∧jH k c=some r∧r.1.length≤20:=by
 have hk5:50≤k:=by omega
 rcases uW hk5 hs with⟨e,he,h1,h2⟩ |⟨n,mv,q,hq,h1,h2⟩
 ·refine⟨([],e),?_,?_,by simp⟩
  ·unfold iS;rw [h1,bs,zT,if_pos he]
  ·unfold jH;rw [h2,bs,if_pos he]
 ·have hc:=hq.vc;have hdl:=hc.dl;obtain⟨⟨got,ge⟩,er,hr⟩:=A3 hk5 (fun ds=>OP hc) hq h1;refine⟨_,er,?_,?_⟩
  ·unfold jH;rw [h2,bs,if_neg (by simp),vC hk hc hq.fix hq.t4,bs];by_cases hf:(bB c (aI c mv)).1=true
   ·rw [if_pos hf] at hr;obtain⟨hge,s,hgs,hno,hhas⟩:=hr;simp only at hge hgs;subst hge hgs
    have key:∀(m d aH:Nat),c.2.1.length - d=m→d≤c.2.1.length→m < aH→fi k c ((bB c (aI c mv)).2.2,(bB c (aI c mv)).2.1,(bB c (aI c mv)).1) aH (fS s d,(d:Int))=some (fS s c.2.1.length):=by
     intro m
     induction m with
     |zero=>
      intro d aH g1 g2 g3;obtain⟨f,rfl⟩:∃f,aH=f+1:=⟨aH - 1,by omega⟩;have:d=c.2.1.length:=by omega
      subst this;rw [fi];simp only [Int.lt_irrefl,if_false]
     |succ m ih=>
      intro d aH g1 g2 g3;obtain⟨f,rfl⟩:∃f,aH=f+1:=⟨aH - 1,by omega⟩;have hd:d < c.2.1.length:=by omega
      have hd':(d:Int) < (c.2.1.length:Int):=by omega
      have f1:=GY hk hq (d:=d) (x:=([],0,0)) ⟨lD.nil,by decide,by decide⟩;have w1:=wc (k:=k) (c:=c) (x:=([],0,0)) hd (by omega);obtain⟨i1,i2⟩:=Il (c:=c) (ts:=aI c mv) (x:=([],0,0)) (y:=([],c.2.1[d].2.1,c.2.1[d].2.2)) hd rfl rfl;have hh:=hhas d hd;rw [←i1,←i2] at hh;have hbl:=oN (s:=s) (j:=d);have hck:ck ((d:Int)+1)=some ((d:Int)+1):=bK (by omega) (by omega);have hch:cF (cx (List.length (fS s d)+List.length [(d:Int)]))=some ():=cO (bH (by simp only [List.length_cons,List.length_nil];omega));have nx:=ih (d+1) f (by omega) (by omega) (by omega);have hoff:=KP (c:=c) (ts:=aI c mv) (x:=([],0,0)) hd rfl;rw [fi];by_cases hH:cu s d
      ·obtain⟨a1,a2⟩:=hh.1 hH;have a3:=(hoff a1).2;have a4:(bB (wD c (c.2.1.set d ([],0,0))) (aI c mv)).2.1=(bB c (aI c mv)).2.1:=by omega
       have hsu:fS s (d+1)=fS s d++[(d:Int)]:=by rw [nr,if_pos hH]
       rw [hsu] at nx;simp only [hd',if_true,w1,bs,f1,a1,a4,decide_true,hch,hck];exact nx
      ·have hsu:fS s (d+1)=fS s d:=by rw [nr,if_neg hH,List.append_nil]
       rw [hsu] at nx;by_cases a1:(bB (wD c (c.2.1.set d ([],0,0))) (aI c mv)).1=true
       ·have a3:=(hoff a1).2;have a4:¬(bB (wD c (c.2.1.set d ([],0,0))) (aI c mv)).2.1≤(bB c (aI c mv)).2.1:=fun h=>hH (hh.2 ⟨a1,h⟩);have a5:¬(bB (wD c (c.2.1.set d ([],0,0))) (aI c mv)).2.1=(bB c (aI c mv)).2.1:=by omega
        simp only [hd',if_true,w1,bs,f1,a1,a5,decide_false,Bool.false_eq_true,if_false,hck];exact nx
       ·have a1':(bB (wD c (c.2.1.set d ([],0,0))) (aI c mv)).1=false:=by simpa using a1
        simp only [hd',if_true,w1,bs,f1,a1',Bool.false_eq_true,if_false,hck];exact nx
    have kk:=key c.2.1.length 0 k (by omega) (by omega) (by omega);have e0:(fS s 0,((0:Nat):Int))=(([]:List Int),(0:Int)):=by simp [fS]
    rw [e0] at kk;have e8:fS s 8=fS s c.2.1.length:=xw hno (by omega);simp only [hf] at kk⊢;rw [if_neg (by simp),kk,bs,e8]
   ·rw [if_neg hf] at hr;rw [if_pos hf,hr]
  ·by_cases hf:(bB c (aI c mv)).1=true
   ·rw [if_pos hf] at hr;obtain⟨_,s,hgs,_⟩:=hr;rw [hgs];have:=oN (s:=s) (j:=8);omega
   ·rw [if_neg hf] at hr;rw [hr];simp
theorem wZ{c:ae}{ts:List (Bool×Int)}{d:Nat}{x:ax}{v w:Int}(hx:c.2.1[d]? =some x)(hvw:v≤w)(hf:(bB c ts).1=true):
 (bB (wD c (c.2.1.set d (x.1,x.2.1,v))) ts).2.1≤(bB (wD c (c.2.1.set d (x.1,x.2.1,w))) ts).2.1:=by
 have hd:d < c.2.1.length:=(List.getElem?_eq_some_iff.1 hx).1
 have:=(FN (c:=wD c (c.2.1.set d (x.1,x.2.1,w))) (c':=wD c (c.2.1.set d (x.1,x.2.1,v))) (ts:=ts) rfl (by simp) (fun i u h0 _ _ h=>by
  rw [yS (c:=c) (ds:=c.2.1) hx h0] at h⊢;exact h) (δ:=0) (Int.le_refl 0) (fun i=>by
  unfold F0;rw [rp hd (Int.natCast_nonneg i),rp hd (Int.natCast_nonneg i)];by_cases hi:(i:Int)=(d:Int)
  ·rw [if_pos hi,if_pos hi];simp only;omega
  ·rw [if_neg hi,if_neg hi];omega) (FO hx hf)).2
 omega
theorem v6{k:Nat}(hk:30000≤k){c:ae}(hs:iZ c)(d:Int):∃r,jP k c d=some r∧lL k c d=some r:=by
 have hk5:50≤k:=by omega
 rcases uW hk5 hs with⟨e,he,h1,h2⟩ |⟨n,mv,q,hq,h1,h2⟩
 ·refine⟨(0,e),?_,?_⟩
  ·unfold jP;rw [h1,bs,zT,if_pos he]
  ·unfold lL;rw [h2,bs,if_pos he]
 ·have hc:=hq.vc;have hdl:=hc.dl;have hck1:ck ((c.2.1.length:Int) - 1)=some ((c.2.1.length:Int) - 1):=bK (by omega) (by omega)
  have hin:dy k d 0 ((c.2.1.length:Int) - 1)=some (decide (0≤d∧d≤(c.2.1.length:Int) - 1)):=by
   unfold dy;by_cases h0:0≤d
   ·rw [if_pos h0,bs];simp [h0]
   ·rw [if_neg h0,bs];simp [h0]
  by_cases hd:0≤d∧d≤(c.2.1.length:Int) - 1
  ·obtain⟨d,rfl⟩:∃d':Nat,d=(d':Int):=⟨d.toNat,by omega⟩;have hdn:d < c.2.1.length:=by omega
   have hx:=List.getElem?_eq_getElem hdn;have hxG:=hc.dressers _ (List.getElem_mem hdn);have hst:=hxG.start;obtain⟨⟨r,re⟩,er,hr⟩:=GO hk5 (fun ds=>OP hc) hq h1 hx;refine⟨_,er,?_⟩;unfold lL;rw [h2,bs,if_neg (by simp),hck1,bs,hin,bs,decide_eq_true hd,if_neg (by simp),vC hk hc hq.fix hq.t4,bs];by_cases hf:(bB c (aI c mv)).1=true
   ·rw [if_pos hf] at hr;obtain⟨hre,r1,r2,r3,r4⟩:=hr;simp only at hre r1 r2 r3 r4;subst hre
    have hP:∀v:Int,0≤v→v≤9→((bB (wD c (c.2.1.set d (c.2.1[d].1,c.2.1[d].2.1,v))) (aI c mv)).2.1≤(bB c (aI c mv)).2.1↔v≤r):=fun v v0 v9=>by
     constructor
     ·intro h;by_cases hvr:v≤r
      ·exact hvr
      ·have g:=wZ (ts:=aI c mv) hx (v:=r+1) (w:=v) (by omega) hf;have:=r4 (by omega);omega
     ·intro h;have g:=wZ (ts:=aI c mv) hx (v:=v) (w:=r) h hf;omega
    have key:∀(m j aH:Nat),10 - j=m→j≤10→m < aH→iP k c (d:Int) ((bB c (aI c mv)).2.2,(bB c (aI c mv)).2.1,(bB c (aI c mv)).1) aH (if(j:Int) - 1≤r then(if j=0 then 0 else(j:Int) - 1) else r,(j:Int))=some r:=by
     intro m
     induction m with
     |zero=>
      intro j aH g1 g2 g3;obtain⟨f,rfl⟩:∃f,aH=f+1:=⟨aH - 1,by omega⟩;have:j=10:=by omega
      subst this;rw [iP];rw [if_neg (by simp only;omega)];congr 1;split <;> omega
     |succ m ih=>
      intro j aH g1 g2 g3;obtain⟨f,rfl⟩:∃f,aH=f+1:=⟨aH - 1,by omega⟩;have hj:(j:Int)≤9:=by omega
      have f1:=GY hk hq (d:=d) (x:=(c.2.1[d].1,c.2.1[d].2.1,(j:Int))) (wT hxG (by omega));have w1:=wc (k:=k) (c:=c) (x:=(c.2.1[d].1,c.2.1[d].2.1,(j:Int))) hdn (by omega);have hck:ck ((j:Int)+1)=some ((j:Int)+1):=bK (by omega) (by omega);have nx:=ih (j+1) f (by omega) (by omega) (by omega);have ej:((j+1:Nat):Int) - 1=(j:Int):=by omega
      have ej1:((j+1:Nat):Int)=(j:Int)+1:=by omega
      rw [ej,ej1,if_neg (by omega:¬j+1=0)] at nx;rw [iP];simp only [hj,if_true,aY hdn,bs,w1,f1,hP (j:Int) (by omega) hj,hck];by_cases hjr:(j:Int)≤r
      ·rw [if_pos hjr] at nx;rw [if_pos hjr,bs];exact nx
      ·rw [if_neg hjr] at nx;rw [if_neg hjr,bs]
       have e2:(if(j:Int) - 1≤r then(if j=0 then 0 else(j:Int) - 1) else r)=r:=by
        split
        ·split <;> omega
        ·rfl
       rw [e2];exact nx
    have kk:=key 10 0 k (by omega) (by omega) (by omega)
    have e0:(if((0:Nat):Int) - 1≤r then(if(0:Nat)=0 then(0:Int) else((0:Nat):Int) - 1) else r,((0:Nat):Int))=((0:Int),(0:Int)):=by
     rw [if_pos (by omega),if_pos rfl];rfl
    rw [e0] at kk;simp only [hf] at kk⊢;rw [if_neg (by simp),kk,bs]
   ·rw [if_neg hf] at hr;rw [if_pos hf,hr]
  ·refine⟨(0,3),?_,?_⟩
   ·unfold jP;rw [h1,bs,rq,if_neg (by simp),hq.eq,hck1,bs,ww,bs,decide_eq_true hd,if_pos rfl]
   ·unfold lL;rw [h2,bs,if_neg (by simp),hck1,bs,hin,bs,decide_eq_false hd,if_pos (by simp)]
theorem EY{k:Nat}(hk:50≤k){d:ax}{t n:Int}(hA:lD d.1 n)(hn:0≤n∧n≤8)(ht:0≤t∧t < n):W (kA k d t) fun r=>r.2=d.2∧lD r.1 n∧∀x,x∈r.1↔0≤x∧x < n∧(x=t∨x∈d.1):=by
 have hl:=hA.len hn.1
 have k1:W (gW k d t k ([],0)) fun r=>r=d.1.filter fun x=>decide (x < t):=by
  refine W.loop (f:=gW k d t) (fun m y=>∃j:Nat,y.2=(j:Int)∧j≤d.1.length∧m=d.1.length - j∧y.1=(d.1.take j).filter fun x=>decide (x < t)) ?_ d.1.length k _ (by omega) ⟨0,rfl,by omega,by omega,by simp⟩;rintro aH m ⟨o,y⟩ ⟨j,hj,hle,hm,ho⟩ ih;simp only at hj ho;subst hj ho;unfold gW;dsimp only
  refine W.ite (fun hlt=>?_) (fun hge=>W.ret (by
   have:j=d.1.length:=by omega
   subst this;rw [List.take_length]))
  have hlt':j < d.1.length:=by omega
  have hfl:=List.length_filter_le (fun x=>decide (x < t)) (d.1.take j);have htl:(d.1.take j).length=j:=by simp;omega
  have hsu:d.1.take (j+1)=d.1.take j++[d.1[j]]:=by rw [List.take_add_one,List.getElem?_eq_getElem hlt'];rfl
  have hck:ck ((j:Int)+1)=some ((j:Int)+1):=bK (by omega) (by omega);rw [aY hlt',bs];by_cases hx:d.1[j] < t
  ·rw [if_pos hx,bs,cO (bH (by simp only [List.length_cons,List.length_nil];omega)),bs,bs,hck,bs];refine ih (m - 1) (_,(j:Int)+1) (by omega) ⟨j+1,by show(j:Int)+1=((j+1:Nat):Int);omega,by omega,by omega,?_⟩;rw [hsu,List.filter_append];simp [hx]
  ·rw [if_neg hx,bs,hck,bs];refine ih (m - 1) (_,(j:Int)+1) (by omega) ⟨j+1,by show(j:Int)+1=((j+1:Nat):Int);omega,by omega,by omega,?_⟩;rw [hsu,List.filter_append];simp [hx]
 have k2:∀base:List Int,base.length≤9→W (gV k d t k (base,0)) fun r=>r=base++d.1.filter fun x=>decide (t < x):=fun base hb=>by
  refine W.loop (f:=gV k d t) (fun m y=>∃j:Nat,y.2=(j:Int)∧j≤d.1.length∧m=d.1.length - j∧y.1=base++(d.1.take j).filter fun x=>decide (t < x)) ?_ d.1.length k _ (by omega) ⟨0,rfl,by omega,by omega,by simp⟩;rintro aH m ⟨o,y⟩ ⟨j,hj,hle,hm,ho⟩ ih;simp only at hj ho;subst hj ho;unfold gV;dsimp only
  refine W.ite (fun hlt=>?_) (fun hge=>W.ret (by
   have:j=d.1.length:=by omega
   subst this;rw [List.take_length]))
  have hlt':j < d.1.length:=by omega
  have hfl:=List.length_filter_le (fun x=>decide (t < x)) (d.1.take j);have htl:(d.1.take j).length=j:=by simp;omega
  have hsu:d.1.take (j+1)=d.1.take j++[d.1[j]]:=by rw [List.take_add_one,List.getElem?_eq_getElem hlt'];rfl
  have hck:ck ((j:Int)+1)=some ((j:Int)+1):=bK (by omega) (by omega);rw [aY hlt',bs];by_cases hx:t < d.1[j]
  ·rw [if_pos hx,bs,cO (bH (by simp only [List.length_append,List.length_cons,List.length_nil];omega)),bs,bs,hck,bs];refine ih (m - 1) (_,(j:Int)+1) (by omega) ⟨j+1,by show(j:Int)+1=((j+1:Nat):Int);omega,by omega,by omega,?_⟩;rw [hsu,List.filter_append];simp [hx]
  ·rw [if_neg hx,bs,hck,bs];refine ih (m - 1) (_,(j:Int)+1) (by omega) ⟨j+1,by show(j:Int)+1=((j+1:Nat):Int);omega,by omega,by omega,?_⟩;rw [hsu,List.filter_append];simp [hx]
 have hfl:=List.length_filter_le (fun x=>decide (x < t)) d.1;obtain⟨x1,e1,rfl⟩:=k1;obtain⟨x2,e2,rfl⟩:=k2 ((d.1.filter fun x=>decide (x < t))++[t]) (by simp only [List.length_append,List.length_cons,List.length_nil];omega);unfold kA;rw [e1,bs,cO (bH (by simp only [List.length_cons,List.length_nil];omega)),bs,e2,bs];refine W.ret ⟨rfl,⟨?_,?_⟩,?_⟩
 ·simp only [List.pairwise_append,List.pairwise_cons,List.Pairwise.nil,List.mem_append,List.mem_filter,List.mem_singleton,decide_eq_true_eq];refine⟨⟨hA.1.filter _,by simp,?_⟩,hA.1.filter _,?_⟩
  ·rintro a ⟨_,h⟩ b rfl;exact h
  ·rintro a (⟨_,h⟩ |rfl) b ⟨_,h'⟩
   ·omega
   ·exact h'
 ·intro x hx;simp only [List.mem_append,List.mem_filter,List.mem_singleton] at hx;rcases hx with(⟨h,_⟩ |rfl) |⟨h,_⟩
  ·exact hA.2 x h
  ·exact ht
  ·exact hA.2 x h
 ·intro x;simp only [List.mem_append,List.mem_filter,List.mem_singleton,decide_eq_true_eq];constructor
  ·rintro((⟨h,_⟩ |rfl) |⟨h,_⟩)
   ·exact⟨(hA.2 x h).1,(hA.2 x h).2,.inr h⟩
   ·exact⟨ht.1,ht.2,.inl rfl⟩
   ·exact⟨(hA.2 x h).1,(hA.2 x h).2,.inr h⟩
  ·rintro⟨_,_,rfl |h⟩
   ·exact .inl (.inr rfl)
   ·by_cases h1:x < t
    ·exact .inl (.inl ⟨h,h1⟩)
    ·by_cases h2:x=t
     ·exact .inl (.inr h2)
     ·exact .inr ⟨h,by omega⟩
theorem Fe{k:Nat}(hk:30000≤k){n:Int}{c:ae}{mv:List Bool}{q:cS}{y:Nat→Nat→ax}(hq:QV n c mv q)(ha:jd k c=some 0)(hL:vP n c y)
 (hy:∀d t,d < c.2.1.length→t < c.1.length→kA k (oK c (d:Int)) (t:Int)=some (y d t)):
 lM k c=some (if(rG c (aI c mv) y ((bB c (aI c mv)).2.1,(bB c (aI c mv)).1, -1, -1)).2.2.1 < 0 then(0,0,0,11) else
  ((rG c (aI c mv) y ((bB c (aI c mv)).2.1,(bB c (aI c mv)).1, -1, -1)).2.2.1,(rG c (aI c mv) y ((bB c (aI c mv)).2.1,(bB c (aI c mv)).1, -1, -1)).2.2.2,(rG c (aI c mv) y ((bB c (aI c mv)).2.1,(bB c (aI c mv)).1, -1, -1)).1,0)):=by
 have hc:=hq.vc
 have hdl:=hc.dl
 have hn:=hc.n4
 have hln:=hc.len
 obtain⟨w1,w2,w3,w4,w5⟩:=hc.wl
 unfold lM
 rw [ha,bs,if_neg (by simp),vC hk hc hq.fix hq.t4,bs]
 simp only
 have in2:∀(d:Nat) (y9:Int×Bool×Int×Int×Int) (s:Int×Bool×Int×Int),d < c.2.1.length→y9.2.2.2.2=(d:Int)→gf k c y9 k (s.1,s.2.1,s.2.2.1,s.2.2.2,0)=some (zH c (aI c mv) y s d):=fun d y9 s hd hy9=>by
  have hx:oK c (d:Int)=c.2.1[d]:=by simp [oK,List.getElem?_eq_getElem hd]
  have key:=qy (f:=gf k c y9) (List.range c.1.length) (fun(s:Int×Bool×Int×Int) j=>(s.1,s.2.1,s.2.2.1,s.2.2.2,j)) (fun s _ t=>zG c (aI c mv) y d s t) (fun _ _=>True) (fun s=>some s)
   (fun m s t ht _=>⟨by
    have ht:t < c.1.length:=by simpa using ht
    have hrt:(List.range c.1.length)[t]'(by simpa using ht)=t:=by simp
    have hck:ck ((t:Int)+1)=some ((t:Int)+1):=bK (by omega) (by omega);have hl5:=w5 _ (List.getElem_mem hd);rw [gf];dsimp only;rw [if_pos (by omega),hy9,aY hd,bs,iO (by omega) (by omega),bs,hrt];unfold zG;rw [hx];by_cases hm:(t:Int)∈c.2.1[d].1
    ·rw [decide_eq_true hm,if_pos rfl,if_pos hm,bs,hck,bs]
    ·rw [decide_eq_false hm,if_neg (by decide),if_neg hm,bs];have hy':=hy d t hd ht;rw [hx] at hy';rw [hy',bs,wc hd (by omega),bs,GY hk hq (tw hc hL hd ht),bs];obtain⟨s1,s2,s3,s4⟩:=s;simp only;generalize bB (wD c (c.2.1.set d (y d t))) (aI c mv)=f;obtain⟨f1,f2,f3⟩:=f;cases f1 <;> cases s2 <;> by_cases hlt:f2 < s1 <;> simp [hlt,hck],trivial⟩)
   (fun m s _=>by rw [gf];simp) (n:=k) (s0:=s) (by simp;omega) trivial
  have key:=key.1
  have hf:∀(l:List Nat) (j:Nat) (s:Int×Bool×Int×Int),qz (fun s _ t=>zG c (aI c mv) y d s t) j l s=l.foldl (zG c (aI c mv) y d) s:=by
   intro l
   induction l with
   |nil=>intro j s;rfl
   |cons a l ih=>intro j s;exact ih _ _
  rw [hf] at key;exact key
 have out:∀s:Int×Bool×Int×Int,gg k c k (s.1,s.2.1,s.2.2.1,s.2.2.2,0)=some ((rG c (aI c mv) y s).1,(rG c (aI c mv) y s).2.2.1,(rG c (aI c mv) y s).2.2.2):=fun s=>by
  have key:=qy (f:=gg k c) (List.range c.2.1.length) (fun(s:Int×Bool×Int×Int) j=>(s.1,s.2.1,s.2.2.1,s.2.2.2,j)) (fun s _ d=>zH c (aI c mv) y s d) (fun _ _=>True) (fun s=>some (s.1,s.2.2.1,s.2.2.2))
   (fun m s d hd _=>⟨by
    have hd:d < c.2.1.length:=by simpa using hd
    have hrt:(List.range c.2.1.length)[d]'(by simpa using hd)=d:=by simp
    rw [gg];dsimp only;rw [if_pos (by omega),in2 d _ s hd rfl,bs,bK (by omega) (by omega),bs,hrt],trivial⟩)
   (fun m s _=>by rw [gg];simp) (n:=k) (s0:=s) (by simp;omega) trivial
  have key:=key.1
  have hf:∀(l:List Nat) (j:Nat) (s:Int×Bool×Int×Int),qz (fun s _ d=>zH c (aI c mv) y s d) j l s=l.foldl (zH c (aI c mv) y) s:=by
   intro l
   induction l with
   |nil=>intro j s;rfl
   |cons a l ih=>intro j s;exact ih _ _
  rw [hf] at key;exact key
 rw [out ((bB c (aI c mv)).2.1,(bB c (aI c mv)).1, -1, -1),bs]
 by_cases h0:(rG c (aI c mv) y ((bB c (aI c mv)).2.1,(bB c (aI c mv)).1, -1, -1)).2.2.1 < 0
 ·
  rw [if_pos h0,if_pos h0]
 ·
  rw [if_neg h0,if_neg h0]
theorem Dq{k:Nat}(hk:30000≤k)(hS:sM k){c:ae}(hs:iZ c):∃r,kQ k c=some r∧lM k c=some r:=by
 have hk5:50≤k:=by omega
 rcases uW hk5 hs with⟨e,he,h1,h2⟩ |⟨n,mv,q,hq,h1,h2⟩
 ·refine⟨(0,0,0,e),?_,?_⟩
  ·unfold kQ;rw [h1,bs,zT,if_pos he]
  ·unfold lM;rw [h2,bs,if_pos he]
 ·have hc:=hq.vc;have hdl:=hc.dl;have hn:=hc.n4;have hln:=hc.len
  have hab:∀d t:Nat,∃r,d < c.2.1.length→t < c.1.length→kA k (oK c (d:Int)) (t:Int)=some r∧r.2=(oK c (d:Int)).2∧lD r.1 n∧∀x,x∈r.1↔0≤x∧x < n∧(x=(t:Int)∨x∈(oK c (d:Int)).1):=fun d t=>by
   by_cases hd:d < c.2.1.length
   ·by_cases ht:t < c.1.length
    ·have hx:oK c (d:Int)=c.2.1[d]:=by simp [oK,List.getElem?_eq_getElem hd]
     obtain⟨r,e,f1,f2,f3⟩:=EY hk5 (d:=oK c (d:Int)) (t:=(t:Int)) (n:=n) (by rw [hx];exact(hc.dressers _ (List.getElem_mem hd)).can) (by omega) (by omega);exact⟨r,fun _ _=>⟨e,f1,f2,f3⟩⟩
    ·exact⟨([],0,0),fun _ h=>absurd h ht⟩
   ·exact⟨([],0,0),fun h=>absurd h hd⟩
  obtain⟨y,hy⟩:=Classical.axiomOfChoice (fun d=>Classical.axiomOfChoice (hab d));have hL:vP n c y:=⟨fun d t hd ht=>(hy d t hd ht).2.1,fun d t hd ht=>(hy d t hd ht).2.2.1,fun d t hd ht=>(hy d t hd ht).2.2.2⟩
  have hW:∀d t,d < c.2.1.length→t < c.1.length→∃q',bM k (wD c (c.2.1.set d (y d t)))=some (some q',0)∧QV n (wD c (c.2.1.set d (y d t))) mv q':=fun d t hd ht=>
   Nl hk5 hq (tB hc.dressers (tw hc hL hd ht)) (by simpa using hdl)
  exact⟨_,I2 hk5 hS hq h1 hL hW,Fe hk hq h2 hL fun d t hd ht=>(hy d t hd ht).1⟩
theorem zS:kL 30000=some true:=by decide+kernel
set_option maxRecDepth 100000 in
theorem E2:sM 30000:=by decide+kernel
theorem CO{k:Nat}(hk:30000≤k)(hS:sM k)(hd:kL k=some true)(a0:ae)(a1:Int)(a2:List Int):jJ k a0 a1 a2=some true:=by
 have hk5:50≤k:=by omega
 obtain⟨b,eb,hb⟩:=Kz hk5 (c:=a0);unfold jJ;rw [eb,bs];cases b with
 |true=>rw [if_pos rfl,hd,bs]
 |false=>
  have hs:=hb rfl;rw [if_neg (by decide)];obtain⟨⟨cs,l⟩,e,_,h4,hx⟩:=JG hk5 hs (l:=(a2,0,1)) (m:=0) Dm (by decide);rw [show nN k a2=some (a2,0,1) from rfl,bs,e,bs];simp only at h4 hx
  have in2:∀(j:Nat) (hj:j < cs.length),cY k a1 (cs,l) (j:Int) cs[j] k (-1)=some (.ok ()):=fun j hjl=>by
   have hS':=hx _ (List.getElem_mem hjl)
   have key:∀(m:Nat) (v:Int) (aH:Nat),(4 - v).toNat=m→ -1≤v→v≤4→m < aH→cY k a1 (cs,l) (j:Int) cs[j] aH v=some (.ok ()):=by
    intro m
    induction m with
    |zero=>
     intro v aH g1 g2 g3 g4;obtain⟨f,rfl⟩:∃f,aH=f+1:=⟨aH - 1,by omega⟩;rw [cY,if_neg (by omega)]
    |succ m ih=>
     intro v aH g1 g2 g3 g4;obtain⟨f,rfl⟩:∃f,aH=f+1:=⟨aH - 1,by omega⟩;have hv:v≤3:=by omega
     have hck:ck (v+1)=some (v+1):=bK (by omega) (by omega);have nx:=ih (v+1) f (by omega) (by omega) (by omega) (by omega);have hc4:((cs[j].1,cs[j].2.1,cs[j].2.2.1,cs[j].2.2.2):ae)=cs[j]:=rfl;rw [cY];by_cases hv0:v < 0
     ·obtain⟨r,s1,s2⟩:=v6 hk hS' a1;simp only [hv,if_true,hv0,bs,hc4,s1,aY hjl,s2,not_true_eq_false,if_false,decide_true,Bool.not_true,Bool.false_eq_true,hck];exact nx
     ·obtain⟨r,s1,s2⟩:=v6 hk hS' v;simp only [hv,if_true,hv0,if_false,bs,hc4,s1,aY hjl,s2,not_true_eq_false,decide_true,Bool.not_true,Bool.false_eq_true,hck];exact nx
   exact key 5 (-1) k (by decide) (by decide) (by decide) (by omega)
  have key:dz k a1 (cs,l) k 0=some (.ok ()):=wV (N:=3) (by omega) (fun n j hj=>by
   have hjl:j < cs.length:=by omega
   have hS':=hx _ (List.getElem_mem hjl);obtain⟨r,g1,g2,l1⟩:=ya hk hS';obtain⟨r',g3,g4⟩:=Dq hk hS hS';have hck:ck ((j:Int)+1)=some ((j:Int)+1):=bK (by omega) (by omega);have hlt:(j:Int) < 3:=by omega
   have hc4:((cs[j].1,cs[j].2.1,cs[j].2.2.1,cs[j].2.2.2):ae)=cs[j]:=rfl;simp only [dz,hlt,if_true,aY hjl,bs,xg hk5 hS',hc4,g1,g2,g3,g4,in2 j hjl,lU,not_true_eq_false,if_false,j7 (show r.1.length < k by omega) (show r.1.length≤1000000 by omega),uk hk5 hS',Bool.not_true,Bool.false_eq_true,hck]) (fun n=>by simp [dz])
  rw [key,lU,hd,bs]
end Go.Proofs.YtopgphikdglphaaGreat
