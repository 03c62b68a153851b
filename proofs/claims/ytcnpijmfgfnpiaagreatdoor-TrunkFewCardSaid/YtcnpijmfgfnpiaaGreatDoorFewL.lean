import Derived.Test.YtcnpijmfgfnpiaaGreatDoorXXBestL
set_option linter.unusedSimpArgs false
set_option linter.unusedVariables false
namespace Go.Proofs.YtcnpijmfgfnpiaaGreatDoor
open K Go Go.Proofs
def P8:List (List Int):=[[],[0],[1],[2],[0,1],[0,2],[1,2],[0,1,2]]
def rk(u:List Int):Nat:=P8.idxOf u
def dT(q:List (List Int)):List Int:=((List.range q.length).filter fun i=>decide (q[i]?.getD []≠[])).map fun(i:Nat)=>(i:Int)
def IK(N m:Nat):List (List Int):=P8.filter fun l=>decide (l.length=m) && l.all fun x=>decide (x < (N:Int))
theorem FN:(P8.all fun u=>P8.all fun v=>decide ((u.length < v.length→rk u < rk v)∧((∀x∈u,x∈v)→rk u≤rk v)) && (match dt 3000 u v with |some c=>decide (u.length=v.length→((0≤c)↔rk v≤rk u)) |none=>false))=true:=by decide+kernel
theorem sC{u v:List Int}(hu:u∈P8)(hv:v∈P8):(u.length < v.length→rk u < rk v)∧((∀x∈u,x∈v)→rk u≤rk v):=by
 have h:=FN;rw [List.all_eq_true] at h;have h:=h u hu;rw [List.all_eq_true] at h;have h:=h v hv;rw [Bool.and_eq_true] at h;exact of_decide_eq_true h.1
theorem MW{k:Nat}(hk:k=3000){u v:List Int}(hu:u∈P8)(hv:v∈P8)(hl:u.length=v.length):∃c,dt k u v=some c∧(0≤c↔rk v≤rk u):=by
 subst hk;have h:=FN;rw [List.all_eq_true] at h;have h:=h u hu;rw [List.all_eq_true] at h;have h:=h v hv;rw [Bool.and_eq_true] at h;have h:=h.2;split at h
 ·rename_i c hc;exact⟨c,hc,of_decide_eq_true h hl⟩
 ·cases h
theorem lj{q:List (List Int)}(h:q.length≤3):dT q∈P8∧∀x∈dT q,x < (q.length:Int):=by
 have key:∀(n:Nat),n≤3→∀b0 b1 b2:Bool,(((List.range n).filter fun i=>if i=0 then b0 else if i=1 then b1 else b2).map fun(i:Nat)=>(i:Int))∈P8:=by decide
 refine⟨?_,fun x hx=>?_⟩
 ·have:=key q.length h (decide (q[0]?.getD []≠[])) (decide (q[1]?.getD []≠[])) (decide (q[2]?.getD []≠[]));unfold dT
  rw [show(List.range q.length).filter (fun i=>decide (q[i]?.getD []≠[]))=(List.range q.length).filter (fun i=>if i=0 then decide (q[0]?.getD []≠[]) else if i=1 then decide (q[1]?.getD []≠[]) else decide (q[2]?.getD []≠[])) from List.filter_congr fun i hi=>by
   have:=List.mem_range.1 hi;rcases(show i=0∨i=1∨i=2 by omega) with rfl |rfl |rfl <;> simp]
  exact this
 ·obtain⟨i,hi,rfl⟩:=List.mem_map.1 hx;have:=List.mem_range.1 (List.mem_filter.1 hi).1;omega
theorem GN{q:List (List Int)}{i:Nat}:(i:Int)∈dT q↔q[i]?.getD []≠[]:=by
 unfold dT;simp only [List.mem_map,List.mem_filter,List.mem_range,decide_eq_true_eq];constructor
 ·rintro⟨j,⟨_,h⟩,e⟩;have:j=i:=by omega
  subst this;exact h
 ·intro h;refine⟨i,⟨?_,h⟩,rfl⟩;rcases Nat.lt_or_ge i q.length with h' |h'
  ·exact h'
  ·rw [List.getElem?_eq_none h'] at h;exact absurd rfl h
theorem B0{q:List (List Int)}(h:q.length≤3):dT q∈IK q.length (dT q).length:=by
 obtain⟨a,b⟩:=lj h;exact List.mem_filter.2 ⟨a,by simp only [Bool.and_eq_true,decide_eq_true_eq,List.all_eq_true];exact⟨trivial,b⟩⟩
theorem LI:((List.range 4).all fun N=>(List.range (N+1)).all fun m=>decide (jk 3000 3000 (N:Int) (m:Int)=some (IK N m)) && decide ((IK N m).Pairwise fun a b=>rk a < rk b))=true:=by decide+kernel
theorem yV{k:Nat}(hk:k=3000){N m:Nat}(hN:N≤3)(hm:m≤N):jk k k (N:Int) (m:Int)=some (IK N m)∧(IK N m).Pairwise fun a b=>rk a < rk b:=by
 subst hk;have h:=LI;rw [List.all_eq_true] at h;have h:=h N (List.mem_range.2 (by omega));rw [List.all_eq_true] at h;have h:=h m (List.mem_range.2 (by omega));rw [Bool.and_eq_true] at h;exact⟨of_decide_eq_true h.1,of_decide_eq_true h.2⟩
def nY(t:aV)(b:Option (List (List Int)×List Int))(q:List (List Int)):Option (List (List Int)×List Int):=match b with
 |none=>if di t q=0 then some (q,dT q) else none
 |some (p,v)=>if rk v≤rk (dT q) then some (p,v) else if di t q=0 then some (q,dT q) else some (p,v)
def Aw(t:aV)(l:List (List (List Int))):Option (List (List Int)×List Int)→Prop
 |none=>∀q∈l,di t q≠0
 |some (q,u)=>u=dT q∧di t q=0∧(∀y∈l,di t y=0→rk u≤rk (dT y))∧∃p s,l=p++q::s∧∀y∈p,di t y=0→rk u < rk (dT y)
theorem yb{t:aV}:∀(l pre:List (List (List Int))) (b:Option (List (List Int)×List Int)),Aw t pre b→Aw t (pre++l) (l.foldl (nY t) b)
 |[],pre,b,h=>by simpa using h
 |o::l,pre,b,h=>by
  have h1:Aw t (pre++[o]) (nY t b o):=by
   cases b with
   |none=>
    have h:∀q∈pre,di t q≠0:=h;unfold nY;dsimp only;by_cases c:di t o=0
    ·rw [if_pos c];refine⟨rfl,c,fun y hy e=>?_,pre,[],rfl,fun y hy e=>absurd e (h y hy)⟩;rcases List.mem_append.1 hy with hy |hy
     ·exact absurd e (h y hy)
     ·rw [List.mem_singleton] at hy;subst hy;exact Nat.le_refl _
    ·rw [if_neg c];intro y hy;rcases List.mem_append.1 hy with hy |hy
     ·exact h y hy
     ·rw [List.mem_singleton] at hy;subst hy;exact c
   |some b=>
    obtain⟨q,u⟩:=b;obtain⟨h1,h2,h3,p,s,h4,h5⟩:=h;unfold nY;dsimp only
    have same:(di t o=0→rk u≤rk (dT o))→Aw t (pre++[o]) (some (q,u)):=fun ho=>⟨h1,h2,fun y hy e=>by
     rcases List.mem_append.1 hy with hy |hy
     ·exact h3 y hy e
     ·rw [List.mem_singleton] at hy;subst hy;exact ho e,p,s++[o],by rw [h4];simp,h5⟩
    by_cases c:rk u≤rk (dT o)
    ·rw [if_pos c];exact same fun _=>c
    ·rw [if_neg c];by_cases c2:di t o=0
     ·rw [if_pos c2];refine⟨rfl,c2,fun y hy e=>?_,pre,[],rfl,fun y hy e=>by have:=h3 y hy e;omega⟩;rcases List.mem_append.1 hy with hy |hy
      ·have:=h3 y hy e;omega
      ·rw [List.mem_singleton] at hy;subst hy;exact Nat.le_refl _
     ·rw [if_neg c2];exact same fun e=>absurd e c2
  have:=yb l (pre++[o]) _ h1;rwa [List.append_assoc] at this
section
variable {k:Nat}
theorem IN{l:List Int}(h:∀x∈l,0≤x):jO l=jO []↔l=[]:=by
 constructor
 ·intro e;cases l with
  |nil=>rfl
  |cons a l=>
   have ha:=h a (by simp);have:=congrArg (fun z=>z[0]?) e;simp [jO] at this;omega
 ·rintro rfl;rfl
theorem Oe{l:List Int}(h:∀x∈l,0≤x∧x < 8):uv (jO l):=by
 have g:∀j:Nat, -1≤l[j]?.getD (-1)∧l[j]?.getD (-1) < 8:=fun j=>by
  rcases Nat.lt_or_ge j l.length with hj |hj
  ·have:=h _ (List.getElem_mem hj);rw [List.getElem?_eq_getElem hj,Option.getD_some];omega
  ·rw [List.getElem?_eq_none hj,Option.getD_none];omega
 refine⟨rfl,fun n hn=>?_⟩;simp only [jO,List.mem_cons,List.not_mem_nil,or_false] at hn;rcases hn with rfl |rfl |rfl |rfl |rfl
 ·exact g 0
 ·exact g 1
 ·exact g 2
 ·exact g 3
 ·exact g 4
theorem Iw(hk:50≤k){t:aV}{q:List (List Int)}(f:Ie q)(hl:q.length=t.2.2.length):dZ k t (cu q) k ([],0)=some (dT q):=by
 have h3:=f.len
 have hb:=W.loop (f:=dZ k t (cu q)) (Q:=fun o=>o=dT q) (fun m y=>∃j:Nat,y.2=(j:Int)∧j≤q.length∧m=q.length - j∧y.1=((List.range j).filter fun i=>decide (q[i]?.getD []≠[])).map fun(i:Nat)=>(i:Int)) (by
  rintro aO m ⟨o,y⟩ ⟨j,hj,hle,hm,ho⟩ ih;simp only at hj ho;subst hj
  have hol:o.length≤j:=by
   rw [ho,List.length_map];refine Nat.le_trans (List.length_filter_le _ _) ?_;simp
  unfold dZ;dsimp only;refine W.ite (fun hlt=>?_) (fun hge=>W.ret ?_)
  ·have hj3:j < 3:=by omega
   have hf:=f.at j
   have hnil:bf (cu []) (j:Int)=some (jO []):=by
    have:=xH (q:=[]) hj3;simpa using this
   rw [dz (by omega),bs,xH hj3,bs,uQ hk,bs,hnil,bs,dz (by exact⟨Oe hf.2,Oe (l:=[]) (by simp)⟩),bs];have hp:=IN (l:=q[j]?.getD []) (fun x hx=>(hf.2 x hx).1);by_cases c:q[j]?.getD []=[]
   ·rw [if_neg (not_not_intro (hp.2 c)),bs,cy (by omega) (by omega),bs];refine ih (m - 1) (_,(j:Int)+1) (by omega) ⟨j+1,by show(j:Int)+1=((j+1:Nat):Int);omega,by omega,by omega,?_⟩;simp only;rw [List.range_succ,List.filter_append,List.map_append,←ho];simp [c]
   ·rw [if_pos (fun e=>c (hp.1 e)),dz (KQ (n:=3) (by omega) (by omega)),bs,bs,cy (by omega) (by omega),bs];refine ih (m - 1) (_,(j:Int)+1) (by omega) ⟨j+1,by show(j:Int)+1=((j+1:Nat):Int);omega,by omega,by omega,?_⟩;simp only;rw [List.range_succ,List.filter_append,List.map_append,←ho];simp [c]
  ·have:j=q.length:=by omega
   subst this;exact ho) q.length k ([],0) (by omega) ⟨0,rfl,by omega,by omega,by simp⟩
 obtain⟨o,eo,rfl⟩:=hb;exact eo
def tC(b:Option (List (List Int)×List Int)):(Bool×(List (List Int))×(List Int))×Bool:=match b with
 |none=>((false,[[0,0,0,0,0],[0,0,0,0,0],[0,0,0,0,0]],[]),false)
 |some (q,u)=>((true,cu q,u),false)
theorem BE(hk:k=3000){t:aV}(h:tV k t)(hs:jW k t)(ht:jF t=0){b:Option (List (List Int)×List Int)}(hb:∀q u,b=some (q,u)→u∈P8){q:List (List Int)}(hq:gi t q):
 lu (fun(y9:Bool×(List (List Int))×(List Int)) (p11:(List (List Int)))=>
  ((dZ k t p11 k (([]:(List Int)),(0:Int))):Option ((List Int))).bind fun x14=>
  ((if y9.1=true then(if(y9.2.2.length:Int) < (x14.length:Int) then(some (x14,true)) else(if(x14.length:Int)=(y9.2.2.length:Int) then((dt k x14 y9.2.2).bind fun r30=>
  some (x14,decide ((0:Int)≤r30))) else(some (x14,false)))) else(some (x14,false))):Option ((List Int)×Bool)).bind fun x28=>
  if x28.2=true then(some ((y9.1,y9.2.1,y9.2.2),true)) else((bH k t p11).bind fun r31=>
  if r31=(0:Int) then(some ((true,p11,x28.1),true)) else(some ((y9.1,y9.2.1,y9.2.2),true)))) (tC b) (cu q)=some (tC (nY t b q),true):=by
 have hu:=Iw (k:=k) (by omega) hq.fit hq.len
 have hl:=zA h hs ht hq
 have hm:=(lj hq.fit.len).1
 cases b with
 |none=>
  show(Option.bind (Option.bind (dZ k t (cu q) k ([],0)) _) _:Option _)=_;rw [hu,bs];dsimp only;rw [iF,bs,iF,hl,bs];unfold nY;by_cases c:di t q=0
  ·rw [if_pos (show(di t q:Int)=0 by omega),bs];simp only [c,if_true];rfl
  ·rw [if_neg (show¬(di t q:Int)=0 by omega),bs];simp only [c,if_false];rfl
 |some b=>
  obtain⟨p,v⟩:=b;have hv:=hb p v rfl;show(Option.bind (Option.bind (dZ k t (cu q) k ([],0)) _) _:Option _)=_;rw [hu,bs];dsimp only;rw [iT]
  have fin:∀s:Bool,(s=decide (rk v≤rk (dT q)))→((some (dT q,s):Option ((List Int)×Bool)).bind fun x28=>
   if x28.2=true then(some ((true,cu p,v),true)) else((bH k t (cu q)).bind fun r31=>
   if r31=(0:Int) then(some ((true,cu q,x28.1),true)) else(some ((true,cu p,v),true)))).bind (fun r=>some ((r.1, !r.2),r.2))=some (tC (nY t (some (p,v)) q),true):=by
   intro s hs';rw [bs];dsimp only;unfold nY;by_cases c:rk v≤rk (dT q)
   ·rw [hs',decide_eq_true c,iT,bs];simp only [c,if_true];rfl
   ·rw [hs',decide_eq_false c,iF,hl,bs];by_cases c2:di t q=0
    ·rw [if_pos (show(di t q:Int)=0 by omega),bs];simp only [c,c2,if_true,if_false];rfl
    ·rw [if_neg (show¬(di t q:Int)=0 by omega),bs];simp only [c,c2,if_false];rfl
  by_cases c1:v.length < (dT q).length
  ·rw [if_pos (show(v.length:Int) < ((dT q).length:Int) by omega)];exact fin true (decide_eq_true (Nat.le_of_lt ((sC hv hm).1 c1))).symm
  ·rw [if_neg (show¬(v.length:Int) < ((dT q).length:Int) by omega)];by_cases c2:(dT q).length=v.length
   ·obtain⟨c,ec,hc⟩:=MW hk hm hv c2;rw [if_pos (show((dT q).length:Int)=(v.length:Int) by omega),ec,bs];exact fin _ (decide_eq_decide.2 hc)
   ·rw [if_neg (show¬((dT q).length:Int)=(v.length:Int) by omega)];exact fin false (decide_eq_false (by have:=(sC hm hv).1 (by omega);omega)).symm
def JB(t:aV):Option (List (List Int)×List Int):=(kz t).foldl (nY t) none
theorem C3{t:aV}:Aw t (kz t) (JB t):=by
 have:=yb (t:=t) (kz t) [] none (fun q hq=>by cases hq);rw [List.nil_append] at this;exact this
theorem Ht{t:aV}{pre:List (List (List Int))}(hall:∀q∈pre,gi t q):∀p u,pre.foldl (nY t) none=some (p,u)→u∈P8∧p∈pre:=by
 intro p u e;have hf:=yb (t:=t) pre [] none (fun q hq=>by cases hq);rw [List.nil_append,e] at hf;obtain⟨h1,_,_,a,b,h3,_⟩:=hf;have hp:p∈pre:=by rw [h3];simp
 exact⟨by rw [h1];exact(lj (hall p hp).fit.len).1,hp⟩
theorem JA{t:aV}{pre:List (List (List Int))}(hall:∀q∈pre,gi t q):(if(tC (pre.foldl (nY t) none)).1.1=true then some (((List.range 3).map fun i=>((tC (pre.foldl (nY t) none)).1.2.1[i]?.getD []).filter fun x=>decide (0≤x)).take t.2.2.length,(tC (pre.foldl (nY t) none)).1.2.2) else none)=pre.foldl (nY t) none:=by
 have hb:=Ht hall;cases e:pre.foldl (nY t) none with
 |none=>rfl
 |some b=>
  obtain⟨p,u⟩:=b;have hp:=hall p (hb p u e).2;have f:=hp.fit;show(if true=true then some (((List.range 3).map fun i=>((cu p)[i]?.getD []).filter fun x=>decide (0≤x)).take t.2.2.length,u) else none)=_;rw [if_pos rfl]
  have e3:((List.range 3).map fun i=>((cu p)[i]?.getD []).filter fun x=>decide (0≤x))=[p[0]?.getD [],p[1]?.getD [],p[2]?.getD []]:=by
   show [((jO (p[0]?.getD [])).filter fun x=>decide (0≤x)),((jO (p[1]?.getD [])).filter fun x=>decide (0≤x)),((jO (p[2]?.getD [])).filter fun x=>decide (0≤x))]=_;rw [nq (f.fitL 0),nq (f.fitL 1),nq (f.fitL 2)]
  rw [e3,←hp.len];have hl3:=f.len;match p,hl3 with
  |[],_=>rfl
  |[a],_=>rfl
  |[a,b],_=>rfl
  |[a,b,c],_=>rfl
theorem Ny(hk:k=3000){t:aV}(h:tV k t)(hs:jW k t)(ht:jF t=0):qW k t=some (match JB t with |none=>([],[],11) |some (q,u)=>(u,q,0)):=by
 have g:=nB ht;unfold qW;rw [s8 hs,bs,ht,if_neg (not_not_intro rfl)]
 have:=tp (k:=k) h g (f:=fun s q=>tC (nY t (if s.1.1=true then some (((List.range 3).map fun i=>(s.1.2.1[i]?.getD []).filter fun x=>decide (0≤x)).take t.2.2.length,s.1.2.2) else none) q)) (P:=fun pre s=>s=tC (pre.foldl (nY t) none)∧(∀q∈pre,gi t q)) (Y:=lu (fun(y9:Bool×(List (List Int))×(List Int)) (p11:(List (List Int)))=>
  ((dZ k t p11 k (([]:(List Int)),(0:Int))):Option ((List Int))).bind fun x14=>
  ((if y9.1=true then(if(y9.2.2.length:Int) < (x14.length:Int) then(some (x14,true)) else(if(x14.length:Int)=(y9.2.2.length:Int) then((dt k x14 y9.2.2).bind fun r30=>
  some (x14,decide ((0:Int)≤r30))) else(some (x14,false)))) else(some (x14,false))):Option ((List Int)×Bool)).bind fun x28=>
  if x28.2=true then(some ((y9.1,y9.2.1,y9.2.2),true)) else((bH k t p11).bind fun r31=>
  if r31=(0:Int) then(some ((true,p11,x28.1),true)) else(some ((y9.1,y9.2.1,y9.2.2),true))))) (by
  rintro pre s q hq hl ⟨rfl,hall⟩;have hb:=Ht hall;have hst:=JA (t:=t) hall;exact⟨by rw [hst];exact BE hk h hs ht (fun p u e=>(hb p u e).1) hq,by rw [hst,List.foldl_append];rfl,fun y hy=>(List.mem_append.1 hy).elim (fun hy=>hall y hy) fun hy=>(List.mem_singleton.1 hy).symm▸hq⟩) (s:=((false,[[0,0,0,0,0],[0,0,0,0,0],[0,0,0,0,0]],[]),false)) ⟨rfl,fun q hq=>by cases hq⟩
 obtain⟨h1,h2,h3⟩:=this;rw [h1,bs,h2];have hf:=C3 (t:=t);unfold JB at *;cases e:(kz t).foldl (nY t) none with
 |none=>exact if_neg (by decide)
 |some b=>
  obtain⟨q,u⟩:=b;rw [e] at hf;obtain⟨_,_,_,p,s,h4,_⟩:=hf;have hq:=jr g (q:=q) (by rw [h4];simp);show(if false=true then none else if¬(true=true) then _ else(dk k (t,()) (cu q)).bind fun r32=>some (u,r32,0):Option _)=some (u,q,0);rw [iF,nT,zz h.k0 hq.fit hq.len,bs]
def eI(t:aV)(l:List Int):aV:=(t.1,t.2.1,t.2.2.mapIdx fun i n=>if(i:Int)∈l then n else 0)
theorem rA{l:List Int}(h:l.length≤1000000):iz k l=some l:=by
 unfold iz;rw [dz (Qx (by simp only [List.length_nil];omega)),bs];rfl
theorem xK{t:aV}(hk1:k≤1000000)(h1:t.2.1.length < k)(h2:t.2.2.length≤1000000)(hw:∀x∈t.2.1,x.2.length≤1000000):jC k t=some t:=by
 unfold jC;rw [rA h2,bs]
 have hb:=W.loop (f:=fm k t) (Q:=fun o=>o=t.2.1) (fun m y=>∃j:Nat,y.2=(j:Int)∧j≤t.2.1.length∧m=t.2.1.length - j∧y.1=t.2.1.take j) (by
  rintro aO m ⟨o,y⟩ ⟨j,hj,hle,hm,ho⟩ ih;simp only at hj ho;subst hj ho;unfold fm;dsimp only;refine W.ite (fun hlt=>?_) (fun hge=>W.ret ?_)
  ·have hj:j < t.2.1.length:=by omega
   rw [dD hj,bs,bs,rA (hw _ (List.getElem_mem hj)),bs,dz (Qx (by simp only [List.length_take,List.length_cons,List.length_nil];omega)),bs,cy (by omega) (by omega),bs];refine ih (m - 1) (_,(j:Int)+1) (by omega) ⟨j+1,by show(j:Int)+1=((j+1:Nat):Int);omega,by omega,by omega,?_⟩;rw [List.take_add_one,List.getElem?_eq_getElem hj];rfl
  ·rw [List.take_of_length_le (by omega)]) t.2.1.length k ([],0) h1 ⟨0,rfl,by omega,by omega,by simp⟩
 obtain⟨o,eo,rfl⟩:=hb;rw [eo,bs]
theorem CJ(hk:50≤k)(hk1:k≤1000000){t:aV}{r12:List (List Int)}{y14:Int}{l:List Int}(hg:bf r12 y14=some l)(hl:l.length≤8)(hN:t.2.2.length≤8):
 d6 k r12 y14 k (t.2.2,0)=some (eI t l).2.2:=by
 have hb:=W.loop (f:=d6 k r12 y14) (Q:=fun o=>o=(eI t l).2.2) (fun m y=>∃j:Nat,y.2=(j:Int)∧j≤t.2.2.length∧m=t.2.2.length - j∧y.1=t.2.2.mapIdx fun i n=>if i < j∧¬(i:Int)∈l then 0 else n) (by
  rintro aO m ⟨o,y⟩ ⟨j,hj,hle,hm,ho⟩ ih;simp only at hj ho;subst hj;have hol:o.length=t.2.2.length:=by rw [ho,List.length_mapIdx]
  unfold d6;dsimp only;refine W.ite (fun hlt=>?_) (fun hge=>W.ret ?_)
  ·have hj:j < o.length:=by omega
   rw [hg,bs,P4 (by omega) hk1,bs];by_cases c:(j:Int)∈l
   ·rw [if_neg (show¬zJ l (j:Int) < 0 by have:=xP.2 c;omega),bs,cy (by omega) (by omega),bs];refine ih (m - 1) (_,(j:Int)+1) (by omega) ⟨j+1,by show(j:Int)+1=((j+1:Nat):Int);omega,by omega,by omega,?_⟩;simp only;rw [ho];refine List.ext_getElem (by simp) fun i h1 h2=>?_;simp only [List.getElem_mapIdx];by_cases e:i=j
    ·subst e;simp [c]
    ·have:(i < j+1)↔(i < j):=by omega
     simp only [this]
   ·rw [if_pos (show zJ l (j:Int) < 0 by have:=mt xP.1 c;omega),dD hj,bs,bs,cy (by omega) (by omega),bs];refine ih (m - 1) (_,(j:Int)+1) (by omega) ⟨j+1,by show(j:Int)+1=((j+1:Nat):Int);omega,by omega,by omega,?_⟩;show List.set o j 0=_;rw [ho];refine List.ext_getElem (by simp) fun i h1 h2=>?_;rw [List.getElem_set];simp only [List.getElem_mapIdx];by_cases e:j=i
    ·subst e;simp [c]
    ·have:(i < j+1)↔(i < j):=by omega
     simp only [e,this,if_false]
  ·have:j=t.2.2.length:=by omega
   subst this;rw [ho];refine List.ext_getElem (by simp [eI]) fun i h1 h2=>?_;simp only [List.length_mapIdx] at h1;simp only [eI,List.getElem_mapIdx,h1,true_and];by_cases c:(i:Int)∈l <;> simp [c]) t.2.2.length k (t.2.2,0) (by omega) ⟨0,rfl,by omega,by omega,(List.ext_getElem (by simp) fun i h1 h2=>by simp)⟩
 obtain⟨o,eo,rfl⟩:=hb
 exact eo
theorem py{t:aV}{l:List Int}{q:List (List Int)}:di (eI t l) q=di t q:=by
 have hr:∀(n:Nat) (d:Int) (r:List Int),ox (eI t l) n d r=ox t n d r:=by
  intro n
  induction n with
  |zero=>intro d r;rfl
  |succ n ih=>intro d r;rw [ox,ox,ih];rfl
 unfold di ug;show(q.map (ox (eI t l) t.1.toNat 0)).sum=_;rw [show(ox (eI t l) t.1.toNat 0)=ox t t.1.toNat 0 from funext fun r=>hr _ _ r]
theorem sw{t:aV}{l:List Int}{r:List Int}:cP (eI t l) r=cP t r:=by
 induction r with
 |nil=>rfl
 |cons x r ih=>simp only [cP,ih];rfl
theorem FH{t:aV}(g:jG t){r:List Int}(hr:∀x∈r,0≤x∧x < (t.2.1.length:Int))(h:cP t r≤0):r=[]:=by
 cases r with
 |nil=>rfl
 |cons x r=>
  obtain⟨y,_,hy,e⟩:=yL (t:=t) (hr x (by simp)).1 (hr x (by simp)).2;have h1:=g.sizes y hy;have h2:=(mS g (l:=r)).1;simp only [cP] at h;omega
theorem ED{t:aV}(g:jG t){l:List Int}{q:List (List Int)}(hq:q∈J2 t.2.1.length t.2.2.length):pW (eI t l) q=true↔pW t q=true∧∀x∈dT q,x∈l:=by
 obtain⟨a,b,_⟩:=Db hq;rw [iP,iP]
 have hroom:∀i,i < q.length→(eI t l).2.2[i]?.getD 0=if(i:Int)∈l then t.2.2[i]?.getD 0 else 0:=fun i hi=>by
  simp only [eI,List.getElem?_mapIdx,List.getElem?_eq_getElem (show i < t.2.2.length by omega),Option.map_some,Option.getD_some]
 have hrow:∀i,i < q.length→∀x∈q[i]?.getD [],0≤x∧x < (t.2.1.length:Int):=fun i hi x hx=>by
  rw [List.getElem?_eq_getElem hi,Option.getD_some] at hx;exact b.rng x (List.mem_flatten.2 ⟨_,List.getElem_mem hi,hx⟩)
 have hr0:∀i,i < q.length→0≤t.2.2[i]?.getD 0:=fun i hi=>by
  rw [List.getElem?_eq_getElem (show i < t.2.2.length by omega),Option.getD_some];exact(g.rooms _ (List.getElem_mem _)).1
 constructor
 ·intro h;refine⟨fun i hi=>?_,fun x hx=>?_⟩
  ·have:=h i hi;rw [sw,hroom i hi] at this;have h0:=hr0 i hi;split at this <;> omega
  ·obtain⟨i,hi,rfl⟩:=List.mem_map.1 (show x∈((List.range q.length).filter fun i=>decide (q[i]?.getD []≠[])).map fun(i:Nat)=>(i:Int) from hx);obtain⟨h1,h2⟩:=List.mem_filter.1 hi;have hi':=List.mem_range.1 h1;have:=h i hi';rw [sw,hroom i hi'] at this;by_cases c:(i:Int)∈l
   ·exact c
   ·rw [if_neg c] at this;exact absurd (FH g (hrow i hi') this) (of_decide_eq_true h2)
 ·rintro⟨h1,h2⟩ i hi;rw [sw,hroom i hi];by_cases c:(i:Int)∈l
  ·rw [if_pos c];exact h1 i hi
  ·rw [if_neg c]
   have:q[i]?.getD []=[]:=by
    by_cases c2:q[i]?.getD []=[]
    ·exact c2
    ·exact absurd (h2 _ (GN.2 c2)) c
   rw [this];simp [cP]
theorem vt{t:aV}(g:jG t){l:List Int}:kz (eI t l)=(kz t).filter fun q=>decide (∀x∈dT q,x∈l):=by
 have hN:(eI t l).2.2.length=t.2.2.length:=by simp [eI]
 unfold kz;rw [hN,List.filter_filter];refine List.filter_congr fun q hq=>?_;have:=ED g (l:=l) hq;rw [Bool.eq_iff_iff,Bool.and_eq_true,decide_eq_true_eq,this];exact And.comm
theorem zE{t:aV}{a b:Int}(h:Ar t a b){l:List Int}:Ar (eI t l) a b:=
 ⟨h.days,h.things,h.item,by simp only [eI,List.length_mapIdx];exact h.trunks,fun n hn=>by
  obtain⟨i,hi,rfl⟩:=List.mem_mapIdx.1 hn
  have:=h.rooms _ (List.getElem_mem hi)
  split <;> omega⟩
def ub(t:aV)(l:List Int):Prop:=∃q∈kz t,di t q=0∧∀x∈dT q,x∈l
theorem wT{t:aV}(g:jG t){l:List Int}:(ub t l↔∃q,rN (eI t l)=some (q,0)):=by
 have hb:=rM (t:=eI t l);have hmem:∀q,q∈kz (eI t l)↔q∈kz t∧∀x∈dT q,x∈l:=fun q=>by rw [vt g,List.mem_filter,decide_eq_true_eq]
 constructor
 ·rintro⟨q,hq,hl,hu⟩;have hm:=(hmem q).2 ⟨hq,hu⟩;cases e:rN (eI t l) with
  |none=>rw [e] at hb;have hb:kz (eI t l)=[]:=hb;rw [hb] at hm;cases hm
  |some b=>
   obtain⟨p,n⟩:=b;rw [e] at hb;have:=hb.2.1 q hm;rw [py,hl] at this;have:n=0:=by omega
   subst this;exact⟨p,rfl⟩
 ·rintro⟨q,e⟩;rw [e] at hb;obtain⟨h1,_,p,s,h3,_⟩:=hb;have hm:=(hmem q).1 (by rw [h3];simp);rw [py] at h1;exact⟨q,hm.1,h1.symm,hm.2⟩
theorem uT(hk:k=3000){r3:bK×cQ}{a b:Int}(hT:Ar r3.1 a b)(ha:a≤5)(hb:b≤3){r5:(List Int)×(List (List Int))×Int}{r12:List (List Int)}(h12:∀l∈r12,l.length≤8)(hlen:r12.length≤8)(hp:jd k=some true):
 ((∀l∈r12,¬ub r3.1 l)→bT k r3 r5 r12 k 0=some (.ok ()))∧
 ((∃p u s q,r12=p++u::s∧(∀l∈p,¬ub r3.1 l)∧rN (eI r3.1 u)=some (q,0)∧r5=(u,q,0))→bT k r3 r5 r12 k 0=some (.error true)):=by
 have hk50:50≤k:=by omega
 have hk1:k≤1000000:=by omega
 obtain⟨hs,hd⟩:=sS hT (by omega) (by omega) hk50 hk1
 have ht:jF r3.1=0:=hT.chk ha hb
 have g:=nB ht
 have h1:=hT.things
 have h2:=hT.trunks
 have hbest:∀l,jv k (eI r3.1 l)=some (match rN (eI r3.1 l) with |none=>([],0,11) |some (q,n)=>(q,(n:Int),0)):=fun l=>by
  have hT':=zE hT (l:=l);obtain⟨hs',hd'⟩:=sS hT' (by omega) (by omega) hk50 hk1;exact KC hd' hs' (by omega) (hT'.chk ha hb)
 have hcp:=xK (k:=k) hk1 (t:=r3.1) (by omega) (by omega) (fun x hx=>by have:=(hT.item x hx).2.2.1;omega)
 have no:∀(n j:Nat) (h:j < r12.length),¬ub r3.1 r12[j]→bT k r3 r5 r12 (n+1) (j:Int)=bT k r3 r5 r12 n ((j:Int)+1):=fun n j h hw=>by
  rw [bT,if_pos (Int.ofNat_lt.2 h),hcp,bs,CJ hk50 hk1 (dD h) (h12 _ (List.getElem_mem h)) (by omega),bs,show jv k (r3.1.1,r3.1.2.1,(eI r3.1 r12[j]).2.2)=_ from hbest r12[j],bs];cases e:rN (eI r3.1 r12[j]) with
  |none=>
   dsimp only;rw [if_neg (by decide),bs,iF,if_pos (by decide),decide_eq_true (show(11:Int)=11 from rfl),Bool.not_true,bs,iF,oa,cy (by omega) (by omega),bs]
  |some b=>
   obtain⟨q,m⟩:=b;have hm:m≠0:=fun e0=>hw ((wT g).2 ⟨q,by rw [e,e0]⟩);dsimp only;rw [if_pos rfl,decide_eq_false (show¬(m:Int)=0 by omega),bs,iF,if_neg (not_not_intro rfl),bs,iF,oa,cy (by omega) (by omega),bs]
 constructor
 ·
  intro hw
  have:∀(d j n:Nat),j+d=r12.length→d < n→bT k r3 r5 r12 n (j:Int)=some (.ok ()):=by
   intro d
   induction d with
   |zero=>
    intro j n hj hn;obtain⟨n,rfl⟩:∃n',n=n'+1:=⟨n - 1,by omega⟩;rw [bT,if_neg (by omega)]
   |succ d ih=>
    intro j n hj hn;obtain⟨n,rfl⟩:∃n',n=n'+1:=⟨n - 1,by omega⟩;rw [no n j (by omega) (hw _ (List.getElem_mem _)),show(j:Int)+1=((j+1:Nat):Int) by omega];exact ih (j+1) n (by omega) (by omega)
  exact this r12.length 0 k (by omega) (by omega)
 ·
  rintro⟨p,u,s,q,e,hpw,hu,e5⟩;have hpl:p.length < r12.length:=by rw [e];simp
  have hat:r12[p.length]=u:=by simp [e]
  have:∀(d j n:Nat),j+d=p.length→d < n→bT k r3 r5 r12 n (j:Int)=some (.error true):=by
   intro d
   induction d with
   |zero=>
    intro j n hj hn;obtain⟨n,rfl⟩:∃n',n=n'+1:=⟨n - 1,by omega⟩;have:j=p.length:=by omega
    subst this;have hul:=h12 u (by rw [e];simp);have hT':=zE hT (l:=u);have hbq:=rM (t:=eI r3.1 u);rw [hu] at hbq;obtain⟨_,_,p',s',h3,_⟩:=hbq;have gq:=jr (nB (hT'.chk ha hb)) (q:=q) (by rw [h3];simp);have fq:=gq.fit
    have hsame:fH k q q=some true:=by
     unfold fH;rw [if_neg (by simp)]
     have hb:=W.loop (f:=eR k q q) (Q:=fun o=>o= .ok ()) (fun m y=>∃j:Nat,y=(j:Int)∧j≤q.length∧m=q.length - j) (by
      rintro aO m y ⟨j,hj,hle,hm⟩ ih;subst hj;unfold eR;refine W.ite (fun hlt=>?_) (fun hge=>W.ret rfl);have hj:j < q.length:=by omega
      have h5:=(fq.fit _ (List.getElem_mem hj)).1;have h3:=fq.len;have hs:dK k q[j] q[j]=some true:=by rw [tl (by omega) (by omega)];simp
      rw [dD hj,bs,bs,hs,bs,nT,cy (by omega) (by omega),bs];exact ih (m - 1) _ (by omega) ⟨j+1,by omega,by omega,by omega⟩) q.length k 0 (by have:=fq.len;omega) ⟨0,rfl,by omega,by omega⟩
     obtain⟨o,eo,rfl⟩:=hb;rw [eo,oa]
    have hsi:dK k u u=some true:=by rw [tl (by omega) (by omega)];simp
    rw [bT,if_pos (Int.ofNat_lt.2 hpl),hcp,bs,CJ hk50 hk1 (dD hpl) (h12 _ (List.getElem_mem hpl)) (by omega),bs,show jv k (r3.1.1,r3.1.2.1,(eI r3.1 r12[p.length]).2.2)=_ from hbest r12[p.length],bs,dD hpl,hat,hu,e5];dsimp only;rw [if_pos rfl,decide_eq_true (show((0:Nat):Int)=0 from rfl),bs,iT,bs,hsi,bs,iT,hsame,bs,iT,hp,bs,if_pos rfl,bs,tR]
   |succ d ih=>
    intro j n hj hn;obtain⟨n,rfl⟩:∃n',n=n'+1:=⟨n - 1,by omega⟩;have hj':j < r12.length:=by omega
    have hjp:r12[j]∈p:=by
     have:r12[j]=p[j]'(by omega):=by simp only [e];exact List.getElem_append_left (by omega)
     rw [this];exact List.getElem_mem _
    rw [no n j hj' (hpw _ hjp),show(j:Int)+1=((j+1:Nat):Int) by omega];exact ih (j+1) n (by omega) (by omega)
  exact this p.length 0 k (by omega) (by omega)
theorem uE{N m:Nat}{l:List Int}(h:l∈IK N m):l∈P8∧l.length=m:=by
 obtain⟨a,b⟩:=List.mem_filter.1 h;simp only [Bool.and_eq_true,decide_eq_true_eq] at b;exact⟨a,b.1⟩
theorem BU:∀l∈P8,l.length≤8:=by decide
theorem A6{N m:Nat}:(IK N m).length≤8:=Nat.le_trans (List.length_filter_le _ _) (by decide)
theorem vE(hk:k=3000)(hp:jd k=some true)(a0:List Int):kM k a0=some true:=by
 have hk50:50≤k:=by omega
 have hk1:k≤1000000:=by omega
 unfold kM;rw [show mb k a0=some (a0,0,1) from rfl,bs];obtain⟨r3,e3,hT,_⟩:=IA hk50 (l:=(a0,0,1)) (m:=0) ⟨by simp,by simp⟩ (by decide) (a:=4) (b:=3) (by decide) (by decide);obtain⟨hs,hd⟩:=sS hT (by decide) (by decide) hk50 hk1;have ht:jF r3.1=0:=hT.chk (by decide) (by decide);have g:=nB ht;have h2:=hT.trunks;have hN:r3.1.2.2.length≤3:=by omega
 rw [show jQ k (a0,0,1) 4 3=some r3 from e3,bs,Ny hk hd hs ht,bs];have hf:=C3 (t:=r3.1);cases e:JB r3.1 with
 |none=>
  rw [e] at hf;have hno:∀l,¬ub r3.1 l:=fun l ⟨q,hq,h0,_⟩=>hf q hq h0;dsimp only
  have hb:=W.loop (f:=du k r3 ([],[],11)) (Q:=fun o=>o= .ok ()) (fun m y=>∃j:Nat,y=(j:Int)∧j≤r3.1.2.2.length+1∧m=r3.1.2.2.length+1 - j) (by
   rintro aO m y ⟨j,hj,hle,hm⟩ ih;subst hj;unfold du;refine W.ite (fun hlt=>?_) (fun hge=>W.ret rfl);obtain⟨pk1,_⟩:=yV hk hN (m:=j) (by omega);rw [pk1,bs,(uT hk hT (by decide) (by decide) (fun l hl=>BU l (uE hl).1) A6 hp).1 (fun l _=>hno l),oa,cy (by omega) (by omega),bs];exact ih (m - 1) _ (by omega) ⟨j+1,by omega,by omega,by omega⟩) (r3.1.2.2.length+1) k 0 (by omega) ⟨0,rfl,by omega,by omega⟩
  obtain⟨o,eo,rfl⟩:=hb;rw [eo,oa];rw [if_pos rfl,show ck ((([]:List Int).length:Int)+(([]:List (List Int)).length:Int))=some 0 from cy (by decide) (by decide),bs,if_pos rfl,hp,bs,bs]
 |some b=>
  obtain⟨q,u⟩:=b;rw [e] at hf;obtain⟨f1,f2,f3,p,s,f4,f5⟩:=hf;have hqm:q∈kz r3.1:=by rw [f4];simp
  have hql:=(jr g hqm).len;have huP:=(lj (q:=q) (by omega)).1
  have hmin:∀l∈P8,ub r3.1 l→rk u≤rk l:=fun l hl ⟨y,hy,h0,hsub⟩=>by
   have hyl:=(jr g hy).len;exact Nat.le_trans (f3 y hy h0) ((sC (lj (q:=y) (by omega)).1 hl).2 hsub)
  have hbq:rN (eI r3.1 u)=some (q,0):=by
   obtain⟨q',hq'⟩:=(wT g (l:=u)).1 ⟨q,hqm,f2,by rw [f1];exact fun x hx=>hx⟩;have hb:=rM (t:=eI r3.1 u);rw [hq'] at hb;obtain⟨g1,_,p',s',g3,g4⟩:=hb;rw [py] at g1
   have hm':q'∈kz r3.1∧∀x∈dT q',x∈u:=by
    have:q'∈kz (eI r3.1 u):=by rw [g3];simp
    rw [vt g,List.mem_filter,decide_eq_true_eq] at this;exact this
   have hyl:=(jr g hm'.1).len;have hu':=(lj (q:=q') (by omega)).1;have hrk:rk (dT q')=rk u:=Nat.le_antisymm (by rw [f1];exact(sC hu' huP).2 (by rw [←f1];exact hm'.2)) (f3 q' hm'.1 g1.symm);have h3:(kz r3.1).filter (fun q=>decide (∀x∈dT q,x∈u))=p'++q'::s':=by rw [←vt g];exact g3
   have:q'=q:=by
    rw [f4,List.filter_append,List.filter_cons_of_pos (by simp only [decide_eq_true_eq];rw [f1];exact fun x hx=>hx)] at h3
    have hp0:∀y∈p',di r3.1 y≠0:=fun y hy e0=>by
     have:=g4 y hy;rw [py,e0] at this;omega
    have hpp:∀y∈p.filter (fun q=>decide (∀x∈dT q,x∈u)),di r3.1 y≠0:=fun y hy e0=>by
     obtain⟨y1,y2⟩:=List.mem_filter.1 hy;have ym:y∈kz r3.1:=by rw [f4];simp [y1]
     have yl:=(jr g ym).len;have:=f5 y y1 e0;have:=(sC (lj (q:=y) (by omega)).1 huP).2 (by rw [←f1];exact of_decide_eq_true y2);rw [←f1] at this;omega
    have first:∀(a b:List (List (List Int))) (x y:List (List Int)) (c d:List (List (List Int))),a++x::c=b++y::d→(∀z∈a,di r3.1 z≠0)→(∀z∈b,di r3.1 z≠0)→di r3.1 x=0→di r3.1 y=0→x=y:=by
     intro a
     induction a with
     |nil=>
      intro b x y c d e _ hb hx _;cases b with
      |nil=>exact(List.cons.inj e).1
      |cons z b=>
       have:=(List.cons.inj e).1;subst this;exact absurd hx (hb _ (by simp))
     |cons z a ih=>
      intro b x y c d e ha hb hx hy;cases b with
      |nil=>
       have:=(List.cons.inj e).1;subst this;exact absurd hy (ha _ (by simp))
      |cons z' b=>
       exact ih b x y c d (List.cons.inj e).2 (fun w hw=>ha w (by simp [hw])) (fun w hw=>hb w (by simp [hw])) hx hy
    exact(first _ _ _ _ _ _ h3 hpp hp0 f2 g1.symm).symm
   rw [hq',this]
  dsimp only
  have hul:u.length≤r3.1.2.2.length:=by
   have:u∈IK r3.1.2.2.length u.length:=by rw [f1,←hql];exact B0 (by omega)
   have hall:=(List.mem_filter.1 this).2;have key:∀N:Nat,N≤3→∀l∈P8,(l.all fun x=>decide (x < (N:Int)))=true→l.length≤N:=by decide
   simp only [Bool.and_eq_true] at hall;exact key _ hN u (by rw [f1];exact huP) hall.2
  have hb:=W.loop (f:=du k r3 (u,q,0)) (Q:=fun o=>o= .error true) (fun m y=>∃j:Nat,y=(j:Int)∧j≤u.length∧m=u.length - j) (by
   rintro aO m y ⟨j,hj,hle,hm⟩ ih;subst hj;unfold du;rw [if_pos (show(j:Int)≤(r3.1.2.2.length:Int) by omega)];obtain⟨pk1,pk2⟩:=yV hk hN (m:=j) (by omega);rw [pk1,bs];by_cases c:j=u.length
   ·subst c
    have hu:u∈IK r3.1.2.2.length u.length:=by
     have:=B0 (q:=q) (by omega);rw [hql,←f1] at this;exact this
    obtain⟨a,b,eab⟩:=List.append_of_mem hu
    have hpre:∀l∈a,¬ub r3.1 l:=fun l hl hw=>by
     have hlP:=(uE (N:=r3.1.2.2.length) (m:=u.length) (l:=l) (by rw [eab];simp [hl])).1;have:=hmin l hlP hw;rw [eab] at pk2;have:=(List.pairwise_append.1 pk2).2.2 l hl u (by simp);omega
    rw [(uT hk hT (by decide) (by decide) (fun l hl=>BU l (uE hl).1) A6 hp).2 ⟨a,u,b,q,eab,hpre,hbq,rfl⟩,tR];exact W.ret rfl
   ·rw [(uT hk hT (by decide) (by decide) (fun l hl=>BU l (uE hl).1) A6 hp).1 (fun l hl hw=>by
     obtain⟨h1,h3⟩:=uE hl;have:=hmin l h1 hw;have:=(sC h1 (by rw [f1];exact huP:u∈P8)).1 (by omega);omega),oa,cy (by omega) (by omega),bs]
    exact ih (m - 1) _ (by omega) ⟨j+1,by omega,by omega,by omega⟩) u.length k 0 (by omega) ⟨0,rfl,by omega,by omega⟩
  obtain⟨o,eo,rfl⟩:=hb;rw [eo,tR]
end
end Go.Proofs.YtcnpijmfgfnpiaaGreatDoor
