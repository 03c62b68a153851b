import Derived.Test.YtmeojbemjkmebaaGreatDoorRDB12
set_option linter.unusedVariables false
set_option linter.unusedSimpArgs false
namespace Go.Proofs.YtmeojbemjkmebaaGreatDoor
open K Go Go.Proofs
section
variable {k:Nat}
theorem GT{t:aW}(h:mE k t){x:Int}(hx:0≤x∧x < (t.2.1.length:Int)){d:Int}:py k t x d=some (nY t d x):=by
 obtain⟨n,rfl⟩:∃n:Nat,x=(n:Int):=⟨x.toNat,by omega⟩;have hn:n < t.2.1.length:=by omega
 unfold py;rw [cD hn,bs,Dc (h.worn _ (List.getElem_mem hn)) h.k1,bs];congr 1;unfold nY;rw [Int.toNat_natCast,List.getElem?_eq_getElem hn]
theorem Gi{t:aW}(h:mE k t){d:Int}{l:List Int}(hl9:l.length≤1000)(hx:∀x∈l,0≤x∧x < (t.2.1.length:Int)):∀(m pre:List Int) (n:Nat) (lf rs tp:List Int),l=pre++m→m.length < n→lf.length+rs.length+tp.length+2 * m.length≤10000→
 jJ k t l d n (lf,rs,tp,(pre.length:Int))=some (lf++dq (nY t d) (decide (0 < tp.length)) m,rs++m.filter (fun x=> !nY t d x),tp++m.filter (nY t d)):=by
 intro m
 induction m with
 |nil=>
  intro pre n lf rs tp e hn _;obtain⟨n,rfl⟩:∃n',n=n'+1:=⟨n - 1,by omega⟩;rw [jJ];dsimp only;rw [if_neg (by rw [e];simp)];simp [dq]
 |cons x m ih=>
  intro pre n lf rs tp e hn hb;simp only [List.length_cons] at hn hb;obtain⟨n,rfl⟩:∃n',n=n'+1:=⟨n - 1,by omega⟩;have hp:pre.length < l.length:=by rw [e];simp
  have hg:aQ l (pre.length:Int)=some x:=by rw [cD hp];simp [e]
  have hxl:=hx x (by rw [e];simp);have ep:(pre.length:Int)+1=((pre++[x]).length:Int):=by simp
  rw [jJ];dsimp only;rw [if_pos (by omega),hg,bs,GT h hxl,bs];cases c:nY t d x with
  |true=>
   rw [iT,bs,bR (zr (n:=10000) (by omega) (by omega)),bs,bs];dsimp only;rw [bh (by omega) (by omega),bs,ep,ih (pre++[x]) n lf rs (tp++[x]) (by simp [e]) (by omega) (by simp only [List.length_append,List.length_cons,List.length_nil];omega)];simp [dq,c]
  |false=>
   rw [iF,bs,bR (zr (n:=10000) (by omega) (by omega)),bs];by_cases c2:0 < tp.length
   ·rw [if_pos (by omega),bs,bR (zr (n:=10000) (by omega) (by omega)),bs,bs];dsimp only;rw [bh (by omega) (by omega),bs,ep,ih (pre++[x]) n (lf++[x]) (rs++[x]) tp (by simp [e]) (by omega) (by simp only [List.length_append,List.length_cons,List.length_nil];omega)];simp [dq,c,c2]
   ·rw [if_neg (by omega),bs];dsimp only;rw [bh (by omega) (by omega),bs,ep,ih (pre++[x]) n lf (rs++[x]) tp (by simp [e]) (by omega) (by simp only [List.length_append,List.length_cons,List.length_nil];omega)];simp [dq,c,c2]
theorem LM{t:aW}(h:mE k t){d:Int}{l:List Int}(hl:l.length < k)(hl9:l.length≤1000)(hx:∀x∈l,0≤x∧x < (t.2.1.length:Int)):su k t l d=some (dq (nY t d) false l,GN (nY t d) l):=by
 unfold su;have e:=Gi h (d:=d) hl9 hx l [] k [] [] [] rfl hl (by simp only [List.length_nil];omega);rw [show((0:Int))=(([]:List Int).length:Int) from rfl,e,bs];have h1:=List.length_filter_le (fun x=> !nY t d x) l;have h2:=List.length_filter_le (nY t d) l;dsimp only;rw [bR (BF (by simp only [List.nil_append];omega)),bs];rfl
theorem Gq{o:List Int}{L L':Nat→Bool}(h:∀i,i < o.length→L i=true→L' i=false):gP (gP o L) L'=gP o (fun i=>L i || L' i):=by
 refine List.ext_getElem (by simp [gP]) fun j h1 h2=>?_;simp only [gP,List.length_mapIdx] at h1;simp only [gP,List.getElem_mapIdx];have:=h j h1;by_cases c:L j=true
 ·simp [c,this c]
 ·simp [c]
theorem EF{o:List Int}{L:Nat→Bool}{m:Int}(h:∀v∈o,0≤v∧v≤m):∀v∈gP o L,0≤v∧v≤m+1:=fun v hv=>by
 unfold gP at hv
 obtain⟨i,hi,rfl⟩:=List.mem_mapIdx.1 hv
 have:=h _ (List.getElem_mem hi)
 split <;> omega
theorem Hq{r:(List Int)×(List Int)}(hn:r.1.Nodup){o:List Int}(hr:∀x∈r.1,0≤x∧x < (o.length:Int))(h8:r.1.length < k)(h9:r.1.length≤1000)(hv:∀v∈o,0≤v∧v≤1000):
 iR k r k (o,0)=some (gP o (fun i=>decide ((i:Int)∈r.1))):=by
 have hall:∀x∈r.1,∃i:Nat,x=(i:Int)∧i < o.length:=fun x hx=>⟨x.toNat,by have:=hr x hx;omega,by have:=hr x hx;omega⟩
 have hb:=W.loop (f:=iR k r) (Q:=fun z=>z=gP o (fun i=>decide ((i:Int)∈r.1))) (fun qq z=>∃j:Nat,z.2=(j:Int)∧j≤r.1.length∧qq=r.1.length - j∧z.1=gP o (fun i=>decide ((i:Int)∈r.1.take j))) (by
  rintro aS qq ⟨c,z⟩ ⟨j,hj,hle,hq,hc⟩ ih;simp only at hj hc;subst hj hc;unfold iR;dsimp only;refine W.ite (fun hlt=>?_) (fun hge=>W.ret ?_)
  ·have hj:j < r.1.length:=by omega
   obtain⟨i,ei,hi⟩:=hall _ (List.getElem_mem hj);have hvi:=hv _ (List.getElem_mem hi)
   have hno:¬(i:Int)∈r.1.take j:=fun hm=>by
    obtain⟨a,ha,e⟩:=List.getElem_of_mem hm;rw [List.getElem_take] at e;rw [List.length_take] at ha;have:=(List.getElem_inj hn).1 (e.trans ei.symm);omega
   rw [cD hj,bs,bs,ei,Js hi (by exact decide_eq_false hno),bs,bh (by omega) (by omega),bs,bs,bh (by omega) (by omega),bs];refine ih (qq - 1) (_,(j:Int)+1) (by omega) ⟨j+1,by show(j:Int)+1=((j+1:Nat):Int);omega,by omega,by omega,?_⟩;show List.set (gP _ _) i _=_;rw [Jr hi];refine wy fun a _=>?_;rw [List.take_add_one,List.getElem?_eq_getElem hj,ei];simp only [Option.toList_some,List.mem_append,List.mem_cons,List.not_mem_nil,or_false];by_cases ea:a=i
   ·subst ea;simp
   ·have:¬(a:Int)=(i:Int):=by omega
    simp [ea,this]
  ·have:j=r.1.length:=by omega
   subst this;rw [List.take_of_length_le (Nat.le_refl _)]) r.1.length k (o,0) h8 ⟨0,rfl,by omega,by omega,by simp [ya]⟩
 obtain⟨o',eo,h⟩:=hb
 rw [eo,h]
def aftD(t:aW)(d:Int)(p:List (List Int)):Nat→List (List Int)
 |0=>p
 |n+1=>pU t (d+n) (aftD t d p n)
def qS(t:aW)(d:Int)(p:List (List Int)):Nat→List Int
 |0=>List.replicate t.2.1.length 0
 |n+1=>gP (qS t d p n) (Iz t (aftD t d p n) (d+n))
theorem eK.aftD{t:aW}{p:List (List Int)}(h:eK t p){d:Int}:∀n,eK t (aftD t d p n)
 |0=>h
 |n+1=>(h.aftD n).next
theorem uY{t:aW}{d:Int}{p:List (List Int)}:∀n,(qS t d p n).length=t.2.1.length∧∀v∈qS t d p n,0≤v∧v≤(n:Int)
 |0=>⟨by simp [qS],fun v hv=>by simp only [qS,List.mem_replicate] at hv;omega⟩
 |n+1=>by
  obtain⟨h1,h2⟩:=uY (t:=t) (d:=d) (p:=p) n
  refine⟨by rw [qS,wx,h1],fun v hv=>?_⟩
  have:=EF h2 v hv
  omega
theorem Gh{t:aW}(h:mE k t){q:List (List Int)}(hg:eK t q){y:(List Int)×(List (List Int))×Int}(hy:y.2.1=q){o:List Int}(ho:o.length=t.2.1.length)(hv:∀v∈o,0≤v∧v≤900):
 iS k t y k (o,[],0)=some (gP o (Iz t q y.2.2),pU t y.2.2 q):=by
 have hf:=hg.fit
 have hk:=h.k0
 have hk1:=h.k1
 have hlen:=hf.len
 subst hy
 have hb:=W.loop (f:=iS k t y) (Q:=fun z=>z=(gP o (Iz t y.2.1 y.2.2),pU t y.2.2 y.2.1)) (fun qq z=>∃j:Nat,z.2.2=(j:Int)∧j≤y.2.1.length∧qq=y.2.1.length - j∧z.1=gP o (fun i=>decide (∃l∈y.2.1.take j,(i:Int)∈dq (nY t y.2.2) false l))∧z.2.1=(y.2.1.take j).map (GN (nY t y.2.2))) (by
  rintro aS qq ⟨c,u,z⟩ ⟨j,hj,hle,hq,hc,hu⟩ ih;simp only at hj hc hu;subst hj hc hu;unfold iS;dsimp only;refine W.ite (fun hlt=>?_) (fun hge=>W.ret ?_)
  ·have hj:j < y.2.1.length:=by omega
   have hmem:y.2.1[j]∈y.2.1:=List.getElem_mem hj;have hr5:=(hf.fit _ hmem).1;have hnd:(y.2.1[j]).Nodup:=(List.pairwise_flatten.1 hg.nd).1 _ hmem;have hrg:∀x∈y.2.1[j],0≤x∧x < (t.2.1.length:Int):=fun x hx=>hg.rng x (List.mem_flatten.2 ⟨_,hmem,hx⟩);have hll:(dq (nY t y.2.2) false y.2.1[j]).length≤8:=tO 8 _ (iZ hnd) (fun x hx=>by have:=hrg x (jd hx);have:=h.things;omega)
   rw [cD hj,bs,LM h (by omega) (by omega) hrg,bs,
    Hq (k:=k) (r:=(dq (nY t y.2.2) false y.2.1[j],GN (nY t y.2.2) y.2.1[j])) (iZ hnd) (fun x hx=>by have:=hrg x (jd hx);rw [wx];omega) (by show(dq _ _ _).length < k;omega) (by show(dq _ _ _).length≤1000;omega) (fun v hv'=>by have:=EF hv v hv';omega),bs,
    bR (zr (n:=100) (by rw [List.length_map,List.length_take];omega) (by omega)),bs,bs]
   dsimp only;rw [bh (by omega) (by omega),bs];refine ih (qq - 1) (_,_,(j:Int)+1) (by omega) ⟨j+1,by show(j:Int)+1=((j+1:Nat):Int);omega,by omega,by omega,?_,?_⟩
   ·show gP (gP _ _) _=_;rw [Gq]
    ·refine wy fun i _=>?_;rw [List.take_add_one,List.getElem?_eq_getElem hj,←Bool.decide_or];refine decide_eq_decide.2 ?_;simp only [Option.toList_some,List.mem_append,List.mem_cons,List.not_mem_nil,or_false];constructor
     ·rintro(⟨l,hl,h⟩ |h)
      ·exact⟨l,.inl hl,h⟩
      ·exact⟨_,.inr rfl,h⟩
     ·rintro⟨l,hl |rfl,h⟩
      ·exact .inl ⟨l,hl,h⟩
      ·exact .inr h
    ·intro i _ hi;refine decide_eq_false fun hi'=>?_;obtain⟨l,hl,hil⟩:=of_decide_eq_true hi;obtain⟨a,ha,rfl⟩:=List.getElem_of_mem hl;rw [List.length_take] at ha;rw [List.getElem_take] at hil;have:=Fq hg.nd (i:=a) (i':=j) (by omega) hj (jd hil) (jd hi');omega
   ·show(List.map _ _++[_])=_;rw [List.take_add_one,List.getElem?_eq_getElem hj,List.map_append];rfl
  ·have:j=y.2.1.length:=by omega
   subst this;rw [List.take_of_length_le (Nat.le_refl _)];rfl) y.2.1.length k (o,[],0) (by omega) ⟨0,rfl,by omega,by omega,by simp [ya],rfl⟩
 obtain⟨o',eo,h⟩:=hb
 rw [eo,h]
theorem JU{t:aW}(h:mE k t){p:List (List Int)}(hg:eK t p){d a:Int}{n:Nat}(hd:0≤d∧d≤100)(hn:n≤40)(ha:a=d+n):pz k t p d a=some (qS t d p n,aftD t d p n):=by
 have hk:=h.k0;have hk1:=h.k1;have h5:=h.things;unfold pz;rw [bR (by exact⟨by omega,show Int.toNat (t.2.1.length:Int)≤4294967296 by omega⟩),bs]
 have hb:=W.loop (f:=jP k t a) (Q:=fun z=>z=(qS t d p n,aftD t d p n)) (fun qq z=>∃j:Nat,z.2.2=d+(j:Int)∧j≤n∧qq=n - j∧z.1=qS t d p j∧z.2.1=aftD t d p j) (by
  rintro aS qq ⟨c,u,z⟩ ⟨j,hj,hle,hq,hc,hu⟩ ih;simp only at hj hc hu;subst hj hc hu;unfold jP;dsimp only;refine W.ite (fun hlt=>?_) (fun hge=>W.ret ?_)
  ·obtain⟨o1,o2⟩:=uY (t:=t) (d:=d) (p:=p) j;rw [Gh h (hg.aftD j) (y:=(qS t d p j,aftD t d p j,d+(j:Int))) rfl o1 (fun v hv=>by have:=o2 v hv;omega),bs,bs];dsimp only;rw [bh (by omega) (by omega),bs];exact ih (qq - 1) (_,_,d+(j:Int)+1) (by omega) ⟨j+1,by show d+(j:Int)+1=d+((j+1:Nat):Int);omega,by omega,by omega,rfl,rfl⟩
  ·have:j=n:=by omega
   rw [this]) n k (List.replicate (Int.toNat (t.2.1.length:Int)) 0,p,d) (by omega) ⟨0,by show d=d+0;omega,by omega,by omega,by show List.replicate _ _=List.replicate _ _;rw [Int.toNat_natCast],rfl⟩
 obtain⟨o',eo,h⟩:=hb;rw [eo,bs,h]
theorem Bj:∀{o:List Int} {L:Nat→Bool},(gP o L).sum=o.sum+((((List.range o.length).filter L).length:Nat):Int)
 |[],L=>by simp [gP]
 |v::o,L=>by
  have ih:=Bj (o:=o) (L:=fun i=>L (i+1))
  have e:gP (v::o) L=(if L 0 then v+1 else v)::gP o (fun i=>L (i+1)):=by simp [gP,List.mapIdx_cons]
  have e2:((List.range (v::o).length).filter L).length=(if L 0 then 1 else 0)+((List.range o.length).filter (fun i=>L (i+1))).length:=by
   rw [List.length_cons,List.range_succ_eq_map,List.filter_cons,List.filter_map];split
   ·rw [List.length_cons,List.length_map];show(List.filter (L ∘ Nat.succ) _).length+1=_;rw [Nat.add_comm];rfl
   ·rw [List.length_map];show(List.filter (L ∘ Nat.succ) _).length=_;rw [Nat.zero_add];rfl
  rw [e,e2,List.sum_cons,List.sum_cons,ih];split <;> omega
theorem wv{t:aW}{d:Int}{p:List (List Int)}:∀n,aftD t (d+1) (pU t d p) n=aftD t d p (n+1)
 |0=>by rw [aftD,aftD,aftD,Int.natCast_zero,Int.add_zero]
 |n+1=>by
  rw [aftD,wv n]
  show pU t _ _=pU t _ _
  congr 1
  omega
theorem BS{t:aW}{e:Int}{q:List (List Int)}:oe t 0 e q=0:=by
 unfold oe
 induction q with
 |nil=>rfl
 |cons l q ih=>rw [List.map_cons,List.sum_cons,ih];rfl
theorem xd{t:aW}:∀(n:Nat) (d:Int) (p:List (List Int)),oe t (n+1) d p=oe t n d p+((aftD t d p n).map fun l=>(dq (nY t (d+n)) false l).length).sum
 |0,d,p=>by
  rw [tG]
  rw [BS,BS,aftD,Int.natCast_zero,Int.add_zero,Nat.add_zero,Nat.zero_add]
 |n+1,d,p=>by
  rw [tG,xd n (d+1) (pU t d p),wv,tG (n:=n)]
  have e:d+1+(n:Int)=d+((n+1:Nat):Int):=by omega
  rw [e]
  omega
theorem Ea{t:aW}{d:Int}{p:List (List Int)}(hg:eK t p):∀n,(qS t d p n).sum=((oe t n d p:Nat):Int)
 |0=>by
  rw [BS,qS]
  generalize t.2.1.length=m
  induction m with
  |zero=>rfl
  |succ m ih=>rw [List.replicate_succ,List.sum_cons,ih];rfl
 |n+1=>by
  have h1:=Ea (d:=d) hg n
  have h2:=AK (hg.aftD (d:=d) n) (d:=d+n)
  rw [qS,Bj,h1,xd,(uY n).1,←h2]
  unfold yM
  rw [List.length_map]
  rfl
theorem Kw{r:(List Int)×(List (List Int))}(hk:r.1.length < k)(h8:r.1.length≤1000)(hv:∀v∈r.1,0≤v∧v≤1000):hQ k r k (0,0)=some r.1.sum:=by
 have hle:∀j,j≤r.1.length→0≤(r.1.take j).sum∧(r.1.take j).sum≤1000 * (j:Int):=by
  intro j
  induction j with
  |zero=>intro _;simp
  |succ j ih=>
   intro hj;have:=ih (by omega);have hx:=hv _ (List.getElem_mem (show j < r.1.length by omega));rw [List.take_add_one,List.getElem?_eq_getElem (show j < r.1.length by omega),List.sum_append];simp only [Option.toList_some,List.sum_cons,List.sum_nil];omega
 have hb:=W.loop (f:=hQ k r) (Q:=fun z=>z=r.1.sum) (fun qq z=>∃j:Nat,z.2=(j:Int)∧j≤r.1.length∧qq=r.1.length - j∧z.1=(r.1.take j).sum) (by
  rintro aS qq ⟨c,z⟩ ⟨j,hj,hl,hq,hc⟩ ih;simp only at hj hc;subst hj hc;unfold hQ;dsimp only;refine W.ite (fun hlt=>?_) (fun hge=>W.ret ?_)
  ·have hj:j < r.1.length:=by omega
   have h1:=hle j (by omega);have hx:=hv _ (List.getElem_mem hj);rw [cD hj,bs,bh (by omega) (by omega),bs,bh (by omega) (by omega),bs];refine ih (qq - 1) (_,(j:Int)+1) (by omega) ⟨j+1,by show(j:Int)+1=((j+1:Nat):Int);omega,by omega,by omega,?_⟩;rw [List.take_add_one,List.getElem?_eq_getElem hj,List.sum_append];simp
  ·have:j=r.1.length:=by omega
   subst this;rw [List.take_of_length_le (Nat.le_refl _)]) r.1.length k (0,0) hk ⟨0,rfl,by omega,by omega,by simp⟩
 obtain⟨o',eo,h⟩:=hb;rw [eo,h]
theorem FP{t:aW}(h:mE k t){p:List (List Int)}(hg:eK t p){d:Int}(hd:0≤d∧d≤t.1):lM k t p d=some ((oe t (t.1 - d).toNat d p:Nat):Int):=by
 have h6:=hg.g.days;obtain⟨o1,o2⟩:=uY (t:=t) (d:=d) (p:=p) (t.1 - d).toNat;have hk:=h.k0;have h5:=h.things;unfold lM;rw [JU h hg (n:=(t.1 - d).toNat) (by omega) (by omega) (by omega),bs,Kw (by show(qS _ _ _ _).length < k;omega) (by show(qS _ _ _ _).length≤1000;omega) (fun v hv=>by have:=o2 v hv;omega),bs];show some (qS _ _ _ _).sum=_;rw [Ea hg]
end
structure m3(k:Nat)(t:aW)(p:List (List Int)):Prop where
 k0:50≤k
 hs:eS k t
 hp:p.length < k
 hl:∀l∈p,l.length < k
section
variable {k:Nat}{t:aW}{p:List (List Int)}
theorem m3.dayT(h:m3 k t p)(c:jp t=0):mE k t:=⟨h.k0,h.hs.k1,by have:=(oD c).things;omega,h.hs.worn⟩
theorem m3.at(h:m3 k t p)(c:pW t p=0):At k t p:=⟨h.hs,h.dayT (Ez c),c⟩
def uh(k:Nat)(q:List (List Int)):Prop:=q.length < k∧∀l∈q,l.length < k
theorem eK.short(hk:50≤k)(h:eK t p):uh k p:=⟨by have:=h.fit.len;omega,fun l hl=>by have:=(h.fit.fit l hl).1;omega⟩
theorem uh.nil(hk:50≤k):uh k []:=⟨by show 0 < k;omega,fun _ h=>by cases h⟩
end
section
variable {k:Nat}{t:aW}{p:List (List Int)}
theorem mY{l:List Int}(h:l.length≤1000000):fW k l=some l:=by
 unfold fW;rw [bR (BF (by simp only [List.length_nil];omega)),bs];rfl
theorem uE(h:eS k t):je k t=some t:=by
 have hk1:=h.k1;have h1:=h.things;have h2:=h.trunks;unfold je;rw [mY (by omega),bs]
 have hb:=W.loop (f:=fK k t) (Q:=fun o=>o=t.2.1) (fun m y=>∃j:Nat,y.2=(j:Int)∧j≤t.2.1.length∧m=t.2.1.length - j∧y.1=t.2.1.take j) (by
  rintro aS m ⟨o,y⟩ ⟨j,hj,hle,hm,ho⟩ ih;simp only at hj ho;subst hj ho;unfold fK;dsimp only;refine W.ite (fun hlt=>?_) (fun hge=>W.ret ?_)
  ·have hj:j < t.2.1.length:=by omega
   rw [cD hj,bs,bs,mY (by have:=h.worn _ (List.getElem_mem hj);omega),bs,bR (BF (by simp only [List.length_take,List.length_cons,List.length_nil];omega)),bs,bh (by omega) (by omega),bs];refine ih (m - 1) (_,(j:Int)+1) (by omega) ⟨j+1,by show(j:Int)+1=((j+1:Nat):Int);omega,by omega,by omega,?_⟩;rw [List.take_add_one,List.getElem?_eq_getElem hj];rfl
  ·rw [List.take_of_length_le (by omega)]) t.2.1.length k ([],0) h1 ⟨0,rfl,by omega,by omega,by simp⟩
 obtain⟨o,eo,rfl⟩:=hb;rw [eo,bs]
theorem zb(h:uh k p)(hk1:k≤1000000):jy k p=some p:=by
 have h1:=h.1;unfold jy
 have hb:=W.loop (f:=fk k p) (Q:=fun o=>o=p) (fun q y=>∃j:Nat,y.2=(j:Int)∧j≤p.length∧q=p.length - j∧y.1=p.take j) (by
  rintro aS q ⟨o,y⟩ ⟨j,hj,hle,hq,ho⟩ ih;simp only at hj ho;subst hj ho;unfold fk;dsimp only;refine W.ite (fun hlt=>?_) (fun hge=>W.ret ?_)
  ·have hj:j < p.length:=by omega
   rw [cD hj,bs,mY (by have:=h.2 _ (List.getElem_mem hj);omega),bs,bR (BF (by simp only [List.length_take,List.length_cons,List.length_nil];omega)),bs,bh (by omega) (by omega),bs];refine ih (q - 1) (_,(j:Int)+1) (by omega) ⟨j+1,by show(j:Int)+1=((j+1:Nat):Int);omega,by omega,by omega,?_⟩;rw [List.take_add_one,List.getElem?_eq_getElem hj];rfl
  ·rw [List.take_of_length_le (by omega)]) p.length k ([],0) h.1 ⟨0,rfl,by omega,by omega,by simp⟩
 obtain⟨o,eo,rfl⟩:=hb;rw [eo,bs]
theorem pw{l:List Int}(h:l.length < k)(hk1:k≤1000000):dV k l l=some true:=by rw [zS h (by omega)];simp
theorem yp(h:uh k p)(hk1:k≤1000000):f9 k p p=some true:=by
 unfold f9;rw [if_neg (by simp)];have h1:=h.1
 have hb:=W.loop (f:=fi k p p) (Q:=fun o=>o= .ok ()) (fun q y=>∃j:Nat,y=(j:Int)∧j≤p.length∧q=p.length - j) (by
  rintro aS q y ⟨j,hj,hle,hq⟩ ih;subst hj;unfold fi;refine W.ite (fun hlt=>?_) (fun hge=>W.ret rfl);have hj:j < p.length:=by omega
  rw [cD hj,bs,bs,pw (h.2 _ (List.getElem_mem hj)) hk1,bs,nT,bh (by omega) (by omega),bs];exact ih (q - 1) _ (by omega) ⟨j+1,by omega,by omega,by omega⟩) p.length k 0 h.1 ⟨0,rfl,by omega,by omega⟩
 obtain⟨o,eo,rfl⟩:=hb;rw [eo,mJ]
theorem yo(h:eS k t):iu k t t=some true:=by
 have hk1:=h.k1;have h1:=h.things;unfold iu;rw [if_neg (by simp),if_neg (by simp),pw h.trunks hk1,bs,bs,Bool.not_true,iF]
 have hb:=W.loop (f:=fh k t t) (Q:=fun o=>o= .ok ()) (fun q y=>∃j:Nat,y=(j:Int)∧j≤t.2.1.length∧q=t.2.1.length - j) (by
  rintro aS q y ⟨j,hj,hle,hq⟩ ih;subst hj;unfold fh;refine W.ite (fun hlt=>?_) (fun hge=>W.ret rfl);have hj:j < t.2.1.length:=by omega
  rw [cD hj,bs,bs,if_neg (not_not_intro rfl),bs,bs,pw (h.worn _ (List.getElem_mem hj)) hk1,bs,bs,Bool.not_true,iF,bh (by omega) (by omega),bs];exact ih (q - 1) _ (by omega) ⟨j+1,by omega,by omega,by omega⟩) t.2.1.length k 0 h.things ⟨0,rfl,by omega,by omega⟩
 obtain⟨o,eo,rfl⟩:=hb;rw [eo,mJ]
structure EK(t:aW):Prop where
 things:t.2.1.length≤20
 trunks:t.2.2.length≤20
 worn:∀x∈t.2.1,x.2.length≤20
 few:¬(t.2.1.length=5∧t.2.2.length=3)
theorem EK.small(h:EK t)(hk:50≤k)(hk1:k≤1000000):eS k t:=⟨hk1,by have:=h.things;omega,fun x hx=>by have:=h.worn x hx;omega,by have:=h.trunks;omega⟩
theorem DL(hk:50≤k):W (mo k t) fun b=>b=false→EK t:=by
 unfold mo;by_cases c1:(20:Int) < (t.2.1.length:Int)
 ·rw [if_pos c1,bs,iT];exact W.ret fun h=>by cases h
 ·rw [if_neg c1,bs];by_cases c2:(20:Int) < (t.2.2.length:Int)
  ·rw [decide_eq_true c2,iT];exact W.ret fun h=>by cases h
  ·rw [decide_eq_false c2,iF]
   have hb:=W.loop (f:=jQ k t) (Q:=fun o=>o= .error true∨(o= .ok ()∧∀x∈t.2.1,x.2.length≤20)) (fun q y=>∃j:Nat,y=(j:Int)∧j≤t.2.1.length∧q=t.2.1.length - j∧∀i (h:i < t.2.1.length),i < j→(t.2.1[i]).2.length≤20) (by
    rintro aS q y ⟨j,hj,hle,hq,ha⟩ ih;subst hj;unfold jQ;refine W.ite (fun hlt=>?_) (fun hge=>W.ret (.inr ⟨rfl,fun x hx=>?_⟩))
    ·have hj:j < t.2.1.length:=by omega
     rw [cD hj,bs];refine W.ite (fun hc=>W.ret (.inl rfl)) (fun hc=>?_);rw [bh (by omega) (by omega),bs];refine ih (q - 1) _ (by omega) ⟨j+1,by omega,by omega,by omega,fun i hi hij=>?_⟩;by_cases e:i=j
     ·subst e;omega
     ·exact ha i hi (by omega)
    ·obtain⟨i,hi,rfl⟩:=List.getElem_of_mem hx;exact ha i hi (by omega)) t.2.1.length k 0 (show t.2.1.length < k by omega) ⟨0,rfl,by omega,by omega,fun i _ h=>by omega⟩
   refine W.bEE hb (fun e he=>?_) (fun u hu=>?_)
   ·rcases he with he |he
    ·cases he;exact W.ret fun h=>by cases h
    ·cases he.1
   ·rcases hu with hu |hu
    ·cases hu
    ·by_cases c3:(t.2.1.length:Int)=5
     ·rw [if_pos c3,bs];exact W.ret fun h=>⟨by omega,by omega,hu.2,fun hh=>of_decide_eq_false h (by omega)⟩
     ·rw [if_neg c3,bs];exact W.ret fun h=>⟨by omega,by omega,hu.2,fun hh=>by omega⟩
theorem FV(hk:50≤k){x:gf}:W (((mo k t).bind fun r5=>if r5=true then(some true) else(some (decide ((20:Int) < (x.2.length:Int))))):Option Bool) fun b=>b=false→EK t∧x.2.length≤20:=by
 obtain⟨b,eb,hb⟩:=DL (t:=t) hk;rw [eb,bs];cases b with
 |true=>rw [iT];exact W.ret fun h=>by cases h
 |false=>rw [iF];exact W.ret fun h=>⟨hb rfl,by have:=of_decide_eq_false h;omega⟩
structure PG(k:Nat)(ts:List aW)(ps:List (List (List Int))):Prop where
 l1:ts.length=4
 l2:ps.length=4
 at_:∀j:Nat,j < 4→∃t p,aQ ts (j:Int)=some t∧aQ ps (j:Int)=some p∧m3 k t p
theorem PG.of{a b c d:aW}{p q r s:List (List Int)}(h0:m3 k a p)(h1:m3 k b q)(h2:m3 k c r)(h3:m3 k d s):PG k [a,b,c,d] [p,q,r,s]:=
 ⟨rfl,rfl,fun j hj=>by
  match j,hj with
  |0,_=>exact⟨_,_,rfl,rfl,h0⟩
  |1,_=>exact⟨_,_,rfl,rfl,h1⟩
  |2,_=>exact⟨_,_,rfl,rfl,h2⟩
  |3,_=>exact⟨_,_,rfl,rfl,h3⟩⟩
theorem Bw.small{a b:Int}(h:Bw t a b)(ha:a≤8)(hb:b≤8)(hk:50≤k)(hk1:k≤1000000):eS k t:=
 ⟨hk1,by have:=h.things;omega,fun x hx=>by have:=(h.item x hx).2.2.1;omega,by have:=h.trunks;omega⟩
theorem m3.of(hk:50≤k)(hs:eS k t)(hp:p.length≤20)(hl:∀l∈p,l.length≤20):m3 k t p:=⟨hk,hs,by omega,fun l h=>by have:=hl l h;omega⟩
theorem Cb(hk:50≤k)(hk1:k≤1000000){x:gf}(ht:eS k t)(hp:p.length≤20)(hl:∀l∈p,l.length≤20)(hx:x.2.length≤20){l:bV}{m:Int}(hlo:Lo l m)(hm:0≤m∧m≤10):
 W (k7 k t x p l) fun r=>PG k r.1 r.2.1∧Lo r.2.2 (m+200):=by
 unfold k7
 obtain⟨r3,e3,hT,hl3⟩:=Ku hk hlo (by omega) (a:=4) (b:=3) (by omega) (by omega)
 have hT3:=hT.things
 have hTt:=hT.trunks
 have hs3:=hT.small (k:=k) (by omega) (by omega) hk hk1
 rw [show kD k (l.1,l.2.1,l.2.2) (4:Int) 3=some r3 from e3,bs,uE hs3,bs,mY (by omega),bs,bR (zr (n:=100) (by omega) (by omega)),bs]
 obtain⟨r12,e12,h1,h2,h3⟩:=vH hk hT (by omega) (by omega) hl3 (by omega)
 rw [show fa k (r3.2.1,r3.2.2.1,r3.2.2.2) r3.1=some r12 from e12,bs]
 obtain⟨r13,e13,g1,g2,g3⟩:=vH hk hT (by omega) (by omega) h3 (by omega)
 rw [show fa k (r12.2.1,r12.2.2.1,r12.2.2.2) r3.1=some r13 from e13,bs,bh (by omega) (by omega),bs]
 have hsO:∀T:List Int,T.length=r3.1.2.2.length→eS k (r3.1.1,r3.1.2.1++[(x.1,x.2)],T):=fun T hT'=>⟨hk1,by show(r3.1.2.1++[(x.1,x.2)]).length < k;rw [List.length_append];simp only [List.length_cons,List.length_nil];omega,fun y hy=>by
  rcases List.mem_append.1 hy with hy |hy
  ·exact hs3.worn y hy
  ·rw [List.mem_singleton] at hy;subst hy;show x.2.length < k;omega,by show T.length < k;omega⟩
 have s0:m3 k t p:=.of hk ht hp hl
 have s1:m3 k r3.1 r12.1:=.of hk hs3 (by omega) (fun l h=>by have:=h2 l h;omega)
 have s2:m3 k r3.1 p:=.of hk hs3 hp hl
 by_cases c:(r3.1.2.2.length:Int) < 3
 ·
  have hi:((r3.1.2.2.length:Int) - 1).toNat=r3.1.2.2.length - 1:=by omega
  have hr:r3.1.2.2.length - 1 < r3.1.2.2.length:=by omega
  have hroom:=hT.rooms _ (List.getElem_mem hr);have hg:aQ r3.1.2.2 ((r3.1.2.2.length:Int) - 1)=some r3.1.2.2[r3.1.2.2.length - 1]:=oG (by omega) (by rw [hi];exact List.getElem?_eq_getElem hr);have hr':r3.1.2.2.length - 1 < r13.1.length:=by omega
  have hg':aQ r13.1 ((r3.1.2.2.length:Int) - 1)=some r13.1[r3.1.2.2.length - 1]:=oG (by omega) (by rw [hi];exact List.getElem?_eq_getElem hr');have hb:=g2 _ (List.getElem_mem hr');rw [if_pos c,hg,bs,bh (by omega) (by omega),bs,bs,show aQ [p,r12.1,p,r13.1] (3:Int)=some r13.1 from rfl,bs,zb ⟨by omega,fun l h=>by have:=g2 l h;omega⟩ hk1,bs,bs,hg',bs,bR (zr (n:=100) (by omega) (by omega)),bs,bs,hi];refine W.ret ⟨PG.of s0 s1 s2 (.of hk (hsO _ (by rw [List.length_set])) (by rw [List.length_set];omega) (fun l hl=>?_)),g3.mono (by omega)⟩;rcases List.mem_or_eq_of_mem_set hl with h |h
  ·have:=g2 l h;omega
  ·rw [h,List.length_append];simp only [List.length_cons,List.length_nil];omega
 ·
  rw [if_neg c,bs];exact W.ret ⟨PG.of s0 s1 s2 (.of hk (hsO _ rfl) (by omega) (fun l h=>by have:=g2 l h;omega)),g3.mono (by omega)⟩
theorem UV{a:List Int}:Lo (a,0,1) 0:=⟨Int.le_refl 0,Int.le_refl 0⟩
theorem UX{α:Type}(a b c d:α){j:Nat}(h:j < 4):∃x,aQ [a,b,c,d] (j:Int)=some x:=⟨_,cD (by exact h)⟩
end
def dD(q:List (List Int))(tr i:Nat):List (List Int):=q.set tr (q[tr]?.getD []++[(i:Int)])
def im(n N:Nat):Nat→List (List Int)→Nat→List (List (List Int))
 |0,_,_=>[]
 |m+1,q,tr=>
  if tr=N then(if q.flatten.length < n then [] else [q])
  else im n N m q (tr+1)++(List.range n).flatMap fun(i:Nat)=>if(i:Int)∈q.flatten then [] else im n N m (dD q tr i) tr
def kw(t:aW):Nat→List (List Int)→Nat→List (List (List Int))
 |0,_,_=>[]
 |m+1,q,tr=>
  if tr=t.2.2.length then(if q.flatten.length < t.2.1.length then [] else [q])
  else kw t m q (tr+1)++(List.range t.2.1.length).flatMap fun(i:Nat)=>if(i:Int)∈q.flatten∨t.2.2[tr]?.getD 0 < cJ t (q[tr]?.getD [])+eN t (i:Int) then [] else kw t m (dD q tr i) tr
def oZ(t:aW)(q:List (List Int)):Bool:=(List.range q.length).all fun i=>decide (cJ t (q[i]?.getD [])≤t.2.2[i]?.getD 0)
def JR(q x:List (List Int)):Prop:=x.length=q.length∧∀i:Nat,∃s,x[i]?.getD []=q[i]?.getD []++s
theorem JR.refl{q:List (List Int)}:JR q q:=⟨rfl,fun i=>⟨[],by simp⟩⟩
theorem JR.trans{a b c:List (List Int)}(h:JR a b)(h':JR b c):JR a c:=⟨h'.1.trans h.1,fun i=>by
 obtain⟨s,e⟩:=h.2 i
 obtain⟨s',e'⟩:=h'.2 i
 exact⟨s++s',by rw [e',e,List.append_assoc]⟩⟩
theorem jY{q:List (List Int)}{tr i:Nat}(h:tr < q.length){j:Nat}:(dD q tr i)[j]?.getD []=if j=tr then q[tr]?.getD []++[(i:Int)] else q[j]?.getD []:=by
 unfold dD;rw [List.getElem?_set];by_cases e:tr=j
 ·subst e;simp [h]
 ·rw [if_neg e,if_neg (fun h=>e h.symm)]
theorem JR.top{q:List (List Int)}{tr i:Nat}(h:tr < q.length):JR q (dD q tr i):=⟨by unfold dD;rw [List.length_set],fun j=>by
 rw [jY h]
 by_cases e:j=tr
 ·
  subst e;exact⟨[(i:Int)],by rw [if_pos rfl]⟩
 ·
  exact⟨[],by rw [if_neg e];simp⟩⟩
theorem lS{n N:Nat}:∀{m:Nat} {q:List (List Int)} {tr:Nat},q.length=N→∀x∈im n N m q tr,JR q x
 |0,_,_,_,x,hx=>by cases hx
 |m+1,q,tr,hq,x,hx=>by
  rw [im] at hx
  by_cases c:tr=N
  ·
   rw [if_pos c] at hx
   split at hx
   ·
    cases hx
   ·
    rw [List.mem_singleton] at hx;subst hx;exact JR.refl
  ·
   rw [if_neg c] at hx
   rcases List.mem_append.1 hx with hx |hx
   ·
    exact lS hq x hx
   ·
    obtain⟨i,hi,hx⟩:=List.mem_flatMap.1 hx
    split at hx
    ·
     cases hx
    ·
     by_cases ht:tr < q.length
     ·
      exact(JR.top ht).trans (lS (by unfold dD;rw [List.length_set,hq]) x hx)
     ·
      have e:dD q tr i=q:=by unfold dD;rw [List.set_eq_of_length_le (by omega)]
      rw [e] at hx
      exact lS hq x hx
theorem kz{t:aW}{l:List Int}{x:Int}:cJ t (l++[x])=cJ t l+eN t x:=by rw [qm];simp [cJ]
theorem il{t:aW}{q:List (List Int)}:oZ t q=true↔∀i,i < q.length→cJ t (q[i]?.getD [])≤t.2.2[i]?.getD 0:=by
 unfold oZ;simp [List.all_eq_true]
theorem pS{t:aW}(g:jk t):∀{m:Nat} {q:List (List Int)} {tr:Nat},q.length=t.2.2.length→tr≤t.2.2.length→oZ t q=true→kw t m q tr=(im t.2.1.length t.2.2.length m q tr).filter (oZ t)
 |0,_,_,_,_,_=>rfl
 |m+1,q,tr,hq,ht,hf=>by
  rw [kw,im]
  by_cases c:tr=t.2.2.length
  ·
   rw [if_pos c,if_pos c]
   split
   ·
    rfl
   ·
    rw [List.filter_cons_of_pos hf,List.filter_nil]
  ·
   rw [if_neg c,if_neg c,List.filter_append,pS g hq (by omega) hf,List.filter_flatMap]
   congr 1
   congr 1
   funext i
   by_cases c1:(i:Int)∈q.flatten
   ·
    rw [if_pos (.inl c1),if_pos c1];rfl
   ·
    rw [if_neg c1]
    have htr:tr < q.length:=by omega
    by_cases c2:t.2.2[tr]?.getD 0 < cJ t (q[tr]?.getD [])+eN t (i:Int)
    ·
     rw [if_pos (.inr c2)]
     symm
     rw [List.filter_eq_nil_iff]
     intro x hx hfx
     obtain⟨e1,e2⟩:=lS (by unfold dD;rw [List.length_set,hq]) x hx
     obtain⟨s,es⟩:=e2 tr
     rw [jY htr,if_pos rfl] at es
     have:=il.1 hfx tr (by rw [e1];unfold dD;rw [List.length_set];exact htr)
     rw [es,qm,kz] at this
     have:=(lK g (l:=s)).1
     omega
    ·
     rw [if_neg (fun h=>h.elim c1 c2)]
     refine pS g (by unfold dD;rw [List.length_set,hq]) ht ?_
     rw [il]
     intro j hj
     unfold dD at hj
     rw [List.length_set] at hj
     rw [jY htr]
     by_cases e:j=tr
     ·
      rw [if_pos e,kz,e];omega
     ·
      rw [if_neg e];exact il.1 hf j hj
section
variable {k:Nat}{σ:Type}
theorem KH{l:List Int}(h:l.length < 5){x:Int}:(o7 l).set l.length x=o7 (l++[x]):=by
 match l,h with
 |[],_=>rfl
 |[a],_=>rfl
 |[a,b],_=>rfl
 |[a,b,c],_=>rfl
 |[a,b,c,d],_=>rfl
theorem It{q:List (List Int)}{tr i:Nat}(ht:tr < q.length)(h3:q.length≤3)(h:(q[tr]?.getD []).length < 5):(dR q).set tr ((o7 (q[tr]?.getD [])).set (q[tr]?.getD []).length (i:Int))=dR (dD q tr i):=by
 rw [KH h];have e:=fun j=>jY (i:=i) ht (j:=j);unfold dR;rw [e 0,e 1,e 2];match tr,(show tr < 3 by omega) with
 |0,_=>rfl
 |1,_=>rfl
 |2,_=>rfl
theorem K2{q:List (List Int)}{tr:Nat}(h:tr < 3):aQ (dR q) (tr:Int)=some (o7 (q[tr]?.getD [])):=oG (by omega) (by
 match tr,h with
 |0,_=>rfl
 |1,_=>rfl
 |2,_=>rfl)
theorem pq{q:List (List Int)}{tr i:Nat}(h:tr < q.length):(dD q tr i).flatten.Perm (q.flatten++[(i:Int)]):=by
 unfold dD
 induction q generalizing tr with
 |nil=>simp at h
 |cons l q ih=>
  cases tr with
  |zero=>
   simp only [List.set_cons_zero,List.getElem?_cons_zero,Option.getD_some,List.flatten_cons,List.append_assoc];exact(List.Perm.refl l).append List.perm_append_comm
  |succ tr=>
   simp only [List.set_cons_succ,List.getElem?_cons_succ,List.flatten_cons,List.append_assoc];exact(List.Perm.refl l).append (ih (by simpa using h))
structure Mk(t:aW)(q:List (List Int)):Prop where
 len:q.length=t.2.2.length
 met:uG t.2.1.length q.flatten
theorem Mk.row{t:aW}{q:List (List Int)}(h:Mk t q)(j:Nat):(∀x∈q[j]?.getD [],x∈q.flatten)∧(q[j]?.getD []).length≤q.flatten.length:=by
 rcases Nat.lt_or_ge j q.length with hj |hj
 ·rw [List.getElem?_eq_getElem hj,Option.getD_some];refine⟨fun x hx=>List.mem_flatten.2 ⟨_,List.getElem_mem hj,hx⟩,?_⟩;exact(List.sublist_flatten_of_mem (List.getElem_mem hj)).length_le
 ·rw [List.getElem?_eq_none hj];simp
theorem Mk.top{t:aW}{q:List (List Int)}(h:Mk t q){tr i:Nat}(ht:tr < q.length)(hi:i < t.2.1.length)(hn:(i:Int)∉q.flatten):Mk t (dD q tr i):=by
 have hp:=pq (i:=i) ht;refine⟨by unfold dD;rw [List.length_set,h.len],hp.nodup_iff.2 ?_,fun x hx=>?_⟩
 ·rw [List.nodup_append];exact⟨h.met.nd,by simp,fun a ha b hb=>by rw [List.mem_singleton] at hb;subst hb;exact fun e=>hn (e▸ha)⟩
 ·rcases List.mem_append.1 (hp.mem_iff.1 hx) with hx |hx
  ·exact h.met.rng x hx
  ·rw [List.mem_singleton] at hx;omega
theorem Im{t:aW}(g:jk t){q:List (List Int)}(h:Mk t q){tr i:Nat}(ht:tr < q.length)(hi:i < t.2.1.length):Ei .u8 (ij q.flatten) (na .u8 1 (i:Int))=ij (dD q tr i).flatten:=by
 have h5:=g.things;have h8:∀x∈q.flatten,0≤x∧x < 8:=fun x hx=>by have:=h.met.rng x hx;omega
 have hp:=pq (i:=i) ht
 have h8':∀x∈(dD q tr i).flatten,0≤x∧x < 8:=fun x hx=>by
  rcases List.mem_append.1 (hp.mem_iff.1 hx) with hx |hx
  ·exact h8 x hx
  ·rw [List.mem_singleton] at hx;omega
 obtain⟨a1,a2⟩:=pI h8;obtain⟨b1,b2⟩:=yy (x:=(i:Int)) (by omega) (by omega);obtain⟨c1,c2⟩:=yP a1 b1;obtain⟨d1,d2⟩:=pI h8';refine AG c1 d1 fun j=>?_;rw [c2,a2,b2,d2,hp.mem_iff,List.mem_append,List.mem_singleton]
theorem K9{t:aW}(h:mE k t)(g:jk t){Y:σ→(List (List Int))→Option (σ×Bool)}{f:σ→List (List Int)→σ}{P:List (List (List Int))→σ→Prop}
 {L:Nat} (hY:∀(pre:List (List (List Int))) (s:σ) (q:List (List Int)),eK t q→pre.length < L→P pre s→Y s (dR q)=some (f s q,true)∧P (pre++[q]) (f s q)):
 ∀(m:Nat) (q:List (List Int)) (tr:Nat) (pre:List (List (List Int))) (s:σ),Mk t q→oZ t q=true→tr≤t.2.2.length→(t.2.1.length - q.flatten.length)+(t.2.2.length - tr) < m→pre.length+(kw t m q tr).length≤L→P pre s→
  bO k Y (t,()) m (dR q) (tr:Int) (ij q.flatten) s=some (true,(kw t m q tr).foldl f s)∧P (pre++kw t m q tr) ((kw t m q tr).foldl f s):=by
 have h5:=g.things
 have h3:=g.trunks
 have hk:=h.k0
 have hk1:=h.k1
 intro m
 induction m with
 |zero=>intro q tr pre s _ _ _ hm;omega
 |succ m ih=>
  intro q tr pre s hq hfits ht hm hL hP;rw [kw] at hL;have hlen:=hq.met.len;have hql:=hq.len;rw [bO,kw];dsimp only;by_cases c:tr=t.2.2.length
  ·rw [if_pos c] at hL;rw [if_pos (show(tr:Int)=(t.2.2.length:Int) by omega),if_pos c,bR (by omega),bs];have hfull:=AW g.things hq.met;by_cases c1:q.flatten.length < t.2.1.length
   ·rw [if_pos (show¬ij q.flatten=_ from fun h=>hfull.1 h c1),if_pos c1,bs];exact⟨rfl,by simpa using hP⟩
   ·rw [if_neg c1] at hL
    have hgp:eK t q:=⟨g,hq.len,hq.met.nd,hq.met.rng,hq.met.full.1 c1,fun i hi=>by
     have:=il.1 hfits i hi;rw [List.getElem?_eq_getElem hi,Option.getD_some] at this;exact this⟩
    obtain⟨y1,y2⟩:=hY pre s q hgp (by simp only [List.length_cons,List.length_nil] at hL;omega) hP;rw [if_neg (show¬¬ij q.flatten=_ from fun h=>h (hfull.2 c1)),if_neg c1,y1,bs,bs];exact⟨rfl,y2⟩
  ·have htr:tr < q.length:=by omega
   rw [if_neg c,List.length_append] at hL;rw [if_neg (show¬(tr:Int)=(t.2.2.length:Int) by omega),if_neg c,bh (by omega) (by omega),bs];obtain⟨i1,i2⟩:=ih q (tr+1) pre s hq hfits (by omega) (by omega) (by omega) hP;have e1:(tr:Int)+1=((tr+1:Nat):Int):=by omega
   obtain⟨r1,r2⟩:=hq.row tr;have hfit:MJ (q[tr]?.getD []):=⟨by omega,fun x hx=>(hq.met.rng x (r1 x hx)).1⟩;rw [e1,i1,bs,nT,yL hk (by omega) hfit,bs];have h8:∀x∈q.flatten,0≤x∧x < 8:=fun x hx=>by have:=hq.met.rng x hx;omega
   obtain⟨a1,a2⟩:=pI h8;generalize hs1:(kw t m q (tr+1)).foldl f s=s1 at i2⊢
   have loop:∀(d j n:Nat) (s2:σ) (pre2:List (List (List Int))),j+d=t.2.1.length→d < n→pre2.length+((List.range' j d).flatMap fun(i:Nat)=>if(i:Int)∈q.flatten∨t.2.2[tr]?.getD 0 < cJ t (q[tr]?.getD [])+eN t (i:Int) then [] else kw t m (dD q tr i) tr).length≤L→P pre2 s2→
    bT k (dR q) (tr:Int) (ij q.flatten) (t,()) (bO k Y (t,()) m) (q[tr]?.getD []) n ((j:Int),s2)=some (.ok (((List.range' j d).flatMap fun(i:Nat)=>if(i:Int)∈q.flatten∨t.2.2[tr]?.getD 0 < cJ t (q[tr]?.getD [])+eN t (i:Int) then [] else kw t m (dD q tr i) tr).foldl f s2))∧
    P (pre2++((List.range' j d).flatMap fun(i:Nat)=>if(i:Int)∈q.flatten∨t.2.2[tr]?.getD 0 < cJ t (q[tr]?.getD [])+eN t (i:Int) then [] else kw t m (dD q tr i) tr)) (((List.range' j d).flatMap fun(i:Nat)=>if(i:Int)∈q.flatten∨t.2.2[tr]?.getD 0 < cJ t (q[tr]?.getD [])+eN t (i:Int) then [] else kw t m (dD q tr i) tr).foldl f s2):=by
    intro d
    induction d with
    |zero=>
     intro j n s2 pre2 hj hn hL2 hp2;obtain⟨n,rfl⟩:∃n',n=n'+1:=⟨n - 1,by omega⟩;rw [bT];dsimp only;rw [if_neg (by omega)];exact⟨rfl,by simpa using hp2⟩
    |succ d ihd=>
     intro j n s2 pre2 hj hn hL2 hp2;obtain⟨n,rfl⟩:∃n',n=n'+1:=⟨n - 1,by omega⟩;have hjl:j < t.2.1.length:=by omega
     rw [List.range'_succ,List.flatMap_cons,List.length_append] at hL2
     have next:∀(s3:σ) (pre3:List (List (List Int))),pre3.length+((List.range' (j+1) d).flatMap fun(i:Nat)=>if(i:Int)∈q.flatten∨t.2.2[tr]?.getD 0 < cJ t (q[tr]?.getD [])+eN t (i:Int) then [] else kw t m (dD q tr i) tr).length≤L→P pre3 s3→(ck ((j:Int)+1)).bind (fun x32=>bT k (dR q) (tr:Int) (ij q.flatten) (t,()) (bO k Y (t,()) m) (q[tr]?.getD []) n (x32,s3))=_∧_:=fun s3 pre3 hL3 hp3=>by
      have:=ihd (j+1) n s3 pre3 (by omega) (by omega) hL3 hp3;rw [bh (by omega) (by omega),bs,show(j:Int)+1=((j+1:Nat):Int) by omega];exact this
     rw [bT];dsimp only;rw [if_pos (show(j:Int) < (t.2.1.length:Int) by omega),cD hjl,bs,yR a1 (by omega),bs,List.range'_succ,List.flatMap_cons,List.foldl_append];by_cases c1:(j:Int)∈q.flatten
     ·rw [decide_eq_true ((a2 j).2 c1),iT,bs,iT,mJ,if_pos (.inl c1)];rw [if_pos (.inl c1)] at hL2;exact next s2 pre2 (by simpa using hL2) hp2
     ·have hso:eN t (j:Int)=t.2.1[j].1:=by
       unfold eN;rw [show((j:Int)).toNat=j from rfl,List.getElem?_eq_getElem hjl]
      have hro:=rz g (x:=(j:Int));have hrs:=lK g (l:=q[tr]?.getD []);have htl:t.2.2[tr]?.getD 0=t.2.2[tr]'(by omega):=by rw [List.getElem?_eq_getElem (by omega)];rfl
      rw [decide_eq_false (fun h=>c1 ((a2 j).1 h)),iF,D2 g hk1 (by omega) (fun x hx=>hq.met.rng x (r1 x hx)),bs,←hso,bh (by omega) (by omega),bs,cD (by omega),bs,bs,←htl];by_cases c2:t.2.2[tr]?.getD 0 < cJ t (q[tr]?.getD [])+eN t (j:Int)
      ·rw [decide_eq_true c2,iT,mJ,if_pos (.inr c2)];rw [if_pos (.inr c2)] at hL2;exact next s2 pre2 (by simpa using hL2) hp2
      ·have hl4:(q[tr]?.getD []).length < 5:=by
        have:q.flatten.length < t.2.1.length:=by
         rcases Nat.lt_or_ge q.flatten.length t.2.1.length with h |h
         ·exact h
         ·exact absurd (hq.met.full.1 (by omega) j hjl) c1
        omega
       have hq':=hq.top htr hjl c1;have hfl:=(pq (i:=j) htr).length_eq;simp only [List.length_append,List.length_cons,List.length_nil] at hfl;have hlt:q.flatten.length < t.2.1.length:=by have:=hq'.met.len;omega
       rw [if_neg (fun h=>h.elim c1 c2)] at hL2
       have hfits':oZ t (dD q tr j)=true:=by
        rw [il];intro a ha;unfold dD at ha;rw [List.length_set] at ha;rw [jY htr];by_cases e:a=tr
        ·rw [if_pos e,kz,e];omega
        ·rw [if_neg e];exact il.1 hfits a ha
       obtain⟨k1,k2⟩:=ih (dD q tr j) tr pre2 s2 hq' hfits' ht (by omega) (by omega) hp2;rw [decide_eq_false c2,iF,bR (by omega),bs,K2 (by omega),bs,bR (by omega),bs];unfold dT;rw [bR (by omega),bs,bs,show Int.toNat (tr:Int)=tr from rfl,show Int.toNat ((q[tr]?.getD []).length:Int)=(q[tr]?.getD []).length from rfl,It htr (by omega) hl4,Im g hq htr hjl,k1,bs,nT,mJ,if_neg (fun h=>h.elim c1 c2)];have:=next _ _ (by rw [List.length_append];omega) k2;rw [List.append_assoc] at this;exact this
   obtain⟨l1,l2⟩:=loop t.2.1.length 0 k s1 (pre++kw t m q (tr+1)) (by omega) (by omega) (by rw [List.length_append,←List.range_eq_range'];omega) i2;rw [show((0:Nat):Int)=0 from rfl] at l1;rw [l1,mJ,List.foldl_append,hs1,List.range_eq_range'];refine⟨rfl,?_⟩;rw [List.append_assoc] at l2;exact l2
theorem oK{α β:Type}{f g:α→List β}:∀{l:List α},(∀x∈l,f x=g x)→l.flatMap f=l.flatMap g
 |[],_=>rfl
 |x::l,h=>by rw [List.flatMap_cons,List.flatMap_cons,h x (by simp),oK fun y hy=>h y (by simp [hy])]
theorem my{n N:Nat}:∀{m m':Nat} {q:List (List Int)} {tr:Nat},q.length=N→uG n q.flatten→tr≤N→(n - q.flatten.length)+(N - tr) < m→(n - q.flatten.length)+(N - tr) < m'→im n N m q tr=im n N m' q tr
 |0,_,_,_,_,_,_,h,_=>by omega
 |m+1,0,_,_,_,_,_,_,h=>by omega
 |m+1,m'+1,q,tr,hq,hm,ht,h,h'=>by
  rw [im,im]
  by_cases c:tr=N
  ·
   rw [if_pos c,if_pos c]
  ·
   rw [if_neg c,if_neg c,my (m:=m) (m':=m') hq hm (by omega) (by omega) (by omega)]
   congr 1
   refine oK fun i hi=>?_
   by_cases c1:(i:Int)∈q.flatten
   ·
    rw [if_pos c1,if_pos c1]
   ·
    rw [if_neg c1,if_neg c1]
    have htr:tr < q.length:=by omega
    have hp:=pq (i:=i) htr
    have hl:=hp.length_eq
    simp only [List.length_append,List.length_cons,List.length_nil] at hl
    have hi':=List.mem_range.1 hi
    have hm':uG n (dD q tr i).flatten:=⟨hp.nodup_iff.2 (by
     rw [List.nodup_append]
     exact⟨hm.nd,by simp,fun a ha b hb=>by rw [List.mem_singleton] at hb;subst hb;exact fun e=>c1 (e▸ha)⟩),fun x hx=>by
     rcases List.mem_append.1 (hp.mem_iff.1 hx) with hx |hx
     ·
      exact hm.rng x hx
     ·
      rw [List.mem_singleton] at hx;omega⟩
    have:=hm'.len
    exact my (by unfold dD;rw [List.length_set,hq]) hm' ht (by omega) (by omega)
def OZ(n N:Nat):List (List (List Int)):=im n N 10 (List.replicate N []) 0
def nb(t:aW):List (List (List Int)):=(OZ t.2.1.length t.2.2.length).filter (oZ t)
theorem Bf:((List.range 6).all fun n=>(List.range 4).all fun N=>decide ((OZ n N).length≤2520))=true:=by decide+kernel
theorem uv{t:aW}(h:mE k t)(g:jk t){Y:σ→(List (List Int))→Option (σ×Bool)}{f:σ→List (List Int)→σ}{P:List (List (List Int))→σ→Prop}
 (hY:∀(pre:List (List (List Int))) (s:σ) (q:List (List Int)),eK t q→pre.length < 2520→P pre s→Y s (dR q)=some (f s q,true)∧P (pre++[q]) (f s q)) {s:σ} (hP:P [] s):
 dH k Y (t,()) s=some ((nb t).foldl f s)∧P (nb t) ((nb t).foldl f s):=by
 have h5:=g.things
 have h3:=g.trunks
 have hk0:=h.k0
 have e:dR []=dR (List.replicate t.2.2.length []):=by
  have:∀j:Nat,(List.replicate t.2.2.length ([]:List Int))[j]?.getD []=[]:=fun j=>by
   rw [List.getElem?_replicate];split <;> rfl
  unfold dR;rw [this,this,this];rfl
 have hfl:(List.replicate t.2.2.length ([]:List Int)).flatten=[]:=by simp
 have hmet:uG t.2.1.length (List.replicate t.2.2.length ([]:List Int)).flatten:=by rw [hfl];exact⟨by simp,by simp⟩
 have hm:Mk t (List.replicate t.2.2.length []):=⟨by simp,hmet⟩
 have hneed:(t.2.1.length - (List.replicate t.2.2.length ([]:List Int)).flatten.length)+(t.2.2.length - 0) < 10:=by rw [hfl];simp only [List.length_nil];omega
 have hfit:oZ t (List.replicate t.2.2.length [])=true:=by
  rw [il];intro i hi;rw [List.length_replicate] at hi;rw [List.getElem?_replicate,if_pos hi,Option.getD_some];have hr:=g.rooms _ (List.getElem_mem hi);rw [List.getElem?_eq_getElem hi];simp only [cJ,Option.getD_some];omega
 have ea:kw t k (List.replicate t.2.2.length []) 0=nb t:=by
  rw [pS g (by simp) (by omega) hfit,my (m':=10) (by simp) hmet (by omega) (by omega) hneed];rfl
 obtain⟨a,b⟩:=K9 h g hY k (List.replicate t.2.2.length []) 0 [] s hm hfit (by omega) (by omega) (by
  rw [ea,List.length_nil,Nat.zero_add];refine Nat.le_trans (List.length_filter_le _ _) ?_;have:=Bf;rw [List.all_eq_true] at this;have:=this t.2.1.length (List.mem_range.2 (by omega));rw [List.all_eq_true] at this;exact of_decide_eq_true (this t.2.2.length (List.mem_range.2 (by omega)))) hP
 rw [ea] at a b
 refine⟨?_,by simpa using b⟩
 unfold dH
 rw [hfl] at a
 rw [C6 hk0,bs,e]
 rw [show ij []=0 from rfl,show((0:Nat):Int)=0 from rfl] at a
 rw [a,bs]
end
theorem we{n N:Nat}:∀{m:Nat} {q:List (List Int)} {tr:Nat},q.length=N→uG n q.flatten→tr≤N→∀x∈im n N m q tr,x.length=N∧uG n x.flatten∧¬x.flatten.length < n
 |0,_,_,_,_,_,x,hx=>by cases hx
 |m+1,q,tr,hq,hm,ht,x,hx=>by
  rw [im] at hx
  by_cases c:tr=N
  ·
   rw [if_pos c] at hx
   split at hx
   ·
    cases hx
   ·
    rename_i hl
    rw [List.mem_singleton] at hx;subst hx
    exact⟨hq,hm,hl⟩
  ·
   rw [if_neg c] at hx
   rcases List.mem_append.1 hx with hx |hx
   ·
    exact we hq hm (by omega) x hx
   ·
    obtain⟨i,hi,hx⟩:=List.mem_flatMap.1 hx
    split at hx
    ·
     cases hx
    ·
     rename_i c1
     have htr:tr < q.length:=by omega
     have hp:=pq (i:=i) htr
     have hi':=List.mem_range.1 hi
     have hm':uG n (dD q tr i).flatten:=⟨hp.nodup_iff.2 (by
      rw [List.nodup_append]
      exact⟨hm.nd,by simp,fun a ha b hb=>by rw [List.mem_singleton] at hb;subst hb;exact fun e=>c1 (e▸ha)⟩),fun x hx=>by
      rcases List.mem_append.1 (hp.mem_iff.1 hx) with hx |hx
      ·
       exact hm.rng x hx
      ·
       rw [List.mem_singleton] at hx;omega⟩
     exact we (by unfold dD;rw [List.length_set,hq]) hm' ht x hx
theorem L1{n N:Nat}{x:List (List Int)}(h:x∈OZ n N):x.length=N∧uG n x.flatten∧¬x.flatten.length < n:=
 we (by simp) (by simp only [List.flatten_replicate_nil];exact⟨by simp,by simp⟩) (by omega) x h
theorem nS{t:aW}(g:jk t){q:List (List Int)}(h:q∈nb t):eK t q:=by
 obtain⟨h1,h2⟩:=List.mem_filter.1 h;obtain⟨a,b,c⟩:=L1 h1
 exact⟨g,a,b.nd,b.rng,b.full.1 c,fun i hi=>by
  have:=il.1 h2 i hi;rw [List.getElem?_eq_getElem hi,Option.getD_some] at this;exact this⟩
theorem Bg{t:aW}(g:jk t):(nb t).length≤2520:=by
 have h5:=g.things;have h3:=g.trunks;refine Nat.le_trans (List.length_filter_le _ _) ?_;have:=Bf;rw [List.all_eq_true] at this;have:=this t.2.1.length (List.mem_range.2 (by omega));rw [List.all_eq_true] at this;exact of_decide_eq_true (this t.2.2.length (List.mem_range.2 (by omega)))
theorem At.of{k:Nat}{t:aW}(h:mE k t)(hs:eS k t)(ht:jp t=0){q:List (List Int)}(hq:eK t q):At k t q:=⟨hs,h,hq.chk ht⟩
def dI(t:aW)(q:List (List Int)):Nat:=oe t t.1.toNat 0 q
def lx{α:Type}(f:α→Nat)(b:Option (α×Nat))(o:α):Option (α×Nat):=match b with
 |none=>some (o,f o)
 |some (x,n)=>if f o < n then some (o,f o) else some (x,n)
def wH{α:Type}(f:α→Nat)(l:List α):Option (α×Nat)→Prop
 |none=>l=[]
 |some (x,n)=>n=f x∧(∀y∈l,n≤f y)∧∃p s,l=p++x::s∧∀y∈p,n < f y
theorem Be{α:Type}{f:α→Nat}:∀(l pre:List α) (b:Option (α×Nat)),wH f pre b→wH f (pre++l) (l.foldl (lx f) b)
 |[],pre,b,h=>by simpa using h
 |o::l,pre,b,h=>by
  have h1:wH f (pre++[o]) (lx f b o):=by
   cases b with
   |none=>
    have h:pre=[]:=h;subst h;exact⟨rfl,fun y hy=>by simp only [List.nil_append,List.mem_singleton] at hy;subst hy;exact Nat.le_refl _,[],[],rfl,by simp⟩
   |some b=>
    obtain⟨x,n⟩:=b;obtain⟨h1,h2,p,s,h3,h4⟩:=h;unfold lx;dsimp only;by_cases c:f o < n
    ·rw [if_pos c];refine⟨rfl,fun y hy=>?_,pre,[],rfl,fun y hy=>Nat.lt_of_lt_of_le c (h2 y hy)⟩;rcases List.mem_append.1 hy with hy |hy
     ·exact Nat.le_of_lt (Nat.lt_of_lt_of_le c (h2 y hy))
     ·rw [List.mem_singleton] at hy;subst hy;exact Nat.le_refl _
    ·rw [if_neg c];refine⟨h1,fun y hy=>?_,p,s++[o],by rw [h3];simp,h4⟩;rcases List.mem_append.1 hy with hy |hy
     ·exact h2 y hy
     ·rw [List.mem_singleton] at hy;subst hy;omega
  have:=Be l (pre++[o]) _ h1;rwa [List.append_assoc] at this
theorem EC{α:Type}{f:α→Nat}(l:List α):wH f l (l.foldl (lx f) none):=by
 have:=Be (f:=f) l [] none rfl;simpa using this
section
variable {k:Nat}
theorem AI{t:aW}(h:mE k t)(hs:eS k t)(ht:jp t=0){q:List (List Int)}(hq:eK t q):bQ k t (dR q)=some (dI t q:Int):=by
 have hA:=At.of h hs ht hq;have h6:=hq.g.days;unfold bQ;rw [bR (N6 hq.fit),bs,Ls hA hq (by omega),bs,Int.sub_zero];rfl
theorem Dq{t:aW}(h:mE k t)(g:jk t):gx k (t,())=some ((nb t).map dR):=by
 unfold gx hH
 have:=uv (k:=k) h g (Y:=l6 (fun(y2:(List (List (List Int)))) (p4:(List (List Int)))=>(cU (bm (List.length y2+List.length [p4]))).bind fun _=>some (y2++[p4],true))) (f:=fun s q=>(s.1++[dR q],false)) (P:=fun pre s=>s=(pre.map dR,false)) (by
  rintro pre s q hq hl rfl;refine⟨?_,by simp⟩;show(((cU (bm _)).bind fun _=>some (_,true)).bind fun r=>some ((r.1, !r.2),r.2):Option _)=_;rw [bR (BF (by simp only [List.length_map,List.length_cons,List.length_nil];omega)),bs,bs];rfl) (s:=([],false)) rfl
 obtain⟨h1,h2⟩:=this;rw [h1,bs,h2,iF,bs]
theorem Da{t:aW}(h:mE k t)(hs:eS k t)(ht:jp t=0)(hk:3000≤k){l:List (List (List Int))}(hl:∀q∈l,eK t q)(hlen:l.length≤2520):
 iJ k t (l.map dR)=some (match l.foldl (lx (dI t)) none with |none=>([[0,0,0,0,0],[0,0,0,0,0],[0,0,0,0,0]],0,false) |some (q,n)=>(dR q,(n:Int),true)):=by
 have hk1:=h.k1
 unfold iJ
 have key:∀(d j n:Nat) (b:Option (List (List Int)×Nat)),j+d=l.length→d < n→
  de k t (l.map dR) n (match b with |none=>([[0,0,0,0,0],[0,0,0,0,0],[0,0,0,0,0]],0,false,(j:Int)) |some (q,m)=>(dR q,(m:Int),true,(j:Int)))=
  some (match (l.drop j).foldl (lx (dI t)) b with |none=>([[0,0,0,0,0],[0,0,0,0,0],[0,0,0,0,0]],0,false) |some (q,n)=>(dR q,(n:Int),true)):=by
  intro d
  induction d with
  |zero=>
   intro j n b hj hn;obtain⟨n,rfl⟩:∃n',n=n'+1:=⟨n - 1,by omega⟩;rw [List.drop_of_length_le (by omega),de];cases b with
   |none=>dsimp only;rw [if_neg (by rw [List.length_map];omega)];rfl
   |some b=>obtain⟨q,m⟩:=b;dsimp only;rw [if_neg (by rw [List.length_map];omega)];rfl
  |succ d ih=>
   intro j n b hj hn;obtain⟨n,rfl⟩:∃n',n=n'+1:=⟨n - 1,by omega⟩;have hjl:j < l.length:=by omega
   have hg:=AI h hs ht (hl _ (List.getElem_mem hjl));have hgi:aQ (l.map dR) (j:Int)=some (dR l[j]):=by rw [cD (by rw [List.length_map];exact hjl),List.getElem_map]
   have:=ih (j+1) n (lx (dI t) b l[j]) (by omega) (by omega);rw [List.drop_eq_getElem_cons hjl,List.foldl_cons,←this,de];cases b with
   |none=>
    dsimp only;rw [if_pos (by rw [List.length_map];omega),hgi,bs,hg,bs,nF,bs,iT,bs,bh (by omega) (by omega),bs];rfl
   |some b=>
    obtain⟨q,m⟩:=b;dsimp only;rw [if_pos (by rw [List.length_map];omega),hgi,bs,hg,bs,nT,bs];unfold lx;by_cases c:dI t l[j] < m
    ·rw [decide_eq_true (Int.ofNat_lt.2 c),iT,bs,bh (by omega) (by omega),bs];simp only [c,if_true];rfl
    ·rw [decide_eq_false (fun h=>c (Int.ofNat_lt.1 h)),iF,bs,bh (by omega) (by omega),bs];simp only [c,if_false];rfl
 have:=key l.length 0 k none (by omega) (by omega)
 rw [List.drop_zero] at this
 rw [show de k t (l.map dR) k ([[0,0,0,0,0],[0,0,0,0,0],[0,0,0,0,0]],0,false,0)=_ from this,bs]
def rc(t:aW):Option (List (List Int)×Nat):=(nb t).foldl (lx (dI t)) none
theorem Bd{t:aW}:wH (dI t) (nb t) (rc t):=EC _
theorem EZ{t:aW}(h:mE k t)(hs:eS k t)(hk:3000≤k)(ht:jp t=0):iL k t=some (match rc t with |none=>([],0,11) |some (q,n)=>(q,(n:Int),0)):=by
 have g:=oD ht;unfold iL;rw [qH hs,bs,ht,if_neg (not_not_intro rfl),Dq h g,bs,Da h hs ht hk (fun q hq=>nS g hq) (Bg g),bs];have hb:=Bd (t:=t);unfold rc at *;cases e:(nb t).foldl (lx (dI t)) none with
 |none=>dsimp only;rw [nF]
 |some b=>
  obtain⟨q,n⟩:=b;rw [e] at hb;obtain⟨_,_,p,s,h3,_⟩:=hb;have hq:=nS g (q:=q) (by rw [h3];simp);dsimp only;rw [nT,Ix h.k0 hq.fit hq.len,bs]
theorem JX{t:aW}(h:mE k t)(hs:eS k t)(hk:3000≤k)(ht:jp t=0):jO k t=some (match rc t with |none=>(0,11) |some (_,n)=>(((nb t).countP fun q=>decide (dI t q=n):Nat),0)):=by
 have g:=oD ht;unfold jO;rw [EZ h hs hk ht,bs];cases e:rc t with
 |none=>dsimp only;rw [if_pos (by decide)]
 |some b=>
  obtain⟨q,n⟩:=b;dsimp only;rw [if_neg (not_not_intro rfl)]
  have:=uv (k:=k) h g (Y:=l6 (fun(y8:Int) (p10:(List (List Int)))=>(bQ k t p10).bind fun r13=>if r13=(n:Int) then((ck (y8+(1:Int))).bind fun x14=>some (x14,true)) else(some (y8,true)))) (f:=fun s q=>(if dI t q=n then s.1+1 else s.1,false)) (P:=fun pre s=>s=(((pre.countP fun q=>decide (dI t q=n):Nat):Int),false)) (by
   rintro pre s q hq hl rfl;have hc:(pre.countP fun q=>decide (dI t q=n))≤pre.length:=List.countP_le_length;have hst:l6 (fun(y8:Int) (p10:(List (List Int)))=>(bQ k t p10).bind fun r13=>if r13=(n:Int) then((ck (y8+(1:Int))).bind fun x14=>some (x14,true)) else(some (y8,true))) (((pre.countP fun q=>decide (dI t q=n):Nat):Int),false) (dR q)=((bQ k t (dR q)).bind fun r13=>if r13=(n:Int) then((ck (((pre.countP fun q=>decide (dI t q=n):Nat):Int)+(1:Int))).bind fun x14=>some (x14,true)) else(some (((pre.countP fun q=>decide (dI t q=n):Nat):Int),true))).bind fun r=>some ((r.1, !r.2),r.2):=rfl;rw [hst,AI h hs ht hq,bs];by_cases c:dI t q=n
   ·rw [if_pos (show(dI t q:Int)=(n:Int) by omega),bh (by omega) (by omega),bs,bs];refine⟨by simp only [c,if_true];rfl,?_⟩;rw [List.countP_append];simp [c]
   ·rw [if_neg (show¬(dI t q:Int)=(n:Int) by omega),bs];refine⟨by simp only [c,if_false];rfl,?_⟩;rw [List.countP_append];simp [c]) (s:=(0,false)) rfl
  obtain⟨h1,h2⟩:=this;rw [h1,bs,h2,iF]
end
end Go.Proofs.YtmeojbemjkmebaaGreatDoor
set_option linter.unusedVariables false
namespace Go.Proofs.YtmeojbemjkmebaaGreatDoor
open K Go Go.Proofs
theorem ub{n N:Nat}:∀(m:Nat) (q:List (List Int)) (tr:Nat),(im n N m q tr).length≤(n+1) ^ m
 |0,_,_=>by simp [im]
 |m+1,q,tr=>by
  have hp:1≤(n+1) ^ m:=Nat.pow_pos (by omega)
  have hs:(n+1) ^ (m+1)=(n+1) ^ m+n * (n+1) ^ m:=by rw [Nat.pow_succ,Nat.mul_add,Nat.mul_one,Nat.mul_comm n];omega
  rw [im]
  split
  ·
   split
   ·
    simp
   ·
    simp only [List.length_cons,List.length_nil];omega
  ·
   have h1:=ub (n:=n) (N:=N) m q (tr+1)
   have h2:∀l:List Nat,(l.flatMap fun(i:Nat)=>if(i:Int)∈q.flatten then [] else im n N m (dD q tr i) tr).length≤l.length * (n+1) ^ m:=by
    intro l
    induction l with
    |nil=>simp
    |cons i l ih=>
     rw [List.flatMap_cons,List.length_append,List.length_cons,Nat.succ_mul]
     have:(if(i:Int)∈q.flatten then [] else im n N m (dD q tr i) tr).length≤(n+1) ^ m:=by
      split
      ·simp
      ·exact ub m _ _
     omega
   have h3:=h2 (List.range n);rw [List.length_range] at h3;rw [List.length_append];omega
section
variable {k:Nat}{t:aW}
def va(t:aW)(q:List (List Int))(tr:Nat):List (List (List Int)):=im t.2.1.length t.2.2.length (9+1) q tr
theorem IL{q:List (List Int)}:va t q t.2.2.length=if q.flatten.length < t.2.1.length then [] else [q]:=by
 unfold va;rw [im,if_pos rfl]
theorem vZ(g:jk t){q:List (List Int)}(hq:Mk t q){tr:Nat}(ht:tr < t.2.2.length):va t q tr=va t q (tr+1)++(List.range t.2.1.length).flatMap fun(i:Nat)=>if(i:Int)∈q.flatten then [] else va t (dD q tr i) tr:=by
 have h5:=g.things;have h3:=g.trunks
 have e:va t q tr=im t.2.1.length t.2.2.length 9 q (tr+1)++(List.range t.2.1.length).flatMap fun(i:Nat)=>if(i:Int)∈q.flatten then [] else im t.2.1.length t.2.2.length 9 (dD q tr i) tr:=by
  unfold va;rw [im,if_neg (by omega)]
 have h1:im t.2.1.length t.2.2.length 9 q (tr+1)=va t q (tr+1):=by
  unfold va;exact my (m:=9) (m':=9+1) hq.len hq.met (by omega) (by omega) (by omega)
 have h2:∀i∈List.range t.2.1.length,(if(i:Int)∈q.flatten then [] else im t.2.1.length t.2.2.length 9 (dD q tr i) tr)=if(i:Int)∈q.flatten then [] else va t (dD q tr i) tr:=fun i hi=>by
  have hi:=List.mem_range.1 hi;by_cases c:(i:Int)∈q.flatten
  ·rw [if_pos c,if_pos c]
  ·have hm:=hq.top (tr:=tr) (by rw [hq.len];exact ht) hi c;have hml:=hm.met.len;rw [if_neg c,if_neg c];unfold va;exact my (m:=9) (m':=9+1) hm.len hm.met (by omega) (by omega) (by omega)
 rw [e,h1,oK h2]
theorem Ej(g:jk t){q:List (List Int)}{tr:Nat}:(va t q tr).length≤60466176:=by
 refine Nat.le_trans (ub (9+1) q tr) ?_;have h5:=g.things;exact Nat.le_trans (Nat.pow_le_pow_left (show t.2.1.length+1≤6 by omega) (9+1)) (by decide)
def zF(use:List Int)(q:List (List Int)):Bool:=(List.range q.length).all fun i=>decide (q[i]?.getD []=[]∨(i:Int)∈use)
theorem rW{use:List Int}{q:List (List Int)}:zF use q=true↔∀i,i < q.length→q[i]?.getD []=[]∨(i:Int)∈use:=by
 unfold zF;rw [List.all_eq_true];exact⟨fun h i hi=>of_decide_eq_true (h i (List.mem_range.2 hi)),fun h i hi=>decide_eq_true (h i (List.mem_range.1 hi))⟩
def mX(t:aW)(use:List Int)(q:List (List Int)):Bool:=oZ t q && zF use q
theorem Ii{use:List Int}{q:List (List Int)}(hq:Mk t q){tr i:Nat}(ht:tr < t.2.2.length)(hu:¬(tr:Int)∈use):(va t (dD q tr i) tr).filter (mX t use)=[]:=by
 have htq:tr < q.length:=by rw [hq.len];exact ht
 refine List.filter_eq_nil_iff.2 fun x hx=>?_;have he:=lS (by unfold dD;rw [List.length_set,hq.len]) x hx;obtain⟨s,es⟩:=he.2 tr;rw [jY htq,if_pos rfl] at es;intro h;unfold mX at h;rw [Bool.and_eq_true] at h;rcases rW.1 h.2 tr (by rw [he.1];unfold dD;rw [List.length_set];exact htq) with h |h
 ·rw [es] at h;simp at h
 ·exact hu h
theorem Ij(g:jk t){use:List Int}{q:List (List Int)}(hq:Mk t q){tr i:Nat}(ht:tr < t.2.2.length)(hr:t.2.2[tr]?.getD 0 < cJ t (q[tr]?.getD [])+eN t (i:Int)):(va t (dD q tr i) tr).filter (mX t use)=[]:=by
 have htq:tr < q.length:=by rw [hq.len];exact ht
 refine List.filter_eq_nil_iff.2 fun x hx=>?_;have he:=lS (by unfold dD;rw [List.length_set,hq.len]) x hx;obtain⟨s,es⟩:=he.2 tr;rw [jY htq,if_pos rfl] at es;intro h;unfold mX at h;rw [Bool.and_eq_true] at h;have h1:=il.1 h.1 tr (by rw [he.1];unfold dD;rw [List.length_set];exact htq);rw [es,qm,kz] at h1;have:=(lK g (l:=s)).1;omega
theorem zM{q:List (List Int)}{tr i:Nat}(h:tr < q.length)(he:∀j,tr < j→q[j]?.getD []=[]):(dD q tr i).flatten=q.flatten++[(i:Int)]:=by
 have hd:(q.drop (tr+1)).flatten=[]:=by
  rw [List.flatten_eq_nil_iff];intro l hl;obtain⟨a,ha,rfl⟩:=List.getElem_of_mem hl;rw [List.length_drop] at ha;have:=he (tr+1+a) (by omega);rw [List.getElem?_eq_getElem (by omega),Option.getD_some] at this;rw [List.getElem_drop];exact this
 have hq:q=q.take tr++q[tr]::q.drop (tr+1):=by rw [←List.drop_eq_getElem_cons h,List.take_append_drop]
 have e1:q.flatten=(q.take tr).flatten++q[tr]:=by
  conv=>lhs;rw [hq]
  rw [List.flatten_append,List.flatten_cons,hd,List.append_nil]
 unfold dD;rw [List.set_eq_take_append_cons_drop,if_pos h,List.flatten_append,List.flatten_cons,hd,List.append_nil,e1,List.getElem?_eq_getElem h,Option.getD_some,List.append_assoc]
theorem yx(h:mE k t)(g:jk t){use:List Int}(hu:use.length < k):∀(m:Nat) (q:List (List Int)) (tr:Nat),Mk t q→oZ t q=true→zF use q=true→tr < t.2.2.length→(∀j,tr < j→q[j]?.getD []=[])→(t.2.1.length - q.flatten.length)+(t.2.2.length - tr) < m→
 eO k m t use (q.take (tr+1)) q.flatten (t.2.2[tr]?.getD 0 - cJ t (q[tr]?.getD []))=some ((va t q tr).filter (mX t use)):=by
 have h5:=g.things
 have h3:=g.trunks
 have hk:=h.k0
 have hk1:=h.k1
 intro m
 induction m with
 |zero=>intro q tr _ _ _ _ _ hm;omega
 |succ m ih=>
  intro q tr hq hfit hus ht hemp hm;have hlen:=hq.met.len;have hql:=hq.len;have htq:tr < q.length:=by omega
  have htk:(q.take (tr+1)).length=tr+1:=by rw [List.length_take];omega
  have hgk:aQ (q.take (tr+1)) (tr:Int)=some (q[tr]?.getD []):=by
   refine oG (by omega) ?_;rw [Int.toNat_natCast,List.getElem?_take,if_pos (by omega),List.getElem?_eq_getElem htq];rfl
  obtain⟨r1,r2⟩:=hq.row tr
  have hroom:0≤t.2.2[tr]?.getD 0∧t.2.2[tr]?.getD 0≤9:=by
   rw [List.getElem?_eq_getElem ht,Option.getD_some];exact g.rooms _ (List.getElem_mem ht)
  have hsz:=lK g (l:=q[tr]?.getD []);have htot:=Ej g (q:=q) (tr:=tr);rw [vZ g hq ht,List.length_append] at htot
  have loop:∀(d j n:Nat) (out:List (List (List Int))),j+d=t.2.1.length→d < n→out.length+((List.range' j d).flatMap fun(i:Nat)=>if(i:Int)∈q.flatten then [] else va t (dD q tr i) tr).length≤100000000→
   eF k t use (q.take (tr+1)) q.flatten (t.2.2[tr]?.getD 0 - cJ t (q[tr]?.getD [])) (eO k m) (tr:Int) n (out,(j:Int))=
   some (out++((List.range' j d).flatMap fun(i:Nat)=>if(i:Int)∈q.flatten then [] else va t (dD q tr i) tr).filter (mX t use)):=by
   intro d
   induction d with
   |zero=>
    intro j n out hj hn _;obtain⟨n,rfl⟩:∃n',n=n'+1:=⟨n - 1,by omega⟩;rw [eF];dsimp only;rw [if_neg (by omega),bs,iF];simp
   |succ d ihd=>
    intro j n out hj hn hB;obtain⟨n,rfl⟩:∃n',n=n'+1:=⟨n - 1,by omega⟩;have hjl:j < t.2.1.length:=by omega
    have e1:(j:Int)+1=((j+1:Nat):Int):=by omega
    rw [List.range'_succ,List.flatMap_cons,List.length_append] at hB;rw [eF];dsimp only;rw [if_pos (by omega),Dc hu hk1,bs,bs];by_cases cu:(tr:Int)∈use
    ·rw [decide_eq_true cu,iT,Dc (by omega) hk1,bs];by_cases ci:(j:Int)∈q.flatten
     ·rw [decide_eq_true ci,iT,bs,iT,bs,bh (by omega) (by omega),bs,e1,ihd (j+1) n out (by omega) (by omega) (by omega),List.range'_succ,List.flatMap_cons,if_pos ci,List.nil_append]
     ·rw [if_neg ci] at hB;obtain⟨y,ey,hy,hys⟩:=zN (t:=t) (x:=(j:Int)) (by omega) (by omega);rw [decide_eq_false ci,iF,ey,bs,bs];by_cases cr:t.2.2[tr]?.getD 0 - cJ t (q[tr]?.getD []) < y.1
      ·rw [decide_eq_true cr,iT,bs,bh (by omega) (by omega),bs,e1,ihd (j+1) n out (by omega) (by omega) (by omega),List.range'_succ,List.flatMap_cons,if_neg ci,List.filter_append,Ij g hq ht (by rw [hys];omega),List.nil_append]
      ·have hmk:=hq.top htq hjl ci;have hfl:=zM (i:=j) htq hemp;have hsy:=g.sizes y hy
       have hset:List.set (([]:List (List Int))++q.take (tr+1)) (Int.toNat (tr:Int)) ((([]:List Int)++q[tr]?.getD [])++[(j:Int)])=(dD q tr j).take (tr+1):=by
        unfold dD;rw [List.nil_append,List.nil_append,Int.toNat_natCast,List.take_set]
       have hrm:t.2.2[tr]?.getD 0 - cJ t (q[tr]?.getD []) - y.1=t.2.2[tr]?.getD 0 - cJ t ((dD q tr j)[tr]?.getD []):=by
        rw [jY htq,if_pos rfl,kz,hys];omega
       have hf':oZ t (dD q tr j)=true:=il.2 fun i hi=>by
        rw [jY htq];by_cases e:i=tr
        ·subst e;rw [if_pos rfl,kz,hys];omega
        ·rw [if_neg e];exact il.1 hfit i (by unfold dD at hi;rwa [List.length_set] at hi)
       have hu':zF use (dD q tr j)=true:=rW.2 fun i hi=>by
        rw [jY htq];by_cases e:i=tr
        ·subst e;exact .inr cu
        ·rw [if_neg e];exact rW.1 hus i (by unfold dD at hi;rwa [List.length_set] at hi)
       have hl1:=hmk.met.len;rw [hfl,List.length_append,List.length_cons,List.length_nil] at hl1;have hI:=ih (dD q tr j) tr hmk hf' hu' ht (fun i hi=>by rw [jY htq,if_neg (by omega)];exact hemp i hi) (by rw [hfl,List.length_append,List.length_cons,List.length_nil];omega);have hpl:=Nat.le_trans (List.length_filter_le (mX t use) (va t (dD q tr j) tr)) (Ej g)
       rw [decide_eq_false cr,iF,bR (BF (by simp only [List.length_nil];omega)),bs,hgk,bs,bR (BF (by simp only [List.length_nil];omega)),bs,bR (zr (n:=100) (by simp only [List.nil_append];omega) (by omega)),bs,
        show aQ (([]:List (List Int))++q.take (tr+1)) (tr:Int)=some (q[tr]?.getD []) from hgk,bs,bs,bh (by omega) (by omega),bs,bR (BF (by simp only [List.length_nil];omega)),bs,bR (zr (n:=100) (by simp only [List.nil_append];omega) (by omega)),bs,hset,hrm,List.nil_append,←hfl,hI,bs,
        bR (BF (by omega)),bs,bs,bh (by omega) (by omega),bs,e1,ihd (j+1) n _ (by omega) (by omega) (by rw [List.length_append];have:=List.length_filter_le (mX t use) (va t (dD q tr j) tr);omega),List.range'_succ,List.flatMap_cons,if_neg ci,List.filter_append,List.append_assoc]
    ·rw [decide_eq_false cu,iF]
     have:((List.range' j (d+1)).flatMap fun(i:Nat)=>if(i:Int)∈q.flatten then [] else va t (dD q tr i) tr).filter (mX t use)=[]:=by
      rw [List.filter_flatMap];refine List.flatMap_eq_nil_iff.2 fun i _=>?_;by_cases c:(i:Int)∈q.flatten
      ·simp [c]
      ·simp only [c,if_false];exact Ii hq ht cu
     rw [this,List.append_nil]
  rw [eO,htk,bh (by omega) (by omega),bs,show(((tr+1:Nat):Int) - 1)=(tr:Int) by omega,bh (by omega) (by omega),bs];have hr0:List.range t.2.1.length=List.range' 0 t.2.1.length:=List.range_eq_range';by_cases cl:tr+1=t.2.2.length
  ·have htak:q.take (tr+1)=q:=by rw [List.take_of_length_le (by omega)]
   have hfin:(va t q (tr+1)).filter (mX t use)=if(q.flatten.length:Int)=(t.2.1.length:Int) then [q] else []:=by
    rw [cl,IL];by_cases c:q.flatten.length < t.2.1.length
    ·rw [if_pos c,if_neg (by omega)];rfl
    ·rw [if_neg c,if_pos (by omega),List.filter_cons_of_pos (by unfold mX;rw [hfit,hus];rfl)];rfl
   have hl0:=loop t.2.1.length 0 k;rw [if_pos (show(tr:Int)=(t.2.2.length:Int) - 1 by omega)];rw [vZ g hq ht,List.filter_append,hfin,hr0];by_cases c:(q.flatten.length:Int)=(t.2.1.length:Int)
   ·rw [if_pos c,if_pos c,bR (BF (by simp only [List.length_nil,List.length_cons];omega)),bs,bs,htak];rw [htak] at hl0;have h1:=hl0 (([]:List (List (List Int)))++[q]) (by omega) (by omega) (by rw [hr0] at htot;simp only [List.length_append,List.length_nil,List.length_cons];omega);rw [Int.natCast_zero] at h1;rw [h1,bs];rfl
   ·have h1:=hl0 ([]:List (List (List Int))) (by omega) (by omega) (by rw [hr0] at htot;simp only [List.length_nil];omega);rw [Int.natCast_zero] at h1;rw [if_neg c,if_neg c,bs,h1,bs]
  ·rw [if_neg (show¬(tr:Int)=(t.2.2.length:Int) - 1 by omega),bR (BF (by simp only [List.length_nil];omega)),bs,bR (BF (by simp only [List.nil_append,List.length_cons,List.length_nil];omega)),bs,bh (by omega) (by omega),bs];have ht1:tr+1 < t.2.2.length:=by omega
   have hg1:aQ t.2.2 ((tr:Int)+1)=some (t.2.2[tr+1]?.getD 0):=oG (by omega) (by rw [show((tr:Int)+1).toNat=tr+1 by omega,List.getElem?_eq_getElem ht1];rfl);have he1:q[tr+1]?.getD []=[]:=hemp (tr+1) (by omega)
   have hta:(([]:List (List Int))++q.take (tr+1))++([[]]:List (List Int))=q.take (tr+1+1):=by
    rw [List.nil_append,List.take_add_one (i:=tr+1),List.getElem?_eq_getElem (by omega:tr+1 < q.length)];rw [List.getElem?_eq_getElem (by omega:tr+1 < q.length),Option.getD_some] at he1;rw [he1];rfl
   have hI:=ih q (tr+1) hq hfit hus ht1 (fun i hi=>hemp i (by omega)) (by omega);rw [he1] at hI;have hz:t.2.2[tr+1]?.getD 0 - cJ t []=t.2.2[tr+1]?.getD 0:=by simp only [cJ];omega
   rw [hz] at hI;have hpl:=List.length_filter_le (mX t use) (va t q (tr+1));have h1:=loop t.2.1.length 0 k (([]:List (List (List Int)))++(va t q (tr+1)).filter (mX t use)) (by omega) (by omega) (by rw [hr0] at htot;simp only [List.nil_append];omega);rw [Int.natCast_zero] at h1;rw [hg1,bs,hta,hI,bs,bR (BF (by simp only [List.length_nil];omega)),bs,bs,h1,bs,vZ g hq ht,List.filter_append,hr0];rfl
theorem MQ(h:mE k t)(g:jk t){use:List Int}(hu:use.length < k):sx k t use=some ((nb t).filter (zF use)):=by
 have h3:=g.trunks;have h5:=g.things;have hk:=h.k0;have hmet:(List.replicate t.2.2.length ([]:List Int)).flatten=[]:=by simp
 have hat:∀j:Nat,(List.replicate t.2.2.length ([]:List Int))[j]?.getD []=[]:=fun j=>by rw [List.getElem?_replicate];split <;> rfl
 have hmk:Mk t (List.replicate t.2.2.length []):=⟨by simp,by rw [hmet];exact⟨by simp,by simp⟩⟩
 have hfit:oZ t (List.replicate t.2.2.length [])=true:=il.2 fun i hi=>by
  rw [List.length_replicate] at hi;rw [hat];have hr:=g.rooms _ (List.getElem_mem hi);rw [List.getElem?_eq_getElem hi];simp only [cJ,Option.getD_some];omega
 have hI:=yx h g hu k _ 0 hmk hfit (rW.2 fun i _=>.inl (hat i)) (by omega) (fun j _=>hat j) (by rw [hmet];simp only [List.length_nil];omega);rw [hmet,hat,show(List.replicate t.2.2.length ([]:List Int)).take (0+1)=[[]] by rw [List.take_replicate,Nat.min_eq_left (by omega)];rfl,show t.2.2[0]?.getD 0 - cJ t []=t.2.2[0]?.getD 0 by simp only [cJ];omega] at hI;unfold sx;rw [show aQ t.2.2 (0:Int)=some (t.2.2[0]?.getD 0) from oG (by omega) (by show t.2.2[0]? =_;rw [List.getElem?_eq_getElem (by omega:0 < t.2.2.length)];rfl),bs,hI,bs];unfold va mX nb;rw [List.filter_filter];congr 1;refine List.filter_congr fun x _=>?_;rw [Bool.and_comm]
theorem F6(hk:50≤k){n:Nat}(hn:n≤3):nG k (n:Int)=some ((List.range n).map fun(i:Nat)=>(i:Int)):=by
 unfold nG
 have hb:=W.loop (f:=i9 k (n:Int)) (Q:=fun o=>o=(List.range n).map fun(i:Nat)=>(i:Int)) (fun q y=>∃j:Nat,y.2=(j:Int)∧j≤n∧q=n - j∧y.1=(List.range j).map fun(i:Nat)=>(i:Int)) (by
  rintro aS q ⟨o,y⟩ ⟨j,hj,hle,hq,ho⟩ ih;simp only at hj ho;subst hj ho;unfold i9;dsimp only;refine W.ite (fun hlt=>?_) (fun hge=>W.ret ?_)
  ·rw [bR (zr (n:=100) (by rw [List.length_map,List.length_range];omega) (by omega)),bs,bh (by omega) (by omega),bs];refine ih (q - 1) (_,(j:Int)+1) (by omega) ⟨j+1,by show(j:Int)+1=((j+1:Nat):Int);omega,by omega,by omega,?_⟩;rw [List.range_succ,List.map_append];rfl
  ·have:j=n:=by omega
   rw [this]) n k ([],0) (by omega) ⟨0,rfl,by omega,by omega,rfl⟩
 obtain⟨o,eo,rfl⟩:=hb;rw [eo,bs]
theorem Kq{q:List (List Int)}(hq:q.length=t.2.2.length):zF ((List.range t.2.2.length).map fun(i:Nat)=>(i:Int)) q=true:=
 rW.2 fun i hi=>.inr (List.mem_map.2 ⟨i,List.mem_range.2 (by omega),rfl⟩)
end
end Go.Proofs.YtmeojbemjkmebaaGreatDoor
