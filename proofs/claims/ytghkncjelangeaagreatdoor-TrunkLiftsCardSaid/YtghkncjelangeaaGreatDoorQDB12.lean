import Derived.Test.YtghkncjelangeaaGreatDoorQDB11
set_option linter.unusedVariables false
set_option linter.unusedSimpArgs false
namespace Go.Proofs.YtghkncjelangeaaGreatDoor
open K Go Go.Proofs
section
variable {k:Nat}
theorem F8{t:bz}(h:wB k t){x:Int}(hx:0≤x∧x < (t.2.1.length:Int)){d:Int}:oZ k t x d=some (lu t d x):=by
 obtain⟨n,rfl⟩:∃n:Nat,x=(n:Int):=⟨x.toNat,by omega⟩;have hn:n < t.2.1.length:=by omega
 unfold oZ;rw [co hn,bs,H7 (h.worn _ (List.getElem_mem hn)) h.k1,bs];congr 1;unfold lu;rw [Int.toNat_natCast,List.getElem?_eq_getElem hn]
theorem FB{t:bz}(h:wB k t){d:Int}{l:List Int}(hl9:l.length≤1000)(hx:∀x∈l,0≤x∧x < (t.2.1.length:Int)):∀(m pre:List Int) (n:Nat) (lf rs tp:List Int),l=pre++m→m.length < n→lf.length+rs.length+tp.length+2 * m.length≤10000→
 jw k t l d n (lf,rs,tp,(pre.length:Int))=some (lf++cT (lu t d) (decide (0 < tp.length)) m,rs++m.filter (fun x=> !lu t d x),tp++m.filter (lu t d)):=by
 intro m
 induction m with
 |nil=>
  intro pre n lf rs tp e hn _;obtain⟨n,rfl⟩:∃n',n=n'+1:=⟨n - 1,by omega⟩;rw [jw];dsimp only;rw [if_neg (by rw [e];simp)];simp [cT]
 |cons x m ih=>
  intro pre n lf rs tp e hn hb;simp only [List.length_cons] at hn hb;obtain⟨n,rfl⟩:∃n',n=n'+1:=⟨n - 1,by omega⟩;have hp:pre.length < l.length:=by rw [e];simp
  have hg:aS l (pre.length:Int)=some x:=by rw [co hp];simp [e]
  have hxl:=hx x (by rw [e];simp);have ep:(pre.length:Int)+1=((pre++[x]).length:Int):=by simp
  rw [jw];dsimp only;rw [if_pos (by omega),hg,bs,F8 h hxl,bs];cases c:lu t d x with
  |true=>
   rw [iT,bs,cM (Bd (n:=10000) (by omega) (by omega)),bs,bs];dsimp only;rw [bI (by omega) (by omega),bs,ep,ih (pre++[x]) n lf rs (tp++[x]) (by simp [e]) (by omega) (by simp only [List.length_append,List.length_cons,List.length_nil];omega)];simp [cT,c]
  |false=>
   rw [iF,bs,cM (Bd (n:=10000) (by omega) (by omega)),bs];by_cases c2:0 < tp.length
   ·rw [if_pos (by omega),bs,cM (Bd (n:=10000) (by omega) (by omega)),bs,bs];dsimp only;rw [bI (by omega) (by omega),bs,ep,ih (pre++[x]) n (lf++[x]) (rs++[x]) tp (by simp [e]) (by omega) (by simp only [List.length_append,List.length_cons,List.length_nil];omega)];simp [cT,c,c2]
   ·rw [if_neg (by omega),bs];dsimp only;rw [bI (by omega) (by omega),bs,ep,ih (pre++[x]) n lf (rs++[x]) tp (by simp [e]) (by omega) (by simp only [List.length_append,List.length_cons,List.length_nil];omega)];simp [cT,c,c2]
theorem K3{t:bz}(h:wB k t){d:Int}{l:List Int}(hl:l.length < k)(hl9:l.length≤1000)(hx:∀x∈l,0≤x∧x < (t.2.1.length:Int)):rK k t l d=some (cT (lu t d) false l,yh (lu t d) l):=by
 unfold rK;have e:=FB h (d:=d) hl9 hx l [] k [] [] [] rfl hl (by simp only [List.length_nil];omega);rw [show((0:Int))=(([]:List Int).length:Int) from rfl,e,bs];have h1:=List.length_filter_le (fun x=> !lu t d x) l;have h2:=List.length_filter_le (lu t d) l;dsimp only;rw [cM (LU (by simp only [List.nil_append];omega)),bs];rfl
theorem FK{o:List Int}{L L':Nat→Bool}(h:∀i,i < o.length→L i=true→L' i=false):fA (fA o L) L'=fA o (fun i=>L i || L' i):=by
 refine List.ext_getElem (by simp [fA]) fun j h1 h2=>?_;simp only [fA,List.length_mapIdx] at h1;simp only [fA,List.getElem_mapIdx];have:=h j h1;by_cases c:L j=true
 ·simp [c,this c]
 ·simp [c]
theorem D5{o:List Int}{L:Nat→Bool}{m:Int}(h:∀v∈o,0≤v∧v≤m):∀v∈fA o L,0≤v∧v≤m+1:=fun v hv=>by
 unfold fA at hv
 obtain⟨i,hi,rfl⟩:=List.mem_mapIdx.1 hv
 have:=h _ (List.getElem_mem hi)
 split <;> omega
theorem GN{r:(List Int)×(List Int)}(hn:r.1.Nodup){o:List Int}(hr:∀x∈r.1,0≤x∧x < (o.length:Int))(h8:r.1.length < k)(h9:r.1.length≤1000)(hv:∀v∈o,0≤v∧v≤1000):
 iE k r k (o,0)=some (fA o (fun i=>decide ((i:Int)∈r.1))):=by
 have hall:∀x∈r.1,∃i:Nat,x=(i:Int)∧i < o.length:=fun x hx=>⟨x.toNat,by have:=hr x hx;omega,by have:=hr x hx;omega⟩
 have hb:=W.loop (f:=iE k r) (Q:=fun z=>z=fA o (fun i=>decide ((i:Int)∈r.1))) (fun qq z=>∃j:Nat,z.2=(j:Int)∧j≤r.1.length∧qq=r.1.length - j∧z.1=fA o (fun i=>decide ((i:Int)∈r.1.take j))) (by
  rintro aX qq ⟨c,z⟩ ⟨j,hj,hle,hq,hc⟩ ih;simp only at hj hc;subst hj hc;unfold iE;dsimp only;refine W.ite (fun hlt=>?_) (fun hge=>W.ret ?_)
  ·have hj:j < r.1.length:=by omega
   obtain⟨i,ei,hi⟩:=hall _ (List.getElem_mem hj);have hvi:=hv _ (List.getElem_mem hi)
   have hno:¬(i:Int)∈r.1.take j:=fun hm=>by
    obtain⟨a,ha,e⟩:=List.getElem_of_mem hm;rw [List.getElem_take] at e;rw [List.length_take] at ha;have:=(List.getElem_inj hn).1 (e.trans ei.symm);omega
   rw [co hj,bs,bs,ei,AW hi (by exact decide_eq_false hno),bs,bI (by omega) (by omega),bs,bs,bI (by omega) (by omega),bs];refine ih (qq - 1) (_,(j:Int)+1) (by omega) ⟨j+1,by show(j:Int)+1=((j+1:Nat):Int);omega,by omega,by omega,?_⟩;show List.set (fA _ _) i _=_;rw [AV hi];refine mi fun a _=>?_;rw [List.take_add_one,List.getElem?_eq_getElem hj,ei];simp only [Option.toList_some,List.mem_append,List.mem_cons,List.not_mem_nil,or_false];by_cases ea:a=i
   ·subst ea;simp
   ·have:¬(a:Int)=(i:Int):=by omega
    simp [ea,this]
  ·have:j=r.1.length:=by omega
   subst this;rw [List.take_of_length_le (Nat.le_refl _)]) r.1.length k (o,0) h8 ⟨0,rfl,by omega,by omega,by simp [tP]⟩
 obtain⟨o',eo,h⟩:=hb
 rw [eo,h]
def aftD(t:bz)(d:Int)(p:List (List Int)):Nat→List (List Int)
 |0=>p
 |n+1=>py t (d+n) (aftD t d p n)
def oJ(t:bz)(d:Int)(p:List (List Int)):Nat→List Int
 |0=>List.replicate t.2.1.length 0
 |n+1=>fA (oJ t d p n) (wX t (aftD t d p n) (d+n))
theorem iO.aftD{t:bz}{p:List (List Int)}(h:iO t p){d:Int}:∀n,iO t (aftD t d p n)
 |0=>h
 |n+1=>(h.aftD n).next
theorem uw{t:bz}{d:Int}{p:List (List Int)}:∀n,(oJ t d p n).length=t.2.1.length∧∀v∈oJ t d p n,0≤v∧v≤(n:Int)
 |0=>⟨by simp [oJ],fun v hv=>by simp only [oJ,List.mem_replicate] at hv;omega⟩
 |n+1=>by
  obtain⟨h1,h2⟩:=uw (t:=t) (d:=d) (p:=p) n
  refine⟨by rw [oJ,sA,h1],fun v hv=>?_⟩
  have:=D5 h2 v hv
  omega
theorem IU{t:bz}{p:List (List Int)}:∀n,aftD t 0 p n=yN t p n
 |0=>rfl
 |n+1=>by rw [aftD,yN,IU n,Int.zero_add]
theorem G4{t:bz}{p:List (List Int)}:∀n,oJ t 0 p n=qn t p n
 |0=>rfl
 |n+1=>by rw [oJ,qn,G4 n,IU,Int.zero_add]
theorem FA{t:bz}(h:wB k t){q:List (List Int)}(hg:iO t q){y:(List Int)×(List (List Int))×Int}(hy:y.2.1=q){o:List Int}(ho:o.length=t.2.1.length)(hv:∀v∈o,0≤v∧v≤900):
 iG k t y k (o,[],0)=some (fA o (wX t q y.2.2),py t y.2.2 q):=by
 have hf:=hg.fit
 have hk:=h.k0
 have hk1:=h.k1
 have hlen:=hf.len
 subst hy
 have hb:=W.loop (f:=iG k t y) (Q:=fun z=>z=(fA o (wX t y.2.1 y.2.2),py t y.2.2 y.2.1)) (fun qq z=>∃j:Nat,z.2.2=(j:Int)∧j≤y.2.1.length∧qq=y.2.1.length - j∧z.1=fA o (fun i=>decide (∃l∈y.2.1.take j,(i:Int)∈cT (lu t y.2.2) false l))∧z.2.1=(y.2.1.take j).map (yh (lu t y.2.2))) (by
  rintro aX qq ⟨c,u,z⟩ ⟨j,hj,hle,hq,hc,hu⟩ ih;simp only at hj hc hu;subst hj hc hu;unfold iG;dsimp only;refine W.ite (fun hlt=>?_) (fun hge=>W.ret ?_)
  ·have hj:j < y.2.1.length:=by omega
   have hmem:y.2.1[j]∈y.2.1:=List.getElem_mem hj;have hr5:=(hf.fit _ hmem).1;have hnd:(y.2.1[j]).Nodup:=(List.pairwise_flatten.1 hg.nd).1 _ hmem;have hrg:∀x∈y.2.1[j],0≤x∧x < (t.2.1.length:Int):=fun x hx=>hg.rng x (List.mem_flatten.2 ⟨_,hmem,hx⟩);have hll:(cT (lu t y.2.2) false y.2.1[j]).length≤8:=td 8 _ (iL hnd) (fun x hx=>by have:=hrg x (iR hx);have:=h.things;omega)
   rw [co hj,bs,K3 h (by omega) (by omega) hrg,bs,
    GN (k:=k) (r:=(cT (lu t y.2.2) false y.2.1[j],yh (lu t y.2.2) y.2.1[j])) (iL hnd) (fun x hx=>by have:=hrg x (iR hx);rw [sA];omega) (by show(cT _ _ _).length < k;omega) (by show(cT _ _ _).length≤1000;omega) (fun v hv'=>by have:=D5 hv v hv';omega),bs,
    cM (Bd (n:=100) (by rw [List.length_map,List.length_take];omega) (by omega)),bs,bs]
   dsimp only;rw [bI (by omega) (by omega),bs];refine ih (qq - 1) (_,_,(j:Int)+1) (by omega) ⟨j+1,by show(j:Int)+1=((j+1:Nat):Int);omega,by omega,by omega,?_,?_⟩
   ·show fA (fA _ _) _=_;rw [FK]
    ·refine mi fun i _=>?_;rw [List.take_add_one,List.getElem?_eq_getElem hj,←Bool.decide_or];refine decide_eq_decide.2 ?_;simp only [Option.toList_some,List.mem_append,List.mem_cons,List.not_mem_nil,or_false];constructor
     ·rintro(⟨l,hl,h⟩ |h)
      ·exact⟨l,.inl hl,h⟩
      ·exact⟨_,.inr rfl,h⟩
     ·rintro⟨l,hl |rfl,h⟩
      ·exact .inl ⟨l,hl,h⟩
      ·exact .inr h
    ·intro i _ hi;refine decide_eq_false fun hi'=>?_;obtain⟨l,hl,hil⟩:=of_decide_eq_true hi;obtain⟨a,ha,rfl⟩:=List.getElem_of_mem hl;rw [List.length_take] at ha;rw [List.getElem_take] at hil;have:=EQ hg.nd (i:=a) (i':=j) (by omega) hj (iR hil) (iR hi');omega
   ·show(List.map _ _++[_])=_;rw [List.take_add_one,List.getElem?_eq_getElem hj,List.map_append];rfl
  ·have:j=y.2.1.length:=by omega
   subst this;rw [List.take_of_length_le (Nat.le_refl _)];rfl) y.2.1.length k (o,[],0) (by omega) ⟨0,rfl,by omega,by omega,by simp [tP],rfl⟩
 obtain⟨o',eo,h⟩:=hb
 rw [eo,h]
theorem A7{t:bz}(h:wB k t){p:List (List Int)}(hg:iO t p){d a:Int}{n:Nat}(hd:0≤d∧d≤100)(hn:n≤40)(ha:a=d+n):nk k t p d a=some (oJ t d p n,aftD t d p n):=by
 have hk:=h.k0;have hk1:=h.k1;have h5:=h.things;unfold nk;rw [cM (by exact⟨by omega,show Int.toNat (t.2.1.length:Int)≤4294967296 by omega⟩),bs]
 have hb:=W.loop (f:=jD k t a) (Q:=fun z=>z=(oJ t d p n,aftD t d p n)) (fun qq z=>∃j:Nat,z.2.2=d+(j:Int)∧j≤n∧qq=n - j∧z.1=oJ t d p j∧z.2.1=aftD t d p j) (by
  rintro aX qq ⟨c,u,z⟩ ⟨j,hj,hle,hq,hc,hu⟩ ih;simp only at hj hc hu;subst hj hc hu;unfold jD;dsimp only;refine W.ite (fun hlt=>?_) (fun hge=>W.ret ?_)
  ·obtain⟨o1,o2⟩:=uw (t:=t) (d:=d) (p:=p) j;rw [FA h (hg.aftD j) (y:=(oJ t d p j,aftD t d p j,d+(j:Int))) rfl o1 (fun v hv=>by have:=o2 v hv;omega),bs,bs];dsimp only;rw [bI (by omega) (by omega),bs];exact ih (qq - 1) (_,_,d+(j:Int)+1) (by omega) ⟨j+1,by show d+(j:Int)+1=d+((j+1:Nat):Int);omega,by omega,by omega,rfl,rfl⟩
  ·have:j=n:=by omega
   rw [this]) n k (List.replicate (Int.toNat (t.2.1.length:Int)) 0,p,d) (by omega) ⟨0,by show d=d+0;omega,by omega,by omega,by show List.replicate _ _=List.replicate _ _;rw [Int.toNat_natCast],rfl⟩
 obtain⟨o',eo,h⟩:=hb;rw [eo,bs,h]
theorem AU:∀{o:List Int} {L:Nat→Bool},(fA o L).sum=o.sum+((((List.range o.length).filter L).length:Nat):Int)
 |[],L=>by simp [fA]
 |v::o,L=>by
  have ih:=AU (o:=o) (L:=fun i=>L (i+1))
  have e:fA (v::o) L=(if L 0 then v+1 else v)::fA o (fun i=>L (i+1)):=by simp [fA,List.mapIdx_cons]
  have e2:((List.range (v::o).length).filter L).length=(if L 0 then 1 else 0)+((List.range o.length).filter (fun i=>L (i+1))).length:=by
   rw [List.length_cons,List.range_succ_eq_map,List.filter_cons,List.filter_map];split
   ·rw [List.length_cons,List.length_map];show(List.filter (L ∘ Nat.succ) _).length+1=_;rw [Nat.add_comm];rfl
   ·rw [List.length_map];show(List.filter (L ∘ Nat.succ) _).length=_;rw [Nat.zero_add];rfl
  rw [e,e2,List.sum_cons,List.sum_cons,ih];split <;> omega
theorem vK{t:bz}{d:Int}{p:List (List Int)}:∀n,aftD t (d+1) (py t d p) n=aftD t d p (n+1)
 |0=>by rw [aftD,aftD,aftD,Int.natCast_zero,Int.add_zero]
 |n+1=>by
  rw [aftD,vK n]
  show py t _ _=py t _ _
  congr 1
  omega
theorem Bv{t:bz}{e:Int}{q:List (List Int)}:nP t 0 e q=0:=by
 unfold nP
 induction q with
 |nil=>rfl
 |cons l q ih=>rw [List.map_cons,List.sum_cons,ih];rfl
theorem wF{t:bz}:∀(n:Nat) (d:Int) (p:List (List Int)),nP t (n+1) d p=nP t n d p+((aftD t d p n).map fun l=>(cT (lu t (d+n)) false l).length).sum
 |0,d,p=>by
  rw [sU]
  rw [Bv,Bv,aftD,Int.natCast_zero,Int.add_zero,Nat.add_zero,Nat.zero_add]
 |n+1,d,p=>by
  rw [sU,wF n (d+1) (py t d p),vK,sU (n:=n)]
  have e:d+1+(n:Int)=d+((n+1:Nat):Int):=by omega
  rw [e]
  omega
theorem Dv{t:bz}{d:Int}{p:List (List Int)}(hg:iO t p):∀n,(oJ t d p n).sum=((nP t n d p:Nat):Int)
 |0=>by
  rw [Bv,oJ]
  generalize t.2.1.length=m
  induction m with
  |zero=>rfl
  |succ m ih=>rw [List.replicate_succ,List.sum_cons,ih];rfl
 |n+1=>by
  have h1:=Dv (d:=d) hg n
  have h2:=Aj (hg.aftD (d:=d) n) (d:=d+n)
  rw [oJ,AU,h1,wF,(uw n).1,←h2]
  unfold yp
  rw [List.length_map]
  rfl
theorem JJ{r:(List Int)×(List (List Int))}(hk:r.1.length < k)(h8:r.1.length≤1000)(hv:∀v∈r.1,0≤v∧v≤1000):g7 k r k (0,0)=some r.1.sum:=by
 have hle:∀j,j≤r.1.length→0≤(r.1.take j).sum∧(r.1.take j).sum≤1000 * (j:Int):=by
  intro j
  induction j with
  |zero=>intro _;simp
  |succ j ih=>
   intro hj;have:=ih (by omega);have hx:=hv _ (List.getElem_mem (show j < r.1.length by omega));rw [List.take_add_one,List.getElem?_eq_getElem (show j < r.1.length by omega),List.sum_append];simp only [Option.toList_some,List.sum_cons,List.sum_nil];omega
 have hb:=W.loop (f:=g7 k r) (Q:=fun z=>z=r.1.sum) (fun qq z=>∃j:Nat,z.2=(j:Int)∧j≤r.1.length∧qq=r.1.length - j∧z.1=(r.1.take j).sum) (by
  rintro aX qq ⟨c,z⟩ ⟨j,hj,hl,hq,hc⟩ ih;simp only at hj hc;subst hj hc;unfold g7;dsimp only;refine W.ite (fun hlt=>?_) (fun hge=>W.ret ?_)
  ·have hj:j < r.1.length:=by omega
   have h1:=hle j (by omega);have hx:=hv _ (List.getElem_mem hj);rw [co hj,bs,bI (by omega) (by omega),bs,bI (by omega) (by omega),bs];refine ih (qq - 1) (_,(j:Int)+1) (by omega) ⟨j+1,by show(j:Int)+1=((j+1:Nat):Int);omega,by omega,by omega,?_⟩;rw [List.take_add_one,List.getElem?_eq_getElem hj,List.sum_append];simp
  ·have:j=r.1.length:=by omega
   subst this;rw [List.take_of_length_le (Nat.le_refl _)]) r.1.length k (0,0) hk ⟨0,rfl,by omega,by omega,by simp⟩
 obtain⟨o',eo,h⟩:=hb;rw [eo,h]
theorem E6{t:bz}(h:wB k t){p:List (List Int)}(hg:iO t p){d:Int}(hd:0≤d∧d≤t.1):nj k t p d=some ((nP t (t.1 - d).toNat d p:Nat):Int):=by
 have h6:=hg.g.days;obtain⟨o1,o2⟩:=uw (t:=t) (d:=d) (p:=p) (t.1 - d).toNat;have hk:=h.k0;have h5:=h.things;unfold nj;rw [A7 h hg (n:=(t.1 - d).toNat) (by omega) (by omega) (by omega),bs,JJ (by show(oJ _ _ _ _).length < k;omega) (by show(oJ _ _ _ _).length≤1000;omega) (fun v hv=>by have:=o2 v hv;omega),bs];show some (oJ _ _ _ _).sum=_;rw [Dv hg]
end
structure jM(k:Nat)(t:bz)(p:List (List Int)):Prop where
 k0:50≤k
 hs:hH k t
 hp:p.length < k
 hl:∀l∈p,l.length < k
section
variable {k:Nat}{t:bz}{p:List (List Int)}
theorem jM.dayT(h:jM k t p)(c:ll t=0):wB k t:=⟨h.k0,h.hs.k1,by have:=(uy c).things;omega,h.hs.worn⟩
theorem jM.at(h:jM k t p)(c:j9 t p=0):At k t p:=⟨h.hs,h.dayT (D2 c),c⟩
theorem jM.trk(h:jM k t p):cz k t p=some (j9 t p):=vH h.hs (by have:=h.k0;omega) h.hl
theorem jM.ref(h:jM k t p):dT k t p=some (j9 t p):=CX h.hs h.k0 h.hl
def yO(k:Nat)(q:List (List Int)):Prop:=q.length < k∧∀l∈q,l.length < k
theorem yO.nil(hk:50≤k):yO k []:=⟨by show 0 < k;omega,fun _ h=>by cases h⟩
theorem C4(h:jM k t p):∃r,iQ k t p=some r∧lG k t p=some r:=by
 have hk:=h.k0;by_cases c:j9 t p=0
 ·have g:=sc c;have h6:=g.g.days;have a:=h.at c;refine⟨_,I7 a,?_⟩;unfold lG;rw [h.ref,bs,if_neg (not_not_intro c),E6 a.dayT g (by omega),bs,Int.sub_zero]
 ·refine⟨(0,j9 t p),?_,?_⟩
  ·unfold iQ;rw [h.trk,bs,if_pos c]
  ·unfold lG;rw [h.ref,bs,if_pos c]
theorem C3(h:jM k t p):∃r,kj k t p=some r∧lF k t p=some r∧r.1.length < k:=by
 have hk:=h.k0;by_cases c:j9 t p=0
 ·have g:=sc c;have h6:=g.g.days;have h5:=g.g.things;have a:=h.at c;refine⟨_,I6 a,?_,by show(qn _ _ _).length < k;rw [(yb _).1];omega⟩;unfold lF;rw [h.ref,bs,if_neg (not_not_intro c),A7 a.dayT g (d:=0) (n:=t.1.toNat) (by omega) (by omega) (by omega),bs,G4]
 ·refine⟨([],j9 t p),?_,?_,by show 0 < k;omega⟩
  ·unfold kj;rw [h.trk,bs,if_pos c]
  ·unfold lF;rw [h.ref,bs,if_pos c]
end
section
variable {k:Nat}{t:bz}{p:List (List Int)}
theorem mQ{l:List Int}(h:l.length≤1000000):dY k l=some l:=by
 unfold dY;rw [cM (LU (by simp only [List.length_nil];omega)),bs];rfl
theorem t8(h:hH k t):iU k t=some t:=by
 have hk1:=h.k1;have h1:=h.things;have h2:=h.trunks;unfold iU;rw [mQ (by omega),bs]
 have hb:=W.loop (f:=fJ k t) (Q:=fun o=>o=t.2.1) (fun m y=>∃j:Nat,y.2=(j:Int)∧j≤t.2.1.length∧m=t.2.1.length - j∧y.1=t.2.1.take j) (by
  rintro aX m ⟨o,y⟩ ⟨j,hj,hle,hm,ho⟩ ih;simp only at hj ho;subst hj ho;unfold fJ;dsimp only;refine W.ite (fun hlt=>?_) (fun hge=>W.ret ?_)
  ·have hj:j < t.2.1.length:=by omega
   rw [co hj,bs,bs,mQ (by have:=h.worn _ (List.getElem_mem hj);omega),bs,cM (LU (by simp only [List.length_take,List.length_cons,List.length_nil];omega)),bs,bI (by omega) (by omega),bs];refine ih (m - 1) (_,(j:Int)+1) (by omega) ⟨j+1,by show(j:Int)+1=((j+1:Nat):Int);omega,by omega,by omega,?_⟩;rw [List.take_add_one,List.getElem?_eq_getElem hj];rfl
  ·rw [List.take_of_length_le (by omega)]) t.2.1.length k ([],0) h1 ⟨0,rfl,by omega,by omega,by simp⟩
 obtain⟨o,eo,rfl⟩:=hb;rw [eo,bs]
theorem IJ: @ji= @iU:=by kernel_rfl
theorem yE(h:hH k t):ji k t=some t:=by rw [IJ];exact t8 h
theorem sn(h:yO k p)(hk1:k≤1000000):ff k p=some p:=by
 have h1:=h.1;unfold ff
 have hb:=W.loop (f:=du k p) (Q:=fun o=>o=p) (fun q y=>∃j:Nat,y.2=(j:Int)∧j≤p.length∧q=p.length - j∧y.1=p.take j) (by
  rintro aX q ⟨o,y⟩ ⟨j,hj,hle,hq,ho⟩ ih;simp only at hj ho;subst hj ho;unfold du;dsimp only;refine W.ite (fun hlt=>?_) (fun hge=>W.ret ?_)
  ·have hj:j < p.length:=by omega
   rw [co hj,bs,mQ (by have:=h.2 _ (List.getElem_mem hj);omega),bs,cM (LU (by simp only [List.length_take,List.length_cons,List.length_nil];omega)),bs,bI (by omega) (by omega),bs];refine ih (q - 1) (_,(j:Int)+1) (by omega) ⟨j+1,by show(j:Int)+1=((j+1:Nat):Int);omega,by omega,by omega,?_⟩;rw [List.take_add_one,List.getElem?_eq_getElem hj];rfl
  ·rw [List.take_of_length_le (by omega)]) p.length k ([],0) h.1 ⟨0,rfl,by omega,by omega,by simp⟩
 obtain⟨o,eo,rfl⟩:=hb;rw [eo,bs]
theorem mJ{l:List Int}(h:l.length < k)(hk1:k≤1000000):dC k l l=some true:=by rw [zw h (by omega)];simp
theorem xQ(h:yO k p)(hk1:k≤1000000):f5 k p p=some true:=by
 unfold f5;rw [if_neg (by simp)];have h1:=h.1
 have hb:=W.loop (f:=fi k p p) (Q:=fun o=>o= .ok ()) (fun q y=>∃j:Nat,y=(j:Int)∧j≤p.length∧q=p.length - j) (by
  rintro aX q y ⟨j,hj,hle,hq⟩ ih;subst hj;unfold fi;refine W.ite (fun hlt=>?_) (fun hge=>W.ret rfl);have hj:j < p.length:=by omega
  rw [co hj,bs,bs,mJ (h.2 _ (List.getElem_mem hj)) hk1,bs,nT,bI (by omega) (by omega),bs];exact ih (q - 1) _ (by omega) ⟨j+1,by omega,by omega,by omega⟩) p.length k 0 h.1 ⟨0,rfl,by omega,by omega⟩
 obtain⟨o,eo,rfl⟩:=hb;rw [eo,oK]
theorem xP(h:hH k t):jg k t t=some true:=by
 have hk1:=h.k1;have h1:=h.things;unfold jg;rw [if_neg (by simp),if_neg (by simp),mJ h.trunks hk1,bs,bs,Bool.not_true,iF]
 have hb:=W.loop (f:=fh k t t) (Q:=fun o=>o= .ok ()) (fun q y=>∃j:Nat,y=(j:Int)∧j≤t.2.1.length∧q=t.2.1.length - j) (by
  rintro aX q y ⟨j,hj,hle,hq⟩ ih;subst hj;unfold fh;refine W.ite (fun hlt=>?_) (fun hge=>W.ret rfl);have hj:j < t.2.1.length:=by omega
  rw [co hj,bs,bs,if_neg (not_not_intro rfl),bs,bs,mJ (h.worn _ (List.getElem_mem hj)) hk1,bs,bs,Bool.not_true,iF,bI (by omega) (by omega),bs];exact ih (q - 1) _ (by omega) ⟨j+1,by omega,by omega,by omega⟩) t.2.1.length k 0 h.things ⟨0,rfl,by omega,by omega⟩
 obtain⟨o,eo,rfl⟩:=hb;rw [eo,oK]
structure Ea(t:bz):Prop where
 things:t.2.1.length≤20
 trunks:t.2.2.length≤20
 worn:∀x∈t.2.1,x.2.length≤20
 few:¬(t.2.1.length=5∧t.2.2.length=3)
theorem Ea.small(h:Ea t)(hk:50≤k)(hk1:k≤1000000):hH k t:=⟨hk1,by have:=h.things;omega,fun x hx=>by have:=h.worn x hx;omega,by have:=h.trunks;omega⟩
theorem JB(hk:50≤k):W (nw k t) fun b=>b=false→Ea t:=by
 unfold nw;by_cases c1:(20:Int) < (t.2.1.length:Int)
 ·rw [if_pos c1,bs,iT];exact W.ret fun h=>by cases h
 ·rw [if_neg c1,bs];by_cases c2:(20:Int) < (t.2.2.length:Int)
  ·rw [decide_eq_true c2,iT];exact W.ret fun h=>by cases h
  ·rw [decide_eq_false c2,iF]
   have hb:=W.loop (f:=jH k t) (Q:=fun o=>o= .error true∨(o= .ok ()∧∀x∈t.2.1,x.2.length≤20)) (fun q y=>∃j:Nat,y=(j:Int)∧j≤t.2.1.length∧q=t.2.1.length - j∧∀i (h:i < t.2.1.length),i < j→(t.2.1[i]).2.length≤20) (by
    rintro aX q y ⟨j,hj,hle,hq,ha⟩ ih;subst hj;unfold jH;refine W.ite (fun hlt=>?_) (fun hge=>W.ret (.inr ⟨rfl,fun x hx=>?_⟩))
    ·have hj:j < t.2.1.length:=by omega
     rw [co hj,bs];refine W.ite (fun hc=>W.ret (.inl rfl)) (fun hc=>?_);rw [bI (by omega) (by omega),bs];refine ih (q - 1) _ (by omega) ⟨j+1,by omega,by omega,by omega,fun i hi hij=>?_⟩;by_cases e:i=j
     ·subst e;omega
     ·exact ha i hi (by omega)
    ·obtain⟨i,hi,rfl⟩:=List.getElem_of_mem hx;exact ha i hi (by omega)) t.2.1.length k 0 (show t.2.1.length < k by omega) ⟨0,rfl,by omega,by omega,fun i _ h=>by omega⟩
   refine W.bEE hb (fun e he=>?_) (fun u hu=>?_)
   ·rcases he with he |he
    ·cases he;exact W.ret fun h=>by cases h
    ·cases he.1
   ·rcases hu with hu |hu
    ·cases hu
    ·by_cases c3:(t.2.1.length:Int)=5
     ·rw [if_pos c3,bs];exact W.ret fun h=>⟨by omega,by omega,hu.2,fun hh=>of_decide_eq_false h (by omega)⟩
     ·rw [if_neg c3,bs];exact W.ret fun h=>⟨by omega,by omega,hu.2,fun hh=>by omega⟩
theorem Jy(hk:50≤k):W (nv k p) fun b=>b=false→p.length≤20∧∀l∈p,l.length≤20:=by
 unfold nv
 have hb:=W.loop (f:=jG k p) (Q:=fun o=>o= .error true∨(o= .ok ()∧(p.length≤20→∀x∈p,x.length≤20))) (fun q y=>∃j:Nat,y=(j:Int)∧j≤p.length∧j≤20∧q=20 - j∧∀i (h:i < p.length),i < j→(p[i]).length≤20) (by
  rintro aX q y ⟨j,hj,hle,h20,hq,ha⟩ ih;subst hj;unfold jG;by_cases c1:(j:Int) < (p.length:Int)
  ·rw [if_pos c1,bs];by_cases c2:(j:Int) < 20
   ·have hj:j < p.length:=by omega
    rw [decide_eq_true c2,iT,co hj,bs];refine W.ite (fun hc=>W.ret (.inl rfl)) (fun hc=>?_);rw [bI (by omega) (by omega),bs];refine ih (q - 1) _ (by omega) ⟨j+1,by omega,by omega,by omega,by omega,fun i hi hij=>?_⟩;by_cases e:i=j
    ·subst e;omega
    ·exact ha i hi (by omega)
   ·rw [decide_eq_false c2,iF];refine W.ret (.inr ⟨rfl,fun h=>by omega⟩)
  ·rw [if_neg c1,bs,iF];refine W.ret (.inr ⟨rfl,fun _ x hx=>?_⟩);obtain⟨i,hi,rfl⟩:=List.getElem_of_mem hx;exact ha i hi (by omega)) 20 k 0 (by omega) ⟨0,rfl,by omega,by omega,by omega,fun i _ h=>by omega⟩
 refine W.bEE hb (fun e he=>?_) (fun u hu=>?_)
 ·rcases he with he |he
  ·cases he;exact W.ret fun h=>by cases h
  ·cases he.1
 ·rcases hu with hu |hu
  ·cases hu
  ·exact W.ret fun h=>⟨by have:=of_decide_eq_false h;omega,hu.2 (by have:=of_decide_eq_false h;omega)⟩
theorem H8(hk:50≤k){x:eF}:W (((nw k t).bind fun r5=>if r5=true then(some true) else((nv k p).bind fun r6=>if r6=true then(some true) else(some (decide ((20:Int) < (x.2.length:Int)))))):Option Bool) fun b=>b=false→Ea t∧(p.length≤20∧∀l∈p,l.length≤20)∧x.2.length≤20:=by
 obtain⟨b,eb,hb⟩:=JB (t:=t) hk;rw [eb,bs];cases b with
 |true=>rw [iT];exact W.ret fun h=>by cases h
 |false=>
  rw [iF];obtain⟨c,ec,hc⟩:=Jy (p:=p) hk;rw [ec,bs];cases c with
  |true=>rw [iT];exact W.ret fun h=>by cases h
  |false=>rw [iF];exact W.ret fun h=>⟨hb rfl,hc rfl,by have:=of_decide_eq_false h;omega⟩
structure OD(k:Nat)(ts:List bz)(ps:List (List (List Int))):Prop where
 l1:ts.length=4
 l2:ps.length=4
 at_:∀j:Nat,j < 4→∃t p,aS ts (j:Int)=some t∧aS ps (j:Int)=some p∧jM k t p
theorem OD.of{a b c d:bz}{p q r s:List (List Int)}(h0:jM k a p)(h1:jM k b q)(h2:jM k c r)(h3:jM k d s):OD k [a,b,c,d] [p,q,r,s]:=
 ⟨rfl,rfl,fun j hj=>by
  match j,hj with
  |0,_=>exact⟨_,_,rfl,rfl,h0⟩
  |1,_=>exact⟨_,_,rfl,rfl,h1⟩
  |2,_=>exact⟨_,_,rfl,rfl,h2⟩
  |3,_=>exact⟨_,_,rfl,rfl,h3⟩⟩
theorem A5.small{a b:Int}(h:A5 t a b)(ha:a≤8)(hb:b≤8)(hk:50≤k)(hk1:k≤1000000):hH k t:=
 ⟨hk1,by have:=h.things;omega,fun x hx=>by have:=(h.item x hx).2.2.1;omega,by have:=h.trunks;omega⟩
theorem jM.of(hk:50≤k)(hs:hH k t)(hp:p.length≤20)(hl:∀l∈p,l.length≤20):jM k t p:=⟨hk,hs,by omega,fun l h=>by have:=hl l h;omega⟩
theorem BE(hk:50≤k)(hk1:k≤1000000){x:eF}(ht:hH k t)(hp:p.length≤20)(hl:∀l∈p,l.length≤20)(hx:x.2.length≤20){l:bW}{m:Int}(hlo:Lo l m)(hm:0≤m∧m≤10):
 W (kU k t x p l) fun r=>OD k r.1 r.2.1∧Lo r.2.2 (m+200):=by
 unfold kU
 obtain⟨r3,e3,hT,hl3⟩:=JH hk hlo (by omega) (a:=4) (b:=3) (by omega) (by omega)
 have hT3:=hT.things
 have hTt:=hT.trunks
 have hs3:=hT.small (k:=k) (by omega) (by omega) hk hk1
 rw [show kx k (l.1,l.2.1,l.2.2) (4:Int) 3=some r3 from e3,bs,t8 hs3,bs,mQ (by omega),bs,cM (Bd (n:=100) (by omega) (by omega)),bs]
 obtain⟨r12,e12,h1,h2,h3⟩:=vb hk hT (by omega) (by omega) hl3 (by omega)
 rw [show fa k (r3.2.1,r3.2.2.1,r3.2.2.2) r3.1=some r12 from e12,bs]
 obtain⟨r13,e13,g1,g2,g3⟩:=vb hk hT (by omega) (by omega) h3 (by omega)
 rw [show fa k (r12.2.1,r12.2.2.1,r12.2.2.2) r3.1=some r13 from e13,bs,bI (by omega) (by omega),bs]
 have hsO:∀T:List Int,T.length=r3.1.2.2.length→hH k (r3.1.1,r3.1.2.1++[(x.1,x.2)],T):=fun T hT'=>⟨hk1,by show(r3.1.2.1++[(x.1,x.2)]).length < k;rw [List.length_append];simp only [List.length_cons,List.length_nil];omega,fun y hy=>by
  rcases List.mem_append.1 hy with hy |hy
  ·exact hs3.worn y hy
  ·rw [List.mem_singleton] at hy;subst hy;show x.2.length < k;omega,by show T.length < k;omega⟩
 have s0:jM k t p:=.of hk ht hp hl
 have s1:jM k r3.1 r12.1:=.of hk hs3 (by omega) (fun l h=>by have:=h2 l h;omega)
 have s2:jM k r3.1 p:=.of hk hs3 hp hl
 by_cases c:(r3.1.2.2.length:Int) < 3
 ·
  have hi:((r3.1.2.2.length:Int) - 1).toNat=r3.1.2.2.length - 1:=by omega
  have hr:r3.1.2.2.length - 1 < r3.1.2.2.length:=by omega
  have hroom:=hT.rooms _ (List.getElem_mem hr);have hg:aS r3.1.2.2 ((r3.1.2.2.length:Int) - 1)=some r3.1.2.2[r3.1.2.2.length - 1]:=vy (by omega) (by rw [hi];exact List.getElem?_eq_getElem hr);have hr':r3.1.2.2.length - 1 < r13.1.length:=by omega
  have hg':aS r13.1 ((r3.1.2.2.length:Int) - 1)=some r13.1[r3.1.2.2.length - 1]:=vy (by omega) (by rw [hi];exact List.getElem?_eq_getElem hr');have hb:=g2 _ (List.getElem_mem hr');rw [if_pos c,hg,bs,bI (by omega) (by omega),bs,bs,show aS [p,r12.1,p,r13.1] (3:Int)=some r13.1 from rfl,bs,sn ⟨by omega,fun l h=>by have:=g2 l h;omega⟩ hk1,bs,bs,hg',bs,cM (Bd (n:=100) (by omega) (by omega)),bs,bs,hi];refine W.ret ⟨OD.of s0 s1 s2 (.of hk (hsO _ (by rw [List.length_set])) (by rw [List.length_set];omega) (fun l hl=>?_)),g3.mono (by omega)⟩;rcases List.mem_or_eq_of_mem_set hl with h |h
  ·have:=g2 l h;omega
  ·rw [h,List.length_append];simp only [List.length_cons,List.length_nil];omega
 ·
  rw [if_neg c,bs];exact W.ret ⟨OD.of s0 s1 s2 (.of hk (hsO _ rfl) (by omega) (fun l h=>by have:=g2 l h;omega)),g3.mono (by omega)⟩
theorem Ue{a:List Int}:Lo (a,0,1) 0:=⟨Int.le_refl 0,Int.le_refl 0⟩
theorem Ug{α:Type}(a b c d:α){j:Nat}(h:j < 4):∃x,aS [a,b,c,d] (j:Int)=some x:=⟨_,co (by exact h)⟩
end
end Go.Proofs.YtghkncjelangeaaGreatDoor
