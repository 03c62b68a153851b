import Derived.Test.YtddneonghpmidaaGreatDoorSBB12
set_option linter.unusedVariables false
set_option linter.unusedSimpArgs false
namespace Go.Proofs.YtddneonghpmidaaGreatDoor
open K Go Go.Proofs
section
variable {k:Nat}
theorem G6{t:aU}(h:nz k t){x:Int}(hx:0≤x∧x < (t.2.1.length:Int)){d:Int}:pI k t x d=some (om t d x):=by
 obtain⟨n,rfl⟩:∃n:Nat,x=(n:Int):=⟨x.toNat,by omega⟩;have hn:n < t.2.1.length:=by omega
 unfold pI;rw [cD hn,bs,DJ (h.worn _ (List.getElem_mem hn)) h.k1,bs];congr 1;unfold om;rw [Int.toNat_natCast,List.getElem?_eq_getElem hn]
theorem GG{t:aU}(h:nz k t){d:Int}{l:List Int}(hl9:l.length≤1000)(hx:∀x∈l,0≤x∧x < (t.2.1.length:Int)):∀(m pre:List Int) (n:Nat) (lf rs tp:List Int),l=pre++m→m.length < n→lf.length+rs.length+tp.length+2 * m.length≤10000→
 jM k t l d n (lf,rs,tp,(pre.length:Int))=some (lf++dq (om t d) (decide (0 < tp.length)) m,rs++m.filter (fun x=> !om t d x),tp++m.filter (om t d)):=by
 intro m
 induction m with
 |nil=>
  intro pre n lf rs tp e hn _;obtain⟨n,rfl⟩:∃n',n=n'+1:=⟨n - 1,by omega⟩;rw [jM];dsimp only;rw [if_neg (by rw [e];simp)];simp [dq]
 |cons x m ih=>
  intro pre n lf rs tp e hn hb;simp only [List.length_cons] at hn hb;obtain⟨n,rfl⟩:∃n',n=n'+1:=⟨n - 1,by omega⟩;have hp:pre.length < l.length:=by rw [e];simp
  have hg:aP l (pre.length:Int)=some x:=by rw [cD hp];simp [e]
  have hxl:=hx x (by rw [e];simp);have ep:(pre.length:Int)+1=((pre++[x]).length:Int):=by simp
  rw [jM];dsimp only;rw [if_pos (by omega),hg,bs,G6 h hxl,bs];cases c:om t d x with
  |true=>
   rw [iT,bs,bR (zP (n:=10000) (by omega) (by omega)),bs,bs];dsimp only;rw [bv (by omega) (by omega),bs,ep,ih (pre++[x]) n lf rs (tp++[x]) (by simp [e]) (by omega) (by simp only [List.length_append,List.length_cons,List.length_nil];omega)];simp [dq,c]
  |false=>
   rw [iF,bs,bR (zP (n:=10000) (by omega) (by omega)),bs];by_cases c2:0 < tp.length
   ·rw [if_pos (by omega),bs,bR (zP (n:=10000) (by omega) (by omega)),bs,bs];dsimp only;rw [bv (by omega) (by omega),bs,ep,ih (pre++[x]) n (lf++[x]) (rs++[x]) tp (by simp [e]) (by omega) (by simp only [List.length_append,List.length_cons,List.length_nil];omega)];simp [dq,c,c2]
   ·rw [if_neg (by omega),bs];dsimp only;rw [bv (by omega) (by omega),bs,ep,ih (pre++[x]) n lf (rs++[x]) tp (by simp [e]) (by omega) (by simp only [List.length_append,List.length_cons,List.length_nil];omega)];simp [dq,c,c2]
theorem ME{t:aU}(h:nz k t){d:Int}{l:List Int}(hl:l.length < k)(hl9:l.length≤1000)(hx:∀x∈l,0≤x∧x < (t.2.1.length:Int)):sJ k t l d=some (dq (om t d) false l,G1 (om t d) l):=by
 unfold sJ;have e:=GG h (d:=d) hl9 hx l [] k [] [] [] rfl hl (by simp only [List.length_nil];omega);rw [show((0:Int))=(([]:List Int).length:Int) from rfl,e,bs];have h1:=List.length_filter_le (fun x=> !om t d x) l;have h2:=List.length_filter_le (om t d) l;dsimp only;rw [bR (Dh (by simp only [List.nil_append];omega)),bs];rfl
theorem GL{o:List Int}{L L':Nat→Bool}(h:∀i,i < o.length→L i=true→L' i=false):gW (gW o L) L'=gW o (fun i=>L i || L' i):=by
 refine List.ext_getElem (by simp [gW]) fun j h1 h2=>?_;simp only [gW,List.length_mapIdx] at h1;simp only [gW,List.getElem_mapIdx];have:=h j h1;by_cases c:L j=true
 ·simp [c,this c]
 ·simp [c]
theorem EY{o:List Int}{L:Nat→Bool}{m:Int}(h:∀v∈o,0≤v∧v≤m):∀v∈gW o L,0≤v∧v≤m+1:=fun v hv=>by
 unfold gW at hv
 obtain⟨i,hi,rfl⟩:=List.mem_mapIdx.1 hv
 have:=h _ (List.getElem_mem hi)
 split <;> omega
theorem HF{r:(List Int)×(List Int)}(hn:r.1.Nodup){o:List Int}(hr:∀x∈r.1,0≤x∧x < (o.length:Int))(h8:r.1.length < k)(h9:r.1.length≤1000)(hv:∀v∈o,0≤v∧v≤1000):
 iV k r k (o,0)=some (gW o (fun i=>decide ((i:Int)∈r.1))):=by
 have hall:∀x∈r.1,∃i:Nat,x=(i:Int)∧i < o.length:=fun x hx=>⟨x.toNat,by have:=hr x hx;omega,by have:=hr x hx;omega⟩
 have hb:=W.loop (f:=iV k r) (Q:=fun z=>z=gW o (fun i=>decide ((i:Int)∈r.1))) (fun qq z=>∃j:Nat,z.2=(j:Int)∧j≤r.1.length∧qq=r.1.length - j∧z.1=gW o (fun i=>decide ((i:Int)∈r.1.take j))) (by
  rintro aS qq ⟨c,z⟩ ⟨j,hj,hle,hq,hc⟩ ih;simp only at hj hc;subst hj hc;unfold iV;dsimp only;refine W.ite (fun hlt=>?_) (fun hge=>W.ret ?_)
  ·have hj:j < r.1.length:=by omega
   obtain⟨i,ei,hi⟩:=hall _ (List.getElem_mem hj);have hvi:=hv _ (List.getElem_mem hi)
   have hno:¬(i:Int)∈r.1.take j:=fun hm=>by
    obtain⟨a,ha,e⟩:=List.getElem_of_mem hm;rw [List.getElem_take] at e;rw [List.length_take] at ha;have:=(List.getElem_inj hn).1 (e.trans ei.symm);omega
   rw [cD hj,bs,bs,ei,JP hi (by exact decide_eq_false hno),bs,bv (by omega) (by omega),bs,bs,bv (by omega) (by omega),bs];refine ih (qq - 1) (_,(j:Int)+1) (by omega) ⟨j+1,by show(j:Int)+1=((j+1:Nat):Int);omega,by omega,by omega,?_⟩;show List.set (gW _ _) i _=_;rw [JM hi];refine wS fun a _=>?_;rw [List.take_add_one,List.getElem?_eq_getElem hj,ei];simp only [Option.toList_some,List.mem_append,List.mem_cons,List.not_mem_nil,or_false];by_cases ea:a=i
   ·subst ea;simp
   ·have:¬(a:Int)=(i:Int):=by omega
    simp [ea,this]
  ·have:j=r.1.length:=by omega
   subst this;rw [List.take_of_length_le (Nat.le_refl _)]) r.1.length k (o,0) h8 ⟨0,rfl,by omega,by omega,by simp [yt]⟩
 obtain⟨o',eo,h⟩:=hb
 rw [eo,h]
def aftD(t:aU)(d:Int)(p:List (List Int)):Nat→List (List Int)
 |0=>p
 |n+1=>qf t (d+n) (aftD t d p n)
def ri(t:aU)(d:Int)(p:List (List Int)):Nat→List Int
 |0=>List.replicate t.2.1.length 0
 |n+1=>gW (ri t d p n) (IP t (aftD t d p n) (d+n))
theorem dU.aftD{t:aU}{p:List (List Int)}(h:dU t p){d:Int}:∀n,dU t (aftD t d p n)
 |0=>h
 |n+1=>(h.aftD n).next
theorem vn{t:aU}{d:Int}{p:List (List Int)}:∀n,(ri t d p n).length=t.2.1.length∧∀v∈ri t d p n,0≤v∧v≤(n:Int)
 |0=>⟨by simp [ri],fun v hv=>by simp only [ri,List.mem_replicate] at hv;omega⟩
 |n+1=>by
  obtain⟨h1,h2⟩:=vn (t:=t) (d:=d) (p:=p) n
  refine⟨by rw [ri,wR,h1],fun v hv=>?_⟩
  have:=EY h2 v hv
  omega
theorem GF{t:aU}(h:nz k t){q:List (List Int)}(hg:dU t q){y:(List Int)×(List (List Int))×Int}(hy:y.2.1=q){o:List Int}(ho:o.length=t.2.1.length)(hv:∀v∈o,0≤v∧v≤900):
 iW k t y k (o,[],0)=some (gW o (IP t q y.2.2),qf t y.2.2 q):=by
 have hf:=hg.fit
 have hk:=h.k0
 have hk1:=h.k1
 have hlen:=hf.len
 subst hy
 have hb:=W.loop (f:=iW k t y) (Q:=fun z=>z=(gW o (IP t y.2.1 y.2.2),qf t y.2.2 y.2.1)) (fun qq z=>∃j:Nat,z.2.2=(j:Int)∧j≤y.2.1.length∧qq=y.2.1.length - j∧z.1=gW o (fun i=>decide (∃l∈y.2.1.take j,(i:Int)∈dq (om t y.2.2) false l))∧z.2.1=(y.2.1.take j).map (G1 (om t y.2.2))) (by
  rintro aS qq ⟨c,u,z⟩ ⟨j,hj,hle,hq,hc,hu⟩ ih;simp only at hj hc hu;subst hj hc hu;unfold iW;dsimp only;refine W.ite (fun hlt=>?_) (fun hge=>W.ret ?_)
  ·have hj:j < y.2.1.length:=by omega
   have hmem:y.2.1[j]∈y.2.1:=List.getElem_mem hj;have hr5:=(hf.fit _ hmem).1;have hnd:(y.2.1[j]).Nodup:=(List.pairwise_flatten.1 hg.nd).1 _ hmem;have hrg:∀x∈y.2.1[j],0≤x∧x < (t.2.1.length:Int):=fun x hx=>hg.rng x (List.mem_flatten.2 ⟨_,hmem,hx⟩);have hll:(dq (om t y.2.2) false y.2.1[j]).length≤8:=t4 8 _ (jd hnd) (fun x hx=>by have:=hrg x (jj hx);have:=h.things;omega)
   rw [cD hj,bs,ME h (by omega) (by omega) hrg,bs,
    HF (k:=k) (r:=(dq (om t y.2.2) false y.2.1[j],G1 (om t y.2.2) y.2.1[j])) (jd hnd) (fun x hx=>by have:=hrg x (jj hx);rw [wR];omega) (by show(dq _ _ _).length < k;omega) (by show(dq _ _ _).length≤1000;omega) (fun v hv'=>by have:=EY hv v hv';omega),bs,
    bR (zP (n:=100) (by rw [List.length_map,List.length_take];omega) (by omega)),bs,bs]
   dsimp only;rw [bv (by omega) (by omega),bs];refine ih (qq - 1) (_,_,(j:Int)+1) (by omega) ⟨j+1,by show(j:Int)+1=((j+1:Nat):Int);omega,by omega,by omega,?_,?_⟩
   ·show gW (gW _ _) _=_;rw [GL]
    ·refine wS fun i _=>?_;rw [List.take_add_one,List.getElem?_eq_getElem hj,←Bool.decide_or];refine decide_eq_decide.2 ?_;simp only [Option.toList_some,List.mem_append,List.mem_cons,List.not_mem_nil,or_false];constructor
     ·rintro(⟨l,hl,h⟩ |h)
      ·exact⟨l,.inl hl,h⟩
      ·exact⟨_,.inr rfl,h⟩
     ·rintro⟨l,hl |rfl,h⟩
      ·exact .inl ⟨l,hl,h⟩
      ·exact .inr h
    ·intro i _ hi;refine decide_eq_false fun hi'=>?_;obtain⟨l,hl,hil⟩:=of_decide_eq_true hi;obtain⟨a,ha,rfl⟩:=List.getElem_of_mem hl;rw [List.length_take] at ha;rw [List.getElem_take] at hil;have:=FQ hg.nd (i:=a) (i':=j) (by omega) hj (jj hil) (jj hi');omega
   ·show(List.map _ _++[_])=_;rw [List.take_add_one,List.getElem?_eq_getElem hj,List.map_append];rfl
  ·have:j=y.2.1.length:=by omega
   subst this;rw [List.take_of_length_le (Nat.le_refl _)];rfl) y.2.1.length k (o,[],0) (by omega) ⟨0,rfl,by omega,by omega,by simp [yt],rfl⟩
 obtain⟨o',eo,h⟩:=hb
 rw [eo,h]
theorem Ks{t:aU}(h:nz k t){p:List (List Int)}(hg:dU t p){d a:Int}{n:Nat}(hd:0≤d∧d≤100)(hn:n≤40)(ha:a=d+n):pJ k t p d a=some (ri t d p n,aftD t d p n):=by
 have hk:=h.k0;have hk1:=h.k1;have h5:=h.things;unfold pJ;rw [bR (by exact⟨by omega,show Int.toNat (t.2.1.length:Int)≤4294967296 by omega⟩),bs]
 have hb:=W.loop (f:=jS k t a) (Q:=fun z=>z=(ri t d p n,aftD t d p n)) (fun qq z=>∃j:Nat,z.2.2=d+(j:Int)∧j≤n∧qq=n - j∧z.1=ri t d p j∧z.2.1=aftD t d p j) (by
  rintro aS qq ⟨c,u,z⟩ ⟨j,hj,hle,hq,hc,hu⟩ ih;simp only at hj hc hu;subst hj hc hu;unfold jS;dsimp only;refine W.ite (fun hlt=>?_) (fun hge=>W.ret ?_)
  ·obtain⟨o1,o2⟩:=vn (t:=t) (d:=d) (p:=p) j;rw [GF h (hg.aftD j) (y:=(ri t d p j,aftD t d p j,d+(j:Int))) rfl o1 (fun v hv=>by have:=o2 v hv;omega),bs,bs];dsimp only;rw [bv (by omega) (by omega),bs];exact ih (qq - 1) (_,_,d+(j:Int)+1) (by omega) ⟨j+1,by show d+(j:Int)+1=d+((j+1:Nat):Int);omega,by omega,by omega,rfl,rfl⟩
  ·have:j=n:=by omega
   rw [this]) n k (List.replicate (Int.toNat (t.2.1.length:Int)) 0,p,d) (by omega) ⟨0,by show d=d+0;omega,by omega,by omega,by show List.replicate _ _=List.replicate _ _;rw [Int.toNat_natCast],rfl⟩
 obtain⟨o',eo,h⟩:=hb;rw [eo,bs,h]
theorem BK:∀{o:List Int} {L:Nat→Bool},(gW o L).sum=o.sum+((((List.range o.length).filter L).length:Nat):Int)
 |[],L=>by simp [gW]
 |v::o,L=>by
  have ih:=BK (o:=o) (L:=fun i=>L (i+1))
  have e:gW (v::o) L=(if L 0 then v+1 else v)::gW o (fun i=>L (i+1)):=by simp [gW,List.mapIdx_cons]
  have e2:((List.range (v::o).length).filter L).length=(if L 0 then 1 else 0)+((List.range o.length).filter (fun i=>L (i+1))).length:=by
   rw [List.length_cons,List.range_succ_eq_map,List.filter_cons,List.filter_map];split
   ·rw [List.length_cons,List.length_map];show(List.filter (L ∘ Nat.succ) _).length+1=_;rw [Nat.add_comm];rfl
   ·rw [List.length_map];show(List.filter (L ∘ Nat.succ) _).length=_;rw [Nat.zero_add];rfl
  rw [e,e2,List.sum_cons,List.sum_cons,ih];split <;> omega
theorem wQ{t:aU}{d:Int}{p:List (List Int)}:∀n,aftD t (d+1) (qf t d p) n=aftD t d p (n+1)
 |0=>by rw [aftD,aftD,aftD,Int.natCast_zero,Int.add_zero]
 |n+1=>by
  rw [aftD,wQ n]
  show qf t _ _=qf t _ _
  congr 1
  omega
theorem CO{t:aU}{e:Int}{q:List (List Int)}:ox t 0 e q=0:=by
 unfold ox
 induction q with
 |nil=>rfl
 |cons l q ih=>rw [List.map_cons,List.sum_cons,ih];rfl
theorem xB{t:aU}:∀(n:Nat) (d:Int) (p:List (List Int)),ox t (n+1) d p=ox t n d p+((aftD t d p n).map fun l=>(dq (om t (d+n)) false l).length).sum
 |0,d,p=>by
  rw [tQ]
  rw [CO,CO,aftD,Int.natCast_zero,Int.add_zero,Nat.add_zero,Nat.zero_add]
 |n+1,d,p=>by
  rw [tQ,xB n (d+1) (qf t d p),wQ,tQ (n:=n)]
  have e:d+1+(n:Int)=d+((n+1:Nat):Int):=by omega
  rw [e]
  omega
theorem EB{t:aU}{d:Int}{p:List (List Int)}(hg:dU t p):∀n,(ri t d p n).sum=((ox t n d p:Nat):Int)
 |0=>by
  rw [CO,ri]
  generalize t.2.1.length=m
  induction m with
  |zero=>rfl
  |succ m ih=>rw [List.replicate_succ,List.sum_cons,ih];rfl
 |n+1=>by
  have h1:=EB (d:=d) hg n
  have h2:=A8 (hg.aftD (d:=d) n) (d:=d+n)
  rw [ri,BK,h1,xB,(vn n).1,←h2]
  unfold zg
  rw [List.length_map]
  rfl
theorem KR{r:(List Int)×(List (List Int))}(hk:r.1.length < k)(h8:r.1.length≤1000)(hv:∀v∈r.1,0≤v∧v≤1000):ie k r k (0,0)=some r.1.sum:=by
 have hle:∀j,j≤r.1.length→0≤(r.1.take j).sum∧(r.1.take j).sum≤1000 * (j:Int):=by
  intro j
  induction j with
  |zero=>intro _;simp
  |succ j ih=>
   intro hj;have:=ih (by omega);have hx:=hv _ (List.getElem_mem (show j < r.1.length by omega));rw [List.take_add_one,List.getElem?_eq_getElem (show j < r.1.length by omega),List.sum_append];simp only [Option.toList_some,List.sum_cons,List.sum_nil];omega
 have hb:=W.loop (f:=ie k r) (Q:=fun z=>z=r.1.sum) (fun qq z=>∃j:Nat,z.2=(j:Int)∧j≤r.1.length∧qq=r.1.length - j∧z.1=(r.1.take j).sum) (by
  rintro aS qq ⟨c,z⟩ ⟨j,hj,hl,hq,hc⟩ ih;simp only at hj hc;subst hj hc;unfold ie;dsimp only;refine W.ite (fun hlt=>?_) (fun hge=>W.ret ?_)
  ·have hj:j < r.1.length:=by omega
   have h1:=hle j (by omega);have hx:=hv _ (List.getElem_mem hj);rw [cD hj,bs,bv (by omega) (by omega),bs,bv (by omega) (by omega),bs];refine ih (qq - 1) (_,(j:Int)+1) (by omega) ⟨j+1,by show(j:Int)+1=((j+1:Nat):Int);omega,by omega,by omega,?_⟩;rw [List.take_add_one,List.getElem?_eq_getElem hj,List.sum_append];simp
  ·have:j=r.1.length:=by omega
   subst this;rw [List.take_of_length_le (Nat.le_refl _)]) r.1.length k (0,0) hk ⟨0,rfl,by omega,by omega,by simp⟩
 obtain⟨o',eo,h⟩:=hb;rw [eo,h]
theorem F9{t:aU}(h:nz k t){p:List (List Int)}(hg:dU t p){d:Int}(hd:0≤d∧d≤t.1):lX k t p d=some ((ox t (t.1 - d).toNat d p:Nat):Int):=by
 have h6:=hg.g.days;obtain⟨o1,o2⟩:=vn (t:=t) (d:=d) (p:=p) (t.1 - d).toNat;have hk:=h.k0;have h5:=h.things;unfold lX;rw [Ks h hg (n:=(t.1 - d).toNat) (by omega) (by omega) (by omega),bs,KR (by show(ri _ _ _ _).length < k;omega) (by show(ri _ _ _ _).length≤1000;omega) (fun v hv=>by have:=o2 v hv;omega),bs];show some (ri _ _ _ _).sum=_;rw [EB hg]
end
structure nb(k:Nat)(t:aU)(p:List (List Int)):Prop where
 k0:50≤k
 hs:fG k t
 hp:p.length < k
 hl:∀l∈p,l.length < k
section
variable {k:Nat}{t:aU}{p:List (List Int)}
theorem nb.dayT(h:nb k t p)(c:jY t=0):nz k t:=⟨h.k0,h.hs.k1,by have:=(s8 c).things;omega,h.hs.worn⟩
theorem nb.at(h:nb k t p)(c:qi t p=0):At k t p:=⟨h.hs,h.dayT (ET c),c⟩
def uy(k:Nat)(q:List (List Int)):Prop:=q.length < k∧∀l∈q,l.length < k
theorem dU.short(hk:50≤k)(h:dU t p):uy k p:=⟨by have:=h.fit.len;omega,fun l hl=>by have:=(h.fit.fit l hl).1;omega⟩
theorem uy.nil(hk:50≤k):uy k []:=⟨by show 0 < k;omega,fun _ h=>by cases h⟩
end
section
variable {k:Nat}{t:aU}{p:List (List Int)}
theorem m9{l:List Int}(h:l.length≤1000000):fY k l=some l:=by
 unfold fY;rw [bR (Dh (by simp only [List.length_nil];omega)),bs];rfl
theorem uQ(h:fG k t):jk k t=some t:=by
 have hk1:=h.k1;have h1:=h.things;have h2:=h.trunks;unfold jk;rw [m9 (by omega),bs]
 have hb:=W.loop (f:=fM k t) (Q:=fun o=>o=t.2.1) (fun m y=>∃j:Nat,y.2=(j:Int)∧j≤t.2.1.length∧m=t.2.1.length - j∧y.1=t.2.1.take j) (by
  rintro aS m ⟨o,y⟩ ⟨j,hj,hle,hm,ho⟩ ih;simp only at hj ho;subst hj ho;unfold fM;dsimp only;refine W.ite (fun hlt=>?_) (fun hge=>W.ret ?_)
  ·have hj:j < t.2.1.length:=by omega
   rw [cD hj,bs,bs,m9 (by have:=h.worn _ (List.getElem_mem hj);omega),bs,bR (Dh (by simp only [List.length_take,List.length_cons,List.length_nil];omega)),bs,bv (by omega) (by omega),bs];refine ih (m - 1) (_,(j:Int)+1) (by omega) ⟨j+1,by show(j:Int)+1=((j+1:Nat):Int);omega,by omega,by omega,?_⟩;rw [List.take_add_one,List.getElem?_eq_getElem hj];rfl
  ·rw [List.take_of_length_le (by omega)]) t.2.1.length k ([],0) h1 ⟨0,rfl,by omega,by omega,by simp⟩
 obtain⟨o,eo,rfl⟩:=hb;rw [eo,bs]
theorem zy(h:uy k p)(hk1:k≤1000000):jD k p=some p:=by
 have h1:=h.1;unfold jD
 have hb:=W.loop (f:=fm k p) (Q:=fun o=>o=p) (fun q y=>∃j:Nat,y.2=(j:Int)∧j≤p.length∧q=p.length - j∧y.1=p.take j) (by
  rintro aS q ⟨o,y⟩ ⟨j,hj,hle,hq,ho⟩ ih;simp only at hj ho;subst hj ho;unfold fm;dsimp only;refine W.ite (fun hlt=>?_) (fun hge=>W.ret ?_)
  ·have hj:j < p.length:=by omega
   rw [cD hj,bs,m9 (by have:=h.2 _ (List.getElem_mem hj);omega),bs,bR (Dh (by simp only [List.length_take,List.length_cons,List.length_nil];omega)),bs,bv (by omega) (by omega),bs];refine ih (q - 1) (_,(j:Int)+1) (by omega) ⟨j+1,by show(j:Int)+1=((j+1:Nat):Int);omega,by omega,by omega,?_⟩;rw [List.take_add_one,List.getElem?_eq_getElem hj];rfl
  ·rw [List.take_of_length_le (by omega)]) p.length k ([],0) h.1 ⟨0,rfl,by omega,by omega,by simp⟩
 obtain⟨o,eo,rfl⟩:=hb;rw [eo,bs]
theorem mZ{l:List Int}(h:l.length < k)(hk1:k≤1000000):dH k l l=some true:=by rw [Aq h (by omega)];simp
theorem yI(h:uy k p)(hk1:k≤1000000):gg k p p=some true:=by
 unfold gg;rw [if_neg (by simp)];have h1:=h.1
 have hb:=W.loop (f:=fj k p p) (Q:=fun o=>o= .ok ()) (fun q y=>∃j:Nat,y=(j:Int)∧j≤p.length∧q=p.length - j) (by
  rintro aS q y ⟨j,hj,hle,hq⟩ ih;subst hj;unfold fj;refine W.ite (fun hlt=>?_) (fun hge=>W.ret rfl);have hj:j < p.length:=by omega
  rw [cD hj,bs,bs,mZ (h.2 _ (List.getElem_mem hj)) hk1,bs,nT,bv (by omega) (by omega),bs];exact ih (q - 1) _ (by omega) ⟨j+1,by omega,by omega,by omega⟩) p.length k 0 h.1 ⟨0,rfl,by omega,by omega⟩
 obtain⟨o,eo,rfl⟩:=hb;rw [eo,kQ]
theorem yH(h:fG k t):iw k t t=some true:=by
 have hk1:=h.k1;have h1:=h.things;unfold iw;rw [if_neg (by simp),if_neg (by simp),mZ h.trunks hk1,bs,bs,Bool.not_true,iF]
 have hb:=W.loop (f:=fi k t t) (Q:=fun o=>o= .ok ()) (fun q y=>∃j:Nat,y=(j:Int)∧j≤t.2.1.length∧q=t.2.1.length - j) (by
  rintro aS q y ⟨j,hj,hle,hq⟩ ih;subst hj;unfold fi;refine W.ite (fun hlt=>?_) (fun hge=>W.ret rfl);have hj:j < t.2.1.length:=by omega
  rw [cD hj,bs,bs,if_neg (not_not_intro rfl),bs,bs,mZ (h.worn _ (List.getElem_mem hj)) hk1,bs,bs,Bool.not_true,iF,bv (by omega) (by omega),bs];exact ih (q - 1) _ (by omega) ⟨j+1,by omega,by omega,by omega⟩) t.2.1.length k 0 h.things ⟨0,rfl,by omega,by omega⟩
 obtain⟨o,eo,rfl⟩:=hb;rw [eo,kQ]
structure E3(t:aU):Prop where
 things:t.2.1.length≤20
 trunks:t.2.2.length≤20
 worn:∀x∈t.2.1,x.2.length≤20
 few:¬(t.2.1.length=5∧t.2.2.length=3)
theorem E3.small(h:E3 t)(hk:50≤k)(hk1:k≤1000000):fG k t:=⟨hk1,by have:=h.things;omega,fun x hx=>by have:=h.worn x hx;omega,by have:=h.trunks;omega⟩
theorem Eg(hk:50≤k):W (mE k t) fun b=>b=false→E3 t:=by
 unfold mE;by_cases c1:(20:Int) < (t.2.1.length:Int)
 ·rw [if_pos c1,bs,iT];exact W.ret fun h=>by cases h
 ·rw [if_neg c1,bs];by_cases c2:(20:Int) < (t.2.2.length:Int)
  ·rw [decide_eq_true c2,iT];exact W.ret fun h=>by cases h
  ·rw [decide_eq_false c2,iF]
   have hb:=W.loop (f:=jT k t) (Q:=fun o=>o= .error true∨(o= .ok ()∧∀x∈t.2.1,x.2.length≤20)) (fun q y=>∃j:Nat,y=(j:Int)∧j≤t.2.1.length∧q=t.2.1.length - j∧∀i (h:i < t.2.1.length),i < j→(t.2.1[i]).2.length≤20) (by
    rintro aS q y ⟨j,hj,hle,hq,ha⟩ ih;subst hj;unfold jT;refine W.ite (fun hlt=>?_) (fun hge=>W.ret (.inr ⟨rfl,fun x hx=>?_⟩))
    ·have hj:j < t.2.1.length:=by omega
     rw [cD hj,bs];refine W.ite (fun hc=>W.ret (.inl rfl)) (fun hc=>?_);rw [bv (by omega) (by omega),bs];refine ih (q - 1) _ (by omega) ⟨j+1,by omega,by omega,by omega,fun i hi hij=>?_⟩;by_cases e:i=j
     ·subst e;omega
     ·exact ha i hi (by omega)
    ·obtain⟨i,hi,rfl⟩:=List.getElem_of_mem hx;exact ha i hi (by omega)) t.2.1.length k 0 (show t.2.1.length < k by omega) ⟨0,rfl,by omega,by omega,fun i _ h=>by omega⟩
   refine W.bEE hb (fun e he=>?_) (fun u hu=>?_)
   ·rcases he with he |he
    ·cases he;exact W.ret fun h=>by cases h
    ·cases he.1
   ·rcases hu with hu |hu
    ·cases hu
    ·by_cases c3:(t.2.1.length:Int)=5
     ·rw [if_pos c3,bs];exact W.ret fun h=>⟨by omega,by omega,hu.2,fun hh=>of_decide_eq_false h (by omega)⟩
     ·rw [if_neg c3,bs];exact W.ret fun h=>⟨by omega,by omega,hu.2,fun hh=>by omega⟩
theorem Gj(hk:50≤k){x:gq}:W (((mE k t).bind fun r5=>if r5=true then(some true) else(some (decide ((20:Int) < (x.2.length:Int))))):Option Bool) fun b=>b=false→E3 t∧x.2.length≤20:=by
 obtain⟨b,eb,hb⟩:=Eg (t:=t) hk;rw [eb,bs];cases b with
 |true=>rw [iT];exact W.ret fun h=>by cases h
 |false=>rw [iF];exact W.ret fun h=>⟨hb rfl,by have:=of_decide_eq_false h;omega⟩
structure P2(k:Nat)(ts:List aU)(ps:List (List (List Int))):Prop where
 l1:ts.length=4
 l2:ps.length=4
 at_:∀j:Nat,j < 4→∃t p,aP ts (j:Int)=some t∧aP ps (j:Int)=some p∧nb k t p
theorem P2.of{a b c d:aU}{p q r s:List (List Int)}(h0:nb k a p)(h1:nb k b q)(h2:nb k c r)(h3:nb k d s):P2 k [a,b,c,d] [p,q,r,s]:=
 ⟨rfl,rfl,fun j hj=>by
  match j,hj with
  |0,_=>exact⟨_,_,rfl,rfl,h0⟩
  |1,_=>exact⟨_,_,rfl,rfl,h1⟩
  |2,_=>exact⟨_,_,rfl,rfl,h2⟩
  |3,_=>exact⟨_,_,rfl,rfl,h3⟩⟩
theorem BV.small{a b:Int}(h:BV t a b)(ha:a≤8)(hb:b≤8)(hk:50≤k)(hk1:k≤1000000):fG k t:=
 ⟨hk1,by have:=h.things;omega,fun x hx=>by have:=(h.item x hx).2.2.1;omega,by have:=h.trunks;omega⟩
theorem nb.of(hk:50≤k)(hs:fG k t)(hp:p.length≤20)(hl:∀l∈p,l.length≤20):nb k t p:=⟨hk,hs,by omega,fun l h=>by have:=hl l h;omega⟩
theorem CZ(hk:50≤k)(hk1:k≤1000000){x:gq}(ht:fG k t)(hp:p.length≤20)(hl:∀l∈p,l.length≤20)(hx:x.2.length≤20){l:bW}{m:Int}(hlo:Lo l m)(hm:0≤m∧m≤10):
 W (lp k t x p l) fun r=>P2 k r.1 r.2.1∧Lo r.2.2 (m+200):=by
 unfold lp
 obtain⟨r3,e3,hT,hl3⟩:=KP hk hlo (by omega) (a:=4) (b:=3) (by omega) (by omega)
 have hT3:=hT.things
 have hTt:=hT.trunks
 have hs3:=hT.small (k:=k) (by omega) (by omega) hk hk1
 rw [show kJ k (l.1,l.2.1,l.2.2) (4:Int) 3=some r3 from e3,bs,uQ hs3,bs,m9 (by omega),bs,bR (zP (n:=100) (by omega) (by omega)),bs]
 obtain⟨r12,e12,h1,h2,h3⟩:=vY hk hT (by omega) (by omega) hl3 (by omega)
 rw [show ff k (r3.2.1,r3.2.2.1,r3.2.2.2) r3.1=some r12 from e12,bs]
 obtain⟨r13,e13,g1,g2,g3⟩:=vY hk hT (by omega) (by omega) h3 (by omega)
 rw [show ff k (r12.2.1,r12.2.2.1,r12.2.2.2) r3.1=some r13 from e13,bs,bv (by omega) (by omega),bs]
 have hsO:∀T:List Int,T.length=r3.1.2.2.length→fG k (r3.1.1,r3.1.2.1++[(x.1,x.2)],T):=fun T hT'=>⟨hk1,by show(r3.1.2.1++[(x.1,x.2)]).length < k;rw [List.length_append];simp only [List.length_cons,List.length_nil];omega,fun y hy=>by
  rcases List.mem_append.1 hy with hy |hy
  ·exact hs3.worn y hy
  ·rw [List.mem_singleton] at hy;subst hy;show x.2.length < k;omega,by show T.length < k;omega⟩
 have s0:nb k t p:=.of hk ht hp hl
 have s1:nb k r3.1 r12.1:=.of hk hs3 (by omega) (fun l h=>by have:=h2 l h;omega)
 have s2:nb k r3.1 p:=.of hk hs3 hp hl
 by_cases c:(r3.1.2.2.length:Int) < 3
 ·
  have hi:((r3.1.2.2.length:Int) - 1).toNat=r3.1.2.2.length - 1:=by omega
  have hr:r3.1.2.2.length - 1 < r3.1.2.2.length:=by omega
  have hroom:=hT.rooms _ (List.getElem_mem hr);have hg:aP r3.1.2.2 ((r3.1.2.2.length:Int) - 1)=some r3.1.2.2[r3.1.2.2.length - 1]:=oP (by omega) (by rw [hi];exact List.getElem?_eq_getElem hr);have hr':r3.1.2.2.length - 1 < r13.1.length:=by omega
  have hg':aP r13.1 ((r3.1.2.2.length:Int) - 1)=some r13.1[r3.1.2.2.length - 1]:=oP (by omega) (by rw [hi];exact List.getElem?_eq_getElem hr');have hb:=g2 _ (List.getElem_mem hr');rw [if_pos c,hg,bs,bv (by omega) (by omega),bs,bs,show aP [p,r12.1,p,r13.1] (3:Int)=some r13.1 from rfl,bs,zy ⟨by omega,fun l h=>by have:=g2 l h;omega⟩ hk1,bs,bs,hg',bs,bR (zP (n:=100) (by omega) (by omega)),bs,bs,hi];refine W.ret ⟨P2.of s0 s1 s2 (.of hk (hsO _ (by rw [List.length_set])) (by rw [List.length_set];omega) (fun l hl=>?_)),g3.mono (by omega)⟩;rcases List.mem_or_eq_of_mem_set hl with h |h
  ·have:=g2 l h;omega
  ·rw [h,List.length_append];simp only [List.length_cons,List.length_nil];omega
 ·
  rw [if_neg c,bs];exact W.ret ⟨P2.of s0 s1 s2 (.of hk (hsO _ rfl) (by omega) (fun l h=>by have:=g2 l h;omega)),g3.mono (by omega)⟩
theorem Vr{a:List Int}:Lo (a,0,1) 0:=⟨Int.le_refl 0,Int.le_refl 0⟩
theorem Vt{α:Type}(a b c d:α){j:Nat}(h:j < 4):∃x,aP [a,b,c,d] (j:Int)=some x:=⟨_,cD (by exact h)⟩
end
def dG(q:List (List Int))(tr i:Nat):List (List Int):=q.set tr (q[tr]?.getD []++[(i:Int)])
def io(n N:Nat):Nat→List (List Int)→Nat→List (List (List Int))
 |0,_,_=>[]
 |m+1,q,tr=>
  if tr=N then(if q.flatten.length < n then [] else [q])
  else io n N m q (tr+1)++(List.range n).flatMap fun(i:Nat)=>if(i:Int)∈q.flatten then [] else io n N m (dG q tr i) tr
def kx(t:aU):Nat→List (List Int)→Nat→List (List (List Int))
 |0,_,_=>[]
 |m+1,q,tr=>
  if tr=t.2.2.length then(if q.flatten.length < t.2.1.length then [] else [q])
  else kx t m q (tr+1)++(List.range t.2.1.length).flatMap fun(i:Nat)=>if(i:Int)∈q.flatten∨t.2.2[tr]?.getD 0 < cK t (q[tr]?.getD [])+eS t (i:Int) then [] else kx t m (dG q tr i) tr
def pn(t:aU)(q:List (List Int)):Bool:=(List.range q.length).all fun i=>decide (cK t (q[i]?.getD [])≤t.2.2[i]?.getD 0)
def Kq(q x:List (List Int)):Prop:=x.length=q.length∧∀i:Nat,∃s,x[i]?.getD []=q[i]?.getD []++s
theorem Kq.refl{q:List (List Int)}:Kq q q:=⟨rfl,fun i=>⟨[],by simp⟩⟩
theorem Kq.trans{a b c:List (List Int)}(h:Kq a b)(h':Kq b c):Kq a c:=⟨h'.1.trans h.1,fun i=>by
 obtain⟨s,e⟩:=h.2 i
 obtain⟨s',e'⟩:=h'.2 i
 exact⟨s++s',by rw [e',e,List.append_assoc]⟩⟩
theorem j7{q:List (List Int)}{tr i:Nat}(h:tr < q.length){j:Nat}:(dG q tr i)[j]?.getD []=if j=tr then q[tr]?.getD []++[(i:Int)] else q[j]?.getD []:=by
 unfold dG;rw [List.getElem?_set];by_cases e:tr=j
 ·subst e;simp [h]
 ·rw [if_neg e,if_neg (fun h=>e h.symm)]
theorem Kq.top{q:List (List Int)}{tr i:Nat}(h:tr < q.length):Kq q (dG q tr i):=⟨by unfold dG;rw [List.length_set],fun j=>by
 rw [j7 h]
 by_cases e:j=tr
 ·
  subst e;exact⟨[(i:Int)],by rw [if_pos rfl]⟩
 ·
  exact⟨[],by rw [if_neg e];simp⟩⟩
theorem l6{n N:Nat}:∀{m:Nat} {q:List (List Int)} {tr:Nat},q.length=N→∀x∈io n N m q tr,Kq q x
 |0,_,_,_,x,hx=>by cases hx
 |m+1,q,tr,hq,x,hx=>by
  rw [io] at hx
  by_cases c:tr=N
  ·
   rw [if_pos c] at hx
   split at hx
   ·
    cases hx
   ·
    rw [List.mem_singleton] at hx;subst hx;exact Kq.refl
  ·
   rw [if_neg c] at hx
   rcases List.mem_append.1 hx with hx |hx
   ·
    exact l6 hq x hx
   ·
    obtain⟨i,hi,hx⟩:=List.mem_flatMap.1 hx
    split at hx
    ·
     cases hx
    ·
     by_cases ht:tr < q.length
     ·
      exact(Kq.top ht).trans (l6 (by unfold dG;rw [List.length_set,hq]) x hx)
     ·
      have e:dG q tr i=q:=by unfold dG;rw [List.set_eq_of_length_le (by omega)]
      rw [e] at hx
      exact l6 hq x hx
theorem kC{t:aU}{l:List Int}{x:Int}:cK t (l++[x])=cK t l+eS t x:=by rw [qE];simp [cK]
theorem im{t:aU}{q:List (List Int)}:pn t q=true↔∀i,i < q.length→cK t (q[i]?.getD [])≤t.2.2[i]?.getD 0:=by
 unfold pn;simp [List.all_eq_true]
theorem qd{t:aU}(g:ji t):∀{m:Nat} {q:List (List Int)} {tr:Nat},q.length=t.2.2.length→tr≤t.2.2.length→pn t q=true→kx t m q tr=(io t.2.1.length t.2.2.length m q tr).filter (pn t)
 |0,_,_,_,_,_=>rfl
 |m+1,q,tr,hq,ht,hf=>by
  rw [kx,io]
  by_cases c:tr=t.2.2.length
  ·
   rw [if_pos c,if_pos c]
   split
   ·
    rfl
   ·
    rw [List.filter_cons_of_pos hf,List.filter_nil]
  ·
   rw [if_neg c,if_neg c,List.filter_append,qd g hq (by omega) hf,List.filter_flatMap]
   congr 1
   congr 1
   funext i
   by_cases c1:(i:Int)∈q.flatten
   ·
    rw [if_pos (.inl c1),if_pos c1];rfl
   ·
    rw [if_neg c1]
    have htr:tr < q.length:=by omega
    by_cases c2:t.2.2[tr]?.getD 0 < cK t (q[tr]?.getD [])+eS t (i:Int)
    ·
     rw [if_pos (.inr c2)]
     symm
     rw [List.filter_eq_nil_iff]
     intro x hx hfx
     obtain⟨e1,e2⟩:=l6 (by unfold dG;rw [List.length_set,hq]) x hx
     obtain⟨s,es⟩:=e2 tr
     rw [j7 htr,if_pos rfl] at es
     have:=im.1 hfx tr (by rw [e1];unfold dG;rw [List.length_set];exact htr)
     rw [es,qE,kC] at this
     have:=(lV g (l:=s)).1
     omega
    ·
     rw [if_neg (fun h=>h.elim c1 c2)]
     refine qd g (by unfold dG;rw [List.length_set,hq]) ht ?_
     rw [im]
     intro j hj
     unfold dG at hj
     rw [List.length_set] at hj
     rw [j7 htr]
     by_cases e:j=tr
     ·
      rw [if_pos e,kC,e];omega
     ·
      rw [if_neg e];exact im.1 hf j hj
section
variable {k:Nat}{σ:Type}
theorem K4{l:List Int}(h:l.length < 5){x:Int}:(kF l).set l.length x=kF (l++[x]):=by
 match l,h with
 |[],_=>rfl
 |[a],_=>rfl
 |[a,b],_=>rfl
 |[a,b,c],_=>rfl
 |[a,b,c,d],_=>rfl
theorem IJ{q:List (List Int)}{tr i:Nat}(ht:tr < q.length)(h3:q.length≤3)(h:(q[tr]?.getD []).length < 5):(dS q).set tr ((kF (q[tr]?.getD [])).set (q[tr]?.getD []).length (i:Int))=dS (dG q tr i):=by
 rw [K4 h];have e:=fun j=>j7 (i:=i) ht (j:=j);unfold dS;rw [e 0,e 1,e 2];match tr,(show tr < 3 by omega) with
 |0,_=>rfl
 |1,_=>rfl
 |2,_=>rfl
theorem ze{q:List (List Int)}{tr:Nat}(h:tr < 3):aP (dS q) (tr:Int)=some (kF (q[tr]?.getD [])):=oP (by omega) (by
 match tr,h with
 |0,_=>rfl
 |1,_=>rfl
 |2,_=>rfl)
theorem pD{q:List (List Int)}{tr i:Nat}(h:tr < q.length):(dG q tr i).flatten.Perm (q.flatten++[(i:Int)]):=by
 unfold dG
 induction q generalizing tr with
 |nil=>simp at h
 |cons l q ih=>
  cases tr with
  |zero=>
   simp only [List.set_cons_zero,List.getElem?_cons_zero,Option.getD_some,List.flatten_cons,List.append_assoc];exact(List.Perm.refl l).append List.perm_append_comm
  |succ tr=>
   simp only [List.set_cons_succ,List.getElem?_cons_succ,List.flatten_cons,List.append_assoc];exact(List.Perm.refl l).append (ih (by simpa using h))
structure Mk(t:aU)(q:List (List Int)):Prop where
 len:q.length=t.2.2.length
 met:uS t.2.1.length q.flatten
theorem Mk.row{t:aU}{q:List (List Int)}(h:Mk t q)(j:Nat):(∀x∈q[j]?.getD [],x∈q.flatten)∧(q[j]?.getD []).length≤q.flatten.length:=by
 rcases Nat.lt_or_ge j q.length with hj |hj
 ·rw [List.getElem?_eq_getElem hj,Option.getD_some];refine⟨fun x hx=>List.mem_flatten.2 ⟨_,List.getElem_mem hj,hx⟩,?_⟩;exact(List.sublist_flatten_of_mem (List.getElem_mem hj)).length_le
 ·rw [List.getElem?_eq_none hj];simp
theorem Mk.top{t:aU}{q:List (List Int)}(h:Mk t q){tr i:Nat}(ht:tr < q.length)(hi:i < t.2.1.length)(hn:(i:Int)∉q.flatten):Mk t (dG q tr i):=by
 have hp:=pD (i:=i) ht;refine⟨by unfold dG;rw [List.length_set,h.len],hp.nodup_iff.2 ?_,fun x hx=>?_⟩
 ·rw [List.nodup_append];exact⟨h.met.nd,by simp,fun a ha b hb=>by rw [List.mem_singleton] at hb;subst hb;exact fun e=>hn (e▸ha)⟩
 ·rcases List.mem_append.1 (hp.mem_iff.1 hx) with hx |hx
  ·exact h.met.rng x hx
  ·rw [List.mem_singleton] at hx;omega
theorem ID{t:aU}(g:ji t){q:List (List Int)}(h:Mk t q){tr i:Nat}(ht:tr < q.length)(hi:i < t.2.1.length):EJ .u8 (il q.flatten) (np .u8 1 (i:Int))=il (dG q tr i).flatten:=by
 have h5:=g.things;have h8:∀x∈q.flatten,0≤x∧x < 8:=fun x hx=>by have:=h.met.rng x hx;omega
 have hp:=pD (i:=i) ht
 have h8':∀x∈(dG q tr i).flatten,0≤x∧x < 8:=fun x hx=>by
  rcases List.mem_append.1 (hp.mem_iff.1 hx) with hx |hx
  ·exact h8 x hx
  ·rw [List.mem_singleton] at hx;omega
 obtain⟨a1,a2⟩:=pS h8;obtain⟨b1,b2⟩:=yS (x:=(i:Int)) (by omega) (by omega);obtain⟨c1,c2⟩:=zi a1 b1;obtain⟨d1,d2⟩:=pS h8';refine A6 c1 d1 fun j=>?_;rw [c2,a2,b2,d2,hp.mem_iff,List.mem_append,List.mem_singleton]
theorem LE{t:aU}(h:nz k t)(g:ji t){Y:σ→(List (List Int))→Option (σ×Bool)}{f:σ→List (List Int)→σ}{P:List (List (List Int))→σ→Prop}
 {L:Nat} (hY:∀(pre:List (List (List Int))) (s:σ) (q:List (List Int)),dU t q→pre.length < L→P pre s→Y s (dS q)=some (f s q,true)∧P (pre++[q]) (f s q)):
 ∀(m:Nat) (q:List (List Int)) (tr:Nat) (pre:List (List (List Int))) (s:σ),Mk t q→pn t q=true→tr≤t.2.2.length→(t.2.1.length - q.flatten.length)+(t.2.2.length - tr) < m→pre.length+(kx t m q tr).length≤L→P pre s→
  bQ k Y (t,()) m (dS q) (tr:Int) (il q.flatten) s=some (true,(kx t m q tr).foldl f s)∧P (pre++kx t m q tr) ((kx t m q tr).foldl f s):=by
 have h5:=g.things
 have h3:=g.trunks
 have hk:=h.k0
 have hk1:=h.k1
 intro m
 induction m with
 |zero=>intro q tr pre s _ _ _ hm;omega
 |succ m ih=>
  intro q tr pre s hq hfits ht hm hL hP;rw [kx] at hL;have hlen:=hq.met.len;have hql:=hq.len;rw [bQ,kx];dsimp only;by_cases c:tr=t.2.2.length
  ·rw [if_pos c] at hL;rw [if_pos (show(tr:Int)=(t.2.2.length:Int) by omega),if_pos c,bR (by omega),bs];have hfull:=Bm g.things hq.met;by_cases c1:q.flatten.length < t.2.1.length
   ·rw [if_pos (show¬il q.flatten=_ from fun h=>hfull.1 h c1),if_pos c1,bs];exact⟨rfl,by simpa using hP⟩
   ·rw [if_neg c1] at hL
    have hgp:dU t q:=⟨g,hq.len,hq.met.nd,hq.met.rng,hq.met.full.1 c1,fun i hi=>by
     have:=im.1 hfits i hi;rw [List.getElem?_eq_getElem hi,Option.getD_some] at this;exact this⟩
    obtain⟨y1,y2⟩:=hY pre s q hgp (by simp only [List.length_cons,List.length_nil] at hL;omega) hP;rw [if_neg (show¬¬il q.flatten=_ from fun h=>h (hfull.2 c1)),if_neg c1,y1,bs,bs];exact⟨rfl,y2⟩
  ·have htr:tr < q.length:=by omega
   rw [if_neg c,List.length_append] at hL;rw [if_neg (show¬(tr:Int)=(t.2.2.length:Int) by omega),if_neg c,bv (by omega) (by omega),bs];obtain⟨i1,i2⟩:=ih q (tr+1) pre s hq hfits (by omega) (by omega) (by omega) hP;have e1:(tr:Int)+1=((tr+1:Nat):Int):=by omega
   obtain⟨r1,r2⟩:=hq.row tr;have hfit:Nh (q[tr]?.getD []):=⟨by omega,fun x hx=>(hq.met.rng x (r1 x hx)).1⟩;rw [e1,i1,bs,nT,zf hk (by omega) hfit,bs];have h8:∀x∈q.flatten,0≤x∧x < 8:=fun x hx=>by have:=hq.met.rng x hx;omega
   obtain⟨a1,a2⟩:=pS h8;generalize hs1:(kx t m q (tr+1)).foldl f s=s1 at i2⊢
   have loop:∀(d j n:Nat) (s2:σ) (pre2:List (List (List Int))),j+d=t.2.1.length→d < n→pre2.length+((List.range' j d).flatMap fun(i:Nat)=>if(i:Int)∈q.flatten∨t.2.2[tr]?.getD 0 < cK t (q[tr]?.getD [])+eS t (i:Int) then [] else kx t m (dG q tr i) tr).length≤L→P pre2 s2→
    bU k (dS q) (tr:Int) (il q.flatten) (t,()) (bQ k Y (t,()) m) (q[tr]?.getD []) n ((j:Int),s2)=some (.ok (((List.range' j d).flatMap fun(i:Nat)=>if(i:Int)∈q.flatten∨t.2.2[tr]?.getD 0 < cK t (q[tr]?.getD [])+eS t (i:Int) then [] else kx t m (dG q tr i) tr).foldl f s2))∧
    P (pre2++((List.range' j d).flatMap fun(i:Nat)=>if(i:Int)∈q.flatten∨t.2.2[tr]?.getD 0 < cK t (q[tr]?.getD [])+eS t (i:Int) then [] else kx t m (dG q tr i) tr)) (((List.range' j d).flatMap fun(i:Nat)=>if(i:Int)∈q.flatten∨t.2.2[tr]?.getD 0 < cK t (q[tr]?.getD [])+eS t (i:Int) then [] else kx t m (dG q tr i) tr).foldl f s2):=by
    intro d
    induction d with
    |zero=>
     intro j n s2 pre2 hj hn hL2 hp2;obtain⟨n,rfl⟩:∃n',n=n'+1:=⟨n - 1,by omega⟩;rw [bU];dsimp only;rw [if_neg (by omega)];exact⟨rfl,by simpa using hp2⟩
    |succ d ihd=>
     intro j n s2 pre2 hj hn hL2 hp2;obtain⟨n,rfl⟩:∃n',n=n'+1:=⟨n - 1,by omega⟩;have hjl:j < t.2.1.length:=by omega
     rw [List.range'_succ,List.flatMap_cons,List.length_append] at hL2
     have next:∀(s3:σ) (pre3:List (List (List Int))),pre3.length+((List.range' (j+1) d).flatMap fun(i:Nat)=>if(i:Int)∈q.flatten∨t.2.2[tr]?.getD 0 < cK t (q[tr]?.getD [])+eS t (i:Int) then [] else kx t m (dG q tr i) tr).length≤L→P pre3 s3→(ck ((j:Int)+1)).bind (fun x32=>bU k (dS q) (tr:Int) (il q.flatten) (t,()) (bQ k Y (t,()) m) (q[tr]?.getD []) n (x32,s3))=_∧_:=fun s3 pre3 hL3 hp3=>by
      have:=ihd (j+1) n s3 pre3 (by omega) (by omega) hL3 hp3;rw [bv (by omega) (by omega),bs,show(j:Int)+1=((j+1:Nat):Int) by omega];exact this
     rw [bU];dsimp only;rw [if_pos (show(j:Int) < (t.2.1.length:Int) by omega),cD hjl,bs,zk a1 (by omega),bs,List.range'_succ,List.flatMap_cons,List.foldl_append];by_cases c1:(j:Int)∈q.flatten
     ·rw [decide_eq_true ((a2 j).2 c1),iT,bs,iT,kQ,if_pos (.inl c1)];rw [if_pos (.inl c1)] at hL2;exact next s2 pre2 (by simpa using hL2) hp2
     ·have hso:eS t (j:Int)=t.2.1[j].1:=by
       unfold eS;rw [show((j:Int)).toNat=j from rfl,List.getElem?_eq_getElem hjl]
      have hro:=rO g (x:=(j:Int));have hrs:=lV g (l:=q[tr]?.getD []);have htl:t.2.2[tr]?.getD 0=t.2.2[tr]'(by omega):=by rw [List.getElem?_eq_getElem (by omega)];rfl
      rw [decide_eq_false (fun h=>c1 ((a2 j).1 h)),iF,Eo g hk1 (by omega) (fun x hx=>hq.met.rng x (r1 x hx)),bs,←hso,bv (by omega) (by omega),bs,cD (by omega),bs,bs,←htl];by_cases c2:t.2.2[tr]?.getD 0 < cK t (q[tr]?.getD [])+eS t (j:Int)
      ·rw [decide_eq_true c2,iT,kQ,if_pos (.inr c2)];rw [if_pos (.inr c2)] at hL2;exact next s2 pre2 (by simpa using hL2) hp2
      ·have hl4:(q[tr]?.getD []).length < 5:=by
        have:q.flatten.length < t.2.1.length:=by
         rcases Nat.lt_or_ge q.flatten.length t.2.1.length with h |h
         ·exact h
         ·exact absurd (hq.met.full.1 (by omega) j hjl) c1
        omega
       have hq':=hq.top htr hjl c1;have hfl:=(pD (i:=j) htr).length_eq;simp only [List.length_append,List.length_cons,List.length_nil] at hfl;have hlt:q.flatten.length < t.2.1.length:=by have:=hq'.met.len;omega
       rw [if_neg (fun h=>h.elim c1 c2)] at hL2
       have hfits':pn t (dG q tr j)=true:=by
        rw [im];intro a ha;unfold dG at ha;rw [List.length_set] at ha;rw [j7 htr];by_cases e:a=tr
        ·rw [if_pos e,kC,e];omega
        ·rw [if_neg e];exact im.1 hfits a ha
       obtain⟨k1,k2⟩:=ih (dG q tr j) tr pre2 s2 hq' hfits' ht (by omega) (by omega) hp2;rw [decide_eq_false c2,iF,bR (by omega),bs,ze (by omega),bs,bR (by omega),bs];unfold dZ;rw [bR (by omega),bs,bs,show Int.toNat (tr:Int)=tr from rfl,show Int.toNat ((q[tr]?.getD []).length:Int)=(q[tr]?.getD []).length from rfl,IJ htr (by omega) hl4,ID g hq htr hjl,k1,bs,nT,kQ,if_neg (fun h=>h.elim c1 c2)];have:=next _ _ (by rw [List.length_append];omega) k2;rw [List.append_assoc] at this;exact this
   obtain⟨l1,l2⟩:=loop t.2.1.length 0 k s1 (pre++kx t m q (tr+1)) (by omega) (by omega) (by rw [List.length_append,←List.range_eq_range'];omega) i2;rw [show((0:Nat):Int)=0 from rfl] at l1;rw [l1,kQ,List.foldl_append,hs1,List.range_eq_range'];refine⟨rfl,?_⟩;rw [List.append_assoc] at l2;exact l2
theorem oU{α β:Type}{f g:α→List β}:∀{l:List α},(∀x∈l,f x=g x)→l.flatMap f=l.flatMap g
 |[],_=>rfl
 |x::l,h=>by rw [List.flatMap_cons,List.flatMap_cons,h x (by simp),oU fun y hy=>h y (by simp [hy])]
theorem mH{n N:Nat}:∀{m m':Nat} {q:List (List Int)} {tr:Nat},q.length=N→uS n q.flatten→tr≤N→(n - q.flatten.length)+(N - tr) < m→(n - q.flatten.length)+(N - tr) < m'→io n N m q tr=io n N m' q tr
 |0,_,_,_,_,_,_,h,_=>by omega
 |m+1,0,_,_,_,_,_,_,h=>by omega
 |m+1,m'+1,q,tr,hq,hm,ht,h,h'=>by
  rw [io,io]
  by_cases c:tr=N
  ·
   rw [if_pos c,if_pos c]
  ·
   rw [if_neg c,if_neg c,mH (m:=m) (m':=m') hq hm (by omega) (by omega) (by omega)]
   congr 1
   refine oU fun i hi=>?_
   by_cases c1:(i:Int)∈q.flatten
   ·
    rw [if_pos c1,if_pos c1]
   ·
    rw [if_neg c1,if_neg c1]
    have htr:tr < q.length:=by omega
    have hp:=pD (i:=i) htr
    have hl:=hp.length_eq
    simp only [List.length_append,List.length_cons,List.length_nil] at hl
    have hi':=List.mem_range.1 hi
    have hm':uS n (dG q tr i).flatten:=⟨hp.nodup_iff.2 (by
     rw [List.nodup_append]
     exact⟨hm.nd,by simp,fun a ha b hb=>by rw [List.mem_singleton] at hb;subst hb;exact fun e=>c1 (e▸ha)⟩),fun x hx=>by
     rcases List.mem_append.1 (hp.mem_iff.1 hx) with hx |hx
     ·
      exact hm.rng x hx
     ·
      rw [List.mem_singleton] at hx;omega⟩
    have:=hm'.len
    exact mH (by unfold dG;rw [List.length_set,hq]) hm' ht (by omega) (by omega)
def Pz(n N:Nat):List (List (List Int)):=io n N 10 (List.replicate N []) 0
def qn(t:aU):List (List (List Int)):=(Pz t.2.1.length t.2.2.length).filter (pn t)
theorem BG:((List.range 6).all fun n=>(List.range 4).all fun N=>decide ((Pz n N).length≤2520))=true:=by decide+kernel
theorem AC{t:aU}(h:nz k t)(g:ji t){Y:σ→(List (List Int))→Option (σ×Bool)}{f:σ→List (List Int)→σ}{P:List (List (List Int))→σ→Prop}
 (hY:∀(pre:List (List (List Int))) (s:σ) (q:List (List Int)),dU t q→pre.length < 2520→P pre s→Y s (dS q)=some (f s q,true)∧P (pre++[q]) (f s q)) {s:σ} (hP:P [] s):
 dL k Y (t,()) s=some ((qn t).foldl f s)∧P (qn t) ((qn t).foldl f s):=by
 have h5:=g.things
 have h3:=g.trunks
 have hk0:=h.k0
 have e:dS []=dS (List.replicate t.2.2.length []):=by
  have:∀j:Nat,(List.replicate t.2.2.length ([]:List Int))[j]?.getD []=[]:=fun j=>by
   rw [List.getElem?_replicate];split <;> rfl
  unfold dS;rw [this,this,this];rfl
 have hfl:(List.replicate t.2.2.length ([]:List Int)).flatten=[]:=by simp
 have hmet:uS t.2.1.length (List.replicate t.2.2.length ([]:List Int)).flatten:=by rw [hfl];exact⟨by simp,by simp⟩
 have hm:Mk t (List.replicate t.2.2.length []):=⟨by simp,hmet⟩
 have hneed:(t.2.1.length - (List.replicate t.2.2.length ([]:List Int)).flatten.length)+(t.2.2.length - 0) < 10:=by rw [hfl];simp only [List.length_nil];omega
 have hfit:pn t (List.replicate t.2.2.length [])=true:=by
  rw [im];intro i hi;rw [List.length_replicate] at hi;rw [List.getElem?_replicate,if_pos hi,Option.getD_some];have hr:=g.rooms _ (List.getElem_mem hi);rw [List.getElem?_eq_getElem hi];simp only [cK,Option.getD_some];omega
 have ea:kx t k (List.replicate t.2.2.length []) 0=qn t:=by
  rw [qd g (by simp) (by omega) hfit,mH (m':=10) (by simp) hmet (by omega) (by omega) hneed];rfl
 obtain⟨a,b⟩:=LE h g hY k (List.replicate t.2.2.length []) 0 [] s hm hfit (by omega) (by omega) (by
  rw [ea,List.length_nil,Nat.zero_add];refine Nat.le_trans (List.length_filter_le _ _) ?_;have:=BG;rw [List.all_eq_true] at this;have:=this t.2.1.length (List.mem_range.2 (by omega));rw [List.all_eq_true] at this;exact of_decide_eq_true (this t.2.2.length (List.mem_range.2 (by omega)))) hP
 rw [ea] at a b
 refine⟨?_,by simpa using b⟩
 unfold dL
 rw [hfl] at a
 rw [wq hk0,bs,e]
 rw [show il []=0 from rfl,show((0:Nat):Int)=0 from rfl] at a
 rw [a,bs]
end
theorem wH{n N:Nat}:∀{m:Nat} {q:List (List Int)} {tr:Nat},q.length=N→uS n q.flatten→tr≤N→∀x∈io n N m q tr,x.length=N∧uS n x.flatten∧¬x.flatten.length < n
 |0,_,_,_,_,_,x,hx=>by cases hx
 |m+1,q,tr,hq,hm,ht,x,hx=>by
  rw [io] at hx
  by_cases c:tr=N
  ·
   rw [if_pos c] at hx
   split at hx
   ·
    cases hx
   ·
    rename_i hl
    rw [List.mem_singleton] at hx;subst hx
    exact⟨hq,hm,hl⟩
  ·
   rw [if_neg c] at hx
   rcases List.mem_append.1 hx with hx |hx
   ·
    exact wH hq hm (by omega) x hx
   ·
    obtain⟨i,hi,hx⟩:=List.mem_flatMap.1 hx
    split at hx
    ·
     cases hx
    ·
     rename_i c1
     have htr:tr < q.length:=by omega
     have hp:=pD (i:=i) htr
     have hi':=List.mem_range.1 hi
     have hm':uS n (dG q tr i).flatten:=⟨hp.nodup_iff.2 (by
      rw [List.nodup_append]
      exact⟨hm.nd,by simp,fun a ha b hb=>by rw [List.mem_singleton] at hb;subst hb;exact fun e=>c1 (e▸ha)⟩),fun x hx=>by
      rcases List.mem_append.1 (hp.mem_iff.1 hx) with hx |hx
      ·
       exact hm.rng x hx
      ·
       rw [List.mem_singleton] at hx;omega⟩
     exact wH (by unfold dG;rw [List.length_set,hq]) hm' ht x hx
theorem MS{n N:Nat}{x:List (List Int)}(h:x∈Pz n N):x.length=N∧uS n x.flatten∧¬x.flatten.length < n:=
 wH (by simp) (by simp only [List.flatten_replicate_nil];exact⟨by simp,by simp⟩) (by omega) x h
theorem qX{t:aU}(g:ji t){q:List (List Int)}(h:q∈qn t):dU t q:=by
 obtain⟨h1,h2⟩:=List.mem_filter.1 h;obtain⟨a,b,c⟩:=MS h1
 exact⟨g,a,b.nd,b.rng,b.full.1 c,fun i hi=>by
  have:=im.1 h2 i hi;rw [List.getElem?_eq_getElem hi,Option.getD_some] at this;exact this⟩
theorem JK{t:aU}(g:ji t):(qn t).length≤2520:=by
 have h5:=g.things;have h3:=g.trunks;refine Nat.le_trans (List.length_filter_le _ _) ?_;have:=BG;rw [List.all_eq_true] at this;have:=this t.2.1.length (List.mem_range.2 (by omega));rw [List.all_eq_true] at this;exact of_decide_eq_true (this t.2.2.length (List.mem_range.2 (by omega)))
theorem At.of{k:Nat}{t:aU}(h:nz k t)(hs:fG k t)(ht:jY t=0){q:List (List Int)}(hq:dU t q):At k t q:=⟨hs,h,hq.chk ht⟩
def gl(t:aU)(q:List (List Int)):Nat:=ox t t.1.toNat 0 q
section
variable {k:Nat}
theorem IO{t:aU}(h:nz k t)(hs:fG k t)(ht:jY t=0){q:List (List Int)}(hq:dU t q):bS k t (dS q)=some (gl t q:Int):=by
 have hA:=At.of h hs ht hq;have h6:=hq.g.days;unfold bS;rw [bR (Oy hq.fit),bs,LR hA hq (by omega),bs,Int.sub_zero];rfl
end
end Go.Proofs.YtddneonghpmidaaGreatDoor
set_option linter.unusedVariables false
namespace Go.Proofs.YtddneonghpmidaaGreatDoor
open K Go Go.Proofs
theorem uo{n N:Nat}:∀(m:Nat) (q:List (List Int)) (tr:Nat),(io n N m q tr).length≤(n+1) ^ m
 |0,_,_=>by simp [io]
 |m+1,q,tr=>by
  have hp:1≤(n+1) ^ m:=Nat.pow_pos (by omega)
  have hs:(n+1) ^ (m+1)=(n+1) ^ m+n * (n+1) ^ m:=by rw [Nat.pow_succ,Nat.mul_add,Nat.mul_one,Nat.mul_comm n];omega
  rw [io]
  split
  ·
   split
   ·
    simp
   ·
    simp only [List.length_cons,List.length_nil];omega
  ·
   have h1:=uo (n:=n) (N:=N) m q (tr+1)
   have h2:∀l:List Nat,(l.flatMap fun(i:Nat)=>if(i:Int)∈q.flatten then [] else io n N m (dG q tr i) tr).length≤l.length * (n+1) ^ m:=by
    intro l
    induction l with
    |nil=>simp
    |cons i l ih=>
     rw [List.flatMap_cons,List.length_append,List.length_cons,Nat.succ_mul]
     have:(if(i:Int)∈q.flatten then [] else io n N m (dG q tr i) tr).length≤(n+1) ^ m:=by
      split
      ·simp
      ·exact uo m _ _
     omega
   have h3:=h2 (List.range n);rw [List.length_range] at h3;rw [List.length_append];omega
section
variable {k:Nat}{t:aU}
def vr(t:aU)(q:List (List Int))(tr:Nat):List (List (List Int)):=io t.2.1.length t.2.2.length (9+1) q tr
theorem I1{q:List (List Int)}:vr t q t.2.2.length=if q.flatten.length < t.2.1.length then [] else [q]:=by
 unfold vr;rw [io,if_pos rfl]
theorem wA(g:ji t){q:List (List Int)}(hq:Mk t q){tr:Nat}(ht:tr < t.2.2.length):vr t q tr=vr t q (tr+1)++(List.range t.2.1.length).flatMap fun(i:Nat)=>if(i:Int)∈q.flatten then [] else vr t (dG q tr i) tr:=by
 have h5:=g.things;have h3:=g.trunks
 have e:vr t q tr=io t.2.1.length t.2.2.length 9 q (tr+1)++(List.range t.2.1.length).flatMap fun(i:Nat)=>if(i:Int)∈q.flatten then [] else io t.2.1.length t.2.2.length 9 (dG q tr i) tr:=by
  unfold vr;rw [io,if_neg (by omega)]
 have h1:io t.2.1.length t.2.2.length 9 q (tr+1)=vr t q (tr+1):=by
  unfold vr;exact mH (m:=9) (m':=9+1) hq.len hq.met (by omega) (by omega) (by omega)
 have h2:∀i∈List.range t.2.1.length,(if(i:Int)∈q.flatten then [] else io t.2.1.length t.2.2.length 9 (dG q tr i) tr)=if(i:Int)∈q.flatten then [] else vr t (dG q tr i) tr:=fun i hi=>by
  have hi:=List.mem_range.1 hi;by_cases c:(i:Int)∈q.flatten
  ·rw [if_pos c,if_pos c]
  ·have hm:=hq.top (tr:=tr) (by rw [hq.len];exact ht) hi c;have hml:=hm.met.len;rw [if_neg c,if_neg c];unfold vr;exact mH (m:=9) (m':=9+1) hm.len hm.met (by omega) (by omega) (by omega)
 rw [e,h1,oU h2]
theorem EK(g:ji t){q:List (List Int)}{tr:Nat}:(vr t q tr).length≤60466176:=by
 refine Nat.le_trans (uo (9+1) q tr) ?_;have h5:=g.things;exact Nat.le_trans (Nat.pow_le_pow_left (show t.2.1.length+1≤6 by omega) (9+1)) (by decide)
def q8(use:List Int)(q:List (List Int)):Bool:=(List.range q.length).all fun i=>decide (q[i]?.getD []=[]∨(i:Int)∈use)
theorem so{use:List Int}{q:List (List Int)}:q8 use q=true↔∀i,i < q.length→q[i]?.getD []=[]∨(i:Int)∈use:=by
 unfold q8;rw [List.all_eq_true];exact⟨fun h i hi=>of_decide_eq_true (h i (List.mem_range.2 hi)),fun h i hi=>decide_eq_true (h i (List.mem_range.1 hi))⟩
def m8(t:aU)(use:List Int)(q:List (List Int)):Bool:=pn t q && q8 use q
theorem Iz{use:List Int}{q:List (List Int)}(hq:Mk t q){tr i:Nat}(ht:tr < t.2.2.length)(hu:¬(tr:Int)∈use):(vr t (dG q tr i) tr).filter (m8 t use)=[]:=by
 have htq:tr < q.length:=by rw [hq.len];exact ht
 refine List.filter_eq_nil_iff.2 fun x hx=>?_;have he:=l6 (by unfold dG;rw [List.length_set,hq.len]) x hx;obtain⟨s,es⟩:=he.2 tr;rw [j7 htq,if_pos rfl] at es;intro h;unfold m8 at h;rw [Bool.and_eq_true] at h;rcases so.1 h.2 tr (by rw [he.1];unfold dG;rw [List.length_set];exact htq) with h |h
 ·rw [es] at h;simp at h
 ·exact hu h
theorem IA(g:ji t){use:List Int}{q:List (List Int)}(hq:Mk t q){tr i:Nat}(ht:tr < t.2.2.length)(hr:t.2.2[tr]?.getD 0 < cK t (q[tr]?.getD [])+eS t (i:Int)):(vr t (dG q tr i) tr).filter (m8 t use)=[]:=by
 have htq:tr < q.length:=by rw [hq.len];exact ht
 refine List.filter_eq_nil_iff.2 fun x hx=>?_;have he:=l6 (by unfold dG;rw [List.length_set,hq.len]) x hx;obtain⟨s,es⟩:=he.2 tr;rw [j7 htq,if_pos rfl] at es;intro h;unfold m8 at h;rw [Bool.and_eq_true] at h;have h1:=im.1 h.1 tr (by rw [he.1];unfold dG;rw [List.length_set];exact htq);rw [es,qE,kC] at h1;have:=(lV g (l:=s)).1;omega
theorem Ai{q:List (List Int)}{tr i:Nat}(h:tr < q.length)(he:∀j,tr < j→q[j]?.getD []=[]):(dG q tr i).flatten=q.flatten++[(i:Int)]:=by
 have hd:(q.drop (tr+1)).flatten=[]:=by
  rw [List.flatten_eq_nil_iff];intro l hl;obtain⟨a,ha,rfl⟩:=List.getElem_of_mem hl;rw [List.length_drop] at ha;have:=he (tr+1+a) (by omega);rw [List.getElem?_eq_getElem (by omega),Option.getD_some] at this;rw [List.getElem_drop];exact this
 have hq:q=q.take tr++q[tr]::q.drop (tr+1):=by rw [←List.drop_eq_getElem_cons h,List.take_append_drop]
 have e1:q.flatten=(q.take tr).flatten++q[tr]:=by
  conv=>lhs;rw [hq]
  rw [List.flatten_append,List.flatten_cons,hd,List.append_nil]
 unfold dG;rw [List.set_eq_take_append_cons_drop,if_pos h,List.flatten_append,List.flatten_cons,hd,List.append_nil,e1,List.getElem?_eq_getElem h,Option.getD_some,List.append_assoc]
theorem yR(h:nz k t)(g:ji t){use:List Int}(hu:use.length < k):∀(m:Nat) (q:List (List Int)) (tr:Nat),Mk t q→pn t q=true→q8 use q=true→tr < t.2.2.length→(∀j,tr < j→q[j]?.getD []=[])→(t.2.1.length - q.flatten.length)+(t.2.2.length - tr) < m→
 eT k m t use (q.take (tr+1)) q.flatten (t.2.2[tr]?.getD 0 - cK t (q[tr]?.getD []))=some ((vr t q tr).filter (m8 t use)):=by
 have h5:=g.things
 have h3:=g.trunks
 have hk:=h.k0
 have hk1:=h.k1
 intro m
 induction m with
 |zero=>intro q tr _ _ _ _ _ hm;omega
 |succ m ih=>
  intro q tr hq hfit hus ht hemp hm;have hlen:=hq.met.len;have hql:=hq.len;have htq:tr < q.length:=by omega
  have htk:(q.take (tr+1)).length=tr+1:=by rw [List.length_take];omega
  have hgk:aP (q.take (tr+1)) (tr:Int)=some (q[tr]?.getD []):=by
   refine oP (by omega) ?_;rw [Int.toNat_natCast,List.getElem?_take,if_pos (by omega),List.getElem?_eq_getElem htq];rfl
  obtain⟨r1,r2⟩:=hq.row tr
  have hroom:0≤t.2.2[tr]?.getD 0∧t.2.2[tr]?.getD 0≤9:=by
   rw [List.getElem?_eq_getElem ht,Option.getD_some];exact g.rooms _ (List.getElem_mem ht)
  have hsz:=lV g (l:=q[tr]?.getD []);have htot:=EK g (q:=q) (tr:=tr);rw [wA g hq ht,List.length_append] at htot
  have loop:∀(d j n:Nat) (out:List (List (List Int))),j+d=t.2.1.length→d < n→out.length+((List.range' j d).flatMap fun(i:Nat)=>if(i:Int)∈q.flatten then [] else vr t (dG q tr i) tr).length≤100000000→
   eO k t use (q.take (tr+1)) q.flatten (t.2.2[tr]?.getD 0 - cK t (q[tr]?.getD [])) (eT k m) (tr:Int) n (out,(j:Int))=
   some (out++((List.range' j d).flatMap fun(i:Nat)=>if(i:Int)∈q.flatten then [] else vr t (dG q tr i) tr).filter (m8 t use)):=by
   intro d
   induction d with
   |zero=>
    intro j n out hj hn _;obtain⟨n,rfl⟩:∃n',n=n'+1:=⟨n - 1,by omega⟩;rw [eO];dsimp only;rw [if_neg (by omega),bs,iF];simp
   |succ d ihd=>
    intro j n out hj hn hB;obtain⟨n,rfl⟩:∃n',n=n'+1:=⟨n - 1,by omega⟩;have hjl:j < t.2.1.length:=by omega
    have e1:(j:Int)+1=((j+1:Nat):Int):=by omega
    rw [List.range'_succ,List.flatMap_cons,List.length_append] at hB;rw [eO];dsimp only;rw [if_pos (by omega),DJ hu hk1,bs,bs];by_cases cu:(tr:Int)∈use
    ·rw [decide_eq_true cu,iT,DJ (by omega) hk1,bs];by_cases ci:(j:Int)∈q.flatten
     ·rw [decide_eq_true ci,iT,bs,iT,bs,bv (by omega) (by omega),bs,e1,ihd (j+1) n out (by omega) (by omega) (by omega),List.range'_succ,List.flatMap_cons,if_pos ci,List.nil_append]
     ·rw [if_neg ci] at hB;obtain⟨y,ey,hy,hys⟩:=Aj (t:=t) (x:=(j:Int)) (by omega) (by omega);rw [decide_eq_false ci,iF,ey,bs,bs];by_cases cr:t.2.2[tr]?.getD 0 - cK t (q[tr]?.getD []) < y.1
      ·rw [decide_eq_true cr,iT,bs,bv (by omega) (by omega),bs,e1,ihd (j+1) n out (by omega) (by omega) (by omega),List.range'_succ,List.flatMap_cons,if_neg ci,List.filter_append,IA g hq ht (by rw [hys];omega),List.nil_append]
      ·have hmk:=hq.top htq hjl ci;have hfl:=Ai (i:=j) htq hemp;have hsy:=g.sizes y hy
       have hset:List.set (([]:List (List Int))++q.take (tr+1)) (Int.toNat (tr:Int)) ((([]:List Int)++q[tr]?.getD [])++[(j:Int)])=(dG q tr j).take (tr+1):=by
        unfold dG;rw [List.nil_append,List.nil_append,Int.toNat_natCast,List.take_set]
       have hrm:t.2.2[tr]?.getD 0 - cK t (q[tr]?.getD []) - y.1=t.2.2[tr]?.getD 0 - cK t ((dG q tr j)[tr]?.getD []):=by
        rw [j7 htq,if_pos rfl,kC,hys];omega
       have hf':pn t (dG q tr j)=true:=im.2 fun i hi=>by
        rw [j7 htq];by_cases e:i=tr
        ·subst e;rw [if_pos rfl,kC,hys];omega
        ·rw [if_neg e];exact im.1 hfit i (by unfold dG at hi;rwa [List.length_set] at hi)
       have hu':q8 use (dG q tr j)=true:=so.2 fun i hi=>by
        rw [j7 htq];by_cases e:i=tr
        ·subst e;exact .inr cu
        ·rw [if_neg e];exact so.1 hus i (by unfold dG at hi;rwa [List.length_set] at hi)
       have hl1:=hmk.met.len;rw [hfl,List.length_append,List.length_cons,List.length_nil] at hl1;have hI:=ih (dG q tr j) tr hmk hf' hu' ht (fun i hi=>by rw [j7 htq,if_neg (by omega)];exact hemp i hi) (by rw [hfl,List.length_append,List.length_cons,List.length_nil];omega);have hpl:=Nat.le_trans (List.length_filter_le (m8 t use) (vr t (dG q tr j) tr)) (EK g)
       rw [decide_eq_false cr,iF,bR (Dh (by simp only [List.length_nil];omega)),bs,hgk,bs,bR (Dh (by simp only [List.length_nil];omega)),bs,bR (zP (n:=100) (by simp only [List.nil_append];omega) (by omega)),bs,
        show aP (([]:List (List Int))++q.take (tr+1)) (tr:Int)=some (q[tr]?.getD []) from hgk,bs,bs,bv (by omega) (by omega),bs,bR (Dh (by simp only [List.length_nil];omega)),bs,bR (zP (n:=100) (by simp only [List.nil_append];omega) (by omega)),bs,hset,hrm,List.nil_append,←hfl,hI,bs,
        bR (Dh (by omega)),bs,bs,bv (by omega) (by omega),bs,e1,ihd (j+1) n _ (by omega) (by omega) (by rw [List.length_append];have:=List.length_filter_le (m8 t use) (vr t (dG q tr j) tr);omega),List.range'_succ,List.flatMap_cons,if_neg ci,List.filter_append,List.append_assoc]
    ·rw [decide_eq_false cu,iF]
     have:((List.range' j (d+1)).flatMap fun(i:Nat)=>if(i:Int)∈q.flatten then [] else vr t (dG q tr i) tr).filter (m8 t use)=[]:=by
      rw [List.filter_flatMap];refine List.flatMap_eq_nil_iff.2 fun i _=>?_;by_cases c:(i:Int)∈q.flatten
      ·simp [c]
      ·simp only [c,if_false];exact Iz hq ht cu
     rw [this,List.append_nil]
  rw [eT,htk,bv (by omega) (by omega),bs,show(((tr+1:Nat):Int) - 1)=(tr:Int) by omega,bv (by omega) (by omega),bs];have hr0:List.range t.2.1.length=List.range' 0 t.2.1.length:=List.range_eq_range';by_cases cl:tr+1=t.2.2.length
  ·have htak:q.take (tr+1)=q:=by rw [List.take_of_length_le (by omega)]
   have hfin:(vr t q (tr+1)).filter (m8 t use)=if(q.flatten.length:Int)=(t.2.1.length:Int) then [q] else []:=by
    rw [cl,I1];by_cases c:q.flatten.length < t.2.1.length
    ·rw [if_pos c,if_neg (by omega)];rfl
    ·rw [if_neg c,if_pos (by omega),List.filter_cons_of_pos (by unfold m8;rw [hfit,hus];rfl)];rfl
   have hl0:=loop t.2.1.length 0 k;rw [if_pos (show(tr:Int)=(t.2.2.length:Int) - 1 by omega)];rw [wA g hq ht,List.filter_append,hfin,hr0];by_cases c:(q.flatten.length:Int)=(t.2.1.length:Int)
   ·rw [if_pos c,if_pos c,bR (Dh (by simp only [List.length_nil,List.length_cons];omega)),bs,bs,htak];rw [htak] at hl0;have h1:=hl0 (([]:List (List (List Int)))++[q]) (by omega) (by omega) (by rw [hr0] at htot;simp only [List.length_append,List.length_nil,List.length_cons];omega);rw [Int.natCast_zero] at h1;rw [h1,bs];rfl
   ·have h1:=hl0 ([]:List (List (List Int))) (by omega) (by omega) (by rw [hr0] at htot;simp only [List.length_nil];omega);rw [Int.natCast_zero] at h1;rw [if_neg c,if_neg c,bs,h1,bs]
  ·rw [if_neg (show¬(tr:Int)=(t.2.2.length:Int) - 1 by omega),bR (Dh (by simp only [List.length_nil];omega)),bs,bR (Dh (by simp only [List.nil_append,List.length_cons,List.length_nil];omega)),bs,bv (by omega) (by omega),bs];have ht1:tr+1 < t.2.2.length:=by omega
   have hg1:aP t.2.2 ((tr:Int)+1)=some (t.2.2[tr+1]?.getD 0):=oP (by omega) (by rw [show((tr:Int)+1).toNat=tr+1 by omega,List.getElem?_eq_getElem ht1];rfl);have he1:q[tr+1]?.getD []=[]:=hemp (tr+1) (by omega)
   have hta:(([]:List (List Int))++q.take (tr+1))++([[]]:List (List Int))=q.take (tr+1+1):=by
    rw [List.nil_append,List.take_add_one (i:=tr+1),List.getElem?_eq_getElem (by omega:tr+1 < q.length)];rw [List.getElem?_eq_getElem (by omega:tr+1 < q.length),Option.getD_some] at he1;rw [he1];rfl
   have hI:=ih q (tr+1) hq hfit hus ht1 (fun i hi=>hemp i (by omega)) (by omega);rw [he1] at hI;have hz:t.2.2[tr+1]?.getD 0 - cK t []=t.2.2[tr+1]?.getD 0:=by simp only [cK];omega
   rw [hz] at hI;have hpl:=List.length_filter_le (m8 t use) (vr t q (tr+1));have h1:=loop t.2.1.length 0 k (([]:List (List (List Int)))++(vr t q (tr+1)).filter (m8 t use)) (by omega) (by omega) (by rw [hr0] at htot;simp only [List.nil_append];omega);rw [Int.natCast_zero] at h1;rw [hg1,bs,hta,hI,bs,bR (Dh (by simp only [List.length_nil];omega)),bs,bs,h1,bs,wA g hq ht,List.filter_append,hr0];rfl
theorem Nq(h:nz k t)(g:ji t){use:List Int}(hu:use.length < k):qI k t use=some ((qn t).filter (q8 use)):=by
 have h3:=g.trunks;have h5:=g.things;have hk:=h.k0;have hmet:(List.replicate t.2.2.length ([]:List Int)).flatten=[]:=by simp
 have hat:∀j:Nat,(List.replicate t.2.2.length ([]:List Int))[j]?.getD []=[]:=fun j=>by rw [List.getElem?_replicate];split <;> rfl
 have hmk:Mk t (List.replicate t.2.2.length []):=⟨by simp,by rw [hmet];exact⟨by simp,by simp⟩⟩
 have hfit:pn t (List.replicate t.2.2.length [])=true:=im.2 fun i hi=>by
  rw [List.length_replicate] at hi;rw [hat];have hr:=g.rooms _ (List.getElem_mem hi);rw [List.getElem?_eq_getElem hi];simp only [cK,Option.getD_some];omega
 have hI:=yR h g hu k _ 0 hmk hfit (so.2 fun i _=>.inl (hat i)) (by omega) (fun j _=>hat j) (by rw [hmet];simp only [List.length_nil];omega);rw [hmet,hat,show(List.replicate t.2.2.length ([]:List Int)).take (0+1)=[[]] by rw [List.take_replicate,Nat.min_eq_left (by omega)];rfl,show t.2.2[0]?.getD 0 - cK t []=t.2.2[0]?.getD 0 by simp only [cK];omega] at hI;unfold qI;rw [show aP t.2.2 (0:Int)=some (t.2.2[0]?.getD 0) from oP (by omega) (by show t.2.2[0]? =_;rw [List.getElem?_eq_getElem (by omega:0 < t.2.2.length)];rfl),bs,hI,bs];unfold vr m8 qn;rw [List.filter_filter];congr 1;refine List.filter_congr fun x _=>?_;rw [Bool.and_comm]
end
end Go.Proofs.YtddneonghpmidaaGreatDoor
set_option linter.unusedVariables false
namespace Go.Proofs.YtddneonghpmidaaGreatDoor
open K Go Go.Proofs
def P8:List (List Int):=[[],[0],[1],[2],[0,1],[0,2],[1,2],[0,1,2]]
def rk(u:List Int):Nat:=P8.idxOf u
def fq(q:List (List Int)):List Int:=((List.range q.length).filter fun i=>decide (q[i]?.getD []≠[])).map fun(i:Nat)=>(i:Int)
def K2(N m:Nat):List (List Int):=P8.filter fun l=>decide (l.length=m) && l.all fun x=>decide (x < (N:Int))
theorem HG:(P8.all fun u=>P8.all fun v=>decide ((u.length < v.length→rk u < rk v)∧((∀x∈u,x∈v)→rk u≤rk v)) && (match dO 3000 u v with |some c=>decide (u.length=v.length→((0≤c)↔rk v≤rk u)) |none=>false))=true:=by decide+kernel
theorem yL{u v:List Int}(hu:u∈P8)(hv:v∈P8):(u.length < v.length→rk u < rk v)∧((∀x∈u,x∈v)→rk u≤rk v):=by
 have h:=HG;rw [List.all_eq_true] at h;have h:=h u hu;rw [List.all_eq_true] at h;have h:=h v hv;rw [Bool.and_eq_true] at h;exact of_decide_eq_true h.1
theorem O9{k:Nat}(hk:k=3000){u v:List Int}(hu:u∈P8)(hv:v∈P8)(hl:u.length=v.length):∃c,dO k u v=some c∧(0≤c↔rk v≤rk u):=by
 subst hk;have h:=HG;rw [List.all_eq_true] at h;have h:=h u hu;rw [List.all_eq_true] at h;have h:=h v hv;rw [Bool.and_eq_true] at h;have h:=h.2;split at h
 ·rename_i c hc;exact⟨c,hc,of_decide_eq_true h hl⟩
 ·cases h
theorem pz{q:List (List Int)}(h:q.length≤3):fq q∈P8∧∀x∈fq q,x < (q.length:Int):=by
 have key:∀(n:Nat),n≤3→∀b0 b1 b2:Bool,(((List.range n).filter fun i=>if i=0 then b0 else if i=1 then b1 else b2).map fun(i:Nat)=>(i:Int))∈P8:=by decide
 refine⟨?_,fun x hx=>?_⟩
 ·have:=key q.length h (decide (q[0]?.getD []≠[])) (decide (q[1]?.getD []≠[])) (decide (q[2]?.getD []≠[]));unfold fq
  rw [show(List.range q.length).filter (fun i=>decide (q[i]?.getD []≠[]))=(List.range q.length).filter (fun i=>if i=0 then decide (q[0]?.getD []≠[]) else if i=1 then decide (q[1]?.getD []≠[]) else decide (q[2]?.getD []≠[])) from List.filter_congr fun i hi=>by
   have:=List.mem_range.1 hi;rcases(show i=0∨i=1∨i=2 by omega) with rfl |rfl |rfl <;> simp]
  exact this
 ·obtain⟨i,hi,rfl⟩:=List.mem_map.1 hx;have:=List.mem_range.1 (List.mem_filter.1 hi).1;omega
theorem IC{q:List (List Int)}{i:Nat}:(i:Int)∈fq q↔q[i]?.getD []≠[]:=by
 unfold fq;simp only [List.mem_map,List.mem_filter,List.mem_range,decide_eq_true_eq];constructor
 ·rintro⟨j,⟨_,h⟩,e⟩;have:j=i:=by omega
  subst this;exact h
 ·intro h;refine⟨i,⟨?_,h⟩,rfl⟩;rcases Nat.lt_or_ge i q.length with h' |h'
  ·exact h'
  ·rw [List.getElem?_eq_none h'] at h;exact absurd rfl h
theorem KI{q:List (List Int)}(h:q.length≤3):fq q∈K2 q.length (fq q).length:=by
 obtain⟨a,b⟩:=pz h;exact List.mem_filter.2 ⟨a,by simp only [Bool.and_eq_true,decide_eq_true_eq,List.all_eq_true];exact⟨trivial,b⟩⟩
def pu(t:aU)(b:Option (List (List Int)×List Int))(q:List (List Int)):Option (List (List Int)×List Int):=match b with
 |none=>if gl t q=0 then some (q,fq q) else none
 |some (p,v)=>if rk v≤rk (fq q) then some (p,v) else if gl t q=0 then some (q,fq q) else some (p,v)
def BY(t:aU)(l:List (List (List Int))):Option (List (List Int)×List Int)→Prop
 |none=>∀q∈l,gl t q≠0
 |some (q,u)=>u=fq q∧gl t q=0∧(∀y∈l,gl t y=0→rk u≤rk (fq y))∧∃p s,l=p++q::s∧∀y∈p,gl t y=0→rk u < rk (fq y)
theorem zu{t:aU}:∀(l pre:List (List (List Int))) (b:Option (List (List Int)×List Int)),BY t pre b→BY t (pre++l) (l.foldl (pu t) b)
 |[],pre,b,h=>by simpa using h
 |o::l,pre,b,h=>by
  have h1:BY t (pre++[o]) (pu t b o):=by
   cases b with
   |none=>
    have h:∀q∈pre,gl t q≠0:=h;unfold pu;dsimp only;by_cases c:gl t o=0
    ·rw [if_pos c];refine⟨rfl,c,fun y hy e=>?_,pre,[],rfl,fun y hy e=>absurd e (h y hy)⟩;rcases List.mem_append.1 hy with hy |hy
     ·exact absurd e (h y hy)
     ·rw [List.mem_singleton] at hy;subst hy;exact Nat.le_refl _
    ·rw [if_neg c];intro y hy;rcases List.mem_append.1 hy with hy |hy
     ·exact h y hy
     ·rw [List.mem_singleton] at hy;subst hy;exact c
   |some b=>
    obtain⟨q,u⟩:=b;obtain⟨h1,h2,h3,p,s,h4,h5⟩:=h;unfold pu;dsimp only
    have same:(gl t o=0→rk u≤rk (fq o))→BY t (pre++[o]) (some (q,u)):=fun ho=>⟨h1,h2,fun y hy e=>by
     rcases List.mem_append.1 hy with hy |hy
     ·exact h3 y hy e
     ·rw [List.mem_singleton] at hy;subst hy;exact ho e,p,s++[o],by rw [h4];simp,h5⟩
    by_cases c:rk u≤rk (fq o)
    ·rw [if_pos c];exact same fun _=>c
    ·rw [if_neg c];by_cases c2:gl t o=0
     ·rw [if_pos c2];refine⟨rfl,c2,fun y hy e=>?_,pre,[],rfl,fun y hy e=>by have:=h3 y hy e;omega⟩;rcases List.mem_append.1 hy with hy |hy
      ·have:=h3 y hy e;omega
      ·rw [List.mem_singleton] at hy;subst hy;exact Nat.le_refl _
     ·rw [if_neg c2];exact same fun e=>absurd e c2
  have:=zu l (pre++[o]) _ h1;rwa [List.append_assoc] at this
section
variable {k:Nat}
theorem K5{l:List Int}(h:∀x∈l,0≤x):kF l=kF []↔l=[]:=by
 constructor
 ·intro e;cases l with
  |nil=>rfl
  |cons a l=>
   have ha:=h a (by simp);have:=congrArg (fun z=>z[0]?) e;simp [kF] at this;omega
 ·rintro rfl;rfl
theorem Qz{l:List Int}(h:∀x∈l,0≤x∧x < 8):vO (kF l):=by
 have g:∀j:Nat, -1≤l[j]?.getD (-1)∧l[j]?.getD (-1) < 8:=fun j=>by
  rcases Nat.lt_or_ge j l.length with hj |hj
  ·have:=h _ (List.getElem_mem hj);rw [List.getElem?_eq_getElem hj,Option.getD_some];omega
  ·rw [List.getElem?_eq_none hj,Option.getD_none];omega
 refine⟨rfl,fun n hn=>?_⟩;simp only [kF,List.mem_cons,List.not_mem_nil,or_false] at hn;rcases hn with rfl |rfl |rfl |rfl |rfl
 ·exact g 0
 ·exact g 1
 ·exact g 2
 ·exact g 3
 ·exact g 4
theorem KJ(hk:50≤k){t:aU}{q:List (List Int)}(f:J9 q)(hl:q.length=t.2.2.length):eM k t (dS q) k ([],0)=some (fq q):=by
 have h3:=f.len
 have hb:=W.loop (f:=eM k t (dS q)) (Q:=fun o=>o=fq q) (fun m y=>∃j:Nat,y.2=(j:Int)∧j≤q.length∧m=q.length - j∧y.1=((List.range j).filter fun i=>decide (q[i]?.getD []≠[])).map fun(i:Nat)=>(i:Int)) (by
  rintro aS m ⟨o,y⟩ ⟨j,hj,hle,hm,ho⟩ ih;simp only at hj ho;subst hj
  have hol:o.length≤j:=by
   rw [ho,List.length_map];refine Nat.le_trans (List.length_filter_le _ _) ?_;simp
  unfold eM;dsimp only;refine W.ite (fun hlt=>?_) (fun hge=>W.ret ?_)
  ·have hj3:j < 3:=by omega
   have hf:=f.at j
   have hnil:aP (dS []) (j:Int)=some (kF []):=by
    have:=ze (q:=[]) hj3;simpa using this
   rw [bR (by omega),bs,ze hj3,bs,wq hk,bs,hnil,bs,bR (by exact⟨Qz hf.2,Qz (l:=[]) (by simp)⟩),bs];have hp:=K5 (l:=q[j]?.getD []) (fun x hx=>(hf.2 x hx).1);by_cases c:q[j]?.getD []=[]
   ·rw [if_neg (not_not_intro (hp.2 c)),bs,bv (by omega) (by omega),bs];refine ih (m - 1) (_,(j:Int)+1) (by omega) ⟨j+1,by show(j:Int)+1=((j+1:Nat):Int);omega,by omega,by omega,?_⟩;simp only;rw [List.range_succ,List.filter_append,List.map_append,←ho];simp [c]
   ·rw [if_pos (fun e=>c (hp.1 e)),bR (zP (n:=3) (by omega) (by omega)),bs,bs,bv (by omega) (by omega),bs];refine ih (m - 1) (_,(j:Int)+1) (by omega) ⟨j+1,by show(j:Int)+1=((j+1:Nat):Int);omega,by omega,by omega,?_⟩;simp only;rw [List.range_succ,List.filter_append,List.map_append,←ho];simp [c]
  ·have:j=q.length:=by omega
   subst this;exact ho) q.length k ([],0) (by omega) ⟨0,rfl,by omega,by omega,by simp⟩
 obtain⟨o,eo,rfl⟩:=hb;exact eo
def uP(b:Option (List (List Int)×List Int)):(Bool×(List (List Int))×(List Int))×Bool:=match b with
 |none=>((false,[[0,0,0,0,0],[0,0,0,0,0],[0,0,0,0,0]],[]),false)
 |some (q,u)=>((true,dS q,u),false)
theorem DX(hk:k=3000){t:aU}(h:nz k t)(hs:fG k t)(ht:jY t=0){b:Option (List (List Int)×List Int)}(hb:∀q u,b=some (q,u)→u∈P8){q:List (List Int)}(hq:dU t q):
 mY (fun(y9:Bool×(List (List Int))×(List Int)) (p11:(List (List Int)))=>
  ((eM k t p11 k (([]:(List Int)),(0:Int))):Option ((List Int))).bind fun x14=>
  ((if y9.1=true then(if(y9.2.2.length:Int) < (x14.length:Int) then(some (x14,true)) else(if(x14.length:Int)=(y9.2.2.length:Int) then((dO k x14 y9.2.2).bind fun r30=>
  some (x14,decide ((0:Int)≤r30))) else(some (x14,false)))) else(some (x14,false))):Option ((List Int)×Bool)).bind fun x28=>
  if x28.2=true then(some ((y9.1,y9.2.1,y9.2.2),true)) else((bS k t p11).bind fun r31=>
  if r31=(0:Int) then(some ((true,p11,x28.1),true)) else(some ((y9.1,y9.2.1,y9.2.2),true)))) (uP b) (dS q)=some (uP (pu t b q),true):=by
 have hu:=KJ (k:=k) (by omega) hq.fit hq.len
 have hl:=IO h hs ht hq
 have hm:=(pz hq.fit.len).1
 cases b with
 |none=>
  show(Option.bind (Option.bind (eM k t (dS q) k ([],0)) _) _:Option _)=_;rw [hu,bs];dsimp only;rw [iF,bs,iF,hl,bs];unfold pu;by_cases c:gl t q=0
  ·rw [if_pos (show(gl t q:Int)=0 by omega),bs];simp only [c,if_true];rfl
  ·rw [if_neg (show¬(gl t q:Int)=0 by omega),bs];simp only [c,if_false];rfl
 |some b=>
  obtain⟨p,v⟩:=b;have hv:=hb p v rfl;show(Option.bind (Option.bind (eM k t (dS q) k ([],0)) _) _:Option _)=_;rw [hu,bs];dsimp only;rw [iT]
  have fin:∀s:Bool,(s=decide (rk v≤rk (fq q)))→((some (fq q,s):Option ((List Int)×Bool)).bind fun x28=>
   if x28.2=true then(some ((true,dS p,v),true)) else((bS k t (dS q)).bind fun r31=>
   if r31=(0:Int) then(some ((true,dS q,x28.1),true)) else(some ((true,dS p,v),true)))).bind (fun r=>some ((r.1, !r.2),r.2))=some (uP (pu t (some (p,v)) q),true):=by
   intro s hs';rw [bs];dsimp only;unfold pu;by_cases c:rk v≤rk (fq q)
   ·rw [hs',decide_eq_true c,iT,bs];simp only [c,if_true];rfl
   ·rw [hs',decide_eq_false c,iF,hl,bs];by_cases c2:gl t q=0
    ·rw [if_pos (show(gl t q:Int)=0 by omega),bs];simp only [c,c2,if_true,if_false];rfl
    ·rw [if_neg (show¬(gl t q:Int)=0 by omega),bs];simp only [c,c2,if_false];rfl
  by_cases c1:v.length < (fq q).length
  ·rw [if_pos (show(v.length:Int) < ((fq q).length:Int) by omega)];exact fin true (decide_eq_true (Nat.le_of_lt ((yL hv hm).1 c1))).symm
  ·rw [if_neg (show¬(v.length:Int) < ((fq q).length:Int) by omega)];by_cases c2:(fq q).length=v.length
   ·obtain⟨c,ec,hc⟩:=O9 hk hm hv c2;rw [if_pos (show((fq q).length:Int)=(v.length:Int) by omega),ec,bs];exact fin _ (decide_eq_decide.2 hc)
   ·rw [if_neg (show¬((fq q).length:Int)=(v.length:Int) by omega)];exact fin false (decide_eq_false (by have:=(yL hm hv).1 (by omega);omega)).symm
def nq(t:aU):Option (List (List Int)×List Int):=(qn t).foldl (pu t) none
theorem zt{t:aU}:BY t (qn t) (nq t):=by
 have:=zu (t:=t) (qn t) [] none (fun q hq=>by cases hq);rw [List.nil_append] at this;exact this
theorem Jk{t:aU}{pre:List (List (List Int))}(hall:∀q∈pre,dU t q):∀p u,pre.foldl (pu t) none=some (p,u)→u∈P8∧p∈pre:=by
 intro p u e;have hf:=zu (t:=t) pre [] none (fun q hq=>by cases hq);rw [List.nil_append,e] at hf;obtain⟨h1,_,_,a,b,h3,_⟩:=hf;have hp:p∈pre:=by rw [h3];simp
 exact⟨by rw [h1];exact(pz (hall p hp).fit.len).1,hp⟩
theorem L0{t:aU}{pre:List (List (List Int))}(hall:∀q∈pre,dU t q):(if(uP (pre.foldl (pu t) none)).1.1=true then some (((List.range 3).map fun i=>((uP (pre.foldl (pu t) none)).1.2.1[i]?.getD []).filter fun x=>decide (0≤x)).take t.2.2.length,(uP (pre.foldl (pu t) none)).1.2.2) else none)=pre.foldl (pu t) none:=by
 have hb:=Jk hall;cases e:pre.foldl (pu t) none with
 |none=>rfl
 |some b=>
  obtain⟨p,u⟩:=b;have hp:=hall p (hb p u e).2;have f:=hp.fit;show(if true=true then some (((List.range 3).map fun i=>((dS p)[i]?.getD []).filter fun x=>decide (0≤x)).take t.2.2.length,u) else none)=_;rw [if_pos rfl]
  have e3:((List.range 3).map fun i=>((dS p)[i]?.getD []).filter fun x=>decide (0≤x))=[p[0]?.getD [],p[1]?.getD [],p[2]?.getD []]:=by
   show [((kF (p[0]?.getD [])).filter fun x=>decide (0≤x)),((kF (p[1]?.getD [])).filter fun x=>decide (0≤x)),((kF (p[2]?.getD [])).filter fun x=>decide (0≤x))]=_;rw [oK (f.fitL 0),oK (f.fitL 1),oK (f.fitL 2)]
  rw [e3,←hp.len];have hl3:=f.len;match p,hl3 with
  |[],_=>rfl
  |[a],_=>rfl
  |[a,b],_=>rfl
  |[a,b,c],_=>rfl
theorem PS(hk:k=3000){t:aU}(h:nz k t)(hs:fG k t)(ht:jY t=0):mW k t=some (match nq t with |none=>([],[],11) |some (q,u)=>(u,q,0)):=by
 have g:=s8 ht;unfold mW;rw [uv hs,bs,ht,if_neg (not_not_intro rfl)]
 have:=AC (k:=k) h g (f:=fun s q=>uP (pu t (if s.1.1=true then some (((List.range 3).map fun i=>(s.1.2.1[i]?.getD []).filter fun x=>decide (0≤x)).take t.2.2.length,s.1.2.2) else none) q)) (P:=fun pre s=>s=uP (pre.foldl (pu t) none)∧(∀q∈pre,dU t q)) (Y:=mY (fun(y9:Bool×(List (List Int))×(List Int)) (p11:(List (List Int)))=>
  ((eM k t p11 k (([]:(List Int)),(0:Int))):Option ((List Int))).bind fun x14=>
  ((if y9.1=true then(if(y9.2.2.length:Int) < (x14.length:Int) then(some (x14,true)) else(if(x14.length:Int)=(y9.2.2.length:Int) then((dO k x14 y9.2.2).bind fun r30=>
  some (x14,decide ((0:Int)≤r30))) else(some (x14,false)))) else(some (x14,false))):Option ((List Int)×Bool)).bind fun x28=>
  if x28.2=true then(some ((y9.1,y9.2.1,y9.2.2),true)) else((bS k t p11).bind fun r31=>
  if r31=(0:Int) then(some ((true,p11,x28.1),true)) else(some ((y9.1,y9.2.1,y9.2.2),true))))) (by
  rintro pre s q hq hl ⟨rfl,hall⟩;have hb:=Jk hall;have hst:=L0 (t:=t) hall;exact⟨by rw [hst];exact DX hk h hs ht (fun p u e=>(hb p u e).1) hq,by rw [hst,List.foldl_append];rfl,fun y hy=>(List.mem_append.1 hy).elim (fun hy=>hall y hy) fun hy=>(List.mem_singleton.1 hy).symm▸hq⟩) (s:=((false,[[0,0,0,0,0],[0,0,0,0,0],[0,0,0,0,0]],[]),false)) ⟨rfl,fun q hq=>by cases hq⟩
 obtain⟨h1,h2,h3⟩:=this;rw [h1,bs,h2];have hf:=zt (t:=t);unfold nq at *;cases e:(qn t).foldl (pu t) none with
 |none=>exact if_neg (by decide)
 |some b=>
  obtain⟨q,u⟩:=b;rw [e] at hf;obtain⟨_,_,_,p,s,h4,_⟩:=hf;have hq:=qX g (q:=q) (by rw [h4];simp);show(if false=true then none else if¬(true=true) then _ else(dF k (t,()) (dS q)).bind fun r32=>some (u,r32,0):Option _)=some (u,q,0);rw [iF,nT,IM h.k0 hq.fit hq.len,bs]
end
