import Derived.Test.YtmeojbemjkmebaaGreatDoorREB12
set_option linter.unusedVariables false
set_option linter.unusedSimpArgs false
namespace Go.Proofs.YtmeojbemjkmebaaGreatDoor
open K Go Go.Proofs
section
variable {k:Nat}
theorem Gz{t:ba}(h:t6 k t){x:Int}(hx:0≤x∧x < (t.2.1.length:Int)){d:Int}:o7 k t x d=some (nM t d x):=by
 obtain⟨n,rfl⟩:∃n:Nat,x=(n:Int):=⟨x.toNat,by omega⟩;have hn:n < t.2.1.length:=by omega
 unfold o7;rw [bM hn,bs,Ix (h.worn _ (List.getElem_mem hn)) h.k1,bs];congr 1;unfold nM;rw [Int.toNat_natCast,List.getElem?_eq_getElem hn]
theorem FT{t:ba}(h:t6 k t){d:Int}{l:List Int}(hl9:l.length≤1000)(hx:∀x∈l,0≤x∧x < (t.2.1.length:Int)):∀(m pre:List Int) (n:Nat) (lf rs tp:List Int),l=pre++m→m.length < n→lf.length+rs.length+tp.length+2 * m.length≤10000→
 jK k t l d n (lf,rs,tp,(pre.length:Int))=some (lf++dk (nM t d) (decide (0 < tp.length)) m,rs++m.filter (fun x=> !nM t d x),tp++m.filter (nM t d)):=by
 intro m
 induction m with
 |nil=>
  intro pre n lf rs tp e hn _;obtain⟨n,rfl⟩:∃n',n=n'+1:=⟨n - 1,by omega⟩;rw [jK];dsimp only;rw [if_neg (by rw [e];simp)];simp [dk]
 |cons x m ih=>
  intro pre n lf rs tp e hn hb;simp only [List.length_cons] at hn hb;obtain⟨n,rfl⟩:∃n',n=n'+1:=⟨n - 1,by omega⟩;have hp:pre.length < l.length:=by rw [e];simp
  have hg:aR l (pre.length:Int)=some x:=by rw [bM hp];simp [e]
  have hxl:=hx x (by rw [e];simp);have ep:(pre.length:Int)+1=((pre++[x]).length:Int):=by simp
  rw [jK];dsimp only;rw [if_pos (by omega),hg,bs,Gz h hxl,bs];cases c:nM t d x with
  |true=>
   rw [iT,bs,cr (zX (n:=10000) (by omega) (by omega)),bs,bs];dsimp only;rw [bj (by omega) (by omega),bs,ep,ih (pre++[x]) n lf rs (tp++[x]) (by simp [e]) (by omega) (by simp only [List.length_append,List.length_cons,List.length_nil];omega)];simp [dk,c]
  |false=>
   rw [iF,bs,cr (zX (n:=10000) (by omega) (by omega)),bs];by_cases c2:0 < tp.length
   ·rw [if_pos (by omega),bs,cr (zX (n:=10000) (by omega) (by omega)),bs,bs];dsimp only;rw [bj (by omega) (by omega),bs,ep,ih (pre++[x]) n (lf++[x]) (rs++[x]) tp (by simp [e]) (by omega) (by simp only [List.length_append,List.length_cons,List.length_nil];omega)];simp [dk,c,c2]
   ·rw [if_neg (by omega),bs];dsimp only;rw [bj (by omega) (by omega),bs,ep,ih (pre++[x]) n lf (rs++[x]) tp (by simp [e]) (by omega) (by simp only [List.length_append,List.length_cons,List.length_nil];omega)];simp [dk,c,c2]
theorem LD{t:ba}(h:t6 k t){d:Int}{l:List Int}(hl:l.length < k)(hl9:l.length≤1000)(hx:∀x∈l,0≤x∧x < (t.2.1.length:Int)):rP k t l d=some (dk (nM t d) false l,Gu (nM t d) l):=by
 unfold rP;have e:=FT h (d:=d) hl9 hx l [] k [] [] [] rfl hl (by simp only [List.length_nil];omega);rw [show((0:Int))=(([]:List Int).length:Int) from rfl,e,bs];have h1:=List.length_filter_le (fun x=> !nM t d x) l;have h2:=List.length_filter_le (nM t d) l;dsimp only;rw [cr (MQ (by simp only [List.nil_append];omega)),bs];rfl
theorem FZ{o:List Int}{L L':Nat→Bool}(h:∀i,i < o.length→L i=true→L' i=false):gK (gK o L) L'=gK o (fun i=>L i || L' i):=by
 refine List.ext_getElem (by simp [gK]) fun j h1 h2=>?_;simp only [gK,List.length_mapIdx] at h1;simp only [gK,List.getElem_mapIdx];have:=h j h1;by_cases c:L j=true
 ·simp [c,this c]
 ·simp [c]
theorem Ef{o:List Int}{L:Nat→Bool}{m:Int}(h:∀v∈o,0≤v∧v≤m):∀v∈gK o L,0≤v∧v≤m+1:=fun v hv=>by
 unfold gK at hv
 obtain⟨i,hi,rfl⟩:=List.mem_mapIdx.1 hv
 have:=h _ (List.getElem_mem hi)
 split <;> omega
theorem G8{r:(List Int)×(List Int)}(hn:r.1.Nodup){o:List Int}(hr:∀x∈r.1,0≤x∧x < (o.length:Int))(h8:r.1.length < k)(h9:r.1.length≤1000)(hv:∀v∈o,0≤v∧v≤1000):
 iQ k r k (o,0)=some (gK o (fun i=>decide ((i:Int)∈r.1))):=by
 have hall:∀x∈r.1,∃i:Nat,x=(i:Int)∧i < o.length:=fun x hx=>⟨x.toNat,by have:=hr x hx;omega,by have:=hr x hx;omega⟩
 have hb:=W.loop (f:=iQ k r) (Q:=fun z=>z=gK o (fun i=>decide ((i:Int)∈r.1))) (fun qq z=>∃j:Nat,z.2=(j:Int)∧j≤r.1.length∧qq=r.1.length - j∧z.1=gK o (fun i=>decide ((i:Int)∈r.1.take j))) (by
  rintro aS qq ⟨c,z⟩ ⟨j,hj,hle,hq,hc⟩ ih;simp only at hj hc;subst hj hc;unfold iQ;dsimp only;refine W.ite (fun hlt=>?_) (fun hge=>W.ret ?_)
  ·have hj:j < r.1.length:=by omega
   obtain⟨i,ei,hi⟩:=hall _ (List.getElem_mem hj);have hvi:=hv _ (List.getElem_mem hi)
   have hno:¬(i:Int)∈r.1.take j:=fun hm=>by
    obtain⟨a,ha,e⟩:=List.getElem_of_mem hm;rw [List.getElem_take] at e;rw [List.length_take] at ha;have:=(List.getElem_inj hn).1 (e.trans ei.symm);omega
   rw [bM hj,bs,bs,ei,Jh hi (by exact decide_eq_false hno),bs,bj (by omega) (by omega),bs,bs,bj (by omega) (by omega),bs];refine ih (qq - 1) (_,(j:Int)+1) (by omega) ⟨j+1,by show(j:Int)+1=((j+1:Nat):Int);omega,by omega,by omega,?_⟩;show List.set (gK _ _) i _=_;rw [Jg hi];refine wd fun a _=>?_;rw [List.take_add_one,List.getElem?_eq_getElem hj,ei];simp only [Option.toList_some,List.mem_append,List.mem_cons,List.not_mem_nil,or_false];by_cases ea:a=i
   ·subst ea;simp
   ·have:¬(a:Int)=(i:Int):=by omega
    simp [ea,this]
  ·have:j=r.1.length:=by omega
   subst this;rw [List.take_of_length_le (Nat.le_refl _)]) r.1.length k (o,0) h8 ⟨0,rfl,by omega,by omega,by simp [xT]⟩
 obtain⟨o',eo,h⟩:=hb
 rw [eo,h]
def aftD(t:ba)(d:Int)(p:List (List Int)):Nat→List (List Int)
 |0=>p
 |n+1=>pD t (d+n) (aftD t d p n)
def qw(t:ba)(d:Int)(p:List (List Int)):Nat→List Int
 |0=>List.replicate t.2.1.length 0
 |n+1=>gK (qw t d p n) (Ij t (aftD t d p n) (d+n))
theorem g8.aftD{t:ba}{p:List (List Int)}(h:g8 t p){d:Int}:∀n,g8 t (aftD t d p n)
 |0=>h
 |n+1=>(h.aftD n).next
theorem uG{t:ba}{d:Int}{p:List (List Int)}:∀n,(qw t d p n).length=t.2.1.length∧∀v∈qw t d p n,0≤v∧v≤(n:Int)
 |0=>⟨by simp [qw],fun v hv=>by simp only [qw,List.mem_replicate] at hv;omega⟩
 |n+1=>by
  obtain⟨h1,h2⟩:=uG (t:=t) (d:=d) (p:=p) n
  refine⟨by rw [qw,wc,h1],fun v hv=>?_⟩
  have:=Ef h2 v hv
  omega
theorem FR{t:ba}(h:t6 k t){q:List (List Int)}(hg:g8 t q){y:(List Int)×(List (List Int))×Int}(hy:y.2.1=q){o:List Int}(ho:o.length=t.2.1.length)(hv:∀v∈o,0≤v∧v≤900):
 iR k t y k (o,[],0)=some (gK o (Ij t q y.2.2),pD t y.2.2 q):=by
 have hf:=hg.fit
 have hk:=h.k0
 have hk1:=h.k1
 have hlen:=hf.len
 subst hy
 have hb:=W.loop (f:=iR k t y) (Q:=fun z=>z=(gK o (Ij t y.2.1 y.2.2),pD t y.2.2 y.2.1)) (fun qq z=>∃j:Nat,z.2.2=(j:Int)∧j≤y.2.1.length∧qq=y.2.1.length - j∧z.1=gK o (fun i=>decide (∃l∈y.2.1.take j,(i:Int)∈dk (nM t y.2.2) false l))∧z.2.1=(y.2.1.take j).map (Gu (nM t y.2.2))) (by
  rintro aS qq ⟨c,u,z⟩ ⟨j,hj,hle,hq,hc,hu⟩ ih;simp only at hj hc hu;subst hj hc hu;unfold iR;dsimp only;refine W.ite (fun hlt=>?_) (fun hge=>W.ret ?_)
  ·have hj:j < y.2.1.length:=by omega
   have hmem:y.2.1[j]∈y.2.1:=List.getElem_mem hj;have hr5:=(hf.fit _ hmem).1;have hnd:(y.2.1[j]).Nodup:=(List.pairwise_flatten.1 hg.nd).1 _ hmem;have hrg:∀x∈y.2.1[j],0≤x∧x < (t.2.1.length:Int):=fun x hx=>hg.rng x (List.mem_flatten.2 ⟨_,hmem,hx⟩);have hll:(dk (nM t y.2.2) false y.2.1[j]).length≤8:=tl 8 _ (iY hnd) (fun x hx=>by have:=hrg x (i8 hx);have:=h.things;omega)
   rw [bM hj,bs,LD h (by omega) (by omega) hrg,bs,
    G8 (k:=k) (r:=(dk (nM t y.2.2) false y.2.1[j],Gu (nM t y.2.2) y.2.1[j])) (iY hnd) (fun x hx=>by have:=hrg x (i8 hx);rw [wc];omega) (by show(dk _ _ _).length < k;omega) (by show(dk _ _ _).length≤1000;omega) (fun v hv'=>by have:=Ef hv v hv';omega),bs,
    cr (zX (n:=100) (by rw [List.length_map,List.length_take];omega) (by omega)),bs,bs]
   dsimp only;rw [bj (by omega) (by omega),bs];refine ih (qq - 1) (_,_,(j:Int)+1) (by omega) ⟨j+1,by show(j:Int)+1=((j+1:Nat):Int);omega,by omega,by omega,?_,?_⟩
   ·show gK (gK _ _) _=_;rw [FZ]
    ·refine wd fun i _=>?_;rw [List.take_add_one,List.getElem?_eq_getElem hj,←Bool.decide_or];refine decide_eq_decide.2 ?_;simp only [Option.toList_some,List.mem_append,List.mem_cons,List.not_mem_nil,or_false];constructor
     ·rintro(⟨l,hl,h⟩ |h)
      ·exact⟨l,.inl hl,h⟩
      ·exact⟨_,.inr rfl,h⟩
     ·rintro⟨l,hl |rfl,h⟩
      ·exact .inl ⟨l,hl,h⟩
      ·exact .inr h
    ·intro i _ hi;refine decide_eq_false fun hi'=>?_;obtain⟨l,hl,hil⟩:=of_decide_eq_true hi;obtain⟨a,ha,rfl⟩:=List.getElem_of_mem hl;rw [List.length_take] at ha;rw [List.getElem_take] at hil;have:=E2 hg.nd (i:=a) (i':=j) (by omega) hj (i8 hil) (i8 hi');omega
   ·show(List.map _ _++[_])=_;rw [List.take_add_one,List.getElem?_eq_getElem hj,List.map_append];rfl
  ·have:j=y.2.1.length:=by omega
   subst this;rw [List.take_of_length_le (Nat.le_refl _)];rfl) y.2.1.length k (o,[],0) (by omega) ⟨0,rfl,by omega,by omega,by simp [xT],rfl⟩
 obtain⟨o',eo,h⟩:=hb
 rw [eo,h]
theorem JG{t:ba}(h:t6 k t){p:List (List Int)}(hg:g8 t p){d a:Int}{n:Nat}(hd:0≤d∧d≤100)(hn:n≤40)(ha:a=d+n):pe k t p d a=some (qw t d p n,aftD t d p n):=by
 have hk:=h.k0;have hk1:=h.k1;have h5:=h.things;unfold pe;rw [cr (by exact⟨by omega,show Int.toNat (t.2.1.length:Int)≤4294967296 by omega⟩),bs]
 have hb:=W.loop (f:=jP k t a) (Q:=fun z=>z=(qw t d p n,aftD t d p n)) (fun qq z=>∃j:Nat,z.2.2=d+(j:Int)∧j≤n∧qq=n - j∧z.1=qw t d p j∧z.2.1=aftD t d p j) (by
  rintro aS qq ⟨c,u,z⟩ ⟨j,hj,hle,hq,hc,hu⟩ ih;simp only at hj hc hu;subst hj hc hu;unfold jP;dsimp only;refine W.ite (fun hlt=>?_) (fun hge=>W.ret ?_)
  ·obtain⟨o1,o2⟩:=uG (t:=t) (d:=d) (p:=p) j;rw [FR h (hg.aftD j) (y:=(qw t d p j,aftD t d p j,d+(j:Int))) rfl o1 (fun v hv=>by have:=o2 v hv;omega),bs,bs];dsimp only;rw [bj (by omega) (by omega),bs];exact ih (qq - 1) (_,_,d+(j:Int)+1) (by omega) ⟨j+1,by show d+(j:Int)+1=d+((j+1:Nat):Int);omega,by omega,by omega,rfl,rfl⟩
  ·have:j=n:=by omega
   rw [this]) n k (List.replicate (Int.toNat (t.2.1.length:Int)) 0,p,d) (by omega) ⟨0,by show d=d+0;omega,by omega,by omega,by show List.replicate _ _=List.replicate _ _;rw [Int.toNat_natCast],rfl⟩
 obtain⟨o',eo,h⟩:=hb;rw [eo,bs,h]
theorem A9:∀{o:List Int} {L:Nat→Bool},(gK o L).sum=o.sum+((((List.range o.length).filter L).length:Nat):Int)
 |[],L=>by simp [gK]
 |v::o,L=>by
  have ih:=A9 (o:=o) (L:=fun i=>L (i+1))
  have e:gK (v::o) L=(if L 0 then v+1 else v)::gK o (fun i=>L (i+1)):=by simp [gK,List.mapIdx_cons]
  have e2:((List.range (v::o).length).filter L).length=(if L 0 then 1 else 0)+((List.range o.length).filter (fun i=>L (i+1))).length:=by
   rw [List.length_cons,List.range_succ_eq_map,List.filter_cons,List.filter_map];split
   ·rw [List.length_cons,List.length_map];show(List.filter (L ∘ Nat.succ) _).length+1=_;rw [Nat.add_comm];rfl
   ·rw [List.length_map];show(List.filter (L ∘ Nat.succ) _).length=_;rw [Nat.zero_add];rfl
  rw [e,e2,List.sum_cons,List.sum_cons,ih];split <;> omega
theorem wb{t:ba}{d:Int}{p:List (List Int)}:∀n,aftD t (d+1) (pD t d p) n=aftD t d p (n+1)
 |0=>by rw [aftD,aftD,aftD,Int.natCast_zero,Int.add_zero]
 |n+1=>by
  rw [aftD,wb n]
  show pD t _ _=pD t _ _
  congr 1
  omega
theorem BL{t:ba}{e:Int}{q:List (List Int)}:mE t 0 e q=0:=by
 unfold mE
 induction q with
 |nil=>rfl
 |cons l q ih=>rw [List.map_cons,List.sum_cons,ih];rfl
theorem wW{t:ba}:∀(n:Nat) (d:Int) (p:List (List Int)),mE t (n+1) d p=mE t n d p+((aftD t d p n).map fun l=>(dk (nM t (d+n)) false l).length).sum
 |0,d,p=>by
  rw [ta]
  rw [BL,BL,aftD,Int.natCast_zero,Int.add_zero,Nat.add_zero,Nat.zero_add]
 |n+1,d,p=>by
  rw [ta,wW n (d+1) (pD t d p),wb,ta (n:=n)]
  have e:d+1+(n:Int)=d+((n+1:Nat):Int):=by omega
  rw [e]
  omega
theorem DO{t:ba}{d:Int}{p:List (List Int)}(hg:g8 t p):∀n,(qw t d p n).sum=((mE t n d p:Nat):Int)
 |0=>by
  rw [BL,qw]
  generalize t.2.1.length=m
  induction m with
  |zero=>rfl
  |succ m ih=>rw [List.replicate_succ,List.sum_cons,ih];rfl
 |n+1=>by
  have h1:=DO (d:=d) hg n
  have h2:=AB (hg.aftD (d:=d) n) (d:=d+n)
  rw [qw,A9,h1,wW,(uG n).1,←h2]
  unfold yE
  rw [List.length_map]
  rfl
theorem J7{r:(List Int)×(List (List Int))}(hk:r.1.length < k)(h8:r.1.length≤1000)(hv:∀v∈r.1,0≤v∧v≤1000):ib k r k (0,0)=some r.1.sum:=by
 have hle:∀j,j≤r.1.length→0≤(r.1.take j).sum∧(r.1.take j).sum≤1000 * (j:Int):=by
  intro j
  induction j with
  |zero=>intro _;simp
  |succ j ih=>
   intro hj;have:=ih (by omega);have hx:=hv _ (List.getElem_mem (show j < r.1.length by omega));rw [List.take_add_one,List.getElem?_eq_getElem (show j < r.1.length by omega),List.sum_append];simp only [Option.toList_some,List.sum_cons,List.sum_nil];omega
 have hb:=W.loop (f:=ib k r) (Q:=fun z=>z=r.1.sum) (fun qq z=>∃j:Nat,z.2=(j:Int)∧j≤r.1.length∧qq=r.1.length - j∧z.1=(r.1.take j).sum) (by
  rintro aS qq ⟨c,z⟩ ⟨j,hj,hl,hq,hc⟩ ih;simp only at hj hc;subst hj hc;unfold ib;dsimp only;refine W.ite (fun hlt=>?_) (fun hge=>W.ret ?_)
  ·have hj:j < r.1.length:=by omega
   have h1:=hle j (by omega);have hx:=hv _ (List.getElem_mem hj);rw [bM hj,bs,bj (by omega) (by omega),bs,bj (by omega) (by omega),bs];refine ih (qq - 1) (_,(j:Int)+1) (by omega) ⟨j+1,by show(j:Int)+1=((j+1:Nat):Int);omega,by omega,by omega,?_⟩;rw [List.take_add_one,List.getElem?_eq_getElem hj,List.sum_append];simp
  ·have:j=r.1.length:=by omega
   subst this;rw [List.take_of_length_le (Nat.le_refl _)]) r.1.length k (0,0) hk ⟨0,rfl,by omega,by omega,by simp⟩
 obtain⟨o',eo,h⟩:=hb;rw [eo,h]
theorem xt{t:ba}(h:t6 k t){p:List (List Int)}(hg:g8 t p){d:Int}(hd:0≤d∧d≤t.1):lO k t p d=some ((mE t (t.1 - d).toNat d p:Nat):Int):=by
 have h6:=hg.g.days;obtain⟨o1,o2⟩:=uG (t:=t) (d:=d) (p:=p) (t.1 - d).toNat;have hk:=h.k0;have h5:=h.things;unfold lO;rw [JG h hg (n:=(t.1 - d).toNat) (by omega) (by omega) (by omega),bs,J7 (by show(qw _ _ _ _).length < k;omega) (by show(qw _ _ _ _).length≤1000;omega) (fun v hv=>by have:=o2 v hv;omega),bs];show some (qw _ _ _ _).sum=_;rw [DO hg]
end
structure kx(k:Nat)(t:ba)(p:List (List Int)):Prop where
 k0:50≤k
 hs:fu k t
 hp:p.length < k
 hl:∀l∈p,l.length < k
section
variable {k:Nat}{t:ba}{p:List (List Int)}
theorem kx.dayT(h:kx k t p)(c:kw t=0):t6 k t:=⟨h.k0,h.hs.k1,by have:=(uI c).things;omega,h.hs.worn⟩
theorem kx.at(h:kx k t p)(c:jh t p=0):At k t p:=⟨h.hs,h.dayT (uK c),c⟩
theorem kx.trk(h:kx k t p):cC k t p=some (jh t p):=vX h.hs (by have:=h.k0;omega) h.hl
theorem kx.ref(h:kx k t p):dr k t p=some (jh t p):=vY h.hs h.k0 h.hl
def yZ(k:Nat)(q:List (List Int)):Prop:=q.length < k∧∀l∈q,l.length < k
theorem yZ.nil(hk:50≤k):yZ k []:=⟨by show 0 < k;omega,fun _ h=>by cases h⟩
end
section
variable {k:Nat}{t:ba}{p:List (List Int)}
theorem mU{l:List Int}(h:l.length≤1000000):dS k l=some l:=by
 unfold dS;rw [cr (MQ (by simp only [List.length_nil];omega)),bs];rfl
theorem uh(h:fu k t):jd k t=some t:=by
 have hk1:=h.k1;have h1:=h.things;have h2:=h.trunks;unfold jd;rw [mU (by omega),bs]
 have hb:=W.loop (f:=fJ k t) (Q:=fun o=>o=t.2.1) (fun m y=>∃j:Nat,y.2=(j:Int)∧j≤t.2.1.length∧m=t.2.1.length - j∧y.1=t.2.1.take j) (by
  rintro aS m ⟨o,y⟩ ⟨j,hj,hle,hm,ho⟩ ih;simp only at hj ho;subst hj ho;unfold fJ;dsimp only;refine W.ite (fun hlt=>?_) (fun hge=>W.ret ?_)
  ·have hj:j < t.2.1.length:=by omega
   rw [bM hj,bs,bs,mU (by have:=h.worn _ (List.getElem_mem hj);omega),bs,cr (MQ (by simp only [List.length_take,List.length_cons,List.length_nil];omega)),bs,bj (by omega) (by omega),bs];refine ih (m - 1) (_,(j:Int)+1) (by omega) ⟨j+1,by show(j:Int)+1=((j+1:Nat):Int);omega,by omega,by omega,?_⟩;rw [List.take_add_one,List.getElem?_eq_getElem hj];rfl
  ·rw [List.take_of_length_le (by omega)]) t.2.1.length k ([],0) h1 ⟨0,rfl,by omega,by omega,by simp⟩
 obtain⟨o,eo,rfl⟩:=hb;rw [eo,bs]
theorem I4: @ju= @jd:=by kernel_rfl
theorem yQ(h:fu k t):ju k t=some t:=by rw [I4];exact uh h
theorem sB(h:yZ k p)(hk1:k≤1000000):fe k p=some p:=by
 have h1:=h.1;unfold fe
 have hb:=W.loop (f:=dw k p) (Q:=fun o=>o=p) (fun q y=>∃j:Nat,y.2=(j:Int)∧j≤p.length∧q=p.length - j∧y.1=p.take j) (by
  rintro aS q ⟨o,y⟩ ⟨j,hj,hle,hq,ho⟩ ih;simp only at hj ho;subst hj ho;unfold dw;dsimp only;refine W.ite (fun hlt=>?_) (fun hge=>W.ret ?_)
  ·have hj:j < p.length:=by omega
   rw [bM hj,bs,mU (by have:=h.2 _ (List.getElem_mem hj);omega),bs,cr (MQ (by simp only [List.length_take,List.length_cons,List.length_nil];omega)),bs,bj (by omega) (by omega),bs];refine ih (q - 1) (_,(j:Int)+1) (by omega) ⟨j+1,by show(j:Int)+1=((j+1:Nat):Int);omega,by omega,by omega,?_⟩;rw [List.take_add_one,List.getElem?_eq_getElem hj];rfl
  ·rw [List.take_of_length_le (by omega)]) p.length k ([],0) h.1 ⟨0,rfl,by omega,by omega,by simp⟩
 obtain⟨o,eo,rfl⟩:=hb;rw [eo,bs]
theorem o4{l:List Int}(h:l.length < k)(hk1:k≤1000000):dQ k l l=some true:=by rw [zJ h (by omega)];simp
theorem ym(h:yZ k p)(hk1:k≤1000000):f7 k p p=some true:=by
 unfold f7;rw [if_neg (by simp)];have h1:=h.1
 have hb:=W.loop (f:=fi k p p) (Q:=fun o=>o= .ok ()) (fun q y=>∃j:Nat,y=(j:Int)∧j≤p.length∧q=p.length - j) (by
  rintro aS q y ⟨j,hj,hle,hq⟩ ih;subst hj;unfold fi;refine W.ite (fun hlt=>?_) (fun hge=>W.ret rfl);have hj:j < p.length:=by omega
  rw [bM hj,bs,bs,o4 (h.2 _ (List.getElem_mem hj)) hk1,bs,nT,bj (by omega) (by omega),bs];exact ih (q - 1) _ (by omega) ⟨j+1,by omega,by omega,by omega⟩) p.length k 0 h.1 ⟨0,rfl,by omega,by omega⟩
 obtain⟨o,eo,rfl⟩:=hb;rw [eo,oO]
theorem yl(h:fu k t):jr k t t=some true:=by
 have hk1:=h.k1;have h1:=h.things;unfold jr;rw [if_neg (by simp),if_neg (by simp),o4 h.trunks hk1,bs,bs,Bool.not_true,iF]
 have hb:=W.loop (f:=fh k t t) (Q:=fun o=>o= .ok ()) (fun q y=>∃j:Nat,y=(j:Int)∧j≤t.2.1.length∧q=t.2.1.length - j) (by
  rintro aS q y ⟨j,hj,hle,hq⟩ ih;subst hj;unfold fh;refine W.ite (fun hlt=>?_) (fun hge=>W.ret rfl);have hj:j < t.2.1.length:=by omega
  rw [bM hj,bs,bs,if_neg (not_not_intro rfl),bs,bs,o4 (h.worn _ (List.getElem_mem hj)) hk1,bs,bs,Bool.not_true,iF,bj (by omega) (by omega),bs];exact ih (q - 1) _ (by omega) ⟨j+1,by omega,by omega,by omega⟩) t.2.1.length k 0 h.things ⟨0,rfl,by omega,by omega⟩
 obtain⟨o,eo,rfl⟩:=hb;rw [eo,oO]
structure Ek(t:ba):Prop where
 things:t.2.1.length≤20
 trunks:t.2.2.length≤20
 worn:∀x∈t.2.1,x.2.length≤20
 few:¬(t.2.1.length=5∧t.2.2.length=3)
theorem Ek.small(h:Ek t)(hk:50≤k)(hk1:k≤1000000):fu k t:=⟨hk1,by have:=h.things;omega,fun x hx=>by have:=h.worn x hx;omega,by have:=h.trunks;omega⟩
theorem J0(hk:50≤k):W (ny k t) fun b=>b=false→Ek t:=by
 unfold ny;by_cases c1:(20:Int) < (t.2.1.length:Int)
 ·rw [if_pos c1,bs,iT];exact W.ret fun h=>by cases h
 ·rw [if_neg c1,bs];by_cases c2:(20:Int) < (t.2.2.length:Int)
  ·rw [decide_eq_true c2,iT];exact W.ret fun h=>by cases h
  ·rw [decide_eq_false c2,iF]
   have hb:=W.loop (f:=jS k t) (Q:=fun o=>o= .error true∨(o= .ok ()∧∀x∈t.2.1,x.2.length≤20)) (fun q y=>∃j:Nat,y=(j:Int)∧j≤t.2.1.length∧q=t.2.1.length - j∧∀i (h:i < t.2.1.length),i < j→(t.2.1[i]).2.length≤20) (by
    rintro aS q y ⟨j,hj,hle,hq,ha⟩ ih;subst hj;unfold jS;refine W.ite (fun hlt=>?_) (fun hge=>W.ret (.inr ⟨rfl,fun x hx=>?_⟩))
    ·have hj:j < t.2.1.length:=by omega
     rw [bM hj,bs];refine W.ite (fun hc=>W.ret (.inl rfl)) (fun hc=>?_);rw [bj (by omega) (by omega),bs];refine ih (q - 1) _ (by omega) ⟨j+1,by omega,by omega,by omega,fun i hi hij=>?_⟩;by_cases e:i=j
     ·subst e;omega
     ·exact ha i hi (by omega)
    ·obtain⟨i,hi,rfl⟩:=List.getElem_of_mem hx;exact ha i hi (by omega)) t.2.1.length k 0 (show t.2.1.length < k by omega) ⟨0,rfl,by omega,by omega,fun i _ h=>by omega⟩
   refine W.bEE hb (fun e he=>?_) (fun u hu=>?_)
   ·rcases he with he |he
    ·cases he;exact W.ret fun h=>by cases h
    ·cases he.1
   ·rcases hu with hu |hu
    ·cases hu
    ·by_cases c3:(t.2.1.length:Int)=5
     ·rw [if_pos c3,bs];exact W.ret fun h=>⟨by omega,by omega,hu.2,fun hh=>of_decide_eq_false h (by omega)⟩
     ·rw [if_neg c3,bs];exact W.ret fun h=>⟨by omega,by omega,hu.2,fun hh=>by omega⟩
theorem JX(hk:50≤k):W (nw k p) fun b=>b=false→p.length≤20∧∀l∈p,l.length≤20:=by
 unfold nw
 have hb:=W.loop (f:=jR k p) (Q:=fun o=>o= .error true∨(o= .ok ()∧(p.length≤20→∀x∈p,x.length≤20))) (fun q y=>∃j:Nat,y=(j:Int)∧j≤p.length∧j≤20∧q=20 - j∧∀i (h:i < p.length),i < j→(p[i]).length≤20) (by
  rintro aS q y ⟨j,hj,hle,h20,hq,ha⟩ ih;subst hj;unfold jR;by_cases c1:(j:Int) < (p.length:Int)
  ·rw [if_pos c1,bs];by_cases c2:(j:Int) < 20
   ·have hj:j < p.length:=by omega
    rw [decide_eq_true c2,iT,bM hj,bs];refine W.ite (fun hc=>W.ret (.inl rfl)) (fun hc=>?_);rw [bj (by omega) (by omega),bs];refine ih (q - 1) _ (by omega) ⟨j+1,by omega,by omega,by omega,by omega,fun i hi hij=>?_⟩;by_cases e:i=j
    ·subst e;omega
    ·exact ha i hi (by omega)
   ·rw [decide_eq_false c2,iF];refine W.ret (.inr ⟨rfl,fun h=>by omega⟩)
  ·rw [if_neg c1,bs,iF];refine W.ret (.inr ⟨rfl,fun _ x hx=>?_⟩);obtain⟨i,hi,rfl⟩:=List.getElem_of_mem hx;exact ha i hi (by omega)) 20 k 0 (by omega) ⟨0,rfl,by omega,by omega,by omega,fun i _ h=>by omega⟩
 refine W.bEE hb (fun e he=>?_) (fun u hu=>?_)
 ·rcases he with he |he
  ·cases he;exact W.ret fun h=>by cases h
  ·cases he.1
 ·rcases hu with hu |hu
  ·cases hu
  ·exact W.ret fun h=>⟨by have:=of_decide_eq_false h;omega,hu.2 (by have:=of_decide_eq_false h;omega)⟩
theorem Iy(hk:50≤k){x:eC}:W (((ny k t).bind fun r5=>if r5=true then(some true) else((nw k p).bind fun r6=>if r6=true then(some true) else(some (decide ((20:Int) < (x.2.length:Int)))))):Option Bool) fun b=>b=false→Ek t∧(p.length≤20∧∀l∈p,l.length≤20)∧x.2.length≤20:=by
 obtain⟨b,eb,hb⟩:=J0 (t:=t) hk;rw [eb,bs];cases b with
 |true=>rw [iT];exact W.ret fun h=>by cases h
 |false=>
  rw [iF];obtain⟨c,ec,hc⟩:=JX (p:=p) hk;rw [ec,bs];cases c with
  |true=>rw [iT];exact W.ret fun h=>by cases h
  |false=>rw [iF];exact W.ret fun h=>⟨hb rfl,hc rfl,by have:=of_decide_eq_false h;omega⟩
structure O8(k:Nat)(ts:List ba)(ps:List (List (List Int))):Prop where
 l1:ts.length=4
 l2:ps.length=4
 at_:∀j:Nat,j < 4→∃t p,aR ts (j:Int)=some t∧aR ps (j:Int)=some p∧kx k t p
theorem O8.of{a b c d:ba}{p q r s:List (List Int)}(h0:kx k a p)(h1:kx k b q)(h2:kx k c r)(h3:kx k d s):O8 k [a,b,c,d] [p,q,r,s]:=
 ⟨rfl,rfl,fun j hj=>by
  match j,hj with
  |0,_=>exact⟨_,_,rfl,rfl,h0⟩
  |1,_=>exact⟨_,_,rfl,rfl,h1⟩
  |2,_=>exact⟨_,_,rfl,rfl,h2⟩
  |3,_=>exact⟨_,_,rfl,rfl,h3⟩⟩
theorem Bj.small{a b:Int}(h:Bj t a b)(ha:a≤8)(hb:b≤8)(hk:50≤k)(hk1:k≤1000000):fu k t:=
 ⟨hk1,by have:=h.things;omega,fun x hx=>by have:=(h.item x hx).2.2.1;omega,by have:=h.trunks;omega⟩
theorem kx.of(hk:50≤k)(hs:fu k t)(hp:p.length≤20)(hl:∀l∈p,l.length≤20):kx k t p:=⟨hk,hs,by omega,fun l h=>by have:=hl l h;omega⟩
theorem BS(hk:50≤k)(hk1:k≤1000000){x:eC}(ht:fu k t)(hp:p.length≤20)(hl:∀l∈p,l.length≤20)(hx:x.2.length≤20){l:bT}{m:Int}(hlo:Lo l m)(hm:0≤m∧m≤10):
 W (lh k t x p l) fun r=>O8 k r.1 r.2.1∧Lo r.2.2 (m+200):=by
 unfold lh
 obtain⟨r3,e3,hT,hl3⟩:=J4 hk hlo (by omega) (a:=4) (b:=3) (by omega) (by omega)
 have hT3:=hT.things
 have hTt:=hT.trunks
 have hs3:=hT.small (k:=k) (by omega) (by omega) hk hk1
 rw [show kJ k (l.1,l.2.1,l.2.2) (4:Int) 3=some r3 from e3,bs,uh hs3,bs,mU (by omega),bs,cr (zX (n:=100) (by omega) (by omega)),bs]
 obtain⟨r12,e12,h1,h2,h3⟩:=vu hk hT (by omega) (by omega) hl3 (by omega)
 rw [show eZ k (r3.2.1,r3.2.2.1,r3.2.2.2) r3.1=some r12 from e12,bs]
 obtain⟨r13,e13,g1,g2,g3⟩:=vu hk hT (by omega) (by omega) h3 (by omega)
 rw [show eZ k (r12.2.1,r12.2.2.1,r12.2.2.2) r3.1=some r13 from e13,bs,bj (by omega) (by omega),bs]
 have hsO:∀T:List Int,T.length=r3.1.2.2.length→fu k (r3.1.1,r3.1.2.1++[(x.1,x.2)],T):=fun T hT'=>⟨hk1,by show(r3.1.2.1++[(x.1,x.2)]).length < k;rw [List.length_append];simp only [List.length_cons,List.length_nil];omega,fun y hy=>by
  rcases List.mem_append.1 hy with hy |hy
  ·exact hs3.worn y hy
  ·rw [List.mem_singleton] at hy;subst hy;show x.2.length < k;omega,by show T.length < k;omega⟩
 have s0:kx k t p:=.of hk ht hp hl
 have s1:kx k r3.1 r12.1:=.of hk hs3 (by omega) (fun l h=>by have:=h2 l h;omega)
 have s2:kx k r3.1 p:=.of hk hs3 hp hl
 by_cases c:(r3.1.2.2.length:Int) < 3
 ·
  have hi:((r3.1.2.2.length:Int) - 1).toNat=r3.1.2.2.length - 1:=by omega
  have hr:r3.1.2.2.length - 1 < r3.1.2.2.length:=by omega
  have hroom:=hT.rooms _ (List.getElem_mem hr);have hg:aR r3.1.2.2 ((r3.1.2.2.length:Int) - 1)=some r3.1.2.2[r3.1.2.2.length - 1]:=vO (by omega) (by rw [hi];exact List.getElem?_eq_getElem hr);have hr':r3.1.2.2.length - 1 < r13.1.length:=by omega
  have hg':aR r13.1 ((r3.1.2.2.length:Int) - 1)=some r13.1[r3.1.2.2.length - 1]:=vO (by omega) (by rw [hi];exact List.getElem?_eq_getElem hr');have hb:=g2 _ (List.getElem_mem hr');rw [if_pos c,hg,bs,bj (by omega) (by omega),bs,bs,show aR [p,r12.1,p,r13.1] (3:Int)=some r13.1 from rfl,bs,sB ⟨by omega,fun l h=>by have:=g2 l h;omega⟩ hk1,bs,bs,hg',bs,cr (zX (n:=100) (by omega) (by omega)),bs,bs,hi];refine W.ret ⟨O8.of s0 s1 s2 (.of hk (hsO _ (by rw [List.length_set])) (by rw [List.length_set];omega) (fun l hl=>?_)),g3.mono (by omega)⟩;rcases List.mem_or_eq_of_mem_set hl with h |h
  ·have:=g2 l h;omega
  ·rw [h,List.length_append];simp only [List.length_cons,List.length_nil];omega
 ·
  rw [if_neg c,bs];exact W.ret ⟨O8.of s0 s1 s2 (.of hk (hsO _ rfl) (by omega) (fun l h=>by have:=g2 l h;omega)),g3.mono (by omega)⟩
theorem UM{a:List Int}:Lo (a,0,1) 0:=⟨Int.le_refl 0,Int.le_refl 0⟩
theorem UO{α:Type}(a b c d:α){j:Nat}(h:j < 4):∃x,aR [a,b,c,d] (j:Int)=some x:=⟨_,bM (by exact h)⟩
end
def zC(q:List (List Int))(tr i:Nat):List (List Int):=q.set tr (q[tr]?.getD []++[(i:Int)])
def Nh(q x:List (List Int)):Prop:=x.length=q.length∧∀i:Nat,∃s,x[i]?.getD []=q[i]?.getD []++s
theorem Nh.refl{q:List (List Int)}:Nh q q:=⟨rfl,fun i=>⟨[],by simp⟩⟩
theorem Nh.trans{a b c:List (List Int)}(h:Nh a b)(h':Nh b c):Nh a c:=⟨h'.1.trans h.1,fun i=>by
 obtain⟨s,e⟩:=h.2 i
 obtain⟨s',e'⟩:=h'.2 i
 exact⟨s++s',by rw [e',e,List.append_assoc]⟩⟩
theorem J5{q:List (List Int)}{tr i:Nat}(h:tr < q.length){j:Nat}:(zC q tr i)[j]?.getD []=if j=tr then q[tr]?.getD []++[(i:Int)] else q[j]?.getD []:=by
 unfold zC;rw [List.getElem?_set];by_cases e:tr=j
 ·subst e;simp [h]
 ·rw [if_neg e,if_neg (fun h=>e h.symm)]
theorem Sj{q:List (List Int)}{tr i:Nat}(h:tr < q.length):Nh q (zC q tr i):=⟨by unfold zC;rw [List.length_set],fun j=>by
 rw [J5 h]
 by_cases e:j=tr
 ·
  subst e;exact⟨[(i:Int)],by rw [if_pos rfl]⟩
 ·
  exact⟨[],by rw [if_neg e];simp⟩⟩
section
variable {k:Nat}{σ:Type}
theorem GU{q:List (List Int)}{tr i:Nat}(h:tr < q.length):(zC q tr i).flatten.Perm (q.flatten++[(i:Int)]):=by
 unfold zC
 induction q generalizing tr with
 |nil=>simp at h
 |cons l q ih=>
  cases tr with
  |zero=>
   simp only [List.set_cons_zero,List.getElem?_cons_zero,Option.getD_some,List.flatten_cons,List.append_assoc];exact(List.Perm.refl l).append List.perm_append_comm
  |succ tr=>
   simp only [List.set_cons_succ,List.getElem?_cons_succ,List.flatten_cons,List.append_assoc];exact(List.Perm.refl l).append (ih (by simpa using h))
structure Mk(t:ba)(q:List (List Int)):Prop where
 len:q.length=t.2.2.length
 met:wz t.2.1.length q.flatten
theorem Uu{t:ba}{q:List (List Int)}(h:Mk t q){tr i:Nat}(ht:tr < q.length)(hi:i < t.2.1.length)(hn:(i:Int)∉q.flatten):Mk t (zC q tr i):=by
 have hp:=GU (i:=i) ht;refine⟨by unfold zC;rw [List.length_set,h.len],hp.nodup_iff.2 ?_,fun x hx=>?_⟩
 ·rw [List.nodup_append];exact⟨h.met.nd,by simp,fun a ha b hb=>by rw [List.mem_singleton] at hb;subst hb;exact fun e=>hn (e▸ha)⟩
 ·rcases List.mem_append.1 (hp.mem_iff.1 hx) with hx |hx
  ·exact h.met.rng x hx
  ·rw [List.mem_singleton] at hx;omega
end
theorem At.of{k:Nat}{t:ba}(h:t6 k t)(hs:fu k t)(ht:kw t=0){q:List (List Int)}(hq:g8 t q):At k t q:=⟨hs,h,hq.chk ht⟩
def dY(t:ba)(q:List (List Int)):Nat:=mE t t.1.toNat 0 q
def kA{α:Type}(f:α→Nat)(b:Option (α×Nat))(o:α):Option (α×Nat):=match b with
 |none=>some (o,f o)
 |some (x,n)=>if f o < n then some (o,f o) else some (x,n)
def ze{α:Type}(f:α→Nat)(l:List α):Option (α×Nat)→Prop
 |none=>l=[]
 |some (x,n)=>n=f x∧(∀y∈l,n≤f y)∧∃p s,l=p++x::s∧∀y∈p,n < f y
theorem A5{α:Type}{f:α→Nat}:∀(l pre:List α) (b:Option (α×Nat)),ze f pre b→ze f (pre++l) (l.foldl (kA f) b)
 |[],pre,b,h=>by simpa using h
 |o::l,pre,b,h=>by
  have h1:ze f (pre++[o]) (kA f b o):=by
   cases b with
   |none=>
    have h:pre=[]:=h;subst h;exact⟨rfl,fun y hy=>by simp only [List.nil_append,List.mem_singleton] at hy;subst hy;exact Nat.le_refl _,[],[],rfl,by simp⟩
   |some b=>
    obtain⟨x,n⟩:=b;obtain⟨h1,h2,p,s,h3,h4⟩:=h;unfold kA;dsimp only;by_cases c:f o < n
    ·rw [if_pos c];refine⟨rfl,fun y hy=>?_,pre,[],rfl,fun y hy=>Nat.lt_of_lt_of_le c (h2 y hy)⟩;rcases List.mem_append.1 hy with hy |hy
     ·exact Nat.le_of_lt (Nat.lt_of_lt_of_le c (h2 y hy))
     ·rw [List.mem_singleton] at hy;subst hy;exact Nat.le_refl _
    ·rw [if_neg c];refine⟨h1,fun y hy=>?_,p,s++[o],by rw [h3];simp,h4⟩;rcases List.mem_append.1 hy with hy |hy
     ·exact h2 y hy
     ·rw [List.mem_singleton] at hy;subst hy;omega
  have:=A5 l (pre++[o]) _ h1;rwa [List.append_assoc] at this
theorem LN{α:Type}{f:α→Nat}(l:List α):ze f l (l.foldl (kA f) none):=by
 have:=A5 (f:=f) l [] none rfl;simpa using this
section
variable {k:Nat}
theorem Ii{t:ba}(h:t6 k t)(hs:fu k t)(ht:kw t=0){q:List (List Int)}(hq:g8 t q):cy k t (sb q)=some (dY t q:Int):=by
 have hA:=At.of h hs ht hq;have h6:=hq.g.days;unfold cy;rw [cr (Ik hq.fit),bs,D5 hA hq (by omega),bs,Int.sub_zero];rfl
end
end Go.Proofs.YtmeojbemjkmebaaGreatDoor
set_option linter.unusedVariables false
namespace Go.Proofs.YtmeojbemjkmebaaGreatDoor
open K Go Go.Proofs
def sw(a b x:Int):Int:=if x=a then b else if x=b then a else x
def lu(a b:Int)(q:List (List Int)):List (List Int):=q.map (List.map (sw a b))
theorem PQ{a b x:Int}:sw a b (sw a b x)=x:=by
 unfold sw;by_cases h1:x=a
 ·rw [if_pos h1];by_cases h2:b=a
  ·rw [if_pos h2,h1,h2]
  ·rw [if_neg h2,if_pos rfl,h1]
 ·rw [if_neg h1];by_cases h2:x=b
  ·rw [if_pos h2,if_pos rfl,h2]
  ·rw [if_neg h2,if_neg h1,if_neg h2]
theorem yg{a b:Int}{q:List (List Int)}:lu a b (lu a b q)=q:=by
 unfold lu;rw [List.map_map];conv=>rhs;rw [←List.map_id q]
 refine List.map_congr_left fun l _=>?_;show List.map (sw a b) (List.map (sw a b) l)=l;rw [List.map_map];conv=>rhs;rw [←List.map_id l]
 exact List.map_congr_left fun x _=>PQ
theorem yh{a b:Int}{q:List (List Int)}:(lu a b q).length=q.length:=by unfold lu;rw [List.length_map]
theorem uT{a b:Int}{q:List (List Int)}{m:Nat}(h:∀l∈q,l.length≤m):∀l∈lu a b q,l.length≤m:=fun l hl=>by
 obtain⟨r,hr,rfl⟩:=List.mem_map.1 hl
 rw [List.length_map];exact h r hr
theorem KR{α:Type}{f:α→α}{l:List α}{j:Nat}(h:j < l.length):(((l.take j).map f)++l.drop j)[j]? =some l[j]:=by
 rw [List.getElem?_append_right (by simp;omega),List.length_map,List.length_take,Nat.min_eq_left (by omega),Nat.sub_self,List.drop_eq_getElem_cons h];rfl
theorem H7{α:Type}{f:α→α}{l m:List α}{j:Nat}(h:j < l.length)(e:m=((l.take j).map f)++l.drop j)(hm:j < m.length):m[j]=l[j]:=by
 have h1:m[j]? =some l[j]:=by rw [e];exact KR h
 rw [List.getElem?_eq_getElem hm] at h1;exact Option.some.inj h1
section
variable {k:Nat}
theorem GR{a b:Int}{l0:List Int}(hl:l0.length≤1000000):∀(d j n:Nat) (l:List Int),j+d=l0.length→d < n→l=(l0.take j).map (sw a b)++l0.drop j→eT (a,b) (l0.length:Int) n ((j:Int),l)=some (l0.map (sw a b)):=by
 intro d
 induction d with
 |zero=>
  intro j n l hj hn e;obtain⟨n,rfl⟩:∃n',n=n'+1:=⟨n - 1,by omega⟩;rw [eT];dsimp only;rw [if_neg (by omega),e,List.take_of_length_le (by omega),List.drop_of_length_le (by omega),List.append_nil]
 |succ d ih=>
  intro j n l hj hn e;obtain⟨n,rfl⟩:∃n',n=n'+1:=⟨n - 1,by omega⟩;have hj':j < l0.length:=by omega
  have hlen:l.length=l0.length:=by rw [e];simp;omega
  have hat:l[j]'(by omega)=l0[j]:=H7 hj' e _
  have hset:l.set j (sw a b l0[j])=(l0.take (j+1)).map (sw a b)++l0.drop (j+1):=by
   rw [e,List.set_append_right _ _ (by simp;omega),List.length_map,List.length_take,Nat.min_eq_left (by omega),Nat.sub_self,List.drop_eq_getElem_cons hj',List.set_cons_zero,List.take_add_one,List.getElem?_eq_getElem hj'];simp only [Option.toList_some,List.map_append,List.map_cons,List.map_nil,List.append_assoc,List.cons_append,List.nil_append]
  have hself:sw a b l0[j]=l0[j]→l=(l0.take (j+1)).map (sw a b)++l0.drop (j+1):=fun h=>by
   rw [←hset,h,←hat];exact(List.set_getElem_self _).symm
  rw [eT];dsimp only;rw [if_pos (Int.ofNat_lt.2 hj'),bM (show j < l.length by omega),bs,hat];by_cases c1:l0[j]=a
  ·rw [if_pos c1,bj (by omega) (by omega),bs,show(j:Int)+1=((j+1:Nat):Int) by omega];refine ih (j+1) n _ (by omega) (by omega) ?_;show l.set j b=_;rw [←hset];unfold sw;rw [if_pos c1]
  ·rw [if_neg c1];by_cases c2:l0[j]=b
   ·rw [if_pos c2,bj (by omega) (by omega),bs,show(j:Int)+1=((j+1:Nat):Int) by omega];refine ih (j+1) n _ (by omega) (by omega) ?_;show l.set j a=_;rw [←hset];unfold sw;rw [if_neg c1,if_pos c2]
   ·rw [if_neg c2,bj (by omega) (by omega),bs,show(j:Int)+1=((j+1:Nat):Int) by omega];exact ih (j+1) n _ (by omega) (by omega) (hself (by unfold sw;rw [if_neg c1,if_neg c2]))
theorem rz(hk1:k≤1000000){a b:Int}{q:List (List Int)}(hq:q.length < k)(hl:∀l∈q,l.length < k):kX k (a,b) q=some (lu a b q):=by
 unfold kX
 have key:∀(d j n:Nat) (y:List (List Int)),j+d=q.length→d < n→y=(q.take j).map (List.map (sw a b))++q.drop j→gQ k (a,b) (q.length:Int) n ((j:Int),y)=some (lu a b q):=by
  intro d
  induction d with
  |zero=>
   intro j n y hj hn e;obtain⟨n,rfl⟩:∃n',n=n'+1:=⟨n - 1,by omega⟩;rw [gQ];dsimp only;rw [if_neg (by omega),e,List.take_of_length_le (by omega),List.drop_of_length_le (by omega),List.append_nil];rfl
  |succ d ih=>
   intro j n y hj hn e;obtain⟨n,rfl⟩:∃n',n=n'+1:=⟨n - 1,by omega⟩;have hj':j < q.length:=by omega
   have hlen:y.length=q.length:=by rw [e];simp;omega
   have hat:y[j]'(by omega)=q[j]:=H7 hj' e _;have hlj:=hl _ (List.getElem_mem hj');rw [gQ];dsimp only;rw [if_pos (Int.ofNat_lt.2 hj'),bM (show j < y.length by omega),bs,hat,show eT (a,b) (q[j].length:Int) k (0,q[j])=_ from GR (a:=a) (b:=b) (by omega) q[j].length 0 k q[j] (by omega) hlj (by simp),bs,bj (by omega) (by omega),bs,show(j:Int)+1=((j+1:Nat):Int) by omega];refine ih (j+1) n _ (by omega) (by omega) ?_;show y.set j _=_;rw [e,List.set_append_right _ _ (by simp;omega),List.length_map,List.length_take,Nat.min_eq_left (by omega),Nat.sub_self,List.drop_eq_getElem_cons hj',List.set_cons_zero,List.take_add_one,List.getElem?_eq_getElem hj'];simp only [Option.toList_some,List.map_append,List.map_cons,List.map_nil,List.append_assoc,List.cons_append,List.nil_append]
 exact key q.length 0 k q (by omega) (by omega) (by simp)
theorem EG(hk:50≤k){t:ba}(g:nJ t)(hk1:k≤1000000){a b:Int}{q:List (List Int)}(hq:q.length < k)(hl:∀l∈q,l.length≤8):jo k t (a,b) q=some (decide (chkV t (lu a b q)=0),q):=by
 have hl':∀l∈q,l.length < k:=fun l h=>by have:=hl l h;omega
 have hs:∀l∈lu a b q,l.length < k:=fun l h=>by have:=uT hl l h;omega
 unfold jo;rw [rz hk1 hq hl',bs,wT g hk1 (by omega) hs,bs];by_cases c:chkV t (lu a b q)=0
 ·rw [c];rw [show Fv (SN 0)=true from rfl,iT,rz hk1 (by rw [yh];exact hq) hs,bs,yg];rfl
 ·rw [Ci c,show Fv (qI (chkV t (lu a b q)))=true from rfl,iT,rz hk1 (by rw [yh];exact hq) hs,bs,yg,decide_eq_false c];rfl
theorem Fo{t:ba}(h:t6 k t)(hs:fu k t)(ht:kw t=0){a b:Int}{q:List (List Int)}(hq:q.length < k)(hl:∀l∈q,l.length≤8)(hc:chkV t (lu a b q)=0):fY k t (a,b) q=some ((dY t (lu a b q):Int),q):=by
 have hk:=h.k0;have hl':∀l∈q,l.length < k:=fun l h=>by have:=hl l h;omega
 have hsw:∀l∈lu a b q,l.length < k:=fun l h=>by have:=uT hl l h;omega
 have gq:g8 t (lu a b q):=so (by unfold jh;rw [if_neg (not_not_intro ht)];exact hc);unfold fY;rw [rz h.k1 hq hl',bs,vG hk,bs,Ii h hs ht gq,bs,rz h.k1 (by rw [yh];exact hq) hsw,bs,yg]
def vr(n a:Nat):List (Int×Int):=(List.range' (a+1) (n - (a+1))).map fun(b:Nat)=>((a:Int),(b:Int))
def zi(t:ba)(q:List (List Int))(x:Int×Int):Bool:=decide (chkV t (lu x.1 x.2 q)=0)
def Gt(t:ba)(q:List (List Int))(s:Nat×Int×Int)(x:Int×Int):Nat×Int×Int:=if zi t q x=true∧dY t (lu x.1 x.2 q) < s.1 then(dY t (lu x.1 x.2 q),x.1,x.2) else s
theorem BK(hk:50≤k){t:ba}(g:nJ t)(hk1:k≤1000000){q:List (List Int)}(hq:q.length < k)(hl:∀l∈q,l.length≤8){a:Nat}:∀(d j n:Nat) (acc:List (Int×Int)),j+d=t.2.1.length→d < n→acc.length+d≤1000→
 gV k t (a:Int) n ((j:Int),acc,q)=some (acc++((List.range' j d).map fun(b:Nat)=>((a:Int),(b:Int))).filter (zi t q),q):=by
 have h5:=g.things
 intro d
 induction d with
 |zero=>
  intro j n acc hj hn _;obtain⟨n,rfl⟩:∃n',n=n'+1:=⟨n - 1,by omega⟩;rw [gV];dsimp only;rw [if_neg (by omega)];simp
 |succ d ih=>
  intro j n acc hj hn hB;obtain⟨n,rfl⟩:∃n',n=n'+1:=⟨n - 1,by omega⟩;rw [gV];dsimp only;rw [if_pos (by omega),EG hk g hk1 hq hl,bs,List.range'_succ,List.map_cons];by_cases c:chkV t (lu (a:Int) (j:Int) q)=0
  ·rw [decide_eq_true c,iT,if_pos (show bq _ by show _≤4294967296;omega),bj (by omega) (by omega),bs,show(j:Int)+1=((j+1:Nat):Int) by omega,ih (j+1) n _ (by omega) (by omega) (by simp only [List.length_append,List.length_cons,List.length_nil];omega),List.filter_cons_of_pos (by exact decide_eq_true c)];simp
  ·rw [decide_eq_false c,iF,bj (by omega) (by omega),bs,show(j:Int)+1=((j+1:Nat):Int) by omega,ih (j+1) n _ (by omega) (by omega) (by omega),List.filter_cons_of_neg (by unfold zi;simpa using c)]
theorem BJ(hk:50≤k){t:ba}(g:nJ t)(hk1:k≤1000000){q:List (List Int)}(hq:q.length < k)(hl:∀l∈q,l.length≤8):∀(d j n:Nat) (acc:List (Int×Int)),j+d=t.2.1.length→d < n→acc.length+10 * d≤900→
 eU k t n ((j:Int),acc,q)=some (acc++((List.range' j d).flatMap fun a=>vr t.2.1.length a).filter (zi t q),q):=by
 have h5:=g.things
 intro d
 induction d with
 |zero=>
  intro j n acc hj hn _;obtain⟨n,rfl⟩:∃n',n=n'+1:=⟨n - 1,by omega⟩;rw [eU];dsimp only;rw [if_neg (by omega)];simp
 |succ d ih=>
  intro j n acc hj hn hB;obtain⟨n,rfl⟩:∃n',n=n'+1:=⟨n - 1,by omega⟩;have e1:(j:Int)+1=((j+1:Nat):Int):=by omega
  rw [eU];dsimp only;rw [if_pos (by omega),bj (by omega) (by omega),bs,e1,BK hk g hk1 hq hl (t.2.1.length - (j+1)) (j+1) k acc (by omega) (by omega) (by omega),bs]
  have hlen:(((List.range' (j+1) (t.2.1.length - (j+1))).map fun(b:Nat)=>((j:Int),(b:Int))).filter (zi t q)).length≤5:=by
   refine Nat.le_trans (List.length_filter_le _ _) ?_;simp;omega
  rw [ih (j+1) n _ (by omega) (by omega) (by rw [List.length_append];omega),List.range'_succ,List.flatMap_cons,List.filter_append,List.append_assoc];rfl
theorem I5{l:List Int}(h:l.length≤1000000):iq k l=some l:=by
 unfold iq;rw [cr (show bq (List.length l) by show _≤4294967296;omega),bs]
theorem EP(hk1:k≤1000000){q:List (List Int)}(hq:q.length < k)(hl:∀l∈q,l.length≤8):gW k q k (0,[])=some q:=by
 have key:∀(d j n:Nat),j+d=q.length→d < n→gW k q n ((j:Int),q.take j)=some q:=by
  intro d
  induction d with
  |zero=>
   intro j n hj hn;obtain⟨n,rfl⟩:∃n',n=n'+1:=⟨n - 1,by omega⟩;rw [gW];dsimp only;rw [if_neg (by omega),List.take_of_length_le (by omega)]
  |succ d ih=>
   intro j n hj hn;obtain⟨n,rfl⟩:∃n',n=n'+1:=⟨n - 1,by omega⟩;have hj':j < q.length:=by omega
   have h8:=hl _ (List.getElem_mem hj');rw [gW];dsimp only;rw [if_pos (by omega),bM hj',bs,I5 (by omega),bs,if_pos (show bq _ by show _≤4294967296;rw [List.length_take];omega),bj (by omega) (by omega),bs,show(j:Int)+1=((j+1:Nat):Int) by omega];have:=ih (j+1) n (by omega) (by omega);rw [List.take_add_one,List.getElem?_eq_getElem hj'] at this;exact this
 have:=key q.length 0 k (by omega) hq;exact this
theorem KW{t:ba}(h:t6 k t)(hs:fu k t)(ht:kw t=0){q:List (List Int)}(hq:q.length < k)(hl:∀l∈q,l.length≤8){xs:List (Int×Int)}(hx:∀x∈xs,zi t q x=true)(hlen:xs.length < k):
 jI k t xs q=some (match xs.foldl (kA fun x=>dY t (lu x.1 x.2 q)) none with |none=>(((0:Int),(0:Int)),0,false,q) |some (x,n)=>(x,(n:Int),true,q)):=by
 have hk1:=h.k1
 unfold jI
 have key:∀(d j n:Nat) (b:Option ((Int×Int)×Nat)),j+d=xs.length→d < n→
  c9 k t xs n (match b with |none=>((j:Int),((0:Int),(0:Int)),(0:Int),false,q) |some (x,m)=>((j:Int),x,(m:Int),true,q))=
  some (match (xs.drop j).foldl (kA fun x=>dY t (lu x.1 x.2 q)) b with |none=>(((0:Int),(0:Int)),0,false,q) |some (x,n)=>(x,(n:Int),true,q)):=by
  intro d
  induction d with
  |zero=>
   intro j n b hj hn;obtain⟨n,rfl⟩:∃n',n=n'+1:=⟨n - 1,by omega⟩;rw [List.drop_of_length_le (by omega)];cases b with
   |none=>rw [c9];dsimp only;rw [if_neg (by omega)];rfl
   |some b=>obtain⟨x,m⟩:=b;rw [c9];dsimp only;rw [if_neg (by omega)];rfl
  |succ d ih=>
   intro j n b hj hn;obtain⟨n,rfl⟩:∃n',n=n'+1:=⟨n - 1,by omega⟩;have hj':j < xs.length:=by omega
   have hok:=of_decide_eq_true (hx _ (List.getElem_mem hj'));have hlt:=Fo h hs ht (a:=xs[j].1) (b:=xs[j].2) hq hl hok;have:=ih (j+1) n (kA (fun x=>dY t (lu x.1 x.2 q)) b xs[j]) (by omega) (by omega);rw [List.drop_eq_getElem_cons hj',List.foldl_cons,←this];cases b with
   |none=>
    rw [c9];dsimp only;rw [if_pos (by omega),bM hj',bs,show fY k t xs[j] q=_ from hlt,bs,bj (by omega) (by omega),bs];rfl
   |some b=>
    obtain⟨x,m⟩:=b;rw [c9];dsimp only;rw [if_pos (by omega),bM hj',bs,show fY k t xs[j] q=_ from hlt,bs,bj (by omega) (by omega),bs];unfold kA;dsimp only;by_cases c:dY t (lu xs[j].1 xs[j].2 q) < m
    ·rw [if_pos (show(!true || decide ((dY t (lu xs[j].1 xs[j].2 q):Int) < (m:Int)))=true by simp;omega),if_pos c];rfl
    ·rw [if_neg (show¬(!true || decide ((dY t (lu xs[j].1 xs[j].2 q):Int) < (m:Int)))=true by simp;omega),if_neg c];rfl
 have:=key xs.length 0 k none (by omega) hlen
 rw [List.drop_zero] at this
 exact this
theorem yi{t:ba}{q:List (List Int)}{s:Nat×Int×Int}{x:Int×Int}(h:zi t q x=true∧dY t (lu x.1 x.2 q) < s.1):Gt t q s x=(dY t (lu x.1 x.2 q),x.1,x.2):=if_pos h
theorem rJ{t:ba}{q:List (List Int)}{s:Nat×Int×Int}{x:Int×Int}(h:¬(zi t q x=true∧dY t (lu x.1 x.2 q) < s.1)):Gt t q s x=s:=if_neg h
theorem uU{t:ba}{q:List (List Int)}{B:Nat}{u v:Int}:∀(l:List (Int×Int)) (b:Option ((Int×Int)×Nat)),
 l.foldl (Gt t q) (match b with |none=>(B,u,v) |some (x,n)=>if n < B then(n,x.1,x.2) else(B,u,v))=
 match (l.filter (zi t q)).foldl (kA fun x=>dY t (lu x.1 x.2 q)) b with |none=>(B,u,v) |some (x,n)=>if n < B then(n,x.1,x.2) else(B,u,v)
 |[],b=>rfl
 |x::l,b=>by
  rw [List.foldl_cons]
  cases c:zi t q x with
  |false=>
   rw [List.filter_cons_of_neg (by simp [c]),←uU l b]
   congr 1
   exact rJ (fun h=>by rw [c] at h;cases h.1)
  |true=>
   rw [List.filter_cons_of_pos c,List.foldl_cons,←uU l (kA _ b x)]
   congr 1
   cases b with
   |none=>
    show Gt t q (B,u,v) x=if dY t (lu x.1 x.2 q) < B then(dY t (lu x.1 x.2 q),x.1,x.2) else(B,u,v)
    by_cases h:dY t (lu x.1 x.2 q) < B
    ·
     rw [yi ⟨c,h⟩,if_pos h]
    ·
     rw [rJ (fun h'=>h h'.2),if_neg h]
   |some b=>
    obtain⟨y,n⟩:=b
    by_cases h:dY t (lu x.1 x.2 q) < n
    ·
     by_cases h2:n < B
     ·
      simp only [kA,h,h2,if_true]
      rw [yi ⟨c,h⟩,if_pos (by omega)]
     ·
      simp only [kA,h,h2,if_true,if_false]
      by_cases h3:dY t (lu x.1 x.2 q) < B
      ·
       rw [yi ⟨c,h3⟩,if_pos h3]
      ·
       rw [rJ (fun h'=>h3 h'.2),if_neg h3]
    ·
     by_cases h2:n < B
     ·
      simp only [kA,h,h2,if_true,if_false]
      exact rJ (fun h'=>h h'.2)
     ·
      simp only [kA,h,h2,if_false]
      exact rJ (fun h'=>by have:=h'.2;simp only at this;omega)
theorem L2{t:ba}{p:List (List Int)}(h:At k t p):kY k t p=some (match (((List.range' 0 t.2.1.length).flatMap fun a=>vr t.2.1.length a).filter (zi t p)).foldl (kA fun x=>dY t (lu x.1 x.2 p)) none with |none=>(0,0,0,11) |some (x,n)=>if n < dY t p then(x.1,x.2,(n:Int),0) else(0,0,0,11)):=by
 have hk:=h.dayT.k0;have hk1:=h.dayT.k1;have g:=h.good.g;have h5:=g.things;have f:=h.good.fit;have h3:=f.len;have ht:=uK h.chk;have hl8:∀l∈p,l.length≤8:=fun l hl=>by have:=(f.fit l hl).1;omega
 have hL:jO k t p=some ((dY t p:Int),0):=Ju h
 have hpl:(((List.range' 0 t.2.1.length).flatMap fun a=>vr t.2.1.length a).filter (zi t p)).length < k:=by
  refine Nat.lt_of_le_of_lt (List.length_filter_le _ _) ?_;have:∀n,n≤5→((List.range' 0 n).flatMap fun a=>vr n a).length≤10:=by decide
  have:=this _ h5;omega
 unfold kY;rw [hL,bs,if_neg (not_not_intro rfl),EP hk1 (by omega) hl8,bs];have ho:=BJ hk g hk1 (q:=p) (by omega) hl8 t.2.1.length 0 k [] (by omega) (by omega) (by simp only [List.length_nil];omega);rw [List.nil_append] at ho;rw [show eU k t k (0,[],p)=_ from ho,bs,KW h.dayT h.small ht (by omega) hl8 (fun x hx=>(List.mem_filter.1 hx).2) hpl,bs];cases(((List.range' 0 t.2.1.length).flatMap fun a=>vr t.2.1.length a).filter (zi t p)).foldl (kA fun x=>dY t (lu x.1 x.2 p)) none with
 |none=>rfl
 |some b=>
  obtain⟨x,n⟩:=b;dsimp only;by_cases c2:n < dY t p
  ·rw [if_neg (show¬(!true || decide ((dY t p:Int)≤(n:Int)))=true by simp;omega),if_pos c2]
  ·rw [if_pos (show(!true || decide ((dY t p:Int)≤(n:Int)))=true by simp;omega),if_neg c2]
theorem EO{a b:Int}{q:List (List Int)}{y:(List (List Int))×Int}{i:Nat}(hy:y.2=(i:Int))(hi:i < q.length)(h8:(q[i]).length < k)(h9:(q[i]).length≤1000):dW k q a b y k ([],0)=some ((q[i]).map (sw a b)):=by
 have hg:aR q y.2=some q[i]:=by rw [hy];exact bM hi
 have hb:=W.loop (f:=dW k q a b y) (Q:=fun o=>o=(q[i]).map (sw a b)) (fun m z=>∃j:Nat,z.2=(j:Int)∧j≤(q[i]).length∧m=(q[i]).length - j∧z.1=((q[i]).take j).map (sw a b)) (by
  rintro aS m ⟨o,z⟩ ⟨j,hj,hle,hm,ho⟩ ih;simp only at hj ho;subst hj ho;unfold dW;dsimp only;rw [hg,bs];refine W.ite (fun hlt=>?_) (fun hge=>W.ret ?_)
  ·have hj:j < (q[i]).length:=by omega
   have hok:∀v:Int,bq ((((q[i]).take j).map (sw a b)).length+[v].length):=fun v=>zX (n:=1000) (x:=v) (by rw [List.length_map,List.length_take];omega) (by omega)
   have next:∀v,v=sw a b (q[i])[j]→W ((ck ((j:Int)+1)).bind fun x24=>dW k q a b y aS (((q[i]).take j).map (sw a b)++[v],x24)) fun o=>o=(q[i]).map (sw a b):=fun v hv=>by
    rw [bj (by omega) (by omega),bs];refine ih (m - 1) (_,(j:Int)+1) (by omega) ⟨j+1,by show(j:Int)+1=((j+1:Nat):Int);omega,by omega,by omega,?_⟩;rw [List.take_add_one,List.getElem?_eq_getElem hj,List.map_append,hv];rfl
   rw [bs,bM hj,bs];by_cases c1:(q[i])[j]=a
   ·rw [if_pos c1,cr (hok b),bs,bs];exact next b (by unfold sw;rw [if_pos c1])
   ·rw [if_neg c1];by_cases c2:(q[i])[j]=b
    ·rw [if_pos c2,cr (hok a),bs,bs];exact next a (by unfold sw;rw [if_neg c1,if_pos c2])
    ·rw [if_neg c2,bs,bM hj,bs,cr (hok _),bs,bs];exact next _ (by unfold sw;rw [if_neg c1,if_neg c2])
  ·rw [List.take_of_length_le (by omega)]) (q[i]).length k ([],0) h8 ⟨0,rfl,by omega,by omega,rfl⟩
 obtain⟨o,eo,rfl⟩:=hb;exact eo
theorem zH(hk1:k≤1000000){a b:Int}{q:List (List Int)}(hq:q.length < k)(hl:∀l∈q,l.length≤8)(hk:50≤k):k7 k q a b=some (lu a b q):=by
 unfold k7
 have hb:=W.loop (f:=gw k q a b) (Q:=fun o=>o=lu a b q) (fun m z=>∃j:Nat,z.2=(j:Int)∧j≤q.length∧m=q.length - j∧z.1=(q.take j).map (List.map (sw a b))) (by
  rintro aS m ⟨o,z⟩ ⟨j,hj,hle,hm,ho⟩ ih;simp only at hj ho;subst hj ho;unfold gw;dsimp only;refine W.ite (fun hlt=>?_) (fun hge=>W.ret ?_)
  ·have hj:j < q.length:=by omega
   have h8:=hl _ (List.getElem_mem hj);rw [EO (y:=((q.take j).map (List.map (sw a b)),(j:Int))) rfl hj (by omega) (by omega),bs,cr (zX (n:=1000000) (by rw [List.length_map,List.length_take];omega) (by omega)),bs,bs,bj (by omega) (by omega),bs];refine ih (m - 1) (_,(j:Int)+1) (by omega) ⟨j+1,by show(j:Int)+1=((j+1:Nat):Int);omega,by omega,by omega,?_⟩;rw [List.take_add_one,List.getElem?_eq_getElem hj,List.map_append];rfl
  ·rw [List.take_of_length_le (by omega)];rfl) q.length k ([],0) hq ⟨0,rfl,by omega,by omega,rfl⟩
 obtain⟨o,eo,rfl⟩:=hb;rw [eo,bs]
theorem BY{t:ba}{p:List (List Int)}(h:At k t p){a:Nat}{y:Int×Int×Int×Int}(hy:y.2.2.2=(a:Int)):∀(d j n:Nat) (s:Nat×Int×Int),j+d=t.2.1.length→d < n→
 gX k t p y n (s.2.1,s.2.2,(s.1:Int),(j:Int))=some ((fun z:Nat×Int×Int=>(z.2.1,z.2.2,(z.1:Int))) (((List.range' j d).map fun(b:Nat)=>((a:Int),(b:Int))).foldl (Gt t p) s)):=by
 have hk:=h.dayT.k0
 have hk1:=h.dayT.k1
 have f:=h.good.fit
 have h3:=f.len
 have hl8:∀l∈p,l.length≤8:=fun l hl=>by have:=(f.fit l hl).1;omega
 have ht:=uK h.chk
 have h6:=h.good.g.days
 intro d
 induction d with
 |zero=>
  intro j n s hj hn;obtain⟨n,rfl⟩:∃n',n=n'+1:=⟨n - 1,by omega⟩;rw [gX];dsimp only;rw [if_neg (by omega)];rfl
 |succ d ih=>
  intro j n s hj hn;obtain⟨n,rfl⟩:∃n',n=n'+1:=⟨n - 1,by omega⟩;have h5:=h.good.g.things;have hchk:dr k t (lu (a:Int) (j:Int) p)=some (jh t (lu (a:Int) (j:Int) p)):=vY h.small hk (fun l hl=>by have:=uT hl8 l hl;omega);have hcv:jh t (lu (a:Int) (j:Int) p)=chkV t (lu (a:Int) (j:Int) p):=by unfold jh;rw [if_neg (not_not_intro ht)]
  have e1:(j:Int)+1=((j+1:Nat):Int):=by omega
  rw [gX];dsimp only;rw [if_pos (by omega),hy,zH hk1 (by omega) hl8 hk,bs,hchk,bs,List.range'_succ,List.map_cons,List.foldl_cons]
  have next:∀s':Nat×Int×Int,s'=Gt t p s ((a:Int),(j:Int))→(ck ((j:Int)+1)).bind (fun x18=>gX k t p y n (s'.2.1,s'.2.2,(s'.1:Int),x18))=some ((fun z:Nat×Int×Int=>(z.2.1,z.2.2,(z.1:Int))) (((List.range' (j+1) d).map fun(b:Nat)=>((a:Int),(b:Int))).foldl (Gt t p) (Gt t p s ((a:Int),(j:Int))))):=fun s' hs'=>by
   rw [bj (by omega) (by omega),bs,e1,←hs'];exact ih (j+1) n s' (by omega) (by omega)
  by_cases c:jh t (lu (a:Int) (j:Int) p)=0
  ·have hok:zi t p ((a:Int),(j:Int))=true:=decide_eq_true (by rw [←hcv];exact c);rw [if_neg (not_not_intro c),xt h.dayT (so c) (by omega),bs,Int.sub_zero];have hln:mE t t.1.toNat 0 (lu (a:Int) (j:Int) p)=dY t (lu (a:Int) (j:Int) p):=rfl;rw [hln];by_cases c2:dY t (lu (a:Int) (j:Int) p) < s.1
   ·rw [if_pos (Int.ofNat_lt.2 c2),bs];exact next (dY t (lu (a:Int) (j:Int) p),(a:Int),(j:Int)) (by unfold Gt;rw [if_pos ⟨hok,c2⟩])
   ·rw [if_neg (fun h=>c2 (Int.ofNat_lt.1 h)),bs];exact next s (by unfold Gt;rw [if_neg (fun h=>c2 h.2)])
  ·rw [if_pos c,bs];exact next s (by unfold Gt zi;rw [if_neg (fun h=>c (by rw [hcv];exact of_decide_eq_true h.1))])
theorem BX{t:ba}{p:List (List Int)}(h:At k t p):∀(d j n:Nat) (s:Nat×Int×Int),j+d=t.2.1.length→d < n→
 gY k t p n (s.2.1,s.2.2,(s.1:Int),(j:Int))=some ((fun z:Nat×Int×Int=>(z.2.1,z.2.2,(z.1:Int))) (((List.range' j d).flatMap fun a=>vr t.2.1.length a).foldl (Gt t p) s)):=by
 have hk:=h.dayT.k0
 have h5:=h.good.g.things
 intro d
 induction d with
 |zero=>
  intro j n s hj hn;obtain⟨n,rfl⟩:∃n',n=n'+1:=⟨n - 1,by omega⟩;rw [gY];dsimp only;rw [if_neg (by omega)];rfl
 |succ d ih=>
  intro j n s hj hn;obtain⟨n,rfl⟩:∃n',n=n'+1:=⟨n - 1,by omega⟩;have e1:(j:Int)+1=((j+1:Nat):Int):=by omega
  rw [gY];dsimp only;rw [if_pos (by omega),bj (by omega) (by omega),bs,e1,BY h (a:=j) (y:=(s.2.1,s.2.2,(s.1:Int),(j:Int))) rfl (t.2.1.length - (j+1)) (j+1) k s (by omega) (by omega),bs,bs,List.range'_succ,List.flatMap_cons,List.foldl_append];exact ih (j+1) n _ (by omega) (by omega)
theorem F4{t:ba}{p:List (List Int)}(h:kx k t p):∃r,kY k t p=some r∧nn k t p=some r:=by
 have hk:=h.k0;by_cases c:jh t p=0
 ·have a:=h.at c;have h6:=a.good.g.days;have h5:=a.good.g.things;refine⟨_,L2 a,?_⟩;have ho:=BX a t.2.1.length 0 k (dY t p, -1, -1) (by omega) (by omega);have hbest:=uU (t:=t) (q:=p) (B:=dY t p) (u:= -1) (v:= -1) ((List.range' 0 t.2.1.length).flatMap fun a=>vr t.2.1.length a) none;dsimp only at hbest;unfold nn;rw [h.ref,bs,if_neg (not_not_intro c),xt a.dayT a.good (by omega),bs,Int.sub_zero];rw [show gY k t p k (-1, -1,((mE t t.1.toNat 0 p:Nat):Int),0)=_ from ho,bs,hbest]
  have hmem:∀x n,(((List.range' 0 t.2.1.length).flatMap fun a=>vr t.2.1.length a).filter (zi t p)).foldl (kA fun x=>dY t (lu x.1 x.2 p)) none=some (x,n)→0≤x.1:=fun x n e=>by
   have hb:=LN (f:=fun x:Int×Int=>dY t (lu x.1 x.2 p)) (((List.range' 0 t.2.1.length).flatMap fun a=>vr t.2.1.length a).filter (zi t p));rw [e] at hb;obtain⟨_,_,q,s,h4,_⟩:=hb;have hx:x∈((List.range' 0 t.2.1.length).flatMap fun a=>vr t.2.1.length a):=(List.mem_filter.1 (show x∈_ by rw [h4];simp)).1;obtain⟨a,_,hx⟩:=List.mem_flatMap.1 hx;obtain⟨b,hb,rfl⟩:=List.mem_map.1 hx;simp only;omega
  cases e:(((List.range' 0 t.2.1.length).flatMap fun a=>vr t.2.1.length a).filter (zi t p)).foldl (kA fun x=>dY t (lu x.1 x.2 p)) none with
  |none=>rfl
  |some b=>
   obtain⟨x,n⟩:=b;have hx0:=hmem x n e;dsimp only;by_cases c2:n < dY t p
   ·simp only [c2,if_true];rw [if_neg (by omega)]
   ·simp only [c2,if_false];rfl
 ·refine⟨(0,0,0,jh t p),?_,?_⟩
  ·unfold kY jO;rw [h.trk,bs,if_pos c,bs,if_pos c]
  ·unfold nn;rw [h.ref,bs,if_pos c]
end
end Go.Proofs.YtmeojbemjkmebaaGreatDoor
