import Derived.Test.YtghkncjelangeaaGreatDoorQBB11
set_option linter.unusedVariables false
set_option linter.unusedSimpArgs false
namespace Go.Proofs.YtghkncjelangeaaGreatDoor
open K Go Go.Proofs
section
variable {k:Nat}
theorem Gx{t:bB}(h:wj k t){x:Int}(hx:0≤x∧x < (t.2.1.length:Int)){d:Int}:o4 k t x d=some (lG t d x):=by
 obtain⟨n,rfl⟩:∃n:Nat,x=(n:Int):=⟨x.toNat,by omega⟩;have hn:n < t.2.1.length:=by omega
 unfold o4;rw [bT hn,bs,yE (h.worn _ (List.getElem_mem hn)) h.k1,bs];congr 1;unfold lG;rw [Int.toNat_natCast,List.getElem?_eq_getElem hn]
theorem FV{t:bB}(h:wj k t){d:Int}{l:List Int}(hl9:l.length≤1000)(hx:∀x∈l,0≤x∧x < (t.2.1.length:Int)):∀(m pre:List Int) (n:Nat) (lf rs tp:List Int),l=pre++m→m.length < n→lf.length+rs.length+tp.length+2 * m.length≤10000→
 jN k t l d n (lf,rs,tp,(pre.length:Int))=some (lf++cV (lG t d) (decide (0 < tp.length)) m,rs++m.filter (fun x=> !lG t d x),tp++m.filter (lG t d)):=by
 intro m
 induction m with
 |nil=>
  intro pre n lf rs tp e hn _;obtain⟨n,rfl⟩:∃n',n=n'+1:=⟨n - 1,by omega⟩;rw [jN];dsimp only;rw [if_neg (by rw [e];simp)];simp [cV]
 |cons x m ih=>
  intro pre n lf rs tp e hn hb;simp only [List.length_cons] at hn hb;obtain⟨n,rfl⟩:∃n',n=n'+1:=⟨n - 1,by omega⟩;have hp:pre.length < l.length:=by rw [e];simp
  have hg:aP l (pre.length:Int)=some x:=by rw [bT hp];simp [e]
  have hxl:=hx x (by rw [e];simp);have ep:(pre.length:Int)+1=((pre++[x]).length:Int):=by simp
  rw [jN];dsimp only;rw [if_pos (by omega),hg,bs,Gx h hxl,bs];cases c:lG t d x with
  |true=>
   rw [iT,bs,cM (Bq (n:=10000) (by omega) (by omega)),bs,bs];dsimp only;rw [bq (by omega) (by omega),bs,ep,ih (pre++[x]) n lf rs (tp++[x]) (by simp [e]) (by omega) (by simp only [List.length_append,List.length_cons,List.length_nil];omega)];simp [cV,c]
  |false=>
   rw [iF,bs,cM (Bq (n:=10000) (by omega) (by omega)),bs];by_cases c2:0 < tp.length
   ·rw [if_pos (by omega),bs,cM (Bq (n:=10000) (by omega) (by omega)),bs,bs];dsimp only;rw [bq (by omega) (by omega),bs,ep,ih (pre++[x]) n (lf++[x]) (rs++[x]) tp (by simp [e]) (by omega) (by simp only [List.length_append,List.length_cons,List.length_nil];omega)];simp [cV,c,c2]
   ·rw [if_neg (by omega),bs];dsimp only;rw [bq (by omega) (by omega),bs,ep,ih (pre++[x]) n lf (rs++[x]) tp (by simp [e]) (by omega) (by simp only [List.length_append,List.length_cons,List.length_nil];omega)];simp [cV,c,c2]
theorem Ls{t:bB}(h:wj k t){d:Int}{l:List Int}(hl:l.length < k)(hl9:l.length≤1000)(hx:∀x∈l,0≤x∧x < (t.2.1.length:Int)):rP k t l d=some (cV (lG t d) false l,yp (lG t d) l):=by
 unfold rP;have e:=FV h (d:=d) hl9 hx l [] k [] [] [] rfl hl (by simp only [List.length_nil];omega);rw [show((0:Int))=(([]:List Int).length:Int) from rfl,e,bs];have h1:=List.length_filter_le (fun x=> !lG t d x) l;have h2:=List.length_filter_le (lG t d) l;dsimp only;rw [cM (Kq (by simp only [List.nil_append];omega)),bs];rfl
theorem F4{o:List Int}{L L':Nat→Bool}(h:∀i,i < o.length→L i=true→L' i=false):gW (gW o L) L'=gW o (fun i=>L i || L' i):=by
 refine List.ext_getElem (by simp [gW]) fun j h1 h2=>?_;simp only [gW,List.length_mapIdx] at h1;simp only [gW,List.getElem_mapIdx];have:=h j h1;by_cases c:L j=true
 ·simp [c,this c]
 ·simp [c]
theorem Ei{o:List Int}{L:Nat→Bool}{m:Int}(h:∀v∈o,0≤v∧v≤m):∀v∈gW o L,0≤v∧v≤m+1:=fun v hv=>by
 unfold gW at hv
 obtain⟨i,hi,rfl⟩:=List.mem_mapIdx.1 hv
 have:=h _ (List.getElem_mem hi)
 split <;> omega
theorem G6{r:(List Int)×(List Int)}(hn:r.1.Nodup){o:List Int}(hr:∀x∈r.1,0≤x∧x < (o.length:Int))(h8:r.1.length < k)(h9:r.1.length≤1000)(hv:∀v∈o,0≤v∧v≤1000):
 iS k r k (o,0)=some (gW o (fun i=>decide ((i:Int)∈r.1))):=by
 have hall:∀x∈r.1,∃i:Nat,x=(i:Int)∧i < o.length:=fun x hx=>⟨x.toNat,by have:=hr x hx;omega,by have:=hr x hx;omega⟩
 have hb:=W.loop (f:=iS k r) (Q:=fun z=>z=gW o (fun i=>decide ((i:Int)∈r.1))) (fun qq z=>∃j:Nat,z.2=(j:Int)∧j≤r.1.length∧qq=r.1.length - j∧z.1=gW o (fun i=>decide ((i:Int)∈r.1.take j))) (by
  rintro aS qq ⟨c,z⟩ ⟨j,hj,hle,hq,hc⟩ ih;simp only at hj hc;subst hj hc;unfold iS;dsimp only;refine W.ite (fun hlt=>?_) (fun hge=>W.ret ?_)
  ·have hj:j < r.1.length:=by omega
   obtain⟨i,ei,hi⟩:=hall _ (List.getElem_mem hj);have hvi:=hv _ (List.getElem_mem hi)
   have hno:¬(i:Int)∈r.1.take j:=fun hm=>by
    obtain⟨a,ha,e⟩:=List.getElem_of_mem hm;rw [List.getElem_take] at e;rw [List.length_take] at ha;have:=(List.getElem_inj hn).1 (e.trans ei.symm);omega
   rw [bT hj,bs,bs,ei,Jc hi (by exact decide_eq_false hno),bs,bq (by omega) (by omega),bs,bs,bq (by omega) (by omega),bs];refine ih (qq - 1) (_,(j:Int)+1) (by omega) ⟨j+1,by show(j:Int)+1=((j+1:Nat):Int);omega,by omega,by omega,?_⟩;show List.set (gW _ _) i _=_;rw [Jb hi];refine vY fun a _=>?_;rw [List.take_add_one,List.getElem?_eq_getElem hj,ei];simp only [Option.toList_some,List.mem_append,List.mem_cons,List.not_mem_nil,or_false];by_cases ea:a=i
   ·subst ea;simp
   ·have:¬(a:Int)=(i:Int):=by omega
    simp [ea,this]
  ·have:j=r.1.length:=by omega
   subst this;rw [List.take_of_length_le (Nat.le_refl _)]) r.1.length k (o,0) h8 ⟨0,rfl,by omega,by omega,by simp [xK]⟩
 obtain⟨o',eo,h⟩:=hb
 rw [eo,h]
def aftD(t:bB)(d:Int)(p:List (List Int)):Nat→List (List Int)
 |0=>p
 |n+1=>pB t (d+n) (aftD t d p n)
def qu(t:bB)(d:Int)(p:List (List Int)):Nat→List Int
 |0=>List.replicate t.2.1.length 0
 |n+1=>gW (qu t d p n) (If t (aftD t d p n) (d+n))
theorem gV.aftD{t:bB}{p:List (List Int)}(h:gV t p){d:Int}:∀n,gV t (aftD t d p n)
 |0=>h
 |n+1=>(h.aftD n).next
theorem uC{t:bB}{d:Int}{p:List (List Int)}:∀n,(qu t d p n).length=t.2.1.length∧∀v∈qu t d p n,0≤v∧v≤(n:Int)
 |0=>⟨by simp [qu],fun v hv=>by simp only [qu,List.mem_replicate] at hv;omega⟩
 |n+1=>by
  obtain⟨h1,h2⟩:=uC (t:=t) (d:=d) (p:=p) n
  refine⟨by rw [qu,vX,h1],fun v hv=>?_⟩
  have:=Ei h2 v hv
  omega
theorem I9{t:bB}{p:List (List Int)}:∀n,aftD t 0 p n=rj t p n
 |0=>rfl
 |n+1=>by rw [aftD,rj,I9 n,Int.zero_add]
theorem FU{t:bB}(h:wj k t){q:List (List Int)}(hg:gV t q){y:(List Int)×(List (List Int))×Int}(hy:y.2.1=q){o:List Int}(ho:o.length=t.2.1.length)(hv:∀v∈o,0≤v∧v≤900):
 iU k t y k (o,[],0)=some (gW o (If t q y.2.2),pB t y.2.2 q):=by
 have hf:=hg.fit
 have hk:=h.k0
 have hk1:=h.k1
 have hlen:=hf.len
 subst hy
 have hb:=W.loop (f:=iU k t y) (Q:=fun z=>z=(gW o (If t y.2.1 y.2.2),pB t y.2.2 y.2.1)) (fun qq z=>∃j:Nat,z.2.2=(j:Int)∧j≤y.2.1.length∧qq=y.2.1.length - j∧z.1=gW o (fun i=>decide (∃l∈y.2.1.take j,(i:Int)∈cV (lG t y.2.2) false l))∧z.2.1=(y.2.1.take j).map (yp (lG t y.2.2))) (by
  rintro aS qq ⟨c,u,z⟩ ⟨j,hj,hle,hq,hc,hu⟩ ih;simp only at hj hc hu;subst hj hc hu;unfold iU;dsimp only;refine W.ite (fun hlt=>?_) (fun hge=>W.ret ?_)
  ·have hj:j < y.2.1.length:=by omega
   have hmem:y.2.1[j]∈y.2.1:=List.getElem_mem hj;have hr5:=(hf.fit _ hmem).1;have hnd:(y.2.1[j]).Nodup:=(List.pairwise_flatten.1 hg.nd).1 _ hmem;have hrg:∀x∈y.2.1[j],0≤x∧x < (t.2.1.length:Int):=fun x hx=>hg.rng x (List.mem_flatten.2 ⟨_,hmem,hx⟩);have hll:(cV (lG t y.2.2) false y.2.1[j]).length≤8:=o6 8 _ (i7 hnd) (fun x hx=>by have:=hrg x (jf hx);have:=h.things;omega)
   rw [bT hj,bs,Ls h (by omega) (by omega) hrg,bs,
    G6 (k:=k) (r:=(cV (lG t y.2.2) false y.2.1[j],yp (lG t y.2.2) y.2.1[j])) (i7 hnd) (fun x hx=>by have:=hrg x (jf hx);rw [vX];omega) (by show(cV _ _ _).length < k;omega) (by show(cV _ _ _).length≤1000;omega) (fun v hv'=>by have:=Ei hv v hv';omega),bs,
    cM (Bq (n:=100) (by rw [List.length_map,List.length_take];omega) (by omega)),bs,bs]
   dsimp only;rw [bq (by omega) (by omega),bs];refine ih (qq - 1) (_,_,(j:Int)+1) (by omega) ⟨j+1,by show(j:Int)+1=((j+1:Nat):Int);omega,by omega,by omega,?_,?_⟩
   ·show gW (gW _ _) _=_;rw [F4]
    ·refine vY fun i _=>?_;rw [List.take_add_one,List.getElem?_eq_getElem hj,←Bool.decide_or];refine decide_eq_decide.2 ?_;simp only [Option.toList_some,List.mem_append,List.mem_cons,List.not_mem_nil,or_false];constructor
     ·rintro(⟨l,hl,h⟩ |h)
      ·exact⟨l,.inl hl,h⟩
      ·exact⟨_,.inr rfl,h⟩
     ·rintro⟨l,hl |rfl,h⟩
      ·exact .inl ⟨l,hl,h⟩
      ·exact .inr h
    ·intro i _ hi;refine decide_eq_false fun hi'=>?_;obtain⟨l,hl,hil⟩:=of_decide_eq_true hi;obtain⟨a,ha,rfl⟩:=List.getElem_of_mem hl;rw [List.length_take] at ha;rw [List.getElem_take] at hil;have:=E2 hg.nd (i:=a) (i':=j) (by omega) hj (jf hil) (jf hi');omega
   ·show(List.map _ _++[_])=_;rw [List.take_add_one,List.getElem?_eq_getElem hj,List.map_append];rfl
  ·have:j=y.2.1.length:=by omega
   subst this;rw [List.take_of_length_le (Nat.le_refl _)];rfl) y.2.1.length k (o,[],0) (by omega) ⟨0,rfl,by omega,by omega,by simp [xK],rfl⟩
 obtain⟨o',eo,h⟩:=hb
 rw [eo,h]
theorem Bj{t:bB}(h:wj k t){p:List (List Int)}(hg:gV t p){d a:Int}{n:Nat}(hd:0≤d∧d≤100)(hn:n≤40)(ha:a=d+n):nv k t p d a=some (qu t d p n,aftD t d p n):=by
 have hk:=h.k0;have hk1:=h.k1;have h5:=h.things;unfold nv;rw [cM (by exact⟨by omega,show Int.toNat (t.2.1.length:Int)≤4294967296 by omega⟩),bs]
 have hb:=W.loop (f:=jU k t a) (Q:=fun z=>z=(qu t d p n,aftD t d p n)) (fun qq z=>∃j:Nat,z.2.2=d+(j:Int)∧j≤n∧qq=n - j∧z.1=qu t d p j∧z.2.1=aftD t d p j) (by
  rintro aS qq ⟨c,u,z⟩ ⟨j,hj,hle,hq,hc,hu⟩ ih;simp only at hj hc hu;subst hj hc hu;unfold jU;dsimp only;refine W.ite (fun hlt=>?_) (fun hge=>W.ret ?_)
  ·obtain⟨o1,o2⟩:=uC (t:=t) (d:=d) (p:=p) j;rw [FU h (hg.aftD j) (y:=(qu t d p j,aftD t d p j,d+(j:Int))) rfl o1 (fun v hv=>by have:=o2 v hv;omega),bs,bs];dsimp only;rw [bq (by omega) (by omega),bs];exact ih (qq - 1) (_,_,d+(j:Int)+1) (by omega) ⟨j+1,by show d+(j:Int)+1=d+((j+1:Nat):Int);omega,by omega,by omega,rfl,rfl⟩
  ·have:j=n:=by omega
   rw [this]) n k (List.replicate (Int.toNat (t.2.1.length:Int)) 0,p,d) (by omega) ⟨0,by show d=d+0;omega,by omega,by omega,by show List.replicate _ _=List.replicate _ _;rw [Int.toNat_natCast],rfl⟩
 obtain⟨o',eo,h⟩:=hb;rw [eo,bs,h]
theorem A5:∀{o:List Int} {L:Nat→Bool},(gW o L).sum=o.sum+((((List.range o.length).filter L).length:Nat):Int)
 |[],L=>by simp [gW]
 |v::o,L=>by
  have ih:=A5 (o:=o) (L:=fun i=>L (i+1))
  have e:gW (v::o) L=(if L 0 then v+1 else v)::gW o (fun i=>L (i+1)):=by simp [gW,List.mapIdx_cons]
  have e2:((List.range (v::o).length).filter L).length=(if L 0 then 1 else 0)+((List.range o.length).filter (fun i=>L (i+1))).length:=by
   rw [List.length_cons,List.range_succ_eq_map,List.filter_cons,List.filter_map];split
   ·rw [List.length_cons,List.length_map];show(List.filter (L ∘ Nat.succ) _).length+1=_;rw [Nat.add_comm];rfl
   ·rw [List.length_map];show(List.filter (L ∘ Nat.succ) _).length=_;rw [Nat.zero_add];rfl
  rw [e,e2,List.sum_cons,List.sum_cons,ih];split <;> omega
theorem vW{t:bB}{d:Int}{p:List (List Int)}:∀n,aftD t (d+1) (pB t d p) n=aftD t d p (n+1)
 |0=>by rw [aftD,aftD,aftD,Int.natCast_zero,Int.add_zero]
 |n+1=>by
  rw [aftD,vW n]
  show pB t _ _=pB t _ _
  congr 1
  omega
theorem BL{t:bB}{e:Int}{q:List (List Int)}:kF t 0 e q=0:=by
 unfold kF
 induction q with
 |nil=>rfl
 |cons l q ih=>rw [List.map_cons,List.sum_cons,ih];rfl
theorem wP{t:bB}:∀(n:Nat) (d:Int) (p:List (List Int)),kF t (n+1) d p=kF t n d p+((aftD t d p n).map fun l=>(cV (lG t (d+n)) false l).length).sum
 |0,d,p=>by
  rw [s8]
  rw [BL,BL,aftD,Int.natCast_zero,Int.add_zero,Nat.add_zero,Nat.zero_add]
 |n+1,d,p=>by
  rw [s8,wP n (d+1) (pB t d p),vW,s8 (n:=n)]
  have e:d+1+(n:Int)=d+((n+1:Nat):Int):=by omega
  rw [e]
  omega
theorem DT{t:bB}{d:Int}{p:List (List Int)}(hg:gV t p):∀n,(qu t d p n).sum=((kF t n d p:Nat):Int)
 |0=>by
  rw [BL,qu]
  generalize t.2.1.length=m
  induction m with
  |zero=>rfl
  |succ m ih=>rw [List.replicate_succ,List.sum_cons,ih];rfl
 |n+1=>by
  have h1:=DT (d:=d) hg n
  have h2:=Ax (hg.aftD (d:=d) n) (d:=d+n)
  rw [qu,A5,h1,wP,(uC n).1,←h2]
  unfold yz
  rw [List.length_map]
  rfl
theorem JZ{r:(List Int)×(List (List Int))}(hk:r.1.length < k)(h8:r.1.length≤1000)(hv:∀v∈r.1,0≤v∧v≤1000):ic k r k (0,0)=some r.1.sum:=by
 have hle:∀j,j≤r.1.length→0≤(r.1.take j).sum∧(r.1.take j).sum≤1000 * (j:Int):=by
  intro j
  induction j with
  |zero=>intro _;simp
  |succ j ih=>
   intro hj;have:=ih (by omega);have hx:=hv _ (List.getElem_mem (show j < r.1.length by omega));rw [List.take_add_one,List.getElem?_eq_getElem (show j < r.1.length by omega),List.sum_append];simp only [Option.toList_some,List.sum_cons,List.sum_nil];omega
 have hb:=W.loop (f:=ic k r) (Q:=fun z=>z=r.1.sum) (fun qq z=>∃j:Nat,z.2=(j:Int)∧j≤r.1.length∧qq=r.1.length - j∧z.1=(r.1.take j).sum) (by
  rintro aS qq ⟨c,z⟩ ⟨j,hj,hl,hq,hc⟩ ih;simp only at hj hc;subst hj hc;unfold ic;dsimp only;refine W.ite (fun hlt=>?_) (fun hge=>W.ret ?_)
  ·have hj:j < r.1.length:=by omega
   have h1:=hle j (by omega);have hx:=hv _ (List.getElem_mem hj);rw [bT hj,bs,bq (by omega) (by omega),bs,bq (by omega) (by omega),bs];refine ih (qq - 1) (_,(j:Int)+1) (by omega) ⟨j+1,by show(j:Int)+1=((j+1:Nat):Int);omega,by omega,by omega,?_⟩;rw [List.take_add_one,List.getElem?_eq_getElem hj,List.sum_append];simp
  ·have:j=r.1.length:=by omega
   subst this;rw [List.take_of_length_le (Nat.le_refl _)]) r.1.length k (0,0) hk ⟨0,rfl,by omega,by omega,by simp⟩
 obtain⟨o',eo,h⟩:=hb;rw [eo,h]
theorem Fq{t:bB}(h:wj k t){p:List (List Int)}(hg:gV t p){d:Int}(hd:0≤d∧d≤t.1):lR k t p d=some ((kF t (t.1 - d).toNat d p:Nat):Int):=by
 have h6:=hg.g.days;obtain⟨o1,o2⟩:=uC (t:=t) (d:=d) (p:=p) (t.1 - d).toNat;have hk:=h.k0;have h5:=h.things;unfold lR;rw [Bj h hg (n:=(t.1 - d).toNat) (by omega) (by omega) (by omega),bs,JZ (by show(qu _ _ _ _).length < k;omega) (by show(qu _ _ _ _).length≤1000;omega) (fun v hv=>by have:=o2 v hv;omega),bs];show some (qu _ _ _ _).sum=_;rw [DT hg]
end
structure gR(k:Nat)(t:bB)(p:List (List Int)):Prop where
 k0:50≤k
 hs:ii k t
 hp:p.length < k
 hl:∀l∈p,l.length < k
section
variable {k:Nat}{t:bB}{p:List (List Int)}
theorem gR.dayT(h:gR k t p)(c:lz t=0):wj k t:=⟨h.k0,h.hs.k1,by have:=(uG c).things;omega,h.hs.worn⟩
theorem gR.at(h:gR k t p)(c:iC t p=0):At k t p:=⟨h.hs,h.dayT (yP c),c⟩
theorem gR.trk(h:gR k t p):cG k t p=some (iC t p):=vS h.hs (by have:=h.k0;omega) h.hl
theorem gR.ref(h:gR k t p):fo k t p=some (iC t p):=Dh h.hs h.k0 h.hl
theorem gR.asked(h:gR k t p)(b:Bool):je k t p b=some (if iC t p=0 then if b=true then 0 else 3 else iC t p):=by
 unfold je;rw [h.ref,bs];by_cases c:iC t p=0
 ·rw [if_neg (not_not_intro c),if_pos c];cases b <;> rfl
 ·rw [if_pos c,if_neg c]
theorem gR.askedT(h:gR k t p)(c:iC t p=0):je k t p true=some 0:=by rw [h.asked,if_pos c];rfl
theorem gR.askedF(h:gR k t p)(c:iC t p=0):je k t p false=some 3:=by rw [h.asked,if_pos c];rfl
theorem gR.askedE(h:gR k t p)(c:¬iC t p=0)(b:Bool):je k t p b=some (iC t p):=by rw [h.asked,if_neg c]
def yY(k:Nat)(q:List (List Int)):Prop:=q.length < k∧∀l∈q,l.length < k
theorem yY.nil(hk:50≤k):yY k []:=⟨by show 0 < k;omega,fun _ h=>by cases h⟩
end
section
variable {k:Nat}{t:bB}{p:List (List Int)}
theorem mW{l:List Int}(h:l.length≤1000000):eh k l=some l:=by
 unfold eh;rw [cM (Kq (by simp only [List.length_nil];omega)),bs];rfl
theorem uc(h:ii k t):ji k t=some t:=by
 have hk1:=h.k1;have h1:=h.things;have h2:=h.trunks;unfold ji;rw [mW (by omega),bs]
 have hb:=W.loop (f:=fU k t) (Q:=fun o=>o=t.2.1) (fun m y=>∃j:Nat,y.2=(j:Int)∧j≤t.2.1.length∧m=t.2.1.length - j∧y.1=t.2.1.take j) (by
  rintro aS m ⟨o,y⟩ ⟨j,hj,hle,hm,ho⟩ ih;simp only at hj ho;subst hj ho;unfold fU;dsimp only;refine W.ite (fun hlt=>?_) (fun hge=>W.ret ?_)
  ·have hj:j < t.2.1.length:=by omega
   rw [bT hj,bs,bs,mW (by have:=h.worn _ (List.getElem_mem hj);omega),bs,cM (Kq (by simp only [List.length_take,List.length_cons,List.length_nil];omega)),bs,bq (by omega) (by omega),bs];refine ih (m - 1) (_,(j:Int)+1) (by omega) ⟨j+1,by show(j:Int)+1=((j+1:Nat):Int);omega,by omega,by omega,?_⟩;rw [List.take_add_one,List.getElem?_eq_getElem hj];rfl
  ·rw [List.take_of_length_le (by omega)]) t.2.1.length k ([],0) h1 ⟨0,rfl,by omega,by omega,by simp⟩
 obtain⟨o,eo,rfl⟩:=hb;rw [eo,bs]
theorem IX: @jB= @ji:=by kernel_rfl
theorem yO(h:ii k t):jB k t=some t:=by rw [IX];exact uc h
theorem sx(h:yY k p)(hk1:k≤1000000):fj k p=some p:=by
 have h1:=h.1;unfold fj
 have hb:=W.loop (f:=dC k p) (Q:=fun o=>o=p) (fun q y=>∃j:Nat,y.2=(j:Int)∧j≤p.length∧q=p.length - j∧y.1=p.take j) (by
  rintro aS q ⟨o,y⟩ ⟨j,hj,hle,hq,ho⟩ ih;simp only at hj ho;subst hj ho;unfold dC;dsimp only;refine W.ite (fun hlt=>?_) (fun hge=>W.ret ?_)
  ·have hj:j < p.length:=by omega
   rw [bT hj,bs,mW (by have:=h.2 _ (List.getElem_mem hj);omega),bs,cM (Kq (by simp only [List.length_take,List.length_cons,List.length_nil];omega)),bs,bq (by omega) (by omega),bs];refine ih (q - 1) (_,(j:Int)+1) (by omega) ⟨j+1,by show(j:Int)+1=((j+1:Nat):Int);omega,by omega,by omega,?_⟩;rw [List.take_add_one,List.getElem?_eq_getElem hj];rfl
  ·rw [List.take_of_length_le (by omega)]) p.length k ([],0) h.1 ⟨0,rfl,by omega,by omega,by simp⟩
 obtain⟨o,eo,rfl⟩:=hb;rw [eo,bs]
theorem mO{l:List Int}(h:l.length < k)(hk1:k≤1000000):dI k l l=some true:=by rw [zG h (by omega)];simp
theorem yd(h:yY k p)(hk1:k≤1000000):gl k p p=some true:=by
 unfold gl;rw [if_neg (by simp)];have h1:=h.1
 have hb:=W.loop (f:=fq k p p) (Q:=fun o=>o= .ok ()) (fun q y=>∃j:Nat,y=(j:Int)∧j≤p.length∧q=p.length - j) (by
  rintro aS q y ⟨j,hj,hle,hq⟩ ih;subst hj;unfold fq;refine W.ite (fun hlt=>?_) (fun hge=>W.ret rfl);have hj:j < p.length:=by omega
  rw [bT hj,bs,bs,mO (h.2 _ (List.getElem_mem hj)) hk1,bs,nT,bq (by omega) (by omega),bs];exact ih (q - 1) _ (by omega) ⟨j+1,by omega,by omega,by omega⟩) p.length k 0 h.1 ⟨0,rfl,by omega,by omega⟩
 obtain⟨o,eo,rfl⟩:=hb;rw [eo,oN]
theorem yc(h:ii k t):jy k t t=some true:=by
 have hk1:=h.k1;have h1:=h.things;unfold jy;rw [if_neg (by simp),if_neg (by simp),mO h.trunks hk1,bs,bs,Bool.not_true,iF]
 have hb:=W.loop (f:=fp k t t) (Q:=fun o=>o= .ok ()) (fun q y=>∃j:Nat,y=(j:Int)∧j≤t.2.1.length∧q=t.2.1.length - j) (by
  rintro aS q y ⟨j,hj,hle,hq⟩ ih;subst hj;unfold fp;refine W.ite (fun hlt=>?_) (fun hge=>W.ret rfl);have hj:j < t.2.1.length:=by omega
  rw [bT hj,bs,bs,if_neg (not_not_intro rfl),bs,bs,mO (h.worn _ (List.getElem_mem hj)) hk1,bs,bs,Bool.not_true,iF,bq (by omega) (by omega),bs];exact ih (q - 1) _ (by omega) ⟨j+1,by omega,by omega,by omega⟩) t.2.1.length k 0 h.things ⟨0,rfl,by omega,by omega⟩
 obtain⟨o,eo,rfl⟩:=hb;rw [eo,oN]
structure Eo(t:bB):Prop where
 things:t.2.1.length≤20
 trunks:t.2.2.length≤20
 worn:∀x∈t.2.1,x.2.length≤20
 few:¬(t.2.1.length=5∧t.2.2.length=3)
theorem Eo.small(h:Eo t)(hk:50≤k)(hk1:k≤1000000):ii k t:=⟨hk1,by have:=h.things;omega,fun x hx=>by have:=h.worn x hx;omega,by have:=h.trunks;omega⟩
theorem JS(hk:50≤k):W (nE k t) fun b=>b=false→Eo t:=by
 unfold nE;by_cases c1:(20:Int) < (t.2.1.length:Int)
 ·rw [if_pos c1,bs,iT];exact W.ret fun h=>by cases h
 ·rw [if_neg c1,bs];by_cases c2:(20:Int) < (t.2.2.length:Int)
  ·rw [decide_eq_true c2,iT];exact W.ret fun h=>by cases h
  ·rw [decide_eq_false c2,iF]
   have hb:=W.loop (f:=jW k t) (Q:=fun o=>o= .error true∨(o= .ok ()∧∀x∈t.2.1,x.2.length≤20)) (fun q y=>∃j:Nat,y=(j:Int)∧j≤t.2.1.length∧q=t.2.1.length - j∧∀i (h:i < t.2.1.length),i < j→(t.2.1[i]).2.length≤20) (by
    rintro aS q y ⟨j,hj,hle,hq,ha⟩ ih;subst hj;unfold jW;refine W.ite (fun hlt=>?_) (fun hge=>W.ret (.inr ⟨rfl,fun x hx=>?_⟩))
    ·have hj:j < t.2.1.length:=by omega
     rw [bT hj,bs];refine W.ite (fun hc=>W.ret (.inl rfl)) (fun hc=>?_);rw [bq (by omega) (by omega),bs];refine ih (q - 1) _ (by omega) ⟨j+1,by omega,by omega,by omega,fun i hi hij=>?_⟩;by_cases e:i=j
     ·subst e;omega
     ·exact ha i hi (by omega)
    ·obtain⟨i,hi,rfl⟩:=List.getElem_of_mem hx;exact ha i hi (by omega)) t.2.1.length k 0 (show t.2.1.length < k by omega) ⟨0,rfl,by omega,by omega,fun i _ h=>by omega⟩
   refine W.bEE hb (fun e he=>?_) (fun u hu=>?_)
   ·rcases he with he |he
    ·cases he;exact W.ret fun h=>by cases h
    ·cases he.1
   ·rcases hu with hu |hu
    ·cases hu
    ·by_cases c3:(t.2.1.length:Int)=5
     ·rw [if_pos c3,bs];exact W.ret fun h=>⟨by omega,by omega,hu.2,fun hh=>of_decide_eq_false h (by omega)⟩
     ·rw [if_neg c3,bs];exact W.ret fun h=>⟨by omega,by omega,hu.2,fun hh=>by omega⟩
theorem JP(hk:50≤k):W (nD k p) fun b=>b=false→p.length≤20∧∀l∈p,l.length≤20:=by
 unfold nD
 have hb:=W.loop (f:=jV k p) (Q:=fun o=>o= .error true∨(o= .ok ()∧(p.length≤20→∀x∈p,x.length≤20))) (fun q y=>∃j:Nat,y=(j:Int)∧j≤p.length∧j≤20∧q=20 - j∧∀i (h:i < p.length),i < j→(p[i]).length≤20) (by
  rintro aS q y ⟨j,hj,hle,h20,hq,ha⟩ ih;subst hj;unfold jV;by_cases c1:(j:Int) < (p.length:Int)
  ·rw [if_pos c1,bs];by_cases c2:(j:Int) < 20
   ·have hj:j < p.length:=by omega
    rw [decide_eq_true c2,iT,bT hj,bs];refine W.ite (fun hc=>W.ret (.inl rfl)) (fun hc=>?_);rw [bq (by omega) (by omega),bs];refine ih (q - 1) _ (by omega) ⟨j+1,by omega,by omega,by omega,by omega,fun i hi hij=>?_⟩;by_cases e:i=j
    ·subst e;omega
    ·exact ha i hi (by omega)
   ·rw [decide_eq_false c2,iF];refine W.ret (.inr ⟨rfl,fun h=>by omega⟩)
  ·rw [if_neg c1,bs,iF];refine W.ret (.inr ⟨rfl,fun _ x hx=>?_⟩);obtain⟨i,hi,rfl⟩:=List.getElem_of_mem hx;exact ha i hi (by omega)) 20 k 0 (by omega) ⟨0,rfl,by omega,by omega,by omega,fun i _ h=>by omega⟩
 refine W.bEE hb (fun e he=>?_) (fun u hu=>?_)
 ·rcases he with he |he
  ·cases he;exact W.ret fun h=>by cases h
  ·cases he.1
 ·rcases hu with hu |hu
  ·cases hu
  ·exact W.ret fun h=>⟨by have:=of_decide_eq_false h;omega,hu.2 (by have:=of_decide_eq_false h;omega)⟩
theorem Is(hk:50≤k){x:eM}:W (((nE k t).bind fun r5=>if r5=true then(some true) else((nD k p).bind fun r6=>if r6=true then(some true) else(some (decide ((20:Int) < (x.2.length:Int)))))):Option Bool) fun b=>b=false→Eo t∧(p.length≤20∧∀l∈p,l.length≤20)∧x.2.length≤20:=by
 obtain⟨b,eb,hb⟩:=JS (t:=t) hk;rw [eb,bs];cases b with
 |true=>rw [iT];exact W.ret fun h=>by cases h
 |false=>
  rw [iF];obtain⟨c,ec,hc⟩:=JP (p:=p) hk;rw [ec,bs];cases c with
  |true=>rw [iT];exact W.ret fun h=>by cases h
  |false=>rw [iF];exact W.ret fun h=>⟨hb rfl,hc rfl,by have:=of_decide_eq_false h;omega⟩
structure OU(k:Nat)(ts:List bB)(ps:List (List (List Int))):Prop where
 l1:ts.length=4
 l2:ps.length=4
 at_:∀j:Nat,j < 4→∃t p,aP ts (j:Int)=some t∧aP ps (j:Int)=some p∧gR k t p
theorem OU.of{a b c d:bB}{p q r s:List (List Int)}(h0:gR k a p)(h1:gR k b q)(h2:gR k c r)(h3:gR k d s):OU k [a,b,c,d] [p,q,r,s]:=
 ⟨rfl,rfl,fun j hj=>by
  match j,hj with
  |0,_=>exact⟨_,_,rfl,rfl,h0⟩
  |1,_=>exact⟨_,_,rfl,rfl,h1⟩
  |2,_=>exact⟨_,_,rfl,rfl,h2⟩
  |3,_=>exact⟨_,_,rfl,rfl,h3⟩⟩
theorem Bg.small{a b:Int}(h:Bg t a b)(ha:a≤8)(hb:b≤8)(hk:50≤k)(hk1:k≤1000000):ii k t:=
 ⟨hk1,by have:=h.things;omega,fun x hx=>by have:=(h.item x hx).2.2.1;omega,by have:=h.trunks;omega⟩
theorem gR.of(hk:50≤k)(hs:ii k t)(hp:p.length≤20)(hl:∀l∈p,l.length≤20):gR k t p:=⟨hk,hs,by omega,fun l h=>by have:=hl l h;omega⟩
theorem BR(hk:50≤k)(hk1:k≤1000000){x:eM}(ht:ii k t)(hp:p.length≤20)(hl:∀l∈p,l.length≤20)(hx:x.2.length≤20){l:bR}{m:Int}(hlo:Lo l m)(hm:0≤m∧m≤10):
 W (lj k t x p l) fun r=>OU k r.1 r.2.1∧Lo r.2.2 (m+200):=by
 unfold lj
 obtain⟨r3,e3,hT,hl3⟩:=JX hk hlo (by omega) (a:=4) (b:=3) (by omega) (by omega)
 have hT3:=hT.things
 have hTt:=hT.trunks
 have hs3:=hT.small (k:=k) (by omega) (by omega) hk hk1
 rw [show kM k (l.1,l.2.1,l.2.2) (4:Int) 3=some r3 from e3,bs,uc hs3,bs,mW (by omega),bs,cM (Bq (n:=100) (by omega) (by omega)),bs]
 obtain⟨r12,e12,h1,h2,h3⟩:=vk hk hT (by omega) (by omega) hl3 (by omega)
 rw [show fh k (r3.2.1,r3.2.2.1,r3.2.2.2) r3.1=some r12 from e12,bs]
 obtain⟨r13,e13,g1,g2,g3⟩:=vk hk hT (by omega) (by omega) h3 (by omega)
 rw [show fh k (r12.2.1,r12.2.2.1,r12.2.2.2) r3.1=some r13 from e13,bs,bq (by omega) (by omega),bs]
 have hsO:∀T:List Int,T.length=r3.1.2.2.length→ii k (r3.1.1,r3.1.2.1++[(x.1,x.2)],T):=fun T hT'=>⟨hk1,by show(r3.1.2.1++[(x.1,x.2)]).length < k;rw [List.length_append];simp only [List.length_cons,List.length_nil];omega,fun y hy=>by
  rcases List.mem_append.1 hy with hy |hy
  ·exact hs3.worn y hy
  ·rw [List.mem_singleton] at hy;subst hy;show x.2.length < k;omega,by show T.length < k;omega⟩
 have s0:gR k t p:=.of hk ht hp hl
 have s1:gR k r3.1 r12.1:=.of hk hs3 (by omega) (fun l h=>by have:=h2 l h;omega)
 have s2:gR k r3.1 p:=.of hk hs3 hp hl
 by_cases c:(r3.1.2.2.length:Int) < 3
 ·
  have hi:((r3.1.2.2.length:Int) - 1).toNat=r3.1.2.2.length - 1:=by omega
  have hr:r3.1.2.2.length - 1 < r3.1.2.2.length:=by omega
  have hroom:=hT.rooms _ (List.getElem_mem hr);have hg:aP r3.1.2.2 ((r3.1.2.2.length:Int) - 1)=some r3.1.2.2[r3.1.2.2.length - 1]:=vH (by omega) (by rw [hi];exact List.getElem?_eq_getElem hr);have hr':r3.1.2.2.length - 1 < r13.1.length:=by omega
  have hg':aP r13.1 ((r3.1.2.2.length:Int) - 1)=some r13.1[r3.1.2.2.length - 1]:=vH (by omega) (by rw [hi];exact List.getElem?_eq_getElem hr');have hb:=g2 _ (List.getElem_mem hr');rw [if_pos c,hg,bs,bq (by omega) (by omega),bs,bs,show aP [p,r12.1,p,r13.1] (3:Int)=some r13.1 from rfl,bs,sx ⟨by omega,fun l h=>by have:=g2 l h;omega⟩ hk1,bs,bs,hg',bs,cM (Bq (n:=100) (by omega) (by omega)),bs,bs,hi];refine W.ret ⟨OU.of s0 s1 s2 (.of hk (hsO _ (by rw [List.length_set])) (by rw [List.length_set];omega) (fun l hl=>?_)),g3.mono (by omega)⟩;rcases List.mem_or_eq_of_mem_set hl with h |h
  ·have:=g2 l h;omega
  ·rw [h,List.length_append];simp only [List.length_cons,List.length_nil];omega
 ·
  rw [if_neg c,bs];exact W.ret ⟨OU.of s0 s1 s2 (.of hk (hsO _ rfl) (by omega) (fun l h=>by have:=g2 l h;omega)),g3.mono (by omega)⟩
theorem UB{a:List Int}:Lo (a,0,1) 0:=⟨Int.le_refl 0,Int.le_refl 0⟩
theorem Qm{α:Type}(a b c d:α){j:Nat}(h:j < 4):∃x,aP [a,b,c,d] (j:Int)=some x:=⟨_,bT (by exact h)⟩
end
end Go.Proofs.YtghkncjelangeaaGreatDoor
set_option linter.unusedVariables false
namespace Go.Proofs.YtghkncjelangeaaGreatDoor
open K Go Go.Proofs
def GO(n:Nat):Nat→List (List Int)
 |0=>[[]]
 |m+1=>(GO n m).flatMap fun l=>(List.range n).map fun(i:Nat)=>(i:Int)::l
theorem Ar{n:Nat}:∀{l:List Int},(∀x∈l,0≤x∧x < (n:Int))→l∈GO n l.length
 |[],_=>by simp [GO]
 |x::l,h=>by
  have hx:=h x (by simp)
  rw [List.length_cons,GO]
  refine List.mem_flatMap.2 ⟨l,Ar fun y hy=>h y (by simp [hy]),List.mem_map.2 ⟨x.toNat,List.mem_range.2 (by omega),?_⟩⟩
  rw [Int.toNat_of_nonneg hx.1]
def uw(n:Nat)(l:List Int):List Int:=((List.range n).filter fun(i:Nat)=>decide ((i:Int)∈l)).map fun(i:Nat)=>(i:Int)
def GW:Nat→List (List Int)
 |0=>[[]]
 |n+1=>(GW n).flatMap fun l=>[l,l++[(n:Int)]]
theorem As{P:Nat→Bool}:∀n:Nat,(((List.range n).filter P).map fun(i:Nat)=>(i:Int))∈GW n
 |0=>by simp [GW]
 |n+1=>by
  rw [GW,List.range_succ,List.filter_append,List.map_append]
  refine List.mem_flatMap.2 ⟨_,As (P:=P) n,?_⟩
  cases h:P n <;> simp [h]
def wY(s:List Int):List (List Int):=(iK 200 200 s).getD []
def MF(n:Nat)(s:List Int):Bool:=
 decide (iK 200 200 s=some (wY s)) && decide (dV 200 200 s [] (n:Int)=some (wY s)) && decide (0 < (wY s).length) && decide ((wY s).length≤120) && (wY s).all fun x=>x.isPerm s
theorem GX:((List.range 6).all fun n=>(List.range (n+1)).all fun m=>(GO n m).all fun l=> !decide l.Nodup || decide (gG 200 l=some (uw n l)))=true:=by decide+kernel
theorem Ko:((List.range 6).all fun n=>(GW n).all fun s=>MF n s)=true:=by decide+kernel
theorem EQ{k:Nat}(hk:k=200){n:Nat}(hn:n≤5){l:List Int}(hd:l.Nodup)(hr:∀x∈l,0≤x∧x < (n:Int)):gG k l=some (uw n l):=by
 subst hk;have h:=GX;rw [List.all_eq_true] at h;have h:=h n (List.mem_range.2 (by omega));rw [List.all_eq_true] at h;have h:=h l.length (List.mem_range.2 (by have:=o6 n l hd hr;omega));rw [List.all_eq_true] at h;have h:=h l (Ar hr);rw [decide_eq_true hd,Bool.not_true,Bool.false_or] at h;exact of_decide_eq_true h
theorem Au{n:Nat}{l:List Int}(hr:∀x∈l,0≤x∧x < (n:Int)){x:Int}:x∈uw n l↔x∈l:=by
 unfold uw;simp only [List.mem_map,List.mem_filter,List.mem_range,decide_eq_true_eq];constructor
 ·rintro⟨i,⟨_,h⟩,rfl⟩;exact h
 ·intro h;have:=hr x h;exact⟨x.toNat,⟨by omega,by rw [Int.toNat_of_nonneg this.1];exact h⟩,Int.toNat_of_nonneg this.1⟩
theorem I5{n:Nat}{l:List Int}(hd:l.Nodup)(hr:∀x∈l,0≤x∧x < (n:Int)):(uw n l).Perm l:=by
 have h1:(uw n l).Nodup:=by
  unfold uw;refine List.Pairwise.map _ (fun a b hab=>?_) (List.nodup_range.filter _);omega
 exact(List.perm_ext_iff_of_nodup h1 hd).2 fun x=>Au hr
section
variable {k:Nat}
theorem vo{l l':List Int}(h:∀x,x∈l↔x∈l')(hl:l.length=l'.length)(hk:l.length < k)(hk1:k≤1000000){n:Int}:∀(m:Nat) (b:List Int),dV k m l b n=dV k m l' b n
 |0,_=>rfl
 |m+1,b=>by
  have hs:∀(aS:Nat) (y:(List (List Int))×Int),fa k l b n (dV k m) aS y=fa k l' b n (dV k m) aS y:=by
   intro aS
   induction aS with
   |zero=>intro y;rfl
   |succ aS ih=>
    intro y;rw [fa,fa,yE (l:=l) hk hk1,yE (l:=l') (by omega) hk1,show decide (y.2∈l)=decide (y.2∈l') from decide_eq_decide.2 (h _)];simp only [vo h hl hk hk1 m,ih]
  rw [dV,dV,hl,hs]
theorem E6(hk:k=200){n:Nat}(hn:n≤5){l:List Int}(hd:l.Nodup)(hr:∀x∈l,0≤x∧x < (n:Int)):
 ∃o,gG k l=some (uw n l)∧iK k k (uw n l)=some o∧dV k k l [] (n:Int)=some o∧o≠[]∧o.length < k∧∀x∈o,x.Perm l:=by
 have hp:=I5 hd hr
 have h:=Ko
 rw [List.all_eq_true] at h
 have h:=h n (List.mem_range.2 (by omega))
 rw [List.all_eq_true] at h
 have h:=h (uw n l) (As n)
 unfold MF at h
 simp only [Bool.and_eq_true,decide_eq_true_eq,List.all_eq_true] at h
 obtain⟨⟨⟨⟨h1,h2⟩,h3⟩,h4⟩,h5⟩:=h
 have hlen:=o6 n l hd hr
 refine⟨wY (uw n l),EQ hk hn hd hr,by rw [hk];exact h1,?_,List.length_pos_iff.1 h3,by omega,fun x hx=>(List.isPerm_iff.1 (h5 x hx)).trans hp⟩
 rw [vo (l:=l) (l':=uw n l) (fun x=>(Au hr).symm) hp.length_eq.symm (by omega) (by omega),hk]
 exact h2
theorem AO{p:List (List Int)}{w:Nat}(hw:w < p.length){o:List Int}(ho:o.Perm p[w]):(p.set w o).flatten.Perm p.flatten:=by
 induction p generalizing w with
 |nil=>simp at hw
 |cons l p ih=>
  cases w with
  |zero=>simp only [List.set_cons_zero,List.flatten_cons];exact ho.append (List.Perm.refl _)
  |succ w=>simp only [List.set_cons_succ,List.flatten_cons];exact(List.Perm.refl _).append (ih (by simpa using hw) (by simpa using ho))
theorem gV.set{t:bB}{p:List (List Int)}(h:gV t p){w:Nat}(hw:w < p.length){o:List Int}(ho:o.Perm p[w]):gV t (p.set w o):=by
 have hp:=AO hw ho;refine⟨h.g,by rw [List.length_set];exact h.len,hp.nodup_iff.2 h.nd,fun x hx=>h.rng x (hp.mem_iff.1 hx),fun i hi=>hp.mem_iff.2 (h.all i hi),fun i hi=>?_⟩;rw [List.length_set] at hi;rw [List.getElem_set];split
 ·rename_i e;subst e;rw [uU ho];exact h.room w hi
 ·exact h.room i hi
theorem At.set{t:bB}{p:List (List Int)}(h:At k t p){w:Nat}(hw:w < p.length){o:List Int}(ho:o.Perm p[w]):At k t (p.set w o):=⟨h.small,h.dayT,(h.good.set hw ho).chk (yP h.chk)⟩
def sE(f:List Int→Nat)(b:Option (List Int×Nat))(o:List Int):Option (List Int×Nat):=match b with
 |none=>some (o,f o)
 |some (x,n)=>if f o < n then some (o,f o) else some (x,n)
theorem vU{f:List Int→Nat}:∀(l:List (List Int)) (j:Nat) (b:Option (List Int×Nat)),(l≠[]∨b≠none)→∃x n,sq (fun b _ o=>sE f b o) j l b=some (x,n)∧(x∈l∨b=some (x,n))
 |[],j,b,h=>by
  cases b with
  |none=>rcases h with h |h <;> exact absurd rfl h
  |some q=>exact⟨q.1,q.2,rfl,.inr rfl⟩
 |o::l,j,b,_=>by
  have hb:∃q,sE f b o=some q∧(q.1=o∨b=some q):=by
   unfold sE;cases b with
   |none=>exact⟨_,rfl,.inl rfl⟩
   |some q=>
    dsimp only;split
    ·exact⟨_,rfl,.inl rfl⟩
    ·exact⟨_,rfl,.inr rfl⟩
  obtain⟨q,e,hq⟩:=hb;obtain⟨x,n,h1,h2⟩:=vU (f:=f) l (j+1) (some q) (.inr (by simp));refine⟨x,n,by rw [sq,e];exact h1,?_⟩;rcases h2 with h2 |h2
  ·exact .inl (List.mem_cons_of_mem _ h2)
  ·obtain rfl:=Option.some.inj h2;rcases hq with hq |hq
   ·exact .inl (by rw [←hq];exact List.mem_cons_self ..)
   ·exact .inr hq
theorem DI{t:bB}{q:List (List Int)}(h:At k t q){d:Int}(hd:0≤d∧d≤t.1){w:Nat}(hw:w < q.length){o:List Int}(ho:o.Perm q[w]):kf k o (t,()) (g8 q) (w:Int) d=some ((kF t (t.1 - d).toNat d (q.set w o):Nat):Int):=by
 unfold kf;rw [Ic h.dayT.k0 h.good.fit h.good.len,bs,bT hw,bs];show((dN k (q.set w o)).bind _:Option Int)=_;rw [qX h.dayT.k0,bs,K7 h (h.good.set hw ho) hd,bs]
theorem Ig{t:bB}{q:List (List Int)}(h:At k t q){d:Int}(hd:0≤d∧d≤t.1){w:Nat}(hw:w < q.length){l:List (List Int)}(hlen:l.length < k)(hl:∀o∈l,o.Perm q[w]){x:List Int}{n:Nat}
 (hb:sq (fun b _ o=>sE (fun o=>kF t (t.1 - d).toNat d (q.set w o)) b o) 0 l none=some (x,n)):iM k (t,()) (g8 q) (w:Int) d l=some (x,(n:Int),true):=by
 have hk:=h.dayT.k0
 have hk1:=h.dayT.k1
 unfold iM
 have:=so (f:=cz k (t,()) (g8 q) (w:Int) d l) l (fun(b:Option (List Int×Nat)) j=>match b with |none=>([],0,false,j) |some (x,n)=>(x,(n:Int),true,j))
  (fun b _ o=>sE (fun o=>kF t (t.1 - d).toNat d (q.set w o)) b o) (fun _ _=>True) (fun b=>match b with |none=>some ([],0,false) |some (x,n)=>some (x,(n:Int),true))
  (fun m b j hj _=>by
   refine⟨?_,trivial⟩;cases b with
   |none=>
    dsimp only;rw [cz];dsimp only;rw [if_pos (Int.ofNat_lt.2 hj),bT hj,bs,DI h hd hw (hl _ (List.getElem_mem hj)),bs,nF,bs,iT,bs,bq (by omega) (by omega),bs];rfl
   |some b=>
    obtain⟨x,n⟩:=b;dsimp only;rw [cz];dsimp only;rw [if_pos (Int.ofNat_lt.2 hj),bT hj,bs,DI h hd hw (hl _ (List.getElem_mem hj)),bs,nT,bs];unfold sE;by_cases c:kF t (t.1 - d).toNat d (q.set w l[j]) < n
    ·rw [decide_eq_true (Int.ofNat_lt.2 c),iT,bs,bq (by omega) (by omega),bs];simp only [c,if_true]
    ·rw [decide_eq_false (fun h=>c (Int.ofNat_lt.1 h)),iF,bs,bq (by omega) (by omega),bs];simp only [c,if_false])
  (fun m b _=>by
   cases b with
   |none=>dsimp only;rw [cz];dsimp only;rw [if_neg (by omega)]
   |some b=>obtain⟨x,n⟩:=b;dsimp only;rw [cz];dsimp only;rw [if_neg (by omega)]) (s0:=none) (n:=k) hlen trivial
 obtain⟨h1,_⟩:=this
 rw [hb] at h1
 rw [show cz k (t,()) (g8 q) (w:Int) d l k ([],0,false,0)=_ from h1,bs]
theorem Ft{t:bB}{q:List (List Int)}(h:At k t q){d:Int}(hd:0≤d∧d≤t.1){w:Nat}(hw:w < q.length){l:List (List Int)}(hlen:l.length < k)(hl:∀o∈l,o.Perm q[w]){r:(List Int)×(List (List Int))}(hr:r.2=q){x:List Int}{n:Nat}
 (hb:sq (fun b _ o=>sE (fun o=>kF t (t.1 - d).toNat d (q.set w o)) b o) 0 l none=some (x,n)):dG k t (w:Int) d r l k ([], -1,0)=some (x,(n:Int)):=by
 have hk:=h.dayT.k0
 have hk1:=h.dayT.k1
 have h3:=h.good.fit.len
 have:=so (f:=dG k t (w:Int) d r l) l (fun(b:Option (List Int×Nat)) j=>match b with |none=>([], -1,j) |some (x,n)=>(x,(n:Int),j))
  (fun b _ o=>sE (fun o=>kF t (t.1 - d).toNat d (q.set w o)) b o) (fun _ _=>True) (fun b=>match b with |none=>some ([], -1) |some (x,n)=>some (x,(n:Int)))
  (fun m b j hj _=>by
   refine⟨?_,trivial⟩;have hg:aP (([]:List (List Int))++r.2) (w:Int)=some q[w]:=by rw [hr,List.nil_append];exact bT hw
   have hS:=h.set hw (hl _ (List.getElem_mem hj))
   have hL:lR k t (List.set (([]:List (List Int))++r.2) (Int.toNat (w:Int)) l[j]) d=some ((kF t (t.1 - d).toNat d (q.set w l[j]):Nat):Int):=by
    rw [hr,List.nil_append,Int.toNat_natCast];exact Fq hS.dayT hS.good hd
   have hc:bH (List.length ([]:List (List Int))+List.length r.2):=Kq (by rw [hr];simp only [List.length_nil];omega);cases b with
   |none=>
    dsimp only;rw [dG];dsimp only;rw [if_pos (Int.ofNat_lt.2 hj),cM hc,bs,bT hj,bs,hg,bs,hL,bs,if_pos (show(-1:Int) < 0 by decide),bs,iT,bs,bs,bq (by omega) (by omega),bs];rfl
   |some b=>
    obtain⟨x,n⟩:=b;dsimp only;rw [dG];dsimp only;rw [if_pos (Int.ofNat_lt.2 hj),cM hc,bs,bT hj,bs,hg,bs,hL,bs,if_neg (show¬(n:Int) < 0 by omega),bs];unfold sE;by_cases c:kF t (t.1 - d).toNat d (q.set w l[j]) < n
    ·rw [decide_eq_true (Int.ofNat_lt.2 c),iT,bs,bs,bq (by omega) (by omega),bs];simp only [c,if_true]
    ·rw [decide_eq_false (fun h=>c (Int.ofNat_lt.1 h)),iF,bs,bq (by omega) (by omega),bs];simp only [c,if_false])
  (fun m b _=>by
   cases b with
   |none=>dsimp only;rw [dG];dsimp only;rw [if_neg (by omega)]
   |some b=>obtain⟨x,n⟩:=b;dsimp only;rw [dG];dsimp only;rw [if_neg (by omega)]) (s0:=none) (n:=k) hlen trivial
 obtain⟨h1,_⟩:=this
 rw [hb] at h1
 exact h1
theorem Bc(hk:k=200){t:bB}{p:List (List Int)}(h:gR k t p)(w d:Int):∃r,hH k t p w d=some r∧iR k t p w d=some r∧r.1.length < k:=by
 have hk0:=h.k0;have ht:=h.hs.trunks;have hk1:=h.hs.k1;by_cases c:iC t p=0
 ·have a:=h.at c;have g:=a.good;have h6:=g.g.days;have h5:=g.g.things;have h3:=g.g.trunks;by_cases hw:0≤w∧w≤(t.2.2.length:Int) - 1
  ·by_cases hd:0≤d∧d≤t.1
   ·obtain⟨W,rfl⟩:=Int.eq_ofNat_of_zero_le hw.1;obtain⟨D,rfl⟩:=Int.eq_ofNat_of_zero_le hd.1;have hA:=a.aft D;have hql:=hA.good.len;have hwq:W < (rj t p D).length:=by omega
    have hnd:(rj t p D)[W].Nodup:=(List.pairwise_flatten.1 hA.good.nd).1 _ (List.getElem_mem hwq);have hrg:∀x∈(rj t p D)[W],0≤x∧x < (t.2.1.length:Int):=fun x hx=>hA.good.rng x (List.mem_flatten.2 ⟨_,List.getElem_mem hwq,hx⟩);obtain⟨o,s1,s2,s3,s4,s5,s6⟩:=E6 hk (n:=t.2.1.length) (by omega) hnd hrg;obtain⟨x,n,eb,hx⟩:=vU (f:=fun x=>kF t (t.1 - (D:Int)).toNat D ((rj t p D).set W x)) o 0 none (.inl s4);have hx:x∈o:=hx.resolve_right fun h=>by cases h
    refine⟨(x,(n:Int),0),?_,?_,?_⟩
    ·unfold hH;have eg:(rj t p D)[W]?.getD []=(rj t p D)[W]:=by rw [List.getElem?_eq_getElem hwq];rfl
     have hl:=uF hk0 (p:=rj t p D) (i:=W) (by omega) (hA.good.fit.fitL W);rw [eg] at hl
     rw [h.trk,bs,if_neg (not_not_intro c),bq (by omega) (by omega),bs,io,bs,decide_eq_true hw,nT,io,bs,decide_eq_true hd,Bool.not_true,bs,iF,
      qX hk0,bs,Dk a.dayT g (by omega),bs,hl,bs,s1,bs,s2,bs,Ig hA (d:=(D:Int)) (by omega) hwq s5 s6 eb,bs]
    ·unfold iR;have hD:=Bj a.dayT g (d:=0) (n:=D) (a:=(D:Int)) (by omega) (by omega) (by omega);rw [bq (by omega) (by omega),bs,fV,bs,decide_eq_true hw,iT,fV,bs,decide_eq_true hd,h.askedT c,bs,bs,if_neg (not_not_intro rfl),hD,bs,I9];dsimp only;rw [bT hwq,bs,s3,bs,Ft hA (d:=(D:Int)) (by omega) hwq s5 s6 rfl eb,bs]
    ·have:=(s6 x hx).length_eq;have:=(hA.good.fit.fit _ (List.getElem_mem hwq)).1;show x.length < k;omega
   ·refine⟨([],0,3),?_,?_,by show 0 < k;omega⟩
    ·unfold hH;rw [h.trk,bs,if_neg (not_not_intro c),bq (by omega) (by omega),bs,io,bs,decide_eq_true hw,nT,io,bs,decide_eq_false hd,Bool.not_false,bs,iT]
    ·unfold iR;rw [bq (by omega) (by omega),bs,fV,bs,decide_eq_true hw,iT,fV,bs,decide_eq_false hd,h.askedF c,bs,bs,if_pos (by decide)]
  ·refine⟨([],0,3),?_,?_,by show 0 < k;omega⟩
   ·unfold hH;rw [h.trk,bs,if_neg (not_not_intro c),bq (by omega) (by omega),bs,io,bs,decide_eq_false hw,nF,bs,iT]
   ·unfold iR;rw [bq (by omega) (by omega),bs,fV,bs,decide_eq_false hw,iF,h.askedF c,bs,bs,if_pos (by decide)]
 ·refine⟨([],0,iC t p),?_,?_,by show 0 < k;omega⟩
  ·unfold hH;rw [h.trk,bs,if_pos c]
  ·unfold iR;rw [bq (by omega) (by omega),bs,fV,bs];by_cases hw:0≤w∧w≤(t.2.2.length:Int) - 1
   ·rw [decide_eq_true hw,iT,fV,bs,h.askedE c,bs,bs,if_pos c]
   ·rw [decide_eq_false hw,iF,h.askedE c,bs,bs,if_pos c]
end
end Go.Proofs.YtghkncjelangeaaGreatDoor
