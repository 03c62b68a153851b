import Derived.Test.YtcnpijmfgfnpiaaGreatDoorB9
set_option linter.unusedSimpArgs false
set_option linter.unusedVariables false
namespace Go.Proofs.YtcnpijmfgfnpiaaGreatDoor
open K Go Go.Proofs
section
variable {k:Nat}
theorem kd{w:Int→Bool}:∀{l:List Int} {u:Bool},l.Nodup→(dO w u l).Nodup
 |[],_,_=>by simp [dO]
 |n::l,u,h=>by
  obtain⟨h1,h2⟩:=List.nodup_cons.1 h
  rw [dO]
  split
  ·
   exact kd h2
  ·
   split
   ·
    exact List.nodup_cons.2 ⟨fun h'=>h1 (mS h'),kd h2⟩
   ·
    exact kd h2
theorem zx{q:List Int}(hn:q.Nodup){N:Nat}(hr:∀x∈q,0≤x∧x < (N:Int)):((List.range N).filter fun(i:Nat)=>decide ((i:Int)∈q)).length=q.length:=by
 have h:(((List.range N).filter fun(i:Nat)=>decide ((i:Int)∈q)).map fun(i:Nat)=>(i:Int)).Perm q:=by
  rw [List.perm_iff_count];intro a
  have h1:(((List.range N).filter fun(i:Nat)=>decide ((i:Int)∈q)).map fun(i:Nat)=>(i:Int)).Nodup:=by
   refine List.Pairwise.map _ (fun a b hab=>?_) (List.nodup_range.filter _);omega
  rw [h1.count,hn.count]
  have:a∈(((List.range N).filter fun(i:Nat)=>decide ((i:Int)∈q)).map fun(i:Nat)=>(i:Int))↔a∈q:=by
   simp only [List.mem_map,List.mem_filter,List.mem_range,decide_eq_true_eq];constructor
   ·rintro⟨i,⟨_,h⟩,rfl⟩;exact h
   ·intro h;have:=hr a h;exact⟨a.toNat,⟨by omega,by rw [Int.toNat_of_nonneg this.1];exact h⟩,Int.toNat_of_nonneg this.1⟩
  simp only [this]
 have:=h.length_eq;rwa [List.length_map] at this
theorem GQ{s:Int}(hs:jT s){i:Nat}(hi:i < 8):wd s (i:Int)=decide (eu s i):=by
 have:=uv (k:=0) hs hi;unfold dy at this;rw [dj (by omega),bs] at this;exact Option.some.inj this
theorem BQ{s:Int}(hs:jT s):∀(n i:Nat),i+n≤8→qk s n i=((List.range' i n).filter fun j=>decide (eu s j)).length
 |0,i,_=>by simp [qk]
 |n+1,i,h=>by
  rw [qk,GQ hs (by omega),BQ hs n (i+1) (by omega),List.range'_succ,List.filter_cons]
  by_cases c:eu s i
  ·
   simp [c];omega
  ·
   simp [c]
def ta(t:bR):Nat→Int→List Int→Nat
 |0,_,_=>0
 |n+1,d,l=>(dO (nU t d) false l).length+ta t n (d+1) (xP (nU t d) l)
theorem GR{t:bR}(h:HO k t):∀(n:Nat) (d:Int) (l:List Int),l.Nodup→(∀x∈l,0≤x∧x < (t.2.1.length:Int))→Ol k (t,()) n d l=some (ta t n d l)
 |0,d,l,_,_=>rfl
 |n+1,d,l,hn,hx=>by
  have hk0:=h.k0
  have h8:=h.things
  have hl:=t9 _ l hn hx
  obtain⟨m,em,hm,hmm⟩:=xY h.k1 (t:=t) (d:=d) h8 (by omega) h.worn
  obtain⟨r,er,h1,h2,h3⟩:=BE h.k1 (m:=m) hm (w:=nU t d) (fun j _=>hmm j) (l:=l) (by omega) (by omega) (fun x hx'=>by have:=hx x hx';omega)
  rw [Ol,em,bs,er,bs,h1,GR h n (d+1) _ (lB.nodup_iff.2 hn) (fun x hx'=>hx x (lB.mem_iff.1 hx')),bs,ta]
  congr 2
  rw [BQ h2 _ _ (by simpa using h8)]
  show(List.filter _ (List.range' 0 t.2.1.length)).length=_
  rw [←List.range_eq_range',←zx (kd hn) (N:=t.2.1.length) (fun x hx'=>hx x (mS hx'))]
  congr 1
  exact List.filter_congr fun i _=>decide_eq_decide.2 (h3 i)
def nN(t:bR)(n:Nat)(d:Int)(p:List (List Int)):Nat:=(p.map (ta t n d)).sum
theorem C3{t:bR}{n:Nat}{d:Int}{p:List (List Int)}:nN t (n+1) d p=(p.map fun l=>(dO (nU t d) false l).length).sum+nN t n (d+1) (vt t d p):=by
 unfold nN vt
 induction p with
 |nil=>rfl
 |cons l p ih=>rw [List.map_cons,List.sum_cons,ih];simp only [List.map_cons,List.sum_cons,ta];omega
theorem Bw{t:bR}:∀(n:Nat) (d:Int) (l:List Int),ta t n d l≤n * l.length
 |0,_,_=>by simp [ta]
 |n+1,d,l=>by
  have h1:=Bw (t:=t) n (d+1) (xP (nU t d) l)
  have h2:∀(l:List Int) (u:Bool),(dO (nU t d) u l).length≤l.length:=by
   intro l
   induction l with
   |nil=>intro u;simp [dO]
   |cons x l ih=>
    intro u;rw [dO];split
    ·have:=ih true;simp only [List.length_cons];omega
    ·split
     ·have:=ih u;simp only [List.length_cons];omega
     ·have:=ih u;simp only [List.length_cons];omega
  have h3:=h2 l false;rw [lB.length_eq] at h1;rw [ta,Nat.add_mul,Nat.one_mul];omega
theorem I0{t:bR}{p:List (List Int)}(h:At k t p){q:List (List Int)}(hq:ky t q){d:Int}(hd:0≤d∧d≤t.1):fM k (t,()) (ge q) d=some ((nN t (t.1 - d).toNat d q:Nat):Int):=by
 have g:=hq.g;have f:=hq.fit;have h3:=g.trunks;have h5:=g.things;have h6:=g.days;have hlen:=hq.len
 have hrow:∀i:Nat,(q[i]?.getD []).Nodup∧∀x∈q[i]?.getD [],0≤x∧x < (t.2.1.length:Int):=fun i=>by
  rcases Nat.lt_or_ge i q.length with hi |hi
  ·rw [List.getElem?_eq_getElem hi,Option.getD_some];exact⟨(List.pairwise_flatten.1 hq.nd).1 _ (List.getElem_mem hi),fun x hx=>hq.rng x (List.mem_flatten.2 ⟨_,List.getElem_mem hi,hx⟩)⟩
  ·rw [List.getElem?_eq_none hi,Option.getD_none];exact⟨List.nodup_nil,fun x hx=>by cases hx⟩
 have hone:∀i:Nat,i < 3→oH k (t,()) (ge q) (i:Int) d=some (ta t (t.1 - d).toNat d (q[i]?.getD [])):=fun i hi=>by
  unfold oH;dsimp only;rw [if_pos (show t.1≤1000000∧t.2.1.length≤1000000∧0≤d by omega),xd h.dayT.k0 hi (f.fitL i),bs,GR h.dayT _ _ _ (hrow i).1 (hrow i).2]
 have hsum:∀n:Nat,n≤q.length→uB k (t,()) (ge q) d n=some (nN t (t.1 - d).toNat d (q.take n)):=by
  intro n
  induction n with
  |zero=>intro _;simp [uB,nN]
  |succ n ih=>
   intro hn;rw [uB,ih (by omega),bs,hone n (by omega),bs,List.take_add_one,List.getElem?_eq_getElem (show n < q.length by omega)];simp only [nN,Option.toList_some,Option.getD_some,List.map_append,List.map_cons,List.map_nil,List.sum_append,List.sum_cons,List.sum_nil,Nat.add_zero]
 have hb:nN t (t.1 - d).toNat d q≤1000:=by
  have hl5:∀l∈q,ta t (t.1 - d).toNat d l≤30:=fun l hl=>by
   have h1:=Bw (t:=t) (t.1 - d).toNat d l;have h2:=(f.fit l hl).1;have h4:(t.1 - d).toNat≤6:=by omega
   have:=Nat.mul_le_mul h4 h2;omega
  have:∀(q:List (List Int)),(∀l∈q,ta t (t.1 - d).toNat d l≤30)→nN t (t.1 - d).toNat d q≤30 * q.length:=by
   intro q
   induction q with
   |nil=>intro _;simp [nN]
   |cons l q ih=>
    intro hq;have h1:=hq l (by simp);have h2:=ih fun l hl=>hq l (by simp [hl]);simp only [nN,List.map_cons,List.sum_cons,List.length_cons] at h2⊢;omega
  have:=this q hl5;have:=f.len;omega
 unfold fM;dsimp only;rw [if_pos (show t.2.2.length≤1000 by omega),←hlen,hsum q.length (Nat.le_refl _),List.take_of_length_le (Nat.le_refl _),bs,if_pos (show nN t (t.1 - d).toNat d q < 9223372036854775808 by omega)]
theorem Lc{q:List (List Int)}(f:HM q):HV (ge q):=by
 have hp:∀i,KU (qT (q[i]?.getD [])):=fun i=>by
  obtain⟨h1,h2⟩:=f.at i
  have g:∀j:Nat, -1≤(q[i]?.getD [])[j]?.getD (-1)∧(q[i]?.getD [])[j]?.getD (-1) < 8:=fun j=>by
   rcases Nat.lt_or_ge j (q[i]?.getD []).length with hj |hj
   ·have:=h2 _ (List.getElem_mem hj);rw [List.getElem?_eq_getElem hj,Option.getD_some];omega
   ·rw [List.getElem?_eq_none hj,Option.getD_none];omega
  refine⟨rfl,fun n hn=>?_⟩;simp only [qT,List.mem_cons,List.not_mem_nil,or_false] at hn;rcases hn with rfl |rfl |rfl |rfl |rfl
  ·exact g 0
  ·exact g 1
  ·exact g 2
  ·exact g 3
  ·exact g 4
 refine⟨rfl,fun r hr=>?_⟩;simp only [ge,List.mem_cons,List.not_mem_nil,or_false] at hr;rcases hr with rfl |rfl |rfl
 ·exact hp 0
 ·exact hp 1
 ·exact hp 2
theorem HB{t:bR}{p:List (List Int)}(h:At k t p):jE k t p=some (((nN t t.1.toNat 0 p:Nat):Int),0):=by
 have h6:=h.good.g.days;unfold jE;rw [h.ok,bs,if_neg (not_not_intro rfl),lF h.dayT.k0,bs];unfold cR;rw [dj (Lc h.good.fit),bs,I0 h h.good (by omega),bs,bs,Int.sub_zero]
theorem za{t:bR}{q:List (List Int)}(hq:ky t q){d:Int}:(ib t q d).length=(q.map fun l=>(dO (nU t d) false l).length).sum:=by
 have key:∀(q:List (List Int)),q.flatten.Nodup→(∀x∈q.flatten,0≤x∧x < (t.2.1.length:Int))→((List.range t.2.1.length).filter fun(i:Nat)=>decide (∃l∈q,(i:Int)∈dO (nU t d) false l)).length=(q.map fun l=>(dO (nU t d) false l).length).sum:=by
  intro q hn hr
  have e:(q.map fun l=>(dO (nU t d) false l).length).sum=(q.map (dO (nU t d) false)).flatten.length:=by
   rw [List.length_flatten,List.map_map];rfl
  have hsub:∀x∈(q.map (dO (nU t d) false)).flatten,x∈q.flatten:=fun x hx=>by
   obtain⟨l',hl',hx⟩:=List.mem_flatten.1 hx;obtain⟨l,hl,rfl⟩:=List.mem_map.1 hl';exact List.mem_flatten.2 ⟨l,hl,mS hx⟩
  have hnd:(q.map (dO (nU t d) false)).flatten.Nodup:=by
   rw [List.Nodup,List.pairwise_flatten] at hn⊢;refine⟨fun l' hl'=>?_,?_⟩
   ·obtain⟨l,hl,rfl⟩:=List.mem_map.1 hl';exact kd (hn.1 l hl)
   ·exact List.Pairwise.map _ (fun a b hab x hx y hy=>hab x (mS hx) y (mS hy)) hn.2
  rw [e,←zx hnd (N:=t.2.1.length) (fun x hx=>hr x (hsub x hx))];congr 1;refine List.filter_congr fun i _=>decide_eq_decide.2 ?_;simp only [List.mem_flatten,List.mem_map];constructor
  ·rintro⟨l,hl,h⟩;exact⟨_,⟨l,hl,rfl⟩,h⟩
  ·rintro⟨_,⟨l,hl,rfl⟩,h⟩;exact⟨l,hl,h⟩
 unfold ib;rw [List.length_map];exact key q hq.nd hq.rng
def jS(o:List Int)(L:Nat→Bool):List Int:=o.mapIdx fun i v=>if L i then v+1 else v
theorem zI{o:List Int}{L:Nat→Bool}:(jS o L).length=o.length:=by unfold jS;rw [List.length_mapIdx]
theorem zH{o:List Int}{L:Nat→Bool}{i:Nat}(hi:i < o.length):(jS o L).set i (o[i]+1)=jS o (fun j=>L j || decide (j=i)):=by
 refine List.ext_getElem (by simp [jS]) fun j h1 h2=>?_;simp only [jS,List.length_set,List.length_mapIdx] at h1;rw [List.getElem_set];simp only [jS,List.getElem_mapIdx];by_cases e:i=j
 ·subst e;simp
 ·have:¬j=i:=fun h=>e h.symm;simp [e,this]
theorem zJ{o:List Int}{L:Nat→Bool}{i:Nat}(hi:i < o.length)(hL:L i=false):aZ (jS o L) (i:Int)=some o[i]:=by
 rw [ct (by rw [zI];exact hi)];simp [jS,hL]
theorem lL{o:List Int}{L L':Nat→Bool}(h:∀i,i < o.length→L i=L' i):jS o L=jS o L':=by
 refine List.ext_getElem (by simp [jS]) fun j h1 h2=>?_;simp only [jS,List.length_mapIdx] at h1;simp only [jS,List.getElem_mapIdx,h j h1]
theorem wv{o:List Int}:jS o (fun _=>false)=o:=by
 refine List.ext_getElem (by simp [jS]) fun j h1 h2=>?_;simp [jS]
def uq(t:bR)(q:List (List Int))(d:Int)(i:Nat):Bool:=decide (∃l∈q,(i:Int)∈dO (nU t d) false l)
def nR(t:bR)(p:List (List Int)):Nat→List Int
 |0=>List.replicate t.2.1.length 0
 |n+1=>jS (nR t p n) (uq t (gq t p n) n)
theorem tu{t:bR}{p:List (List Int)}:∀n,(nR t p n).length=t.2.1.length∧∀v∈nR t p n,0≤v∧v≤(n:Int)
 |0=>⟨by simp [nR],fun v hv=>by simp only [nR,List.mem_replicate] at hv;omega⟩
 |n+1=>by
  obtain⟨h1,h2⟩:=tu (t:=t) (p:=p) n
  refine⟨by rw [nR,zI,h1],fun v hv=>?_⟩
  rw [nR,jS] at hv
  obtain⟨i,hi,rfl⟩:=List.mem_mapIdx.1 hv
  have:=h2 _ (List.getElem_mem hi)
  split <;> omega
theorem Dm{y:(List (List Int))×(List Int)×Int}(hy:y.2.1.length < k)(hy8:y.2.1.length≤8)(hv:∀v∈y.2.1,0≤v∧v≤1000){r:Int×List (List Int)}(hm:jT r.1){L:Nat→Bool}(hL:∀i:Nat,eu r.1 i↔L i=true):
 gC k y r k (y.2.1,0)=some (jS y.2.1 L):=by
 have hb:=W.loop (f:=gC k y r) (Q:=fun o=>o=jS y.2.1 L) (fun q z=>∃j:Nat,z.2=(j:Int)∧j≤y.2.1.length∧q=y.2.1.length - j∧z.1=jS y.2.1 (fun i=>decide (i < j) && L i)) (by
  rintro aQ q ⟨o,z⟩ ⟨j,hj,hle,hq,ho⟩ ih;simp only at hj ho;subst hj ho;unfold gC;dsimp only;refine W.ite (fun hlt=>?_) (fun hge=>W.ret ?_)
  ·have hj:j < y.2.1.length:=by omega
   have hvj:=hv _ (List.getElem_mem hj);rw [uv hm (by omega),bs];cases c:L j with
   |true=>
    rw [decide_eq_true ((hL j).2 c),iT,zJ hj (by simp),bs,bz (by omega) (by omega),bs,bs,bs,bz (by omega) (by omega),bs];refine ih (q - 1) (_,(j:Int)+1) (by omega) ⟨j+1,by show(j:Int)+1=((j+1:Nat):Int);omega,by omega,by omega,?_⟩;show List.set (jS _ _) j _=_;rw [zH hj];refine lL fun i _=>?_;by_cases e:i=j
    ·subst e;simp [c]
    ·have:decide (i < j+1)=decide (i < j):=decide_eq_decide.2 (by omega);simp [e,this]
   |false=>
    rw [decide_eq_false (fun h=>by have:=(hL j).1 h;rw [c] at this;cases this),iF,bs,bz (by omega) (by omega),bs];refine ih (q - 1) (_,(j:Int)+1) (by omega) ⟨j+1,by show(j:Int)+1=((j+1:Nat):Int);omega,by omega,by omega,?_⟩;simp only;refine lL fun i _=>?_;by_cases e:i=j
    ·subst e;simp [c]
    ·have:decide (i < j+1)=decide (i < j):=decide_eq_decide.2 (by omega);simp [this]
  ·have:j=y.2.1.length:=by omega
   subst this;exact lL fun i hi=>by simp [hi]) y.2.1.length k (y.2.1,0) hy ⟨0,rfl,by omega,by omega,by simp [wv]⟩
 obtain⟨o,eo,h⟩:=hb
 rw [eo,h]
theorem HA{t:bR}{p:List (List Int)}(h:At k t p):mI k t p=some (nR t p t.1.toNat,0):=by
 have h6:=h.good.g.days;have h5:=h.good.g.things;have hk:=h.dayT.k0;have hk1:=h.dayT.k1;unfold mI;rw [h.ok,bs,if_neg (not_not_intro rfl),lF hk,bs,dj (by exact⟨by omega,show Int.toNat (t.2.1.length:Int)≤4294967296 by omega⟩),bs]
 have hb:=W.loop (f:=iw k t) (Q:=fun r=>r=nR t p t.1.toNat) (fun q y=>∃j:Nat,y.2.2=(j:Int)∧(j:Int)≤t.1∧q=t.1.toNat - j∧y.1=ge (gq t p j)∧y.2.1=nR t p j) (by
  rintro aQ q ⟨o,c,y⟩ ⟨j,hj,hle,hq,ho,hc⟩ ih;simp only at hj ho hc;subst hj ho hc;unfold iw;dsimp only;refine W.ite (fun hlt=>?_) (fun hge=>W.ret ?_)
  ·obtain⟨r,er,h1,h2,h3⟩:=Ba h.dayT (h.good.aft j).fit (d:=(j:Int));obtain⟨a1,a2⟩:=tu (t:=t) (p:=p) j;rw [er,bs,Dm (y:=(ge (gq t p j),nR t p j,(j:Int))) (by show(nR t p j).length < k;omega) (by show(nR t p j).length≤8;omega) (fun v hv=>by have:=a2 v hv;omega) h2 (L:=uq t (gq t p j) (j:Int)) (fun i=>by rw [h3];unfold uq;simp),bs,bs,bz (by omega) (by omega),bs,h1];exact ih (q - 1) (_,_,(j:Int)+1) (by omega) ⟨j+1,by show(j:Int)+1=((j+1:Nat):Int);omega,by omega,by omega,rfl,rfl⟩
  ·have:t.1.toNat=j:=by omega
   rw [this]) t.1.toNat k (ge p,List.replicate (Int.toNat (t.2.1.length:Int)) 0,0) (by omega) ⟨0,rfl,by omega,by omega,rfl,rfl⟩
 obtain⟨r,er,rfl⟩:=hb;rw [er,bs]
end
section
variable {k:Nat}
theorem tU{l:List (List Int)}(h:l.length < k)(hk1:k≤1000000)(hx:∀x∈l,x.length < k):fP k l l=some true:=by
 unfold fP;rw [if_neg (by simp)]
 have hb:=W.loop (f:=eT k l l) (Q:=fun o=>o= .ok ()) (fun q y=>∃j:Nat,y=(j:Int)∧j≤l.length∧q=l.length - j) (by
  rintro aQ q y ⟨j,hj,hle,hq⟩ ih;subst hj;unfold eT;refine W.ite (fun hlt=>?_) (fun hge=>W.ret rfl);have hj:j < l.length:=by omega
  have hs:eI k l[j] l[j]=some true:=by rw [sR (hx _ (List.getElem_mem hj)) (by have:=hx _ (List.getElem_mem hj);omega)];simp
  rw [ct hj,bs,bs,hs,bs,nT,bz (by omega) (by omega),bs];exact ih (q - 1) _ (by omega) ⟨j+1,by omega,by omega,by omega⟩) l.length k 0 h ⟨0,rfl,by omega,by omega⟩
 obtain⟨o,eo,rfl⟩:=hb;rw [eo,m4]
theorem zy{l:List Int}(h:l.length≤1000000):jv k l=some l:=by
 unfold jv;rw [dj (MR (by simp only [List.length_nil];omega)),bs];rfl
theorem xu{l:List (List Int)}(h:l.length < k)(hk1:k≤1000000)(hx:∀x∈l,x.length≤1000000):iK k l=some l:=by
 unfold iK
 have hb:=W.loop (f:=eV k l) (Q:=fun o=>o=l) (fun q y=>∃j:Nat,y.2=(j:Int)∧j≤l.length∧q=l.length - j∧y.1=l.take j) (by
  rintro aQ q ⟨o,y⟩ ⟨j,hj,hle,hq,ho⟩ ih;simp only at hj ho;subst hj ho;unfold eV;dsimp only;refine W.ite (fun hlt=>?_) (fun hge=>W.ret ?_)
  ·have hj:j < l.length:=by omega
   rw [ct hj,bs,zy (hx _ (List.getElem_mem hj)),bs,dj (MR (by simp only [List.length_take,List.length_cons,List.length_nil];omega)),bs,bz (by omega) (by omega),bs];refine ih (q - 1) (_,(j:Int)+1) (by omega) ⟨j+1,by show(j:Int)+1=((j+1:Nat):Int);omega,by omega,by omega,?_⟩;rw [List.take_add_one,List.getElem?_eq_getElem hj];rfl
  ·rw [List.take_of_length_le (by omega)]) l.length k ([],0) h ⟨0,rfl,by omega,by omega,by simp⟩
 obtain⟨o,eo,rfl⟩:=hb;rw [eo,bs]
theorem CP{r3:a8×(List (List Int))×Bool×bI}(h:At k r3.1 r3.2.1){n:Nat}(hn:(n:Int)≤r3.1.1){y:(List Int)×Int×(List (List Int))×Int}(hy:y.2.2.1=gq r3.1 r3.2.1 n)(hy2:y.2.2.2=(n:Int)){i:Nat}(hi:i < (gq r3.1 r3.2.1 n).length):
 d5 k r3 y (i:Int) k 0=some (.ok ()):=by
 have hf:=(h.good.aft n).fit
 have hl5:=(hf.fit _ (List.getElem_mem hi)).1
 have hk:=h.dayT.k0
 have hg:aZ y.2.2.1 (i:Int)=some (gq r3.1 r3.2.1 n)[i]:=by rw [hy];exact ct hi
 have hb:=W.loop (f:=d5 k r3 y (i:Int)) (Q:=fun o=>o= .ok ()) (fun q z=>∃j:Nat,z=(j:Int)∧j≤(gq r3.1 r3.2.1 n)[i].length∧q=(gq r3.1 r3.2.1 n)[i].length - j) (by
  rintro aQ q z ⟨j,hj,hle,hq⟩ ih;subst hj;unfold d5;rw [hg,bs];refine W.ite (fun hlt=>?_) (fun hge=>W.ret rfl);have hj:j < (gq r3.1 r3.2.1 n)[i].length:=by omega
  rw [bs,ct hj,bs,hy2,Hm h hn hi hj,bs];dsimp only;rw [if_neg (not_not_intro rfl),if_neg (not_not_intro rfl),bs,bz (by omega) (by omega),bs,bz (by omega) (by omega),bs,bs,decide_eq_true rfl,Bool.not_true,iF,bz (by omega) (by omega),bs];exact ih (q - 1) _ (by omega) ⟨j+1,by omega,by omega,by omega⟩) (gq r3.1 r3.2.1 n)[i].length k 0 (by omega) ⟨0,rfl,by omega,by omega⟩
 obtain⟨o,eo,rfl⟩:=hb
 rw [eo]
theorem CQ{r3:a8×(List (List Int))×Bool×bI}(h:At k r3.1 r3.2.1){n:Nat}(hn:(n:Int)≤r3.1.1){y:(List Int)×Int×(List (List Int))×Int}(hy:y.2.2.1=gq r3.1 r3.2.1 n)(hy2:y.2.2.2=(n:Int)):
 d6 k r3 y k 0=some (.ok ()):=by
 have hl:=(h.good.aft n).fit.len
 have hk:=h.dayT.k0
 have hb:=W.loop (f:=d6 k r3 y) (Q:=fun o=>o= .ok ()) (fun q z=>∃j:Nat,z=(j:Int)∧j≤(gq r3.1 r3.2.1 n).length∧q=(gq r3.1 r3.2.1 n).length - j) (by
  rintro aQ q z ⟨j,hj,hle,hq⟩ ih;subst hj;unfold d6;rw [hy];refine W.ite (fun hlt=>?_) (fun hge=>W.ret rfl);have hj:j < (gq r3.1 r3.2.1 n).length:=by omega
  rw [CP h hn hy hy2 hj,m4,bz (by omega) (by omega),bs];exact ih (q - 1) _ (by omega) ⟨j+1,by omega,by omega,by omega⟩) (gq r3.1 r3.2.1 n).length k 0 (by omega) ⟨0,rfl,by omega,by omega⟩
 obtain⟨o,eo,rfl⟩:=hb
 rw [eo]
theorem D6{r3:a8×(List (List Int))×Bool×bI}{r44:(List Int)×(List (List Int))×Int}{o:List Int}(hk:50≤k)(ho:o.length=r3.1.2.1.length)(h8:o.length≤8)(hv:∀v∈o,0≤v∧v≤1000){q:List (List Int)}{d:Int}(hr:r44.1=ib r3.1 q d):
 d4 k r3 r44 k (o,0)=some (.ok (jS o (uq r3.1 q d))):=by
 have hlen:r44.1.length≤8:=by
  rw [hr,ib,List.length_map];refine Nat.le_trans (List.length_filter_le _ _) ?_;rw [List.length_range];omega
 have hnd:r44.1.Nodup:=by
  rw [hr,ib];refine List.Pairwise.map _ (fun a b hab=>?_) (List.nodup_range.filter _);omega
 have hmem:∀i:Nat,(i:Int)∈r44.1↔i < o.length∧uq r3.1 q d i=true:=fun i=>by
  rw [hr,ib,ho];simp only [List.mem_map,List.mem_filter,List.mem_range];constructor
  ·rintro⟨j,h,e⟩;have:j=i:=by omega
   subst this;exact h
  ·intro h;exact⟨i,h,rfl⟩
 have hall:∀x∈r44.1,∃i:Nat,x=(i:Int)∧i < o.length:=fun x hx=>by
  have hx':=hx;rw [hr,ib] at hx;obtain⟨i,_,rfl⟩:=List.mem_map.1 hx;exact⟨i,rfl,((hmem i).1 hx').1⟩
 have hb:=W.loop (f:=d4 k r3 r44) (Q:=fun z=>z= .ok (jS o (uq r3.1 q d))) (fun qq z=>∃j:Nat,z.2=(j:Int)∧j≤r44.1.length∧qq=r44.1.length - j∧z.1=jS o (fun i=>decide ((i:Int)∈r44.1.take j))) (by
  rintro aQ qq ⟨c,z⟩ ⟨j,hj,hle,hq,hc⟩ ih;simp only at hj hc;subst hj hc;unfold d4;dsimp only;refine W.ite (fun hlt=>?_) (fun hge=>W.ret ?_)
  ·have hj:j < r44.1.length:=by omega
   obtain⟨i,ei,hi⟩:=hall _ (List.getElem_mem hj);have hvi:=hv _ (List.getElem_mem hi)
   have hno:¬(i:Int)∈r44.1.take j:=fun hm=>by
    obtain⟨a,ha,e⟩:=List.getElem_of_mem hm;rw [List.getElem_take] at e;rw [List.length_take] at ha;have:=(List.getElem_inj hnd).1 (e.trans ei.symm);omega
   rw [ct hj,bs,ei,if_neg (show¬(i:Int) < 0 by omega),bs,bs,decide_eq_false (show¬((r3.1.2.1.length:Int)≤(i:Int)) by omega),iF,bs,zJ hi (by exact decide_eq_false hno),bs,bz (by omega) (by omega),bs,bs,bz (by omega) (by omega),bs];refine ih (qq - 1) (_,(j:Int)+1) (by omega) ⟨j+1,by show(j:Int)+1=((j+1:Nat):Int);omega,by omega,by omega,?_⟩;show List.set (jS _ _) i _=_;rw [zH hi];refine lL fun a _=>?_;rw [List.take_add_one,List.getElem?_eq_getElem hj,ei];have:((a:Int)=(i:Int))↔a=i:=by omega
   simp only [Option.toList_some,List.mem_append,List.mem_singleton,this,Bool.decide_or]
  ·have:j=r44.1.length:=by omega
   subst this;rw [List.take_length];refine congrArg Except.ok (lL fun i hi=>?_);cases c:uq r3.1 q d i with
   |true=>exact decide_eq_true ((hmem i).2 ⟨hi,c⟩)
   |false=>exact decide_eq_false fun h=>by have:=((hmem i).1 h).2;rw [c] at this;cases this) r44.1.length k (o,0) (by omega) ⟨0,rfl,by omega,by omega,by simp [wv]⟩
 obtain⟨z,ez,rfl⟩:=hb
 rw [ez]
theorem uX(hk:50≤k)(hk1:k≤1000000)(hp:jJ k=some true)(a0:List Int):kP k a0=some true:=by
 unfold kP;rw [show ma k a0=some (a0,0,1) from rfl,bs];obtain⟨r3,e3,hg,his,_⟩:=If hk hk1 (l:=(a0,0,1)) (m:=0) ⟨by simp,by simp⟩ (by decide) (a:=5) (by decide);rw [show mT k (a0,0,1) 5=some r3 from e3,bs,his];by_cases c:kJ r3.1 r3.2.1=0
 ·rw [decide_eq_true c,nT];have h:At k r3.1 r3.2.1:=hg.at hk hk1 (by decide) c;have h6:=h.good.g.days;have h5:=h.good.g.things;obtain⟨o1,o2⟩:=tu (t:=r3.1) (p:=r3.2.1) r3.1.1.toNat;rw [HB h,bs,HA h,bs];dsimp only
  rw [if_neg (not_not_intro rfl),if_neg (not_not_intro rfl),bs,decide_eq_true (show((nR r3.1 r3.2.1 r3.1.1.toNat).length:Int)=(r3.1.2.1.length:Int) by omega),Bool.not_true,iF,dj (by exact⟨by omega,show Int.toNat (r3.1.2.1.length:Int)≤4294967296 by omega⟩),bs,
   xu (by have:=h.good.fit.len;omega) hk1 (fun x hx=>by have:=(h.good.fit.fit x hx).1;omega),bs]
  have hb:=W.loop (f:=eh k r3) (Q:=fun o=>o= .ok (nR r3.1 r3.2.1 r3.1.1.toNat,((nN r3.1 r3.1.1.toNat 0 r3.2.1:Nat):Int))) (fun q y=>∃(j:Nat) (s:Nat),y.2.2.2=(j:Int)∧(j:Int)≤r3.1.1∧q=r3.1.1.toNat - j∧y.1=nR r3.1 r3.2.1 j∧y.2.1=(s:Int)∧y.2.2.1=gq r3.1 r3.2.1 j∧s+nN r3.1 (r3.1.1.toNat - j) (j:Int) (gq r3.1 r3.2.1 j)=nN r3.1 r3.1.1.toNat 0 r3.2.1∧s≤100 * j) (by
   rintro aQ q ⟨o,s',p,y⟩ ⟨j,s,hj,hle,hq,ho,hs,hpp,hsum,hsb⟩ ih;simp only at hj ho hs hpp;subst hj ho hs hpp;have ha:=h.aft j;have hf:=ha.good.fit;have hw:=CQ h (n:=j) hle (y:=(nR r3.1 r3.2.1 j,(s:Int),gq r3.1 r3.2.1 j,(j:Int))) rfl rfl;unfold eh;dsimp only;refine W.ite (fun hlt=>?_) (fun hge=>absurd hle hge);rw [zT h hle,bs];dsimp only;rw [if_neg (not_not_intro rfl),tU (by have:=hf.len;omega) hk1 (fun x hx=>by have:=(hf.fit x hx).1;omega),bs,bs,Bool.not_true,iF,hw,m4];refine W.ite (fun he=>W.ret ?_) (fun hne=>?_)
   ·have e1:r3.1.1.toNat=j:=by omega
    have e2:r3.1.1.toNat - j=0:=by omega
    rw [e2] at hsum
    have e0:∀(q:List (List Int)) (d:Int),nN r3.1 0 d q=0:=by
     intro q d;unfold nN
     induction q with
     |nil=>rfl
     |cons l q ih=>simp only [List.map_cons,List.sum_cons,ta,Nat.zero_add];exact ih
    rw [e0] at hsum;rw [←hsum,e1];rfl
   ·have hlen:(ib r3.1 (gq r3.1 r3.2.1 j) (j:Int)).length≤5:=by
     rw [ib,List.length_map];refine Nat.le_trans (List.length_filter_le _ _) ?_;rw [List.length_range];omega
    have hlen':(ib r3.1 (gq r3.1 r3.2.1 j) (j:Int)).length≤r3.1.2.1.length:=by
     rw [ib,List.length_map];refine Nat.le_trans (List.length_filter_le _ _) ?_;rw [List.length_range];omega
    obtain⟨a1,a2⟩:=tu (t:=r3.1) (p:=r3.2.1) j;rw [MJ h.dayT h.small ha.chk (d:=(j:Int)) ⟨by omega,by omega⟩,bs];dsimp only;have hn:=(h.aft (j+1)).okR
    rw [if_neg (not_not_intro rfl),if_neg (show¬((r3.1.2.1.length:Int) < ((ib r3.1 (gq r3.1 r3.2.1 j) (j:Int)).length:Int)) by omega),
     show cY k r3.1 ((gq r3.1 r3.2.1 j).map (xP (nU r3.1 (j:Int))))=some 0 from hn,bs,bs,decide_eq_true rfl,Bool.not_true,iF,
     D6 hk (o:=nR r3.1 r3.2.1 j) (by omega) (by omega) (fun v hv=>by have:=a2 v hv;omega) (q:=gq r3.1 r3.2.1 j) (d:=(j:Int)) rfl,m4,bz (by omega) (by omega),bs,bz (by omega) (by omega),bs]
    refine ih (q - 1) _ (by omega) ⟨j+1,s+(ib r3.1 (gq r3.1 r3.2.1 j) (j:Int)).length,by show(j:Int)+1=((j+1:Nat):Int);omega,by omega,by omega,rfl,by show(s:Int)+_=_;omega,rfl,?_,by omega⟩;have e1:r3.1.1.toNat - j=(r3.1.1.toNat - (j+1))+1:=by omega
    rw [e1,C3,←za ha.good] at hsum;rw [←hsum,Nat.add_assoc];rfl) r3.1.1.toNat k (List.replicate (Int.toNat (r3.1.2.1.length:Int)) 0,0,r3.2.1,0) (by omega) ⟨0,0,rfl,by omega,by omega,rfl,rfl,rfl,by simp [gq],by omega⟩
  obtain⟨o,eo,rfl⟩:=hb;rw [show eh k r3 k (List.replicate (Int.toNat (r3.1.2.1.length:Int)) 0,0,r3.2.1,0)=_ from eo,m4];dsimp only;rw [if_pos rfl,sR (by omega) (by omega),bs,decide_eq_true rfl,iT,hp,bs,bs]
 ·rw [decide_eq_false c,nF,hg.checkP hk hk1 (by decide),bs,if_pos c,hp,bs,bs]
end
end Go.Proofs.YtcnpijmfgfnpiaaGreatDoor
