import Derived.Test.YtghkncjelangeaaGreatDoorQCB11
set_option linter.unusedVariables false
set_option linter.unusedSimpArgs false
namespace Go.Proofs.YtghkncjelangeaaGreatDoor
open K Go Go.Proofs
section
variable {k:Nat}
theorem F3{t:bZ}(h:yQ k t){x:Int}(hx:0≤x∧x < (t.2.1.length:Int)){d:Int}:o4 k t x d=some (pP t d x):=by
 obtain⟨n,rfl⟩:∃n:Nat,x=(n:Int):=⟨x.toNat,by omega⟩;have hn:n < t.2.1.length:=by omega
 unfold o4;rw [cg hn,bs,H4 (h.worn _ (List.getElem_mem hn)) h.k1,bs];congr 1;unfold pP;rw [Int.toNat_natCast,List.getElem?_eq_getElem hn]
theorem Fp{t:bZ}(h:yQ k t){d:Int}{l:List Int}(hl9:l.length≤1000)(hx:∀x∈l,0≤x∧x < (t.2.1.length:Int)):∀(m pre:List Int) (n:Nat) (lf rs tp:List Int),l=pre++m→m.length < n→lf.length+rs.length+tp.length+2 * m.length≤10000→
 jJ k t l d n (lf,rs,tp,(pre.length:Int))=some (lf++eT (pP t d) (decide (0 < tp.length)) m,rs++m.filter (fun x=> !pP t d x),tp++m.filter (pP t d)):=by
 intro m
 induction m with
 |nil=>
  intro pre n lf rs tp e hn _;obtain⟨n,rfl⟩:∃n',n=n'+1:=⟨n - 1,by omega⟩;rw [jJ];dsimp only;rw [if_neg (by rw [e];simp)];simp [eT]
 |cons x m ih=>
  intro pre n lf rs tp e hn hb;simp only [List.length_cons] at hn hb;obtain⟨n,rfl⟩:∃n',n=n'+1:=⟨n - 1,by omega⟩;have hp:pre.length < l.length:=by rw [e];simp
  have hg:aQ l (pre.length:Int)=some x:=by rw [cg hp];simp [e]
  have hxl:=hx x (by rw [e];simp);have ep:(pre.length:Int)+1=((pre++[x]).length:Int):=by simp
  rw [jJ];dsimp only;rw [if_pos (by omega),hg,bs,F3 h hxl,bs];cases c:pP t d x with
  |true=>
   rw [iT,bs,cZ (A8 (n:=10000) (by omega) (by omega)),bs,bs];dsimp only;rw [bB (by omega) (by omega),bs,ep,ih (pre++[x]) n lf rs (tp++[x]) (by simp [e]) (by omega) (by simp only [List.length_append,List.length_cons,List.length_nil];omega)];simp [eT,c]
  |false=>
   rw [iF,bs,cZ (A8 (n:=10000) (by omega) (by omega)),bs];by_cases c2:0 < tp.length
   ·rw [if_pos (by omega),bs,cZ (A8 (n:=10000) (by omega) (by omega)),bs,bs];dsimp only;rw [bB (by omega) (by omega),bs,ep,ih (pre++[x]) n (lf++[x]) (rs++[x]) tp (by simp [e]) (by omega) (by simp only [List.length_append,List.length_cons,List.length_nil];omega)];simp [eT,c,c2]
   ·rw [if_neg (by omega),bs];dsimp only;rw [bB (by omega) (by omega),bs,ep,ih (pre++[x]) n lf (rs++[x]) tp (by simp [e]) (by omega) (by simp only [List.length_append,List.length_cons,List.length_nil];omega)];simp [eT,c,c2]
theorem KW{t:bZ}(h:yQ k t){d:Int}{l:List Int}(hl:l.length < k)(hl9:l.length≤1000)(hx:∀x∈l,0≤x∧x < (t.2.1.length:Int)):rN k t l d=some (eT (pP t d) false l,zO (pP t d) l):=by
 unfold rN;have e:=Fp h (d:=d) hl9 hx l [] k [] [] [] rfl hl (by simp only [List.length_nil];omega);rw [show((0:Int))=(([]:List Int).length:Int) from rfl,e,bs];have h1:=List.length_filter_le (fun x=> !pP t d x) l;have h2:=List.length_filter_le (pP t d) l;dsimp only;rw [cZ (LM (by simp only [List.nil_append];omega)),bs];rfl
theorem FC{o:List Int}{L L':Nat→Bool}(h:∀i,i < o.length→L i=true→L' i=false):iW (iW o L) L'=iW o (fun i=>L i || L' i):=by
 refine List.ext_getElem (by simp [iW]) fun j h1 h2=>?_;simp only [iW,List.length_mapIdx] at h1;simp only [iW,List.getElem_mapIdx];have:=h j h1;by_cases c:L j=true
 ·simp [c,this c]
 ·simp [c]
theorem D4{o:List Int}{L:Nat→Bool}{m:Int}(h:∀v∈o,0≤v∧v≤m):∀v∈iW o L,0≤v∧v≤m+1:=fun v hv=>by
 unfold iW at hv
 obtain⟨i,hi,rfl⟩:=List.mem_mapIdx.1 hv
 have:=h _ (List.getElem_mem hi)
 split <;> omega
theorem GI{r:(List Int)×(List Int)}(hn:r.1.Nodup){o:List Int}(hr:∀x∈r.1,0≤x∧x < (o.length:Int))(h8:r.1.length < k)(h9:r.1.length≤1000)(hv:∀v∈o,0≤v∧v≤1000):
 iO k r k (o,0)=some (iW o (fun i=>decide ((i:Int)∈r.1))):=by
 have hall:∀x∈r.1,∃i:Nat,x=(i:Int)∧i < o.length:=fun x hx=>⟨x.toNat,by have:=hr x hx;omega,by have:=hr x hx;omega⟩
 have hb:=W.loop (f:=iO k r) (Q:=fun z=>z=iW o (fun i=>decide ((i:Int)∈r.1))) (fun qq z=>∃j:Nat,z.2=(j:Int)∧j≤r.1.length∧qq=r.1.length - j∧z.1=iW o (fun i=>decide ((i:Int)∈r.1.take j))) (by
  rintro aX qq ⟨c,z⟩ ⟨j,hj,hle,hq,hc⟩ ih;simp only at hj hc;subst hj hc;unfold iO;dsimp only;refine W.ite (fun hlt=>?_) (fun hge=>W.ret ?_)
  ·have hj:j < r.1.length:=by omega
   obtain⟨i,ei,hi⟩:=hall _ (List.getElem_mem hj);have hvi:=hv _ (List.getElem_mem hi)
   have hno:¬(i:Int)∈r.1.take j:=fun hm=>by
    obtain⟨a,ha,e⟩:=List.getElem_of_mem hm;rw [List.getElem_take] at e;rw [List.length_take] at ha;have:=(List.getElem_inj hn).1 (e.trans ei.symm);omega
   rw [cg hj,bs,bs,ei,IP hi (by exact decide_eq_false hno),bs,bB (by omega) (by omega),bs,bs,bB (by omega) (by omega),bs];refine ih (qq - 1) (_,(j:Int)+1) (by omega) ⟨j+1,by show(j:Int)+1=((j+1:Nat):Int);omega,by omega,by omega,?_⟩;show List.set (iW _ _) i _=_;rw [IO hi];refine vS fun a _=>?_;rw [List.take_add_one,List.getElem?_eq_getElem hj,ei];simp only [Option.toList_some,List.mem_append,List.mem_cons,List.not_mem_nil,or_false];by_cases ea:a=i
   ·subst ea;simp
   ·have:¬(a:Int)=(i:Int):=by omega
    simp [ea,this]
  ·have:j=r.1.length:=by omega
   subst this;rw [List.take_of_length_le (Nat.le_refl _)]) r.1.length k (o,0) h8 ⟨0,rfl,by omega,by omega,by simp [xB]⟩
 obtain⟨o',eo,h⟩:=hb
 rw [eo,h]
def aftD(t:bZ)(d:Int)(p:List (List Int)):Nat→List (List Int)
 |0=>p
 |n+1=>vK t (d+n) (aftD t d p n)
def vi(t:bZ)(d:Int)(p:List (List Int)):Nat→List Int
 |0=>List.replicate t.2.1.length 0
 |n+1=>iW (vi t d p n) (HQ t (aftD t d p n) (d+n))
theorem jj.aftD{t:bZ}{p:List (List Int)}(h:jj t p){d:Int}:∀n,jj t (aftD t d p n)
 |0=>h
 |n+1=>(h.aftD n).next
theorem Dt{t:bZ}{d:Int}{p:List (List Int)}:∀n,(vi t d p n).length=t.2.1.length∧∀v∈vi t d p n,0≤v∧v≤(n:Int)
 |0=>⟨by simp [vi],fun v hv=>by simp only [vi,List.mem_replicate] at hv;omega⟩
 |n+1=>by
  obtain⟨h1,h2⟩:=Dt (t:=t) (d:=d) (p:=p) n
  refine⟨by rw [vi,vR,h1],fun v hv=>?_⟩
  have:=D4 h2 v hv
  omega
theorem CX{t:bZ}{p:List (List Int)}:∀n,aftD t 0 p n=qA t p n
 |0=>rfl
 |n+1=>by rw [aftD,qA,CX n,Int.zero_add]
theorem Fo{t:bZ}(h:yQ k t){q:List (List Int)}(hg:jj t q){y:(List Int)×(List (List Int))×Int}(hy:y.2.1=q){o:List Int}(ho:o.length=t.2.1.length)(hv:∀v∈o,0≤v∧v≤900):
 iP k t y k (o,[],0)=some (iW o (HQ t q y.2.2),vK t y.2.2 q):=by
 have hf:=hg.fit
 have hk:=h.k0
 have hk1:=h.k1
 have hlen:=hf.len
 subst hy
 have hb:=W.loop (f:=iP k t y) (Q:=fun z=>z=(iW o (HQ t y.2.1 y.2.2),vK t y.2.2 y.2.1)) (fun qq z=>∃j:Nat,z.2.2=(j:Int)∧j≤y.2.1.length∧qq=y.2.1.length - j∧z.1=iW o (fun i=>decide (∃l∈y.2.1.take j,(i:Int)∈eT (pP t y.2.2) false l))∧z.2.1=(y.2.1.take j).map (zO (pP t y.2.2))) (by
  rintro aX qq ⟨c,u,z⟩ ⟨j,hj,hle,hq,hc,hu⟩ ih;simp only at hj hc hu;subst hj hc hu;unfold iP;dsimp only;refine W.ite (fun hlt=>?_) (fun hge=>W.ret ?_)
  ·have hj:j < y.2.1.length:=by omega
   have hmem:y.2.1[j]∈y.2.1:=List.getElem_mem hj;have hr5:=(hf.fit _ hmem).1;have hnd:(y.2.1[j]).Nodup:=(List.pairwise_flatten.1 hg.nd).1 _ hmem;have hrg:∀x∈y.2.1[j],0≤x∧x < (t.2.1.length:Int):=fun x hx=>hg.rng x (List.mem_flatten.2 ⟨_,hmem,hx⟩);have hll:(eT (pP t y.2.2) false y.2.1[j]).length≤8:=vb 8 _ (k7 hnd) (fun x hx=>by have:=hrg x (ny hx);have:=h.things;omega)
   rw [cg hj,bs,KW h (by omega) (by omega) hrg,bs,
    GI (k:=k) (r:=(eT (pP t y.2.2) false y.2.1[j],zO (pP t y.2.2) y.2.1[j])) (k7 hnd) (fun x hx=>by have:=hrg x (ny hx);rw [vR];omega) (by show(eT _ _ _).length < k;omega) (by show(eT _ _ _).length≤1000;omega) (fun v hv'=>by have:=D4 hv v hv';omega),bs,
    cZ (A8 (n:=100) (by rw [List.length_map,List.length_take];omega) (by omega)),bs,bs]
   dsimp only;rw [bB (by omega) (by omega),bs];refine ih (qq - 1) (_,_,(j:Int)+1) (by omega) ⟨j+1,by show(j:Int)+1=((j+1:Nat):Int);omega,by omega,by omega,?_,?_⟩
   ·show iW (iW _ _) _=_;rw [FC]
    ·refine vS fun i _=>?_;rw [List.take_add_one,List.getElem?_eq_getElem hj,←Bool.decide_or];refine decide_eq_decide.2 ?_;simp only [Option.toList_some,List.mem_append,List.mem_cons,List.not_mem_nil,or_false];constructor
     ·rintro(⟨l,hl,h⟩ |h)
      ·exact⟨l,.inl hl,h⟩
      ·exact⟨_,.inr rfl,h⟩
     ·rintro⟨l,hl |rfl,h⟩
      ·exact .inl ⟨l,hl,h⟩
      ·exact .inr h
    ·intro i _ hi;refine decide_eq_false fun hi'=>?_;obtain⟨l,hl,hil⟩:=of_decide_eq_true hi;obtain⟨a,ha,rfl⟩:=List.getElem_of_mem hl;rw [List.length_take] at ha;rw [List.getElem_take] at hil;have:=td hg.nd (i:=a) (i':=j) (by omega) hj (ny hil) (ny hi');omega
   ·show(List.map _ _++[_])=_;rw [List.take_add_one,List.getElem?_eq_getElem hj,List.map_append];rfl
  ·have:j=y.2.1.length:=by omega
   subst this;rw [List.take_of_length_le (Nat.le_refl _)];rfl) y.2.1.length k (o,[],0) (by omega) ⟨0,rfl,by omega,by omega,by simp [xB],rfl⟩
 obtain⟨o',eo,h⟩:=hb
 rw [eo,h]
theorem A2{t:bZ}(h:yQ k t){p:List (List Int)}(hg:jj t p){d a:Int}{n:Nat}(hd:0≤d∧d≤100)(hn:n≤40)(ha:a=d+n):np k t p d a=some (vi t d p n,aftD t d p n):=by
 have hk:=h.k0;have hk1:=h.k1;have h5:=h.things;unfold np;rw [cZ (by exact⟨by omega,show Int.toNat (t.2.1.length:Int)≤4294967296 by omega⟩),bs]
 have hb:=W.loop (f:=jR k t a) (Q:=fun z=>z=(vi t d p n,aftD t d p n)) (fun qq z=>∃j:Nat,z.2.2=d+(j:Int)∧j≤n∧qq=n - j∧z.1=vi t d p j∧z.2.1=aftD t d p j) (by
  rintro aX qq ⟨c,u,z⟩ ⟨j,hj,hle,hq,hc,hu⟩ ih;simp only at hj hc hu;subst hj hc hu;unfold jR;dsimp only;refine W.ite (fun hlt=>?_) (fun hge=>W.ret ?_)
  ·obtain⟨o1,o2⟩:=Dt (t:=t) (d:=d) (p:=p) j;rw [Fo h (hg.aftD j) (y:=(vi t d p j,aftD t d p j,d+(j:Int))) rfl o1 (fun v hv=>by have:=o2 v hv;omega),bs,bs];dsimp only;rw [bB (by omega) (by omega),bs];exact ih (qq - 1) (_,_,d+(j:Int)+1) (by omega) ⟨j+1,by show d+(j:Int)+1=d+((j+1:Nat):Int);omega,by omega,by omega,rfl,rfl⟩
  ·have:j=n:=by omega
   rw [this]) n k (List.replicate (Int.toNat (t.2.1.length:Int)) 0,p,d) (by omega) ⟨0,by show d=d+0;omega,by omega,by omega,by show List.replicate _ _=List.replicate _ _;rw [Int.toNat_natCast],rfl⟩
 obtain⟨o',eo,h⟩:=hb;rw [eo,bs,h]
end
structure gl(k:Nat)(t:bZ)(p:List (List Int)):Prop where
 k0:50≤k
 hs:ie k t
 hp:p.length < k
 hl:∀l∈p,l.length < k
section
variable {k:Nat}{t:bZ}{p:List (List Int)}
theorem gl.dayT(h:gl k t p)(c:lu t=0):yQ k t:=⟨h.k0,h.hs.k1,by have:=(uC c).things;omega,h.hs.worn⟩
theorem gl.at(h:gl k t p)(c:gX t p=0):At k t p:=⟨h.hs,h.dayT (DZ c),c⟩
theorem gl.trk(h:gl k t p):co k t p=some (gX t p):=vO h.hs (by have:=h.k0;omega) h.hl
theorem gl.ref(h:gl k t p):ft k t p=some (gX t p):=CQ h.hs h.k0 h.hl
theorem gl.asked(h:gl k t p)(b:Bool):iq k t p b=some (if gX t p=0 then if b=true then 0 else 3 else gX t p):=by
 unfold iq;rw [h.ref,bs];by_cases c:gX t p=0
 ·rw [if_neg (not_not_intro c),if_pos c];cases b <;> rfl
 ·rw [if_pos c,if_neg c]
theorem gl.askedT(h:gl k t p)(c:gX t p=0):iq k t p true=some 0:=by rw [h.asked,if_pos c];rfl
theorem gl.askedF(h:gl k t p)(c:gX t p=0):iq k t p false=some 3:=by rw [h.asked,if_pos c];rfl
theorem gl.askedE(h:gl k t p)(c:¬gX t p=0)(b:Bool):iq k t p b=some (gX t p):=by rw [h.asked,if_neg c]
def rj(k:Nat)(q:List (List Int)):Prop:=q.length < k∧∀l∈q,l.length < k
theorem jj.short(hk:50≤k)(h:jj t p):rj k p:=⟨by have:=h.fit.len;omega,fun l hl=>by have:=(h.fit.fit l hl).1;omega⟩
theorem rj.nil(hk:50≤k):rj k []:=⟨by show 0 < k;omega,fun _ h=>by cases h⟩
theorem C6(h:gl k t p)(d:Int):∃r,gB k t p d=some r∧kD k t p d=some r∧rj k r.1:=by
 have hk:=h.k0;by_cases c:gX t p=0
 ·have g:=sf c;have h6:=g.g.days;have a:=h.at c;by_cases hd:0≤d∧d≤t.1
  ·obtain⟨n,rfl⟩:∃n:Nat,d=(n:Int):=⟨d.toNat,by omega⟩;refine⟨_,A6 a hd.2,?_,(g.aft n).short hk⟩;unfold kD;rw [gK,bs,decide_eq_true hd,h.askedT c,bs,if_neg (not_not_intro rfl),A2 a.dayT g (d:=0) (n:=n) (by omega) (by omega) (by omega),bs,CX]
  ·refine⟨([],3),?_,?_,.nil hk⟩
   ·unfold gB;rw [h.trk,bs,if_neg (not_not_intro c),gu,bs,decide_eq_false hd,nF]
   ·unfold kD;rw [gK,bs,decide_eq_false hd,h.askedF c,bs,if_pos (by decide)]
 ·refine⟨([],gX t p),?_,?_,.nil hk⟩
  ·unfold gB;rw [h.trk,bs,if_pos c]
  ·unfold kD;rw [gK,bs,h.askedE c,bs,if_pos c]
theorem wh{x:Int}{r:(List Int)×(List (List Int))}{y:Int×Int×Int}{i:Nat}(hy:y.2.2=(i:Int))(hi:i < r.2.length)(hn:(r.2[i]).Nodup)(h8:(r.2[i]).length < k)(h9:(r.2[i]).length≤1000):
 hH k x r y k (y.1,y.2.1,0)=some (if x∈r.2[i] then((i:Int),((r.2[i]).length:Int) - 1 - oL r.2[i] x) else(y.1,y.2.1)):=by
 have hg:aQ r.2 y.2.2=some r.2[i]:=by rw [hy];exact cg hi
 have hb:=W.loop (f:=hH k x r y) (Q:=fun z=>z=if x∈r.2[i] then((i:Int),((r.2[i]).length:Int) - 1 - oL r.2[i] x) else(y.1,y.2.1)) (fun qq z=>∃j:Nat,z.2.2=(j:Int)∧j≤(r.2[i]).length∧qq=(r.2[i]).length - j∧(z.1,z.2.1)=if x∈(r.2[i]).take j then((i:Int),((r.2[i]).length:Int) - 1 - oL r.2[i] x) else(y.1,y.2.1)) (by
  rintro aX qq ⟨u,v,z⟩ ⟨j,hj,hle,hq,hc⟩ ih;simp only at hj hc;subst hj;unfold hH;dsimp only;rw [hg,bs];refine W.ite (fun hlt=>?_) (fun hge=>W.ret ?_)
  ·have hj:j < (r.2[i]).length:=by omega
   rw [bs,cg hj,bs];by_cases e:(r.2[i])[j]=x
   ·rw [if_pos e,bs,bB (by omega) (by omega),bs,bB (by omega) (by omega),bs,bs];dsimp only;rw [bB (by omega) (by omega),bs];refine ih (qq - 1) (_,_,(j:Int)+1) (by omega) ⟨j+1,by show(j:Int)+1=((j+1:Nat):Int);omega,by omega,by omega,?_⟩;have hm:x∈(r.2[i]).take (j+1):=by rw [List.take_add_one,List.getElem?_eq_getElem hj,e];simp
    have hx:oL r.2[i] x=(j:Int):=by rw [←e];exact tI hn hj
    simp only;rw [if_pos hm,hx,hy]
   ·rw [if_neg e,bs];dsimp only;rw [bB (by omega) (by omega),bs];refine ih (qq - 1) (_,_,(j:Int)+1) (by omega) ⟨j+1,by show(j:Int)+1=((j+1:Nat):Int);omega,by omega,by omega,?_⟩;simp only;rw [hc]
    have hm:x∈(r.2[i]).take (j+1)↔x∈(r.2[i]).take j:=by
     rw [List.take_add_one,List.getElem?_eq_getElem hj];rw [List.mem_append,Option.toList_some,List.mem_singleton];exact⟨fun h=>h.resolve_right fun h=>e h.symm,.inl⟩
    simp only [hm]
  ·have:j=(r.2[i]).length:=by omega
   subst this;rw [List.take_of_length_le (Nat.le_refl _)] at hc;exact hc) (r.2[i]).length k (y.1,y.2.1,0) h8 ⟨0,rfl,by omega,by omega,by simp⟩
 obtain⟨o,eo,h⟩:=hb
 rw [eo,h]
theorem Es{q:List (List Int)}(hq:q.flatten.Nodup)(hs:rj k q)(h9:q.length≤1000)(hl9:∀l∈q,l.length≤1000){r:(List Int)×(List (List Int))}(hr:r.2=q){i j:Nat}(hi:i < q.length)(hj:j < (q[i]).length):
 hP k (q[i])[j] r k (0,0,0)=some ((i:Int),((q[i]).length:Int) - 1 - (j:Int)):=by
 subst hr
 have hb:=W.loop (f:=hP k (r.2[i])[j] r) (Q:=fun z=>z=((i:Int),((r.2[i]).length:Int) - 1 - (j:Int))) (fun qq z=>∃a:Nat,z.2.2=(a:Int)∧a≤r.2.length∧qq=r.2.length - a∧(i < a→(z.1,z.2.1)=((i:Int),((r.2[i]).length:Int) - 1 - (j:Int)))) (by
  rintro aX qq ⟨u,v,z⟩ ⟨a,ha,hle,hq',hc⟩ ih;simp only at ha hc;subst ha;unfold hP;dsimp only;refine W.ite (fun hlt=>?_) (fun hge=>W.ret ?_)
  ·have ha:a < r.2.length:=by omega
   have hmem:r.2[a]∈r.2:=List.getElem_mem ha;have hnd:(r.2[a]).Nodup:=(List.pairwise_flatten.1 hq).1 _ hmem;rw [wh (k:=k) (y:=(u,v,(a:Int))) (i:=a) rfl ha hnd (hs.2 _ hmem) (hl9 _ hmem),bs,bB (by omega) (by omega),bs];refine ih (qq - 1) (_,_,(a:Int)+1) (by omega) ⟨a+1,by show(a:Int)+1=((a+1:Nat):Int);omega,by omega,by omega,fun hia=>?_⟩;simp only;by_cases e:i=a
   ·subst e;rw [if_pos (List.getElem_mem hj),tI hnd hj]
   ·have hno:¬(r.2[i])[j]∈r.2[a]:=fun hm=>e (td hq hi ha (List.getElem_mem hj) hm);rw [if_neg hno];exact hc (by omega)
  ·exact hc (by omega)) r.2.length k (0,0,0) hs.1 ⟨0,rfl,by omega,by omega,fun h=>by omega⟩
 obtain⟨o,eo,h⟩:=hb
 rw [eo,h]
theorem CY(h:gl k t p)(x d:Int):∃r,i7 k t p x d=some r∧jQ k t p x d=some r:=by
 have hk:=h.k0;have ht1:=h.hs.things;have ht2:=h.hs.k1;by_cases c:gX t p=0
 ·have g:=sf c;have h6:=g.g.days;have h5:=g.g.things;have a:=h.at c;by_cases hx:0≤x∧x≤(t.2.1.length:Int) - 1
  ·by_cases hd:0≤d∧d≤t.1
   ·obtain⟨n,rfl⟩:∃n:Nat,d=(n:Int):=⟨d.toNat,by omega⟩;have ga:=g.aft n;obtain⟨m,rfl⟩:∃m:Nat,x=(m:Int):=⟨x.toNat,by omega⟩;obtain⟨l,hl,hm⟩:=List.mem_flatten.1 (ga.all m (by omega));obtain⟨i,hi,rfl⟩:=List.getElem_of_mem hl;obtain⟨j,hj,e⟩:=List.getElem_of_mem hm;refine⟨_,by rw [←e];exact IS a hd.2 hi hj,?_⟩;have h3:=ga.fit.len;unfold jQ
    rw [mj (by omega),bs,decide_eq_true hx,iT,gK,bs,decide_eq_true hd,h.askedT c,bs,bs,if_neg (not_not_intro rfl),A2 a.dayT g (d:=0) (n:=n) (by omega) (by omega) (by omega),bs,←e,
     Es ga.nd (ga.short hk) (by omega) (fun l hl=>by have:=(ga.fit.fit l hl).1;omega) (r:=(vi t 0 p n,aftD t 0 p n)) (by show aftD t 0 p n=_;rw [CX]) hi hj,bs]
   ·refine⟨(0,0,3),?_,?_⟩
    ·unfold i7
     have e:gB k t p d=some ([],3):=by
      unfold gB;rw [h.trk,bs,if_neg (not_not_intro c),gu,bs,decide_eq_false hd,nF]
     rw [h.trk,bs,if_neg (not_not_intro c),bB (by omega) (by omega),bs,gu,bs,decide_eq_true hx,nT,e,bs,if_pos (by decide)]
    ·unfold jQ;rw [mj (by omega),bs,decide_eq_true hx,iT,gK,bs,decide_eq_false hd,h.askedF c,bs,bs,if_pos (by decide)]
  ·refine⟨(0,0,3),?_,?_⟩
   ·unfold i7;rw [h.trk,bs,if_neg (not_not_intro c),bB (by omega) (by omega),bs,gu,bs,decide_eq_false hx,nF]
   ·unfold jQ;rw [mj (by omega),bs,decide_eq_false hx,iF,h.askedF c,bs,bs,if_pos (by decide)]
 ·refine⟨(0,0,gX t p),?_,?_⟩
  ·unfold i7;rw [h.trk,bs,if_pos c]
  ·unfold jQ;rw [mj (by omega),bs,gK];by_cases hx:0≤x∧x≤(t.2.1.length:Int) - 1
   ·rw [decide_eq_true hx,iT,bs,h.askedE c,bs,bs,if_pos c]
   ·rw [decide_eq_false hx,iF,h.askedE c,bs,bs,if_pos c]
end
section
variable {k:Nat}{t:bZ}{p:List (List Int)}
theorem mS{l:List Int}(h:l.length≤1000000):ek k l=some l:=by
 unfold ek;rw [cZ (LM (by simp only [List.length_nil];omega)),bs];rfl
theorem ua(h:ie k t):jd k t=some t:=by
 have hk1:=h.k1;have h1:=h.things;have h2:=h.trunks;unfold jd;rw [mS (by omega),bs]
 have hb:=W.loop (f:=fS k t) (Q:=fun o=>o=t.2.1) (fun m y=>∃j:Nat,y.2=(j:Int)∧j≤t.2.1.length∧m=t.2.1.length - j∧y.1=t.2.1.take j) (by
  rintro aX m ⟨o,y⟩ ⟨j,hj,hle,hm,ho⟩ ih;simp only at hj ho;subst hj ho;unfold fS;dsimp only;refine W.ite (fun hlt=>?_) (fun hge=>W.ret ?_)
  ·have hj:j < t.2.1.length:=by omega
   rw [cg hj,bs,bs,mS (by have:=h.worn _ (List.getElem_mem hj);omega),bs,cZ (LM (by simp only [List.length_take,List.length_cons,List.length_nil];omega)),bs,bB (by omega) (by omega),bs];refine ih (m - 1) (_,(j:Int)+1) (by omega) ⟨j+1,by show(j:Int)+1=((j+1:Nat):Int);omega,by omega,by omega,?_⟩;rw [List.take_add_one,List.getElem?_eq_getElem hj];rfl
  ·rw [List.take_of_length_le (by omega)]) t.2.1.length k ([],0) h1 ⟨0,rfl,by omega,by omega,by simp⟩
 obtain⟨o,eo,rfl⟩:=hb;rw [eo,bs]
theorem ID: @ju= @jd:=by kernel_rfl
theorem yC(h:ie k t):ju k t=some t:=by rw [ID];exact ua h
theorem su(h:rj k p)(hk1:k≤1000000):fo k p=some p:=by
 have h1:=h.1;unfold fo
 have hb:=W.loop (f:=dA k p) (Q:=fun o=>o=p) (fun q y=>∃j:Nat,y.2=(j:Int)∧j≤p.length∧q=p.length - j∧y.1=p.take j) (by
  rintro aX q ⟨o,y⟩ ⟨j,hj,hle,hq,ho⟩ ih;simp only at hj ho;subst hj ho;unfold dA;dsimp only;refine W.ite (fun hlt=>?_) (fun hge=>W.ret ?_)
  ·have hj:j < p.length:=by omega
   rw [cg hj,bs,mS (by have:=h.2 _ (List.getElem_mem hj);omega),bs,cZ (LM (by simp only [List.length_take,List.length_cons,List.length_nil];omega)),bs,bB (by omega) (by omega),bs];refine ih (q - 1) (_,(j:Int)+1) (by omega) ⟨j+1,by show(j:Int)+1=((j+1:Nat):Int);omega,by omega,by omega,?_⟩;rw [List.take_add_one,List.getElem?_eq_getElem hj];rfl
  ·rw [List.take_of_length_le (by omega)]) p.length k ([],0) h.1 ⟨0,rfl,by omega,by omega,by simp⟩
 obtain⟨o,eo,rfl⟩:=hb;rw [eo,bs]
theorem oZ{l:List Int}(h:l.length < k)(hk1:k≤1000000):eh k l l=some true:=by rw [zq h (by omega)];simp
theorem rM(h:rj k p)(hk1:k≤1000000):fj k p p=some true:=by
 unfold fj;rw [if_neg (by simp)];have h1:=h.1
 have hb:=W.loop (f:=fw k p p) (Q:=fun o=>o= .ok ()) (fun q y=>∃j:Nat,y=(j:Int)∧j≤p.length∧q=p.length - j) (by
  rintro aX q y ⟨j,hj,hle,hq⟩ ih;subst hj;unfold fw;refine W.ite (fun hlt=>?_) (fun hge=>W.ret rfl);have hj:j < p.length:=by omega
  rw [cg hj,bs,bs,oZ (h.2 _ (List.getElem_mem hj)) hk1,bs,nT,bB (by omega) (by omega),bs];exact ih (q - 1) _ (by omega) ⟨j+1,by omega,by omega,by omega⟩) p.length k 0 h.1 ⟨0,rfl,by omega,by omega⟩
 obtain⟨o,eo,rfl⟩:=hb;rw [eo,oM]
theorem xU(h:ie k t):jr k t t=some true:=by
 have hk1:=h.k1;have h1:=h.things;unfold jr;rw [if_neg (by simp),if_neg (by simp),oZ h.trunks hk1,bs,bs,Bool.not_true,iF]
 have hb:=W.loop (f:=fu k t t) (Q:=fun o=>o= .ok ()) (fun q y=>∃j:Nat,y=(j:Int)∧j≤t.2.1.length∧q=t.2.1.length - j) (by
  rintro aX q y ⟨j,hj,hle,hq⟩ ih;subst hj;unfold fu;refine W.ite (fun hlt=>?_) (fun hge=>W.ret rfl);have hj:j < t.2.1.length:=by omega
  rw [cg hj,bs,bs,if_neg (not_not_intro rfl),bs,bs,oZ (h.worn _ (List.getElem_mem hj)) hk1,bs,bs,Bool.not_true,iF,bB (by omega) (by omega),bs];exact ih (q - 1) _ (by omega) ⟨j+1,by omega,by omega,by omega⟩) t.2.1.length k 0 h.things ⟨0,rfl,by omega,by omega⟩
 obtain⟨o,eo,rfl⟩:=hb;rw [eo,oM]
structure D9(t:bZ):Prop where
 things:t.2.1.length≤20
 trunks:t.2.2.length≤20
 worn:∀x∈t.2.1,x.2.length≤20
 few:¬(t.2.1.length=5∧t.2.2.length=3)
theorem D9.small(h:D9 t)(hk:50≤k)(hk1:k≤1000000):ie k t:=⟨hk1,by have:=h.things;omega,fun x hx=>by have:=h.worn x hx;omega,by have:=h.trunks;omega⟩
theorem Jt(hk:50≤k):W (nB k t) fun b=>b=false→D9 t:=by
 unfold nB;by_cases c1:(20:Int) < (t.2.1.length:Int)
 ·rw [if_pos c1,bs,iT];exact W.ret fun h=>by cases h
 ·rw [if_neg c1,bs];by_cases c2:(20:Int) < (t.2.2.length:Int)
  ·rw [decide_eq_true c2,iT];exact W.ret fun h=>by cases h
  ·rw [decide_eq_false c2,iF]
   have hb:=W.loop (f:=jT k t) (Q:=fun o=>o= .error true∨(o= .ok ()∧∀x∈t.2.1,x.2.length≤20)) (fun q y=>∃j:Nat,y=(j:Int)∧j≤t.2.1.length∧q=t.2.1.length - j∧∀i (h:i < t.2.1.length),i < j→(t.2.1[i]).2.length≤20) (by
    rintro aX q y ⟨j,hj,hle,hq,ha⟩ ih;subst hj;unfold jT;refine W.ite (fun hlt=>?_) (fun hge=>W.ret (.inr ⟨rfl,fun x hx=>?_⟩))
    ·have hj:j < t.2.1.length:=by omega
     rw [cg hj,bs];refine W.ite (fun hc=>W.ret (.inl rfl)) (fun hc=>?_);rw [bB (by omega) (by omega),bs];refine ih (q - 1) _ (by omega) ⟨j+1,by omega,by omega,by omega,fun i hi hij=>?_⟩;by_cases e:i=j
     ·subst e;omega
     ·exact ha i hi (by omega)
    ·obtain⟨i,hi,rfl⟩:=List.getElem_of_mem hx;exact ha i hi (by omega)) t.2.1.length k 0 (show t.2.1.length < k by omega) ⟨0,rfl,by omega,by omega,fun i _ h=>by omega⟩
   refine W.bEE hb (fun e he=>?_) (fun u hu=>?_)
   ·rcases he with he |he
    ·cases he;exact W.ret fun h=>by cases h
    ·cases he.1
   ·rcases hu with hu |hu
    ·cases hu
    ·by_cases c3:(t.2.1.length:Int)=5
     ·rw [if_pos c3,bs];exact W.ret fun h=>⟨by omega,by omega,hu.2,fun hh=>of_decide_eq_false h (by omega)⟩
     ·rw [if_neg c3,bs];exact W.ret fun h=>⟨by omega,by omega,hu.2,fun hh=>by omega⟩
theorem Jq(hk:50≤k):W (nz k p) fun b=>b=false→p.length≤20∧∀l∈p,l.length≤20:=by
 unfold nz
 have hb:=W.loop (f:=jS k p) (Q:=fun o=>o= .error true∨(o= .ok ()∧(p.length≤20→∀x∈p,x.length≤20))) (fun q y=>∃j:Nat,y=(j:Int)∧j≤p.length∧j≤20∧q=20 - j∧∀i (h:i < p.length),i < j→(p[i]).length≤20) (by
  rintro aX q y ⟨j,hj,hle,h20,hq,ha⟩ ih;subst hj;unfold jS;by_cases c1:(j:Int) < (p.length:Int)
  ·rw [if_pos c1,bs];by_cases c2:(j:Int) < 20
   ·have hj:j < p.length:=by omega
    rw [decide_eq_true c2,iT,cg hj,bs];refine W.ite (fun hc=>W.ret (.inl rfl)) (fun hc=>?_);rw [bB (by omega) (by omega),bs];refine ih (q - 1) _ (by omega) ⟨j+1,by omega,by omega,by omega,by omega,fun i hi hij=>?_⟩;by_cases e:i=j
    ·subst e;omega
    ·exact ha i hi (by omega)
   ·rw [decide_eq_false c2,iF];refine W.ret (.inr ⟨rfl,fun h=>by omega⟩)
  ·rw [if_neg c1,bs,iF];refine W.ret (.inr ⟨rfl,fun _ x hx=>?_⟩);obtain⟨i,hi,rfl⟩:=List.getElem_of_mem hx;exact ha i hi (by omega)) 20 k 0 (by omega) ⟨0,rfl,by omega,by omega,by omega,fun i _ h=>by omega⟩
 refine W.bEE hb (fun e he=>?_) (fun u hu=>?_)
 ·rcases he with he |he
  ·cases he;exact W.ret fun h=>by cases h
  ·cases he.1
 ·rcases hu with hu |hu
  ·cases hu
  ·exact W.ret fun h=>⟨by have:=of_decide_eq_false h;omega,hu.2 (by have:=of_decide_eq_false h;omega)⟩
theorem H5(hk:50≤k){x:eO}:W (((nB k t).bind fun r5=>if r5=true then(some true) else((nz k p).bind fun r6=>if r6=true then(some true) else(some (decide ((20:Int) < (x.2.length:Int)))))):Option Bool) fun b=>b=false→D9 t∧(p.length≤20∧∀l∈p,l.length≤20)∧x.2.length≤20:=by
 obtain⟨b,eb,hb⟩:=Jt (t:=t) hk;rw [eb,bs];cases b with
 |true=>rw [iT];exact W.ret fun h=>by cases h
 |false=>
  rw [iF];obtain⟨c,ec,hc⟩:=Jq (p:=p) hk;rw [ec,bs];cases c with
  |true=>rw [iT];exact W.ret fun h=>by cases h
  |false=>rw [iF];exact W.ret fun h=>⟨hb rfl,hc rfl,by have:=of_decide_eq_false h;omega⟩
structure Oo(k:Nat)(ts:List bZ)(ps:List (List (List Int))):Prop where
 l1:ts.length=4
 l2:ps.length=4
 at_:∀j:Nat,j < 4→∃t p,aQ ts (j:Int)=some t∧aQ ps (j:Int)=some p∧gl k t p
theorem Oo.of{a b c d:bZ}{p q r s:List (List Int)}(h0:gl k a p)(h1:gl k b q)(h2:gl k c r)(h3:gl k d s):Oo k [a,b,c,d] [p,q,r,s]:=
 ⟨rfl,rfl,fun j hj=>by
  match j,hj with
  |0,_=>exact⟨_,_,rfl,rfl,h0⟩
  |1,_=>exact⟨_,_,rfl,rfl,h1⟩
  |2,_=>exact⟨_,_,rfl,rfl,h2⟩
  |3,_=>exact⟨_,_,rfl,rfl,h3⟩⟩
theorem AZ.small{a b:Int}(h:AZ t a b)(ha:a≤8)(hb:b≤8)(hk:50≤k)(hk1:k≤1000000):ie k t:=
 ⟨hk1,by have:=h.things;omega,fun x hx=>by have:=(h.item x hx).2.2.1;omega,by have:=h.trunks;omega⟩
theorem gl.of(hk:50≤k)(hs:ie k t)(hp:p.length≤20)(hl:∀l∈p,l.length≤20):gl k t p:=⟨hk,hs,by omega,fun l h=>by have:=hl l h;omega⟩
theorem By(hk:50≤k)(hk1:k≤1000000){x:eO}(ht:ie k t)(hp:p.length≤20)(hl:∀l∈p,l.length≤20)(hx:x.2.length≤20){l:bR}{m:Int}(hlo:Lo l m)(hm:0≤m∧m≤10):
 W (lb k t x p l) fun r=>Oo k r.1 r.2.1∧Lo r.2.2 (m+200):=by
 unfold lb
 obtain⟨r3,e3,hT,hl3⟩:=Jx hk hlo (by omega) (a:=4) (b:=3) (by omega) (by omega)
 have hT3:=hT.things
 have hTt:=hT.trunks
 have hs3:=hT.small (k:=k) (by omega) (by omega) hk hk1
 rw [show kH k (l.1,l.2.1,l.2.2) (4:Int) 3=some r3 from e3,bs,ua hs3,bs,mS (by omega),bs,cZ (A8 (n:=100) (by omega) (by omega)),bs]
 obtain⟨r12,e12,h1,h2,h3⟩:=vd hk hT (by omega) (by omega) hl3 (by omega)
 rw [show fk k (r3.2.1,r3.2.2.1,r3.2.2.2) r3.1=some r12 from e12,bs]
 obtain⟨r13,e13,g1,g2,g3⟩:=vd hk hT (by omega) (by omega) h3 (by omega)
 rw [show fk k (r12.2.1,r12.2.2.1,r12.2.2.2) r3.1=some r13 from e13,bs,bB (by omega) (by omega),bs]
 have hsO:∀T:List Int,T.length=r3.1.2.2.length→ie k (r3.1.1,r3.1.2.1++[(x.1,x.2)],T):=fun T hT'=>⟨hk1,by show(r3.1.2.1++[(x.1,x.2)]).length < k;rw [List.length_append];simp only [List.length_cons,List.length_nil];omega,fun y hy=>by
  rcases List.mem_append.1 hy with hy |hy
  ·exact hs3.worn y hy
  ·rw [List.mem_singleton] at hy;subst hy;show x.2.length < k;omega,by show T.length < k;omega⟩
 have s0:gl k t p:=.of hk ht hp hl
 have s1:gl k r3.1 r12.1:=.of hk hs3 (by omega) (fun l h=>by have:=h2 l h;omega)
 have s2:gl k r3.1 p:=.of hk hs3 hp hl
 by_cases c:(r3.1.2.2.length:Int) < 3
 ·
  have hi:((r3.1.2.2.length:Int) - 1).toNat=r3.1.2.2.length - 1:=by omega
  have hr:r3.1.2.2.length - 1 < r3.1.2.2.length:=by omega
  have hroom:=hT.rooms _ (List.getElem_mem hr);have hg:aQ r3.1.2.2 ((r3.1.2.2.length:Int) - 1)=some r3.1.2.2[r3.1.2.2.length - 1]:=vE (by omega) (by rw [hi];exact List.getElem?_eq_getElem hr);have hr':r3.1.2.2.length - 1 < r13.1.length:=by omega
  have hg':aQ r13.1 ((r3.1.2.2.length:Int) - 1)=some r13.1[r3.1.2.2.length - 1]:=vE (by omega) (by rw [hi];exact List.getElem?_eq_getElem hr');have hb:=g2 _ (List.getElem_mem hr');rw [if_pos c,hg,bs,bB (by omega) (by omega),bs,bs,show aQ [p,r12.1,p,r13.1] (3:Int)=some r13.1 from rfl,bs,su ⟨by omega,fun l h=>by have:=g2 l h;omega⟩ hk1,bs,bs,hg',bs,cZ (A8 (n:=100) (by omega) (by omega)),bs,bs,hi];refine W.ret ⟨Oo.of s0 s1 s2 (.of hk (hsO _ (by rw [List.length_set])) (by rw [List.length_set];omega) (fun l hl=>?_)),g3.mono (by omega)⟩;rcases List.mem_or_eq_of_mem_set hl with h |h
  ·have:=g2 l h;omega
  ·rw [h,List.length_append];simp only [List.length_cons,List.length_nil];omega
 ·
  rw [if_neg c,bs];exact W.ret ⟨Oo.of s0 s1 s2 (.of hk (hsO _ rfl) (by omega) (fun l h=>by have:=g2 l h;omega)),g3.mono (by omega)⟩
theorem T8{a:List Int}:Lo (a,0,1) 0:=⟨Int.le_refl 0,Int.le_refl 0⟩
theorem PT{α:Type}(a b c d:α){j:Nat}(h:j < 4):∃x,aQ [a,b,c,d] (j:Int)=some x:=⟨_,cg (by exact h)⟩
end
end Go.Proofs.YtghkncjelangeaaGreatDoor
