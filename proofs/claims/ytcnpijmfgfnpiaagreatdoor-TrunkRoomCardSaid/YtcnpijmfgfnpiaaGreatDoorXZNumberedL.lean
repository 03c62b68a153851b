import Derived.Test.YtcnpijmfgfnpiaaGreatDoorXZB11
set_option linter.unusedSimpArgs false
set_option linter.unusedVariables false
namespace Go.Proofs.YtcnpijmfgfnpiaaGreatDoor
open K Go Go.Proofs
theorem yw{α:Type}[DecidableEq α]:∀{l m:List α},l.Nodup→(∀x∈l,x∈m)→m.length≤l.length→l.Perm m
 |[],m,_,_,h=>by
  have:m=[]:=List.length_eq_zero_iff.1 (by simpa using h)
  subst this;exact List.Perm.refl _
 |a::l,m,hn,hs,h=>by
  obtain⟨h1,h2⟩:=List.nodup_cons.1 hn
  have ha:a∈m:=hs a (by simp)
  have hp:=List.perm_cons_erase ha
  refine(List.Perm.cons a (yw h2 (m:=m.erase a) (fun x hx=>?_) ?_)).trans hp.symm
  ·
   exact(List.mem_erase_of_ne (by rintro rfl;exact h1 hx)).2 (hs x (by simp [hx]))
  ·
   rw [List.length_erase,if_pos (by simpa using ha)]
   simp only [List.length_cons] at h;omega
theorem D7{n N:Nat}{x:List (List Int)}(hx:x.length=N)(hm:pK n x.flatten)(hf:¬x.flatten.length < n):∀(m:Nat) (q:List (List Int)) (tr:Nat),q.length=N→tr≤N→(n - q.flatten.length)+(N - tr) < m→pK n q.flatten→
 (∀i,i < tr→x[i]?.getD []=q[i]?.getD [])→(∃s,x[tr]?.getD []=q[tr]?.getD []++s)→(∀i,tr < i→q[i]?.getD []=[])→x∈lh n N m q tr:=by
 intro m
 induction m with
 |zero=>intro q tr _ _ h;omega
 |succ m ih=>
  intro q tr hq ht hlt hqm h1 h2 h3;rw [lh];by_cases c:tr=N
  ·have e:x=q:=by
    refine List.ext_getElem (by omega) fun i h4 h5=>?_;have:=h1 i (by omega);rw [List.getElem?_eq_getElem h4,List.getElem?_eq_getElem h5] at this;exact this
   rw [if_pos c,←e,if_neg hf];simp
  ·rw [if_neg c];have htr:tr < q.length:=by omega
   obtain⟨s,hs⟩:=h2;cases s with
   |nil=>
    refine List.mem_append_left _ (ih q (tr+1) hq (by omega) (by omega) hqm (fun i hi=>?_) ⟨x[tr+1]?.getD [],?_⟩ (fun i hi=>h3 i (by omega)))
    ·by_cases e:i=tr
     ·subst e;rw [hs,List.append_nil]
     ·exact h1 i (by omega)
    ·rw [h3 (tr+1) (by omega),List.nil_append]
   |cons a s=>
    have htx:tr < x.length:=by omega
    have hax:a∈x.flatten:=by
     refine List.mem_flatten.2 ⟨x[tr],List.getElem_mem htx,?_⟩;rw [List.getElem?_eq_getElem htx,Option.getD_some] at hs;rw [hs];simp
    obtain⟨i,hi⟩:=Int.eq_ofNat_of_zero_le (hm.rng a hax).1;subst hi;have hin:=(hm.rng _ hax).2
    have hna:(i:Int)∉q.flatten:=by
     intro hq';obtain⟨l,hl,hil⟩:=List.mem_flatten.1 hq';obtain⟨j,hj,rfl⟩:=List.getElem_of_mem hl
     have hxtr:(i:Int)∈x[tr]:=by
      rw [List.getElem?_eq_getElem htx,Option.getD_some] at hs;rw [hs];simp
     rcases Nat.lt_trichotomy j tr with h |h |h
     ·have e:=h1 j h;rw [List.getElem?_eq_getElem (show j < x.length by omega),List.getElem?_eq_getElem hj] at e;have e:x[j]=q[j]:=e;have:=Dt hm.nd (show j < x.length by omega) htx (x:=(i:Int)) (by rw [e];exact hil) hxtr;omega
     ·subst h;have hnd:x[j].Nodup:=(List.pairwise_flatten.1 hm.nd).1 _ (List.getElem_mem htx);rw [List.getElem?_eq_getElem htx,Option.getD_some,List.getElem?_eq_getElem hj,Option.getD_some] at hs;rw [hs,List.nodup_append] at hnd;exact hnd.2.2 _ hil _ (by simp) rfl
     ·have:=h3 j h;rw [List.getElem?_eq_getElem hj,Option.getD_some] at this;rw [this] at hil;cases hil
    refine List.mem_append_right _ (List.mem_flatMap.2 ⟨i,List.mem_range.2 (by omega),?_⟩);rw [if_neg hna];have hp:=mi (i:=i) htr;have hl:=hp.length_eq;simp only [List.length_append,List.length_cons,List.length_nil] at hl
    have hm':pK n (g7 q tr i).flatten:=⟨hp.nodup_iff.2 (by
     rw [List.nodup_append];exact⟨hqm.nd,by simp,fun a ha b hb=>by rw [List.mem_singleton] at hb;subst hb;exact fun e=>hna (e▸ha)⟩),fun y hy=>by
     rcases List.mem_append.1 (hp.mem_iff.1 hy) with hy |hy
     ·exact hqm.rng y hy
     ·rw [List.mem_singleton] at hy;omega⟩
    have:=hm'.len;refine ih (g7 q tr i) tr (by unfold g7;rw [List.length_set,hq]) ht (by omega) hm' (fun j hj=>?_) ⟨s,?_⟩ (fun j hj=>?_)
    ·rw [lC htr,if_neg (by omega)];exact h1 j hj
    ·rw [lC htr,if_pos rfl,hs];simp
    ·rw [lC htr,if_neg (by omega)];exact h3 j hj
theorem zf{n N:Nat}(hn:n+N < 10){x:List (List Int)}:x∈sH n N↔x.length=N∧pK n x.flatten∧¬x.flatten.length < n:=by
 refine⟨m8,fun⟨h1,h2,h3⟩=>?_⟩
 have hr:∀i:Nat,(List.replicate N ([]:List Int))[i]?.getD []=[]:=fun i=>by
  rw [List.getElem?_replicate];split <;> rfl
 exact D7 h1 h2 h3 10 _ 0 (by simp) (by omega) (by simp only [List.flatten_replicate_nil,List.length_nil];omega) (by simp only [List.flatten_replicate_nil];exact⟨by simp,by simp⟩) (fun i hi=>by omega) ⟨x[0]?.getD [],by rw [hr,List.nil_append]⟩ (fun i _=>hr i)
def pZ(f:Int→Int)(w:Bool)(q:List (List Int)):List (List Int):=if w then(q.map (List.map f)).reverse else q.map (List.map f)
structure Em(n:Nat)(f:Int→Int):Prop where
 rng:∀x,0≤x→x < (n:Int)→0≤f x∧f x < (n:Int)
 inj:∀x y,0≤x→x < (n:Int)→0≤y→y < (n:Int)→f x=f y→x=y
theorem yB{f:Int→Int}{w:Bool}{q:List (List Int)}:(pZ f w q).length=q.length:=by
 unfold pZ;split <;> simp
theorem vJ{f:Int→Int}{w:Bool}{q:List (List Int)}:(pZ f w q).Perm (q.map (List.map f)):=by
 unfold pZ;split
 ·exact List.reverse_perm _
 ·exact List.Perm.refl _
theorem Do{f:Int→Int}{w:Bool}{q:List (List Int)}:(pZ f w q).flatten.Perm (q.flatten.map f):=by
 refine vJ.flatten.trans ?_;rw [List.map_flatten]
theorem vU{f:Int→Int}{n:Nat}(hf:Em n f):∀{l:List Int},l.Nodup→(∀x∈l,0≤x∧x < (n:Int))→(l.map f).Nodup
 |[],_,_=>by simp
 |a::l,hn,hr=>by
  obtain⟨h1,h2⟩:=List.nodup_cons.1 hn
  rw [List.map_cons,List.nodup_cons]
  refine⟨fun h=>?_,vU hf h2 fun x hx=>hr x (by simp [hx])⟩
  obtain⟨b,hb,e⟩:=List.mem_map.1 h
  have ha:=hr a (by simp)
  have hb':=hr b (by simp [hb])
  exact h1 (hf.inj b a hb'.1 hb'.2 ha.1 ha.2 e▸hb)
theorem Ij{n N:Nat}(hn:n+N < 10){f:Int→Int}(hf:Em n f){w:Bool}{q:List (List Int)}(h:q∈sH n N):pZ f w q∈sH n N:=by
 obtain⟨h1,h2,h3⟩:=m8 h;have hp:=Do (f:=f) (w:=w) (q:=q);refine(zf hn).2 ⟨by rw [yB,h1],⟨hp.nodup_iff.2 (vU hf h2.nd h2.rng),fun x hx=>?_⟩,by rw [hp.length_eq,List.length_map];exact h3⟩;obtain⟨y,hy,rfl⟩:=List.mem_map.1 (hp.mem_iff.1 hx);have:=h2.rng y hy;exact hf.rng y this.1 this.2
theorem ul{f:Int→Int}{n:Nat}(hf:Em n f):∀{a b:List Int},(∀x∈a,0≤x∧x < (n:Int))→(∀x∈b,0≤x∧x < (n:Int))→a.map f=b.map f→a=b
 |[],[],_,_,_=>rfl
 |[],_::_,_,_,e=>by simp at e
 |_::_,[],_,_,e=>by simp at e
 |x::a,y::b,ha,hb,e=>by
  simp only [List.map_cons,List.cons.injEq] at e
  have hx:=ha x (by simp)
  have hy:=hb y (by simp)
  rw [hf.inj x y hx.1 hx.2 hy.1 hy.2 e.1,ul hf (fun z hz=>ha z (by simp [hz])) (fun z hz=>hb z (by simp [hz])) e.2]
theorem sY{f:Int→Int}{n:Nat}(hf:Em n f):∀{a b:List (List Int)},(∀l∈a,∀x∈l,0≤x∧x < (n:Int))→(∀l∈b,∀x∈l,0≤x∧x < (n:Int))→a.map (List.map f)=b.map (List.map f)→a=b
 |[],[],_,_,_=>rfl
 |[],_::_,_,_,e=>by simp at e
 |_::_,[],_,_,e=>by simp at e
 |x::a,y::b,ha,hb,e=>by
  simp only [List.map_cons,List.cons.injEq] at e
  rw [ul hf (ha x (by simp)) (hb y (by simp)) e.1,sY hf (fun z hz=>ha z (by simp [hz])) (fun z hz=>hb z (by simp [hz])) e.2]
theorem Ik{n N:Nat}{f:Int→Int}(hf:Em n f){w:Bool}{a b:List (List Int)}(ha:a∈sH n N)(hb:b∈sH n N)(e:pZ f w a=pZ f w b):a=b:=by
 obtain⟨_,a2,_⟩:=m8 ha;obtain⟨_,b2,_⟩:=m8 hb;refine sY hf (fun l hl x hx=>a2.rng x (List.mem_flatten.2 ⟨l,hl,hx⟩)) (fun l hl x hx=>b2.rng x (List.mem_flatten.2 ⟨l,hl,hx⟩)) ?_;unfold pZ at e;cases w with
 |true=>simp only [if_true] at e;exact List.reverse_inj.1 e
 |false=>simpa using e
theorem Il{n N:Nat}(hn:n≤4)(hN:N≤2){f:Int→Int}(hf:Em n f){w:Bool}:((sH n N).map (pZ f w)).Perm (sH n N):=by
 have hnd:(sH n N).Nodup:=(Bi hn hN).imp fun h e=>by subst e;rw [wx] at h;cases h.1
 refine yw ?_ (fun x hx=>?_) (by rw [List.length_map];exact Nat.le_refl _)
 ·rw [List.Nodup,List.pairwise_map];refine hnd.imp_of_mem fun {a b} ha hb hab e=>hab (Ik hf ha hb e)
 ·obtain⟨q,hq,rfl⟩:=List.mem_map.1 hx;exact Ij (by omega) hf hq
structure gC(t x:aL)(f:Int→Int)(w:Bool):Prop where
 days:x.1=t.1
 things:x.2.1.length=t.2.1.length
 ren:Em t.2.1.length f
 item:∀i:Nat,i < t.2.1.length→x.2.1[(f (i:Int)).toNat]? =t.2.1[i]?
 trunks:x.2.2=if w then t.2.2.reverse else t.2.2
section
variable {t x:aL}{f:Int→Int}{w:Bool}
theorem gC.worn(h:gC t x f w){y d:Int}(h0:0≤y)(hy:y < (t.2.1.length:Int)):mK x d (f y)=mK t d y:=by
 obtain⟨i,rfl⟩:=Int.eq_ofNat_of_zero_le h0;unfold mK;rw [h.item i (by omega),show((i:Int)).toNat=i from rfl]
theorem gC.size(h:gC t x f w){y:Int}(h0:0≤y)(hy:y < (t.2.1.length:Int)):bV x (f y)=bV t y:=by
 obtain⟨i,rfl⟩:=Int.eq_ofNat_of_zero_le h0;unfold bV;rw [h.item i (by omega),show((i:Int)).toNat=i from rfl]
theorem gC.sizes(h:gC t x f w):∀{l:List Int},(∀y∈l,0≤y∧y < (t.2.1.length:Int))→bK x (l.map f)=bK t l
 |[],_=>rfl
 |y::l,hr=>by
  have hy:=hr y (by simp)
  simp only [List.map_cons,bK]
  rw [h.size hy.1 hy.2,h.sizes fun z hz=>hr z (by simp [hz])]
theorem gC.lift(h:gC t x f w){d:Int}:∀{l:List Int} {u:Bool},(∀y∈l,0≤y∧y < (t.2.1.length:Int))→fi (mK x d) u (l.map f)=(fi (mK t d) u l).map f
 |[],_,_=>rfl
 |y::l,u,hr=>by
  have hy:=hr y (by simp)
  have hl:∀z∈l,0≤z∧z < (t.2.1.length:Int):=fun z hz=>hr z (by simp [hz])
  simp only [List.map_cons,fi]
  rw [h.worn hy.1 hy.2,h.lift hl,h.lift hl]
  split
  ·
   rfl
  ·
   split
   ·
    rfl
   ·
    rfl
theorem gC.nx(h:gC t x f w){d:Int}{l:List Int}(hr:∀y∈l,0≤y∧y < (t.2.1.length:Int)):ya (mK x d) (l.map f)=(ya (mK t d) l).map f:=by
 unfold ya;rw [List.filter_map,List.filter_map,List.map_append];congr 1
 ·congr 1;exact List.filter_congr fun y hy=>by simp only [Function.comp];rw [h.worn (hr y hy).1 (hr y hy).2]
 ·congr 1;exact List.filter_congr fun y hy=>by simp only [Function.comp];rw [h.worn (hr y hy).1 (hr y hy).2]
theorem gC.row(h:gC t x f w):∀(m:Nat) (d:Int) {l:List Int},(∀y∈l,0≤y∧y < (t.2.1.length:Int))→iZ x m d (l.map f)=iZ t m d l
 |0,_,_,_=>rfl
 |m+1,d,l,hr=>by
  rw [iZ,iZ,h.lift hr,h.nx hr,h.row m (d+1) fun y hy=>hr y (ji.mem_iff.1 hy),List.length_map]
theorem gC.lifts(h:gC t x f w){q:List (List Int)}(hr:∀l∈q,∀y∈l,0≤y∧y < (t.2.1.length:Int)):dN x (pZ f w q)=dN t q:=by
 unfold dN nJ;rw [((vJ (f:=f) (w:=w) (q:=q)).map _).sum_nat,h.days,List.map_map];congr 1;exact List.map_congr_left fun l hl=>h.row _ _ (hr l hl)
theorem gC.fits(h:gC t x f w){q:List (List Int)}(hq:q.length=t.2.2.length)(hr:∀l∈q,∀y∈l,0≤y∧y < (t.2.1.length:Int)):nu x (pZ f w q)=nu t q:=by
 have hl:∀i,i < q.length→bK x ((q.map (List.map f))[i]?.getD [])=bK t (q[i]?.getD []):=fun i hi=>by
  rw [List.getElem?_map,List.getElem?_eq_getElem hi];exact h.sizes (hr _ (List.getElem_mem hi))
 have key:(nu x (pZ f w q)=true)↔(nu t q=true):=by
  rw [ib,ib,yB,h.trunks];unfold pZ;cases w with
  |false=>
   simp only [Bool.false_eq_true,if_false];exact⟨fun g i hi=>by rw [←hl i hi];exact g i hi,fun g i hi=>by rw [hl i hi];exact g i hi⟩
  |true=>
   simp only [if_true]
   have hrev:∀i,i < q.length→bK x ((q.map (List.map f)).reverse[i]?.getD [])=bK t (q[q.length - 1 - i]?.getD [])∧t.2.2.reverse[i]?.getD 0=t.2.2[q.length - 1 - i]?.getD 0:=fun i hi=>by
    rw [List.getElem?_reverse (by rw [List.length_map];exact hi),List.length_map,hl _ (by omega),List.getElem?_reverse (by omega),←hq];exact⟨rfl,rfl⟩
   constructor
   ·intro g i hi;have:=g (q.length - 1 - i) (by omega);rw [(hrev _ (by omega)).1,(hrev _ (by omega)).2] at this;rwa [show q.length - 1 - (q.length - 1 - i)=i by omega] at this
   ·intro g i hi;rw [(hrev i hi).1,(hrev i hi).2];exact g _ (by omega)
 exact Bool.eq_iff_iff.2 key
theorem gC.all(h:gC t x f w)(hn:t.2.1.length≤4)(hN:t.2.2.length≤2):((ow x).map (dN x)).Perm ((ow t).map (dN t)):=by
 have hxN:x.2.2.length=t.2.2.length:=by rw [h.trunks];split <;> simp
 have hp:=(Il hn hN h.ren (w:=w)).symm
 have e1:(ow x).Perm ((ow t).map (pZ f w)):=by
  unfold ow;rw [h.things,hxN];refine(hp.filter _).trans ?_;rw [List.filter_map];refine List.Perm.of_eq ?_;congr 1;refine List.filter_congr fun q hq=>?_;obtain⟨a,b,_⟩:=m8 hq;exact h.fits a fun l hl y hy=>b.rng y (List.mem_flatten.2 ⟨l,hl,hy⟩)
 refine(e1.map _).trans ?_;rw [List.map_map];refine List.Perm.of_eq (List.map_congr_left fun q hq=>?_);obtain⟨_,b,_⟩:=m8 (List.mem_filter.1 hq).1;exact h.lifts fun l hl y hy=>b.rng y (List.mem_flatten.2 ⟨l,hl,hy⟩)
end
section
variable {k:Nat}
theorem uH{l:List Int}(h:l.length≤1000000):ik k l=some l:=by
 unfold ik;rw [dk (Nc (by simp only [List.length_nil];omega)),bs];rfl
theorem zB{t:aL}(hk1:k≤1000000)(h1:t.2.1.length < k)(h2:t.2.2.length≤1000000)(hw:∀x∈t.2.1,x.2.length≤1000000):d3 k t=some t:=by
 unfold d3;rw [uH h2,bs]
 have hb:=W.loop (f:=eY k t) (Q:=fun o=>o=t.2.1) (fun m y=>∃j:Nat,y.2=(j:Int)∧j≤t.2.1.length∧m=t.2.1.length - j∧y.1=t.2.1.take j) (by
  rintro aM m ⟨o,y⟩ ⟨j,hj,hle,hm,ho⟩ ih;simp only at hj ho;subst hj ho;unfold eY;dsimp only;refine W.ite (fun hlt=>?_) (fun hge=>W.ret ?_)
  ·have hj:j < t.2.1.length:=by omega
   rw [dT hj,bs,bs,uH (hw _ (List.getElem_mem hj)),bs,dk (Nc (by simp only [List.length_take,List.length_cons,List.length_nil];omega)),bs,cT (by omega) (by omega),bs];refine ih (m - 1) (_,(j:Int)+1) (by omega) ⟨j+1,by show(j:Int)+1=((j+1:Nat):Int);omega,by omega,by omega,?_⟩;rw [List.take_add_one,List.getElem?_eq_getElem hj];rfl
  ·rw [List.take_of_length_le (by omega)]) t.2.1.length k ([],0) h1 ⟨0,rfl,by omega,by omega,by simp⟩
 obtain⟨o,eo,rfl⟩:=hb;rw [eo,bs]
structure xQ(n:Nat)(p:List Int):Prop where
 len:p.length=n
 rng:∀x∈p,0≤x∧x < (n:Int)
 nd:p.Nodup
theorem xQ.ne{n:Nat}{p:List Int}(h:xQ n p){i j:Nat}(hi:i < p.length)(hj:j < p.length)(e:p[i].toNat=p[j].toNat):i=j:=by
 have h1:=h.rng _ (List.getElem_mem hi);have h2:=h.rng _ (List.getElem_mem hj);exact(List.getElem_inj h.nd).1 (by omega)
theorem xQ.all{n:Nat}{p:List Int}(h:xQ n p){m:Nat}(hm:m < n):∃i,∃hi:i < p.length,p[i].toNat=m:=by
 have hM:pK n p:=⟨h.nd,h.rng⟩;have:=hM.full.1 (by have:=h.len;omega) m hm;obtain⟨i,hi,e⟩:=List.getElem_of_mem this;exact⟨i,hi,by rw [e];rfl⟩
end
end Go.Proofs.YtcnpijmfgfnpiaaGreatDoor
