import Derived.Test.YtcnpijmfgfnpiaaGreatDoorWB12
set_option linter.unusedSimpArgs false
set_option linter.unusedVariables false
namespace Go.Proofs.YtcnpijmfgfnpiaaGreatDoor
open K Go Go.Proofs
theorem zJ{α:Type}[DecidableEq α]:∀{l m:List α},l.Nodup→(∀x∈l,x∈m)→m.length≤l.length→l.Perm m
 |[],m,_,_,h=>by
  have:m=[]:=List.length_eq_zero_iff.1 (by simpa using h)
  subst this;exact List.Perm.refl _
 |a::l,m,hn,hs,h=>by
  obtain⟨h1,h2⟩:=List.nodup_cons.1 hn
  have ha:a∈m:=hs a (by simp)
  have hp:=List.perm_cons_erase ha
  refine(List.Perm.cons a (zJ h2 (m:=m.erase a) (fun x hx=>?_) ?_)).trans hp.symm
  ·
   exact(List.mem_erase_of_ne (by rintro rfl;exact h1 hx)).2 (hs x (by simp [hx]))
  ·
   rw [List.length_erase,if_pos (by simpa using ha)]
   simp only [List.length_cons] at h;omega
theorem FR{n N:Nat}{x:List (List Int)}(hx:x.length=N)(hm:rK n x.flatten)(hf:¬x.flatten.length < n):∀(m:Nat) (q:List (List Int)) (tr:Nat),q.length=N→tr≤N→(n - q.flatten.length)+(N - tr) < m→rK n q.flatten→
 (∀i,i < tr→x[i]?.getD []=q[i]?.getD [])→(∃s,x[tr]?.getD []=q[tr]?.getD []++s)→(∀i,tr < i→q[i]?.getD []=[])→x∈mg n N m q tr:=by
 intro m
 induction m with
 |zero=>intro q tr _ _ h;omega
 |succ m ih=>
  intro q tr hq ht hlt hqm h1 h2 h3;rw [mg];by_cases c:tr=N
  ·have e:x=q:=by
    refine List.ext_getElem (by omega) fun i h4 h5=>?_;have:=h1 i (by omega);rw [List.getElem?_eq_getElem h4,List.getElem?_eq_getElem h5] at this;exact this
   rw [if_pos c,←e,if_neg hf];simp
  ·rw [if_neg c];have htr:tr < q.length:=by omega
   obtain⟨s,hs⟩:=h2;cases s with
   |nil=>
    refine List.mem_append_left _ (ih q (tr+1) hq (by omega) (by omega) hqm (fun i hi=>?_) ⟨x[tr+1]?.getD [],?_⟩ (fun i hi=>h3 i (by omega)))
    ·by_cases e:i=tr
     ·subst e;rw [hs,List.append_nil]
     ·exact h1 i (by omega)
    ·rw [h3 (tr+1) (by omega),List.nil_append]
   |cons a s=>
    have htx:tr < x.length:=by omega
    have hax:a∈x.flatten:=by
     refine List.mem_flatten.2 ⟨x[tr],List.getElem_mem htx,?_⟩;rw [List.getElem?_eq_getElem htx,Option.getD_some] at hs;rw [hs];simp
    obtain⟨i,hi⟩:=Int.eq_ofNat_of_zero_le (hm.rng a hax).1;subst hi;have hin:=(hm.rng _ hax).2
    have hna:(i:Int)∉q.flatten:=by
     intro hq';obtain⟨l,hl,hil⟩:=List.mem_flatten.1 hq';obtain⟨j,hj,rfl⟩:=List.getElem_of_mem hl
     have hxtr:(i:Int)∈x[tr]:=by
      rw [List.getElem?_eq_getElem htx,Option.getD_some] at hs;rw [hs];simp
     rcases Nat.lt_trichotomy j tr with h |h |h
     ·have e:=h1 j h;rw [List.getElem?_eq_getElem (show j < x.length by omega),List.getElem?_eq_getElem hj] at e;have e:x[j]=q[j]:=e;have:=E8 hm.nd (show j < x.length by omega) htx (x:=(i:Int)) (by rw [e];exact hil) hxtr;omega
     ·subst h;have hnd:x[j].Nodup:=(List.pairwise_flatten.1 hm.nd).1 _ (List.getElem_mem htx);rw [List.getElem?_eq_getElem htx,Option.getD_some,List.getElem?_eq_getElem hj,Option.getD_some] at hs;rw [hs,List.nodup_append] at hnd;exact hnd.2.2 _ hil _ (by simp) rfl
     ·have:=h3 j h;rw [List.getElem?_eq_getElem hj,Option.getD_some] at this;rw [this] at hil;cases hil
    refine List.mem_append_right _ (List.mem_flatMap.2 ⟨i,List.mem_range.2 (by omega),?_⟩);rw [if_neg hna];have hp:=nu (i:=i) htr;have hl:=hp.length_eq;simp only [List.length_append,List.length_cons,List.length_nil] at hl
    have hm':rK n (iP q tr i).flatten:=⟨hp.nodup_iff.2 (by
     rw [List.nodup_append];exact⟨hqm.nd,by simp,fun a ha b hb=>by rw [List.mem_singleton] at hb;subst hb;exact fun e=>hna (e▸ha)⟩),fun y hy=>by
     rcases List.mem_append.1 (hp.mem_iff.1 hy) with hy |hy
     ·exact hqm.rng y hy
     ·rw [List.mem_singleton] at hy;omega⟩
    have:=hm'.len;refine ih (iP q tr i) tr (by unfold iP;rw [List.length_set,hq]) ht (by omega) hm' (fun j hj=>?_) ⟨s,?_⟩ (fun j hj=>?_)
    ·rw [mE htr,if_neg (by omega)];exact h1 j hj
    ·rw [mE htr,if_pos rfl,hs];simp
    ·rw [mE htr,if_neg (by omega)];exact h3 j hj
theorem HY{n N:Nat}(hn:n+N < 10){x:List (List Int)}:x∈sO n N↔x.length=N∧rK n x.flatten∧¬x.flatten.length < n:=by
 refine⟨mR,fun⟨h1,h2,h3⟩=>?_⟩
 have hr:∀i:Nat,(List.replicate N ([]:List Int))[i]?.getD []=[]:=fun i=>by
  rw [List.getElem?_replicate];split <;> rfl
 exact FR h1 h2 h3 10 _ 0 (by simp) (by omega) (by simp only [List.flatten_replicate_nil,List.length_nil];omega) (by simp only [List.flatten_replicate_nil];exact⟨by simp,by simp⟩) (fun i hi=>by omega) ⟨x[0]?.getD [],by rw [hr,List.nil_append]⟩ (fun i _=>hr i)
def rc(f:Int→Int)(w:Bool)(q:List (List Int)):List (List Int):=if w then(q.map (List.map f)).reverse else q.map (List.map f)
structure F9(n:Nat)(f:Int→Int):Prop where
 rng:∀x,0≤x→x < (n:Int)→0≤f x∧f x < (n:Int)
 inj:∀x y,0≤x→x < (n:Int)→0≤y→y < (n:Int)→f x=f y→x=y
theorem zN{f:Int→Int}{w:Bool}{q:List (List Int)}:(rc f w q).length=q.length:=by
 unfold rc;split <;> simp
theorem wZ{f:Int→Int}{w:Bool}{q:List (List Int)}:(rc f w q).Perm (q.map (List.map f)):=by
 unfold rc;split
 ·exact List.reverse_perm _
 ·exact List.Perm.refl _
theorem E4{f:Int→Int}{w:Bool}{q:List (List Int)}:(rc f w q).flatten.Perm (q.flatten.map f):=by
 refine wZ.flatten.trans ?_;rw [List.map_flatten]
theorem xm{f:Int→Int}{n:Nat}(hf:F9 n f):∀{l:List Int},l.Nodup→(∀x∈l,0≤x∧x < (n:Int))→(l.map f).Nodup
 |[],_,_=>by simp
 |a::l,hn,hr=>by
  obtain⟨h1,h2⟩:=List.nodup_cons.1 hn
  rw [List.map_cons,List.nodup_cons]
  refine⟨fun h=>?_,xm hf h2 fun x hx=>hr x (by simp [hx])⟩
  obtain⟨b,hb,e⟩:=List.mem_map.1 h
  have ha:=hr a (by simp)
  have hb':=hr b (by simp [hb])
  exact h1 (hf.inj b a hb'.1 hb'.2 ha.1 ha.2 e▸hb)
theorem J6{n N:Nat}(hn:n+N < 10){f:Int→Int}(hf:F9 n f){w:Bool}{q:List (List Int)}(h:q∈sO n N):rc f w q∈sO n N:=by
 obtain⟨h1,h2,h3⟩:=mR h;have hp:=E4 (f:=f) (w:=w) (q:=q);refine(HY hn).2 ⟨by rw [zN,h1],⟨hp.nodup_iff.2 (xm hf h2.nd h2.rng),fun x hx=>?_⟩,by rw [hp.length_eq,List.length_map];exact h3⟩;obtain⟨y,hy,rfl⟩:=List.mem_map.1 (hp.mem_iff.1 hx);have:=h2.rng y hy;exact hf.rng y this.1 this.2
theorem vJ{f:Int→Int}{n:Nat}(hf:F9 n f):∀{a b:List Int},(∀x∈a,0≤x∧x < (n:Int))→(∀x∈b,0≤x∧x < (n:Int))→a.map f=b.map f→a=b
 |[],[],_,_,_=>rfl
 |[],_::_,_,_,e=>by simp at e
 |_::_,[],_,_,e=>by simp at e
 |x::a,y::b,ha,hb,e=>by
  simp only [List.map_cons,List.cons.injEq] at e
  have hx:=ha x (by simp)
  have hy:=hb y (by simp)
  rw [hf.inj x y hx.1 hx.2 hy.1 hy.2 e.1,vJ hf (fun z hz=>ha z (by simp [hz])) (fun z hz=>hb z (by simp [hz])) e.2]
theorem ui{f:Int→Int}{n:Nat}(hf:F9 n f):∀{a b:List (List Int)},(∀l∈a,∀x∈l,0≤x∧x < (n:Int))→(∀l∈b,∀x∈l,0≤x∧x < (n:Int))→a.map (List.map f)=b.map (List.map f)→a=b
 |[],[],_,_,_=>rfl
 |[],_::_,_,_,e=>by simp at e
 |_::_,[],_,_,e=>by simp at e
 |x::a,y::b,ha,hb,e=>by
  simp only [List.map_cons,List.cons.injEq] at e
  rw [vJ hf (ha x (by simp)) (hb y (by simp)) e.1,ui hf (fun z hz=>ha z (by simp [hz])) (fun z hz=>hb z (by simp [hz])) e.2]
theorem J7{n N:Nat}{f:Int→Int}(hf:F9 n f){w:Bool}{a b:List (List Int)}(ha:a∈sO n N)(hb:b∈sO n N)(e:rc f w a=rc f w b):a=b:=by
 obtain⟨_,a2,_⟩:=mR ha;obtain⟨_,b2,_⟩:=mR hb;refine ui hf (fun l hl x hx=>a2.rng x (List.mem_flatten.2 ⟨l,hl,hx⟩)) (fun l hl x hx=>b2.rng x (List.mem_flatten.2 ⟨l,hl,hx⟩)) ?_;unfold rc at e;cases w with
 |true=>simp only [if_true] at e;exact List.reverse_inj.1 e
 |false=>simpa using e
theorem J8{n N:Nat}(hn:n≤4)(hN:N≤2){f:Int→Int}(hf:F9 n f){w:Bool}:((sO n N).map (rc f w)).Perm (sO n N):=by
 have hnd:(sO n N).Nodup:=(Dp hn hN).imp fun h e=>by subst e;rw [xK] at h;cases h.1
 refine zJ ?_ (fun x hx=>?_) (by rw [List.length_map];exact Nat.le_refl _)
 ·rw [List.Nodup,List.pairwise_map];refine hnd.imp_of_mem fun {a b} ha hb hab e=>hab (J7 hf ha hb e)
 ·obtain⟨q,hq,rfl⟩:=List.mem_map.1 hx;exact J6 (by omega) hf hq
structure ib(t x:aU)(f:Int→Int)(w:Bool):Prop where
 days:x.1=t.1
 things:x.2.1.length=t.2.1.length
 ren:F9 t.2.1.length f
 item:∀i:Nat,i < t.2.1.length→x.2.1[(f (i:Int)).toNat]? =t.2.1[i]?
 trunks:x.2.2=if w then t.2.2.reverse else t.2.2
section
variable {t x:aU}{f:Int→Int}{w:Bool}
theorem ib.worn(h:ib t x f w){y d:Int}(h0:0≤y)(hy:y < (t.2.1.length:Int)):wQ x d (f y)=wQ t d y:=by
 obtain⟨i,rfl⟩:=Int.eq_ofNat_of_zero_le h0;unfold wQ;rw [h.item i (by omega),show((i:Int)).toNat=i from rfl]
theorem ib.size(h:ib t x f w){y:Int}(h0:0≤y)(hy:y < (t.2.1.length:Int)):dT x (f y)=dT t y:=by
 obtain⟨i,rfl⟩:=Int.eq_ofNat_of_zero_le h0;unfold dT;rw [h.item i (by omega),show((i:Int)).toNat=i from rfl]
theorem ib.sizes(h:ib t x f w):∀{l:List Int},(∀y∈l,0≤y∧y < (t.2.1.length:Int))→cy x (l.map f)=cy t l
 |[],_=>rfl
 |y::l,hr=>by
  have hy:=hr y (by simp)
  simp only [List.map_cons,cy]
  rw [h.size hy.1 hy.2,h.sizes fun z hz=>hr z (by simp [hz])]
theorem ib.lift(h:ib t x f w){d:Int}:∀{l:List Int} {u:Bool},(∀y∈l,0≤y∧y < (t.2.1.length:Int))→iW (wQ x d) u (l.map f)=(iW (wQ t d) u l).map f
 |[],_,_=>rfl
 |y::l,u,hr=>by
  have hy:=hr y (by simp)
  have hl:∀z∈l,0≤z∧z < (t.2.1.length:Int):=fun z hz=>hr z (by simp [hz])
  simp only [List.map_cons,iW]
  rw [h.worn hy.1 hy.2,h.lift hl,h.lift hl]
  split
  ·
   rfl
  ·
   split
   ·
    rfl
   ·
    rfl
theorem ib.nx(h:ib t x f w){d:Int}{l:List Int}(hr:∀y∈l,0≤y∧y < (t.2.1.length:Int)):Gs (wQ x d) (l.map f)=(Gs (wQ t d) l).map f:=by
 unfold Gs;rw [List.filter_map,List.filter_map,List.map_append];congr 1
 ·congr 1;exact List.filter_congr fun y hy=>by simp only [Function.comp];rw [h.worn (hr y hy).1 (hr y hy).2]
 ·congr 1;exact List.filter_congr fun y hy=>by simp only [Function.comp];rw [h.worn (hr y hy).1 (hr y hy).2]
theorem ib.row(h:ib t x f w):∀(m:Nat) (d:Int) {l:List Int},(∀y∈l,0≤y∧y < (t.2.1.length:Int))→m3 x m d (l.map f)=m3 t m d l
 |0,_,_,_=>rfl
 |m+1,d,l,hr=>by
  rw [m3,m3,h.lift hr,h.nx hr,h.row m (d+1) fun y hy=>hr y (kK.mem_iff.1 hy),List.length_map]
theorem ib.lifts(h:ib t x f w){q:List (List Int)}(hr:∀l∈q,∀y∈l,0≤y∧y < (t.2.1.length:Int)):cm x (rc f w q)=cm t q:=by
 unfold cm uw;rw [((wZ (f:=f) (w:=w) (q:=q)).map _).sum_nat,h.days,List.map_map];congr 1;exact List.map_congr_left fun l hl=>h.row _ _ (hr l hl)
theorem ib.fits(h:ib t x f w){q:List (List Int)}(hq:q.length=t.2.2.length)(hr:∀l∈q,∀y∈l,0≤y∧y < (t.2.1.length:Int)):mO x (rc f w q)=mO t q:=by
 have hl:∀i,i < q.length→cy x ((q.map (List.map f))[i]?.getD [])=cy t (q[i]?.getD []):=fun i hi=>by
  rw [List.getElem?_map,List.getElem?_eq_getElem hi];exact h.sizes (hr _ (List.getElem_mem hi))
 have key:(mO x (rc f w q)=true)↔(mO t q=true):=by
  rw [ij,ij,zN,h.trunks];unfold rc;cases w with
  |false=>
   simp only [Bool.false_eq_true,if_false];exact⟨fun g i hi=>by rw [←hl i hi];exact g i hi,fun g i hi=>by rw [hl i hi];exact g i hi⟩
  |true=>
   simp only [if_true]
   have hrev:∀i,i < q.length→cy x ((q.map (List.map f)).reverse[i]?.getD [])=cy t (q[q.length - 1 - i]?.getD [])∧t.2.2.reverse[i]?.getD 0=t.2.2[q.length - 1 - i]?.getD 0:=fun i hi=>by
    rw [List.getElem?_reverse (by rw [List.length_map];exact hi),List.length_map,hl _ (by omega),List.getElem?_reverse (by omega),←hq];exact⟨rfl,rfl⟩
   constructor
   ·intro g i hi;have:=g (q.length - 1 - i) (by omega);rw [(hrev _ (by omega)).1,(hrev _ (by omega)).2] at this;rwa [show q.length - 1 - (q.length - 1 - i)=i by omega] at this
   ·intro g i hi;rw [(hrev i hi).1,(hrev i hi).2];exact g _ (by omega)
 exact Bool.eq_iff_iff.2 key
theorem ib.all(h:ib t x f w)(hn:t.2.1.length≤4)(hN:t.2.2.length≤2):((jl x).map (cm x)).Perm ((jl t).map (cm t)):=by
 have hxN:x.2.2.length=t.2.2.length:=by rw [h.trunks];split <;> simp
 have hp:=(J8 hn hN h.ren (w:=w)).symm
 have e1:(jl x).Perm ((jl t).map (rc f w)):=by
  unfold jl;rw [h.things,hxN];refine(hp.filter _).trans ?_;rw [List.filter_map];refine List.Perm.of_eq ?_;congr 1;refine List.filter_congr fun q hq=>?_;obtain⟨a,b,_⟩:=mR hq;exact h.fits a fun l hl y hy=>b.rng y (List.mem_flatten.2 ⟨l,hl,hy⟩)
 refine(e1.map _).trans ?_;rw [List.map_map];refine List.Perm.of_eq (List.map_congr_left fun q hq=>?_);obtain⟨_,b,_⟩:=mR (List.mem_filter.1 hq).1;exact h.lifts fun l hl y hy=>b.rng y (List.mem_flatten.2 ⟨l,hl,hy⟩)
theorem Do{α β:Type}{f:α→Nat}{g:β→Nat}{l:List α}{m:List β}(hp:(l.map f).Perm (m.map g)){a:Option (α×Nat)}{b:Option (β×Nat)}(ha:oD f l a)(hb:oD g m b):
 (a=none∧b=none)∨∃p q n,a=some (p,n)∧b=some (q,n)∧(l.countP fun z=>decide (f z=n))=(m.countP fun z=>decide (g z=n)):=by
 have hlen:=hp.length_eq
 simp only [List.length_map] at hlen
 cases a with
 |none=>
  have ha:l=[]:=ha;subst ha;have:m=[]:=List.length_eq_zero_iff.1 (by simpa using hlen.symm);subst this;cases b with
  |none=>exact .inl ⟨rfl,rfl⟩
  |some b=>obtain⟨q,n⟩:=b;obtain⟨_,_,p,s,h,_⟩:=hb;simp at h
 |some a=>
  obtain⟨p,n⟩:=a;obtain⟨h1,h2,u,v,h3,_⟩:=ha;cases b with
  |none=>
   have hb:m=[]:=hb;subst hb;have:l=[]:=List.length_eq_zero_iff.1 (by simpa using hlen);rw [this] at h3;simp at h3
  |some b=>
   obtain⟨q,n'⟩:=b;obtain⟨g1,g2,u',v',g3,_⟩:=hb;have hpl:p∈l:=by rw [h3];simp
   have hqm:q∈m:=by rw [g3];simp
   obtain⟨q2,hq2,e2⟩:=List.mem_map.1 (hp.mem_iff.1 (List.mem_map.2 ⟨p,hpl,rfl⟩));obtain⟨p2,hp2,e3⟩:=List.mem_map.1 (hp.mem_iff.2 (List.mem_map.2 ⟨q,hqm,rfl⟩));have a1:=g2 q2 hq2;have a2:=h2 p2 hp2;have en:n'=n:=by omega
   subst en;refine .inr ⟨p,q,n',rfl,rfl,?_⟩
   have c1:∀{γ:Type} (h:γ→Nat) (l:List γ),(l.countP fun z=>decide (h z=n'))=(l.map h).countP fun z=>decide (z=n'):=fun h l=>by
    rw [List.countP_map];rfl
   rw [c1 f l,c1 g m,hp.countP_eq]
end
section
variable {k:Nat}
theorem vI(hk:50≤k){l:bZ}{m:Int}{n:Nat}(hl:Lo l m)(hm:0≤m∧m≤1000)(hn:n≤8):W (dZ k l (n:Int)) fun r=>Lo r.2 (m+10)∧r.1.length=n∧(∀x∈r.1,0≤x∧x < (n:Int))∧r.1.Nodup:=by
 unfold dZ;refine W.bind (R:=fun r=>Lo (r.2.1,r.2.2.1,r.2.2.2) (m+10)∧r.1.length=n∧(∀x∈r.1,0≤x∧x < (n:Int))∧r.1.Nodup) ?_ fun r h=>W.ret h
 refine W.loop (f:=eB k (n:Int)) (fun q y=>∃j:Nat,y.2.2.2.2=(j:Int)∧j≤n∧q=n - j∧Lo (y.1,y.2.1,y.2.2.1) (m+j)∧y.2.2.2.1.length=j∧(∀x∈y.2.2.2.1,0≤x∧x < (j:Int))∧y.2.2.2.1.Nodup) ?_ n k _ (by omega)
  ⟨0,rfl,by omega,by omega,by simpa using hl,rfl,by simp,by simp⟩
 rintro aQ q ⟨nums,d,s,o,y⟩ ⟨j,hj,hle,hq,hlo,hlen,hx,hnd⟩ ih;simp only at hj hlo hlen hx hnd;subst hj;unfold eB;dsimp only;refine W.ite (fun hlt=>?_) (fun hge=>W.ret ⟨hlo.mono (by omega),by show o.length=n;omega,fun x hx'=>by have:=hx x hx';omega,hnd⟩);obtain⟨r5,e5,a5,b5,c5⟩:=uF (k:=k) (n:=(j:Int)) hlo (by omega) (by omega);have b5:=b5 (by omega);have ho:(o++[(j:Int)]).length=j+1:=by simp [hlen]
 have hr5:r5.1.toNat < (o++[(j:Int)]).length:=by omega
 have hjl:j < (o++[(j:Int)]).length:=by omega
 have hgj:(o++[(j:Int)])[j]=(j:Int):=by
  rw [List.getElem_append_right (by omega)];simp [hlen]
 rw [e5,bs,dk (Kz (n:=8) (by omega) (by omega)),bs,sF a5 hr5,bs,cX (by omega),bs];have hgs:bf (List.set (o++[(j:Int)]) (Int.toNat (j:Int)) (o++[(j:Int)])[r5.1.toNat]) r5.1=some ((List.set (o++[(j:Int)]) (Int.toNat (j:Int)) (o++[(j:Int)])[r5.1.toNat])[r5.1.toNat]'(by rw [List.length_set];exact hr5)):=sF a5 (by rw [List.length_set];exact hr5);rw [hgs,bs,cp (by omega) (by omega),bs]
 have hp:(List.set (List.set (o++[(j:Int)]) (Int.toNat (j:Int)) (o++[(j:Int)])[r5.1.toNat]) (Int.toNat r5.1) (j:Int)).Perm (o++[(j:Int)]):=by
  have:= @List.set_set_perm Int (o++[(j:Int)]) j r5.1.toNat hjl hr5;rw [hgj] at this;exact this
 refine ih (q - 1) (_,_,_,_,(j:Int)+1) (by omega) ⟨j+1,by show(j:Int)+1=((j+1:Nat):Int);omega,by omega,by omega,c5.mono (by omega),by simp [hlen],fun x hx'=>?_,hp.nodup_iff.2 ?_⟩
 ·rcases List.mem_append.1 (hp.mem_iff.1 hx') with h |h
  ·have:=hx x h;omega
  ·rw [List.mem_singleton] at h;omega
 ·rw [List.nodup_append];exact⟨hnd,by simp,fun a ha b hb=>by rw [List.mem_singleton] at hb;subst hb;have:=hx a ha;omega⟩
theorem rG{l:List Int}(h:l.length≤1000000):eR k l=some l:=by
 unfold eR;rw [dk (O7 (by simp only [List.length_nil];omega)),bs];rfl
theorem A1{t:aU}(hk1:k≤1000000)(h1:t.2.1.length < k)(h2:t.2.2.length≤1000000)(hw:∀x∈t.2.1,x.2.length≤1000000):fM k t=some t:=by
 unfold fM;rw [rG h2,bs]
 have hb:=W.loop (f:=dF k t) (Q:=fun o=>o=t.2.1) (fun m y=>∃j:Nat,y.2=(j:Int)∧j≤t.2.1.length∧m=t.2.1.length - j∧y.1=t.2.1.take j) (by
  rintro aQ m ⟨o,y⟩ ⟨j,hj,hle,hm,ho⟩ ih;simp only at hj ho;subst hj ho;unfold dF;dsimp only;refine W.ite (fun hlt=>?_) (fun hge=>W.ret ?_)
  ·have hj:j < t.2.1.length:=by omega
   rw [cX hj,bs,bs,rG (hw _ (List.getElem_mem hj)),bs,dk (O7 (by simp only [List.length_take,List.length_cons,List.length_nil];omega)),bs,cp (by omega) (by omega),bs];refine ih (m - 1) (_,(j:Int)+1) (by omega) ⟨j+1,by show(j:Int)+1=((j+1:Nat):Int);omega,by omega,by omega,?_⟩;rw [List.take_add_one,List.getElem?_eq_getElem hj];rfl
  ·rw [List.take_of_length_le (by omega)]) t.2.1.length k ([],0) h1 ⟨0,rfl,by omega,by omega,by simp⟩
 obtain⟨o,eo,rfl⟩:=hb;rw [eo,bs]
structure na(n:Nat)(p:List Int):Prop where
 len:p.length=n
 rng:∀x∈p,0≤x∧x < (n:Int)
 nd:p.Nodup
theorem na.ne{n:Nat}{p:List Int}(h:na n p){i j:Nat}(hi:i < p.length)(hj:j < p.length)(e:p[i].toNat=p[j].toNat):i=j:=by
 have h1:=h.rng _ (List.getElem_mem hi);have h2:=h.rng _ (List.getElem_mem hj);exact(List.getElem_inj h.nd).1 (by omega)
theorem na.all{n:Nat}{p:List Int}(h:na n p){m:Nat}(hm:m < n):∃i,∃hi:i < p.length,p[i].toNat=m:=by
 have hM:rK n p:=⟨h.nd,h.rng⟩;have:=hM.full.1 (by have:=h.len;omega) m hm;obtain⟨i,hi,e⟩:=List.getElem_of_mem this;exact⟨i,hi,by rw [e];rfl⟩
theorem zL{α:Type}{n:Nat}{p:List Int}(h:na n p){old new:List α}(hn:new.length=n)(ho:old.length=n){j:Nat}(hj:j < n)(hi:∀i,i < j→∀h':i < p.length,new[p[i].toNat]? =old[i]?):
 ∀i,i < j+1→∀h':i < p.length,(new.set (p[j]'(by rw [h.len];exact hj)).toNat (old[j]'(by omega)))[p[i].toNat]? =old[i]? :=by
 intro i hij h'
 have hpj:j < p.length:=by rw [h.len];exact hj
 have hr:=h.rng _ (List.getElem_mem hpj)
 by_cases e:i=j
 ·
  subst e;rw [List.getElem?_set_self (by omega),List.getElem?_eq_getElem (by omega)]
 ·
  rw [List.getElem?_set_ne (fun e'=>e (h.ne h' hpj e'.symm))];exact hi i (by omega) h'
theorem yj{r3:bB×bZ}{r5:(List Int)×bZ}(hk:50≤k)(hp:na r3.1.2.1.length r5.1)(h8:r3.1.2.1.length≤8)(hw:∀x∈r3.1.2.1,x.2.length≤1000000):
 W (cQ k r3 r5 k (r3.1.2.1,0)) fun X=>X.length=r3.1.2.1.length∧∀i,∀h:i < r5.1.length,X[r5.1[i].toNat]? =r3.1.2.1[i]? :=by
 have hl:=hp.len
 refine W.loop (f:=cQ k r3 r5) (fun m y=>∃j:Nat,y.2=(j:Int)∧j≤r5.1.length∧m=r5.1.length - j∧y.1.length=r3.1.2.1.length∧∀i,i < j→∀h:i < r5.1.length,y.1[r5.1[i].toNat]? =r3.1.2.1[i]?) ?_ r5.1.length k _ (by omega) ⟨0,rfl,by omega,by omega,rfl,fun i hi=>by omega⟩
 rintro aQ m ⟨X,y⟩ ⟨j,hj,hle,hm,hX,hi⟩ ih
 simp only at hj hX hi
 subst hj
 unfold cQ
 dsimp only
 refine W.ite (fun hlt=>?_) (fun hge=>W.ret ⟨hX,fun i h=>hi i (by omega) h⟩)
 have hj:j < r5.1.length:=by omega
 have hj':j < r3.1.2.1.length:=by omega
 have hr:=hp.rng _ (List.getElem_mem hj)
 rw [cX hj,bs,cX hj',bs,bs,rG (hw _ (List.getElem_mem hj')),bs,sF hr.1 (by omega),bs,cp (by omega) (by omega),bs]
 exact ih (m - 1) (_,(j:Int)+1) (by omega) ⟨j+1,by show(j:Int)+1=((j+1:Nat):Int);omega,by omega,by omega,by rw [List.length_set];exact hX,zL hp hX rfl hj' hi⟩
theorem yi{r3:bB×bZ}{r6:(List Int)×bZ}(hk:50≤k)(hp:na r3.1.2.2.length r6.1)(h8:r3.1.2.2.length≤8):
 W (cP k r3 r6 k (r3.1.2.2,0)) fun X=>X.length=r3.1.2.2.length∧∀i,∀h:i < r6.1.length,X[r6.1[i].toNat]? =r3.1.2.2[i]? :=by
 have hl:=hp.len
 refine W.loop (f:=cP k r3 r6) (fun m y=>∃j:Nat,y.2=(j:Int)∧j≤r6.1.length∧m=r6.1.length - j∧y.1.length=r3.1.2.2.length∧∀i,i < j→∀h:i < r6.1.length,y.1[r6.1[i].toNat]? =r3.1.2.2[i]?) ?_ r6.1.length k _ (by omega) ⟨0,rfl,by omega,by omega,rfl,fun i hi=>by omega⟩
 rintro aQ m ⟨X,y⟩ ⟨j,hj,hle,hm,hX,hi⟩ ih
 simp only at hj hX hi
 subst hj
 unfold cP
 dsimp only
 refine W.ite (fun hlt=>?_) (fun hge=>W.ret ⟨hX,fun i h=>hi i (by omega) h⟩)
 have hj:j < r6.1.length:=by omega
 have hj':j < r3.1.2.2.length:=by omega
 have hr:=hp.rng _ (List.getElem_mem hj)
 rw [cX hj,bs,cX hj',bs,sF hr.1 (by omega),bs,cp (by omega) (by omega),bs]
 exact ih (m - 1) (_,(j:Int)+1) (by omega) ⟨j+1,by show(j:Int)+1=((j+1:Nat):Int);omega,by omega,by omega,by rw [List.length_set];exact hX,zL hp hX rfl hj' hi⟩
theorem BG{old new p:List Int}(hp:na old.length p)(hn:new.length=old.length)(h1:1≤old.length)(h2:old.length≤2)(h:∀i,∀h:i < p.length,new[p[i].toNat]? =old[i]?):∃w:Bool,new=if w then old.reverse else old:=by
 obtain⟨pl,pr,pn⟩:=hp;match old,new,p,h1,h2,hn,pl with
 |[a],[b],[x],_,_,_,_=>
  have hx:=pr x (by simp);simp only [List.length_cons,List.length_nil] at hx;have h0:=h 0 (by simp);have:x.toNat=0:=by omega
  simp only [List.getElem_cons_zero,this,List.getElem?_cons_zero,Option.some.injEq] at h0;exact⟨false,by simp [h0]⟩
 |[a,b],[c,d],[x,y],_,_,_,_=>
  have hx:=pr x (by simp);have hy:=pr y (by simp);simp only [List.length_cons,List.length_nil] at hx hy;have hne:x≠y:=by simp only [List.nodup_cons,List.mem_singleton] at pn;exact pn.1
  have h0:=h 0 (by simp);have h1:=h 1 (by simp);simp only [List.getElem_cons_zero,List.getElem_cons_succ,List.getElem?_cons_zero,List.getElem?_cons_succ] at h0 h1;have hc:x=0∧y=1∨x=1∧y=0:=by omega
  rcases hc with⟨rfl,rfl⟩ |⟨rfl,rfl⟩
  ·refine⟨false,?_⟩;simp at h0 h1;simp [h0,h1]
  ·refine⟨true,?_⟩;simp at h0 h1;simp [h0,h1]
theorem qS(hk:k=3000)(hp:fp k=some true)(a0:List Int):iC k a0=some true:=by
 have hk50:50≤k:=by omega
 have hk1:k≤1000000:=by omega
 unfold iC;rw [show jI k a0=some (a0,0,1) from rfl,bs];obtain⟨r3,e3,hT,hlo⟩:=DF hk50 (l:=(a0,0,1)) (m:=0) ⟨by simp,by simp⟩ (by decide) (a:=4) (b:=2) (by decide) (by decide);obtain⟨hs,hd⟩:=nK hT (by decide) (by decide) hk50 hk1;have ht:jk r3.1=0:=hT.chk (by decide) (by decide);have h4:=hT.things;have h2:=hT.trunks;have h6:=hT.days;obtain⟨r5,e5,lo5,len5,rng5,nd5⟩:=vI hk50 hlo (by decide) (n:=r3.1.2.1.length) (by omega);obtain⟨r6,e6,lo6,len6,rng6,nd6⟩:=vI hk50 lo5 (by decide) (n:=r3.1.2.2.length) (by omega);have P5:na r3.1.2.1.length r5.1:=⟨len5,rng5,nd5⟩;have P6:na r3.1.2.2.length r6.1:=⟨len6,rng6,nd6⟩;obtain⟨X,eX,lX,iX⟩:=yj (r3:=r3) hk50 P5 (by omega) (fun x hx=>by have:=(hT.item x hx).2.2.1;omega);obtain⟨T,eT,lT,iT'⟩:=yi (r3:=r3) hk50 P6 (by omega);obtain⟨w,hw⟩:=BG P6 lT h2.1 (by omega) iT'
 rw [show iY k (a0,0,1) 4 2=some r3 from e3,bs,show dZ k (r3.2.1,r3.2.2.1,r3.2.2.2) (r3.1.2.1.length:Int)=some r5 from e5,bs,show dZ k (r5.2.1,r5.2.2.1,r5.2.2.2) (r3.1.2.2.length:Int)=some r6 from e6,bs,
  A1 hk1 (by omega) (by omega) (fun x hx=>by have:=(hT.item x hx).2.2.1;omega),bs,eX,bs,eT,bs]
 have hXm:∀y∈X,y∈r3.1.2.1:=fun y hy=>by
  obtain⟨m,hm,rfl⟩:=List.getElem_of_mem hy;obtain⟨i,hi,e⟩:=P5.all (show m < r3.1.2.1.length by omega);have:=iX i hi;rw [e,List.getElem?_eq_getElem hm] at this;exact List.mem_of_getElem? this.symm
 have hTm:∀y∈T,y∈r3.1.2.2:=fun y hy=>by
  rw [hw] at hy;split at hy
  ·exact List.mem_reverse.1 hy
  ·exact hy
 have hX:zf (r3.1.1,X,T) 4 2:=⟨h6,by show(X.length:Int)≤4;omega,fun y hy=>hT.item y (hXm y hy),by show 1≤T.length∧(T.length:Int)≤2;omega,fun n hn=>hT.rooms n (hTm n hn)⟩;obtain⟨hsX,hdX⟩:=nK hX (by decide) (by decide) hk50 hk1;have htX:jk (r3.1.1,X,T)=0:=hX.chk (by decide) (by decide)
 have hA:ib r3.1 (r3.1.1,X,T) (fun x=>match r5.1[x.toNat]? with |some y=>y |none=>0) w:=by
  refine⟨rfl,lX,⟨fun x h0 hx=>?_,fun x y h0 hx h0' hy e=>?_⟩,fun i hi=>?_,hw⟩
  ·have hx':x.toNat < r5.1.length:=by omega
   simp only [List.getElem?_eq_getElem hx'];exact rng5 _ (List.getElem_mem hx')
  ·have hx':x.toNat < r5.1.length:=by omega
   have hy':y.toNat < r5.1.length:=by omega
   simp only [List.getElem?_eq_getElem hx',List.getElem?_eq_getElem hy'] at e;have:=(List.getElem_inj nd5).1 e;omega
  ·have hi':i < r5.1.length:=by omega
   simp only [show((i:Int)).toNat=i from rfl,List.getElem?_eq_getElem hi'];exact iX i hi'
 rw [uQ hd hs (by omega) ht,bs,uQ hdX hsX (by omega) htX,bs,Br hd hs (by omega) ht,bs,Br hdX hsX (by omega) htX,bs];rcases Do (hA.all (by omega) (by omega)).symm (nP (t:=r3.1)) (nP (t:=(r3.1.1,X,T))) with⟨e1,e2⟩ |⟨p,q,n,e1,e2,e4⟩
 ·rw [e1,e2];simp only [if_true,hp,bs];rfl
 ·rw [e1,e2];simp only [e4,if_true,hp,bs]
end
end Go.Proofs.YtcnpijmfgfnpiaaGreatDoor
