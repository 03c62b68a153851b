import Derived.Test.YtmeojbemjkmebaaGreatDoorRAB12
set_option linter.unusedVariables false
set_option linter.unusedSimpArgs false
namespace Go.Proofs.YtmeojbemjkmebaaGreatDoor
open K Go Go.Proofs
def Ld:List Int→List Int→Bool
 |x::a,y::b=>if x=y then Ld a b else decide (x < y)
 |[],_::_=>true
 |_,[]=>false
def vQ:List (List Int)→List (List Int)→Bool
 |x::a,y::b=>if x=y then vQ a b else Ld x y
 |_,_=>false
theorem wR:∀{a:List (List Int)},vQ a a=false
 |[]=>rfl
 |x::a=>by rw [vQ,if_pos rfl];exact wR
section
variable {k:Nat}
def RY(t:bf)(l:List (List (List Int))):Option (List (List Int)×Nat×Nat)→Prop
 |none=>l=[]
 |some (f,n,c)=>f∈l∧n=ma t f∧(∀x∈l,n≤ma t x)∧c=(l.countP fun q=>decide (ma t q=n))∧0 < c
def Qm(t:bf)(S:List (List (List Int)))(l:List (List (List Int))):Option (List (List Int)×Nat×Nat)→Prop
 |none=>True
 |some (f,n,_)=>∀x∈l,ma t x=n→vQ x f=false
theorem D5:((List.range 5).all fun n=>(List.range 3).all fun N=>decide ((tK n N).Pairwise fun a b=>vQ a b=true∧vQ b a=false))=true:=by decide+kernel
theorem BO{n N:Nat}(hn:n≤4)(hN:N≤2):(tK n N).Pairwise fun a b=>vQ a b=true∧vQ b a=false:=by
 have h:=D5;rw [List.all_eq_true] at h;have h:=h n (List.mem_range.2 (by omega));rw [List.all_eq_true] at h;exact of_decide_eq_true (h N (List.mem_range.2 (by omega)))
theorem Iq.same{t:bf}{S l:List (List (List Int))}(hS:S.Pairwise fun a b=>vQ a b=true∧vQ b a=false)(hl:l.Perm S){b:Option (List (List Int)×Nat)}(hb:Iq (ma t) S b){s:Option (List (List Int)×Nat×Nat)}(hs:RY t l s)(he:Qm t S l s):
 (b=none∧s=none)∨∃q n c,b=some (q,n)∧s=some (q,n,c)∧c=(S.countP fun x=>decide (ma t x=n))∧0 < c:=by
 cases b with
 |none=>
  have hb:S=[]:=hb;subst hb;have:l=[]:=hl.eq_nil;subst this;cases s with
  |none=>exact .inl ⟨rfl,rfl⟩
  |some s=>obtain⟨f,n,c⟩:=s;exact absurd hs.1 (by simp)
 |some b=>
  obtain⟨q,n⟩:=b;obtain⟨h1,h2,p,r,h3,h4⟩:=hb;have hqS:q∈S:=by rw [h3];simp
  cases s with
  |none=>
   have hs:l=[]:=hs;subst hs;have:=hl.symm.eq_nil;rw [this] at hqS;cases hqS
  |some s=>
   obtain⟨f,n',c⟩:=s;obtain⟨g1,g2,g3,g4,g5⟩:=hs;have hfS:f∈S:=hl.mem_iff.1 g1;have hql:q∈l:=hl.mem_iff.2 hqS;have e1:=h2 f hfS;have e2:=g3 q hql;have en:n'=n:=by omega
   subst en
   have hfq:f=q:=by
    rw [h3] at hfS;rcases List.mem_append.1 hfS with h |h
    ·have:=h4 f h;omega
    ·rcases List.mem_cons.1 h with h |h
     ·exact h
     ·have hp:=hS;rw [h3] at hp;have:=(List.pairwise_append.1 hp).2.1;have:=((List.pairwise_cons.1 this).1 f h).1;have h5:=he q hql h1.symm;rw [this] at h5;cases h5
   subst hfq;exact .inr ⟨f,n',c,rfl,rfl,by rw [g4,hl.countP_eq],g5⟩
end
end Go.Proofs.YtmeojbemjkmebaaGreatDoor
set_option linter.unusedVariables false
namespace Go.Proofs.YtmeojbemjkmebaaGreatDoor
open K Go Go.Proofs
theorem yS{α:Type}[DecidableEq α]:∀{l m:List α},l.Nodup→(∀x∈l,x∈m)→m.length≤l.length→l.Perm m
 |[],m,_,_,h=>by
  have:m=[]:=List.length_eq_zero_iff.1 (by simpa using h)
  subst this;exact List.Perm.refl _
 |a::l,m,hn,hs,h=>by
  obtain⟨h1,h2⟩:=List.nodup_cons.1 hn
  have ha:a∈m:=hs a (by simp)
  have hp:=List.perm_cons_erase ha
  refine(List.Perm.cons a (yS h2 (m:=m.erase a) (fun x hx=>?_) ?_)).trans hp.symm
  ·
   exact(List.mem_erase_of_ne (by rintro rfl;exact h1 hx)).2 (hs x (by simp [hx]))
  ·
   rw [List.length_erase,if_pos (by simpa using ha)]
   simp only [List.length_cons] at h;omega
theorem EC{n N:Nat}{x:List (List Int)}(hx:x.length=N)(hm:qJ n x.flatten)(hf:¬x.flatten.length < n):∀(m:Nat) (q:List (List Int)) (tr:Nat),q.length=N→tr≤N→(n - q.flatten.length)+(N - tr) < m→qJ n q.flatten→
 (∀i,i < tr→x[i]?.getD []=q[i]?.getD [])→(∃s,x[tr]?.getD []=q[tr]?.getD []++s)→(∀i,tr < i→q[i]?.getD []=[])→x∈uY n N m q tr:=by
 intro m
 induction m with
 |zero=>intro q tr _ _ h;omega
 |succ m ih=>
  intro q tr hq ht hlt hqm h1 h2 h3;rw [uY];by_cases c:tr=N
  ·have e:x=q:=by
    refine List.ext_getElem (by omega) fun i h4 h5=>?_;have:=h1 i (by omega);rw [List.getElem?_eq_getElem h4,List.getElem?_eq_getElem h5] at this;exact this
   rw [if_pos c,←e,if_neg hf];simp
  ·rw [if_neg c];have htr:tr < q.length:=by omega
   obtain⟨s,hs⟩:=h2;cases s with
   |nil=>
    refine List.mem_append_left _ (ih q (tr+1) hq (by omega) (by omega) hqm (fun i hi=>?_) ⟨x[tr+1]?.getD [],?_⟩ (fun i hi=>h3 i (by omega)))
    ·by_cases e:i=tr
     ·subst e;rw [hs,List.append_nil]
     ·exact h1 i (by omega)
    ·rw [h3 (tr+1) (by omega),List.nil_append]
   |cons a s=>
    have htx:tr < x.length:=by omega
    have hax:a∈x.flatten:=by
     refine List.mem_flatten.2 ⟨x[tr],List.getElem_mem htx,?_⟩;rw [List.getElem?_eq_getElem htx,Option.getD_some] at hs;rw [hs];simp
    obtain⟨i,hi⟩:=Int.eq_ofNat_of_zero_le (hm.rng a hax).1;subst hi;have hin:=(hm.rng _ hax).2
    have hna:(i:Int)∉q.flatten:=by
     intro hq';obtain⟨l,hl,hil⟩:=List.mem_flatten.1 hq';obtain⟨j,hj,rfl⟩:=List.getElem_of_mem hl
     have hxtr:(i:Int)∈x[tr]:=by
      rw [List.getElem?_eq_getElem htx,Option.getD_some] at hs;rw [hs];simp
     rcases Nat.lt_trichotomy j tr with h |h |h
     ·have e:=h1 j h;rw [List.getElem?_eq_getElem (show j < x.length by omega),List.getElem?_eq_getElem hj] at e;have e:x[j]=q[j]:=e;have:=D2 hm.nd (show j < x.length by omega) htx (x:=(i:Int)) (by rw [e];exact hil) hxtr;omega
     ·subst h;have hnd:x[j].Nodup:=(List.pairwise_flatten.1 hm.nd).1 _ (List.getElem_mem htx);rw [List.getElem?_eq_getElem htx,Option.getD_some,List.getElem?_eq_getElem hj,Option.getD_some] at hs;rw [hs,List.nodup_append] at hnd;exact hnd.2.2 _ hil _ (by simp) rfl
     ·have:=h3 j h;rw [List.getElem?_eq_getElem hj,Option.getD_some] at this;rw [this] at hil;cases hil
    refine List.mem_append_right _ (List.mem_flatMap.2 ⟨i,List.mem_range.2 (by omega),?_⟩);rw [if_neg hna];have hp:=t9 (i:=i) htr;have hl:=hp.length_eq;simp only [List.length_append,List.length_cons,List.length_nil] at hl
    have hm':qJ n (qV q tr i).flatten:=⟨hp.nodup_iff.2 (by
     rw [List.nodup_append];exact⟨hqm.nd,by simp,fun a ha b hb=>by rw [List.mem_singleton] at hb;subst hb;exact fun e=>hna (e▸ha)⟩),fun y hy=>by
     rcases List.mem_append.1 (hp.mem_iff.1 hy) with hy |hy
     ·exact hqm.rng y hy
     ·rw [List.mem_singleton] at hy;omega⟩
    have:=hm'.len;refine ih (qV q tr i) tr (by unfold qV;rw [List.length_set,hq]) ht (by omega) hm' (fun j hj=>?_) ⟨s,?_⟩ (fun j hj=>?_)
    ·rw [tM htr,if_neg (by omega)];exact h1 j hj
    ·rw [tM htr,if_pos rfl,hs];simp
    ·rw [tM htr,if_neg (by omega)];exact h3 j hj
theorem GY{n N:Nat}(hn:n+N < 10){x:List (List Int)}:x∈tK n N↔x.length=N∧qJ n x.flatten∧¬x.flatten.length < n:=by
 refine⟨pD,fun⟨h1,h2,h3⟩=>?_⟩
 have hr:∀i:Nat,(List.replicate N ([]:List Int))[i]?.getD []=[]:=fun i=>by
  rw [List.getElem?_replicate];split <;> rfl
 exact EC h1 h2 h3 10 _ 0 (by simp) (by omega) (by simp only [List.flatten_replicate_nil,List.length_nil];omega) (by simp only [List.flatten_replicate_nil];exact⟨by simp,by simp⟩) (fun i hi=>by omega) ⟨x[0]?.getD [],by rw [hr,List.nil_append]⟩ (fun i _=>hr i)
def qq(f:Int→Int)(w:Bool)(q:List (List Int)):List (List Int):=if w then(q.map (List.map f)).reverse else q.map (List.map f)
structure EQ(n:Nat)(f:Int→Int):Prop where
 rng:∀x,0≤x→x < (n:Int)→0≤f x∧f x < (n:Int)
 inj:∀x y,0≤x→x < (n:Int)→0≤y→y < (n:Int)→f x=f y→x=y
theorem yW{f:Int→Int}{w:Bool}{q:List (List Int)}:(qq f w q).length=q.length:=by
 unfold qq;split <;> simp
theorem wd{f:Int→Int}{w:Bool}{q:List (List Int)}:(qq f w q).Perm (q.map (List.map f)):=by
 unfold qq;split
 ·exact List.reverse_perm _
 ·exact List.Perm.refl _
theorem DX{f:Int→Int}{w:Bool}{q:List (List Int)}:(qq f w q).flatten.Perm (q.flatten.map f):=by
 refine wd.flatten.trans ?_;rw [List.map_flatten]
theorem wx{f:Int→Int}{n:Nat}(hf:EQ n f):∀{l:List Int},l.Nodup→(∀x∈l,0≤x∧x < (n:Int))→(l.map f).Nodup
 |[],_,_=>by simp
 |a::l,hn,hr=>by
  obtain⟨h1,h2⟩:=List.nodup_cons.1 hn
  rw [List.map_cons,List.nodup_cons]
  refine⟨fun h=>?_,wx hf h2 fun x hx=>hr x (by simp [hx])⟩
  obtain⟨b,hb,e⟩:=List.mem_map.1 h
  have ha:=hr a (by simp)
  have hb':=hr b (by simp [hb])
  exact h1 (hf.inj b a hb'.1 hb'.2 ha.1 ha.2 e▸hb)
theorem IV{n N:Nat}(hn:n+N < 10){f:Int→Int}(hf:EQ n f){w:Bool}{q:List (List Int)}(h:q∈tK n N):qq f w q∈tK n N:=by
 obtain⟨h1,h2,h3⟩:=pD h;have hp:=DX (f:=f) (w:=w) (q:=q);refine(GY hn).2 ⟨by rw [yW,h1],⟨hp.nodup_iff.2 (wx hf h2.nd h2.rng),fun x hx=>?_⟩,by rw [hp.length_eq,List.length_map];exact h3⟩;obtain⟨y,hy,rfl⟩:=List.mem_map.1 (hp.mem_iff.1 hx);have:=h2.rng y hy;exact hf.rng y this.1 this.2
theorem uL{f:Int→Int}{n:Nat}(hf:EQ n f):∀{a b:List Int},(∀x∈a,0≤x∧x < (n:Int))→(∀x∈b,0≤x∧x < (n:Int))→a.map f=b.map f→a=b
 |[],[],_,_,_=>rfl
 |[],_::_,_,_,e=>by simp at e
 |_::_,[],_,_,e=>by simp at e
 |x::a,y::b,ha,hb,e=>by
  simp only [List.map_cons,List.cons.injEq] at e
  have hx:=ha x (by simp)
  have hy:=hb y (by simp)
  rw [hf.inj x y hx.1 hx.2 hy.1 hy.2 e.1,uL hf (fun z hz=>ha z (by simp [hz])) (fun z hz=>hb z (by simp [hz])) e.2]
theorem tq{f:Int→Int}{n:Nat}(hf:EQ n f):∀{a b:List (List Int)},(∀l∈a,∀x∈l,0≤x∧x < (n:Int))→(∀l∈b,∀x∈l,0≤x∧x < (n:Int))→a.map (List.map f)=b.map (List.map f)→a=b
 |[],[],_,_,_=>rfl
 |[],_::_,_,_,e=>by simp at e
 |_::_,[],_,_,e=>by simp at e
 |x::a,y::b,ha,hb,e=>by
  simp only [List.map_cons,List.cons.injEq] at e
  rw [uL hf (ha x (by simp)) (hb y (by simp)) e.1,tq hf (fun z hz=>ha z (by simp [hz])) (fun z hz=>hb z (by simp [hz])) e.2]
theorem IW{n N:Nat}{f:Int→Int}(hf:EQ n f){w:Bool}{a b:List (List Int)}(ha:a∈tK n N)(hb:b∈tK n N)(e:qq f w a=qq f w b):a=b:=by
 obtain⟨_,a2,_⟩:=pD ha;obtain⟨_,b2,_⟩:=pD hb;refine tq hf (fun l hl x hx=>a2.rng x (List.mem_flatten.2 ⟨l,hl,hx⟩)) (fun l hl x hx=>b2.rng x (List.mem_flatten.2 ⟨l,hl,hx⟩)) ?_;unfold qq at e;cases w with
 |true=>simp only [if_true] at e;exact List.reverse_inj.1 e
 |false=>simpa using e
theorem IX{n N:Nat}(hn:n≤4)(hN:N≤2){f:Int→Int}(hf:EQ n f){w:Bool}:((tK n N).map (qq f w)).Perm (tK n N):=by
 have hnd:(tK n N).Nodup:=(BO hn hN).imp fun h e=>by subst e;rw [wR] at h;cases h.1
 refine yS ?_ (fun x hx=>?_) (by rw [List.length_map];exact Nat.le_refl _)
 ·rw [List.Nodup,List.pairwise_map];refine hnd.imp_of_mem fun {a b} ha hb hab e=>hab (IW hf ha hb e)
 ·obtain⟨q,hq,rfl⟩:=List.mem_map.1 hx;exact IV (by omega) hf hq
structure g8(t x:bf)(f:Int→Int)(w:Bool):Prop where
 days:x.1=t.1
 things:x.2.1.length=t.2.1.length
 ren:EQ t.2.1.length f
 item:∀i:Nat,i < t.2.1.length→x.2.1[(f (i:Int)).toNat]? =t.2.1[i]?
 trunks:x.2.2=if w then t.2.2.reverse else t.2.2
section
variable {t x:bf}{f:Int→Int}{w:Bool}
theorem g8.worn(h:g8 t x f w){y d:Int}(h0:0≤y)(hy:y < (t.2.1.length:Int)):lR x d (f y)=lR t d y:=by
 obtain⟨i,rfl⟩:=Int.eq_ofNat_of_zero_le h0;unfold lR;rw [h.item i (by omega),show((i:Int)).toNat=i from rfl]
theorem g8.size(h:g8 t x f w){y:Int}(h0:0≤y)(hy:y < (t.2.1.length:Int)):fe x (f y)=fe t y:=by
 obtain⟨i,rfl⟩:=Int.eq_ofNat_of_zero_le h0;unfold fe;rw [h.item i (by omega),show((i:Int)).toNat=i from rfl]
theorem g8.sizes(h:g8 t x f w):∀{l:List Int},(∀y∈l,0≤y∧y < (t.2.1.length:Int))→cQ x (l.map f)=cQ t l
 |[],_=>rfl
 |y::l,hr=>by
  have hy:=hr y (by simp)
  simp only [List.map_cons,cQ]
  rw [h.size hy.1 hy.2,h.sizes fun z hz=>hr z (by simp [hz])]
theorem g8.lift(h:g8 t x f w){d:Int}:∀{l:List Int} {u:Bool},(∀y∈l,0≤y∧y < (t.2.1.length:Int))→fD (lR x d) u (l.map f)=(fD (lR t d) u l).map f
 |[],_,_=>rfl
 |y::l,u,hr=>by
  have hy:=hr y (by simp)
  have hl:∀z∈l,0≤z∧z < (t.2.1.length:Int):=fun z hz=>hr z (by simp [hz])
  simp only [List.map_cons,fD]
  rw [h.worn hy.1 hy.2,h.lift hl,h.lift hl]
  split
  ·
   rfl
  ·
   split
   ·
    rfl
   ·
    rfl
theorem g8.nx(h:g8 t x f w){d:Int}{l:List Int}(hr:∀y∈l,0≤y∧y < (t.2.1.length:Int)):wl (lR x d) (l.map f)=(wl (lR t d) l).map f:=by
 unfold wl;rw [List.filter_map,List.filter_map,List.map_append];congr 1
 ·congr 1;exact List.filter_congr fun y hy=>by simp only [Function.comp];rw [h.worn (hr y hy).1 (hr y hy).2]
 ·congr 1;exact List.filter_congr fun y hy=>by simp only [Function.comp];rw [h.worn (hr y hy).1 (hr y hy).2]
theorem g8.row(h:g8 t x f w):∀(m:Nat) (d:Int) {l:List Int},(∀y∈l,0≤y∧y < (t.2.1.length:Int))→kS x m d (l.map f)=kS t m d l
 |0,_,_,_=>rfl
 |m+1,d,l,hr=>by
  rw [kS,kS,h.lift hr,h.nx hr,h.row m (d+1) fun y hy=>hr y (kj.mem_iff.1 hy),List.length_map]
theorem g8.lifts(h:g8 t x f w){q:List (List Int)}(hr:∀l∈q,∀y∈l,0≤y∧y < (t.2.1.length:Int)):ma x (qq f w q)=ma t q:=by
 unfold ma iy;rw [((wd (f:=f) (w:=w) (q:=q)).map _).sum_nat,h.days,List.map_map];congr 1;exact List.map_congr_left fun l hl=>h.row _ _ (hr l hl)
theorem g8.fits(h:g8 t x f w){q:List (List Int)}(hq:q.length=t.2.2.length)(hr:∀l∈q,∀y∈l,0≤y∧y < (t.2.1.length:Int)):uW x (qq f w q)=uW t q:=by
 have hl:∀i,i < q.length→cQ x ((q.map (List.map f))[i]?.getD [])=cQ t (q[i]?.getD []):=fun i hi=>by
  rw [List.getElem?_map,List.getElem?_eq_getElem hi];exact h.sizes (hr _ (List.getElem_mem hi))
 have key:(uW x (qq f w q)=true)↔(uW t q=true):=by
  rw [zW,zW,yW,h.trunks];unfold qq;cases w with
  |false=>
   simp only [Bool.false_eq_true,if_false];exact⟨fun g i hi=>by rw [←hl i hi];exact g i hi,fun g i hi=>by rw [hl i hi];exact g i hi⟩
  |true=>
   simp only [if_true]
   have hrev:∀i,i < q.length→cQ x ((q.map (List.map f)).reverse[i]?.getD [])=cQ t (q[q.length - 1 - i]?.getD [])∧t.2.2.reverse[i]?.getD 0=t.2.2[q.length - 1 - i]?.getD 0:=fun i hi=>by
    rw [List.getElem?_reverse (by rw [List.length_map];exact hi),List.length_map,hl _ (by omega),List.getElem?_reverse (by omega),←hq];exact⟨rfl,rfl⟩
   constructor
   ·intro g i hi;have:=g (q.length - 1 - i) (by omega);rw [(hrev _ (by omega)).1,(hrev _ (by omega)).2] at this;rwa [show q.length - 1 - (q.length - 1 - i)=i by omega] at this
   ·intro g i hi;rw [(hrev i hi).1,(hrev i hi).2];exact g _ (by omega)
 exact Bool.eq_iff_iff.2 key
theorem g8.all(h:g8 t x f w)(hn:t.2.1.length≤4)(hN:t.2.2.length≤2):((H5 x).map (ma x)).Perm ((H5 t).map (ma t)):=by
 have hxN:x.2.2.length=t.2.2.length:=by rw [h.trunks];split <;> simp
 have hp:=(IX hn hN h.ren (w:=w)).symm
 have e1:(H5 x).Perm ((H5 t).map (qq f w)):=by
  unfold H5;rw [h.things,hxN];refine(hp.filter _).trans ?_;rw [List.filter_map];refine List.Perm.of_eq ?_;congr 1;refine List.filter_congr fun q hq=>?_;obtain⟨a,b,_⟩:=pD hq;exact h.fits a fun l hl y hy=>b.rng y (List.mem_flatten.2 ⟨l,hl,hy⟩)
 refine(e1.map _).trans ?_;rw [List.map_map];refine List.Perm.of_eq (List.map_congr_left fun q hq=>?_);obtain⟨_,b,_⟩:=pD (List.mem_filter.1 hq).1;exact h.lifts fun l hl y hy=>b.rng y (List.mem_flatten.2 ⟨l,hl,hy⟩)
end
section
variable {k:Nat}
theorem vc{l:List Int}(h:l.length≤1000000):iC k l=some l:=by
 unfold iC;rw [du (K5 (by simp only [List.length_nil];omega)),bs];rfl
theorem Aa{t:bf}(hk1:k≤1000000)(h1:t.2.1.length < k)(h2:t.2.2.length≤1000000)(hw:∀x∈t.2.1,x.2.length≤1000000):gz k t=some t:=by
 unfold gz;rw [vc h2,bs]
 have hb:=W.loop (f:=fq k t) (Q:=fun o=>o=t.2.1) (fun m y=>∃j:Nat,y.2=(j:Int)∧j≤t.2.1.length∧m=t.2.1.length - j∧y.1=t.2.1.take j) (by
  rintro aS m ⟨o,y⟩ ⟨j,hj,hle,hm,ho⟩ ih;simp only at hj ho;subst hj ho;unfold fq;dsimp only;refine W.ite (fun hlt=>?_) (fun hge=>W.ret ?_)
  ·have hj:j < t.2.1.length:=by omega
   rw [dh hj,bs,bs,vc (hw _ (List.getElem_mem hj)),bs,du (K5 (by simp only [List.length_take,List.length_cons,List.length_nil];omega)),bs,bV (by omega) (by omega),bs];refine ih (m - 1) (_,(j:Int)+1) (by omega) ⟨j+1,by show(j:Int)+1=((j+1:Nat):Int);omega,by omega,by omega,?_⟩;rw [List.take_add_one,List.getElem?_eq_getElem hj];rfl
  ·rw [List.take_of_length_le (by omega)]) t.2.1.length k ([],0) h1 ⟨0,rfl,by omega,by omega,by simp⟩
 obtain⟨o,eo,rfl⟩:=hb;rw [eo,bs]
structure ym(n:Nat)(p:List Int):Prop where
 len:p.length=n
 rng:∀x∈p,0≤x∧x < (n:Int)
 nd:p.Nodup
theorem ym.ne{n:Nat}{p:List Int}(h:ym n p){i j:Nat}(hi:i < p.length)(hj:j < p.length)(e:p[i].toNat=p[j].toNat):i=j:=by
 have h1:=h.rng _ (List.getElem_mem hi);have h2:=h.rng _ (List.getElem_mem hj);exact(List.getElem_inj h.nd).1 (by omega)
theorem ym.all{n:Nat}{p:List Int}(h:ym n p){m:Nat}(hm:m < n):∃i,∃hi:i < p.length,p[i].toNat=m:=by
 have hM:qJ n p:=⟨h.nd,h.rng⟩;have:=hM.full.1 (by have:=h.len;omega) m hm;obtain⟨i,hi,e⟩:=List.getElem_of_mem this;exact⟨i,hi,by rw [e];rfl⟩
end
end Go.Proofs.YtmeojbemjkmebaaGreatDoor
set_option linter.unusedVariables false
namespace Go.Proofs.YtmeojbemjkmebaaGreatDoor
open K Go Go.Proofs
section
variable {w w':Int→Bool}{p:Int→Bool}{f:Int→Int}
end
def gY(t:bf)(D:Int):bf:=(D,t.2.1.map (fun x=>(x.1,x.2.filter fun d=>decide (d < D))),t.2.2)
theorem yU{t:bf}{D d x:Int}(hd:d < D):lR (gY t D) d x=lR t d x:=by
 unfold lR gY;dsimp only;rw [List.getElem?_map];cases t.2.1[x.toNat]? with
 |none=>rfl
 |some y=>simp [List.mem_filter,hd]
theorem wb{t:bf}{D:Int}:∀(n m:Nat) (d:Int) (l:List Int),d+(n:Int)≤D→n≤m→kS (gY t D) n d l≤kS t m d l
 |0,_,_,_,_,_=>Nat.zero_le _
 |n+1,0,_,_,_,h=>by omega
 |n+1,m+1,d,l,hd,h=>by
  have e:lR (gY t D) d=lR t d:=funext fun x=>yU (t:=t) (D:=D) (d:=d) (x:=x) (by omega)
  rw [kS,kS,e]
  have:=wb (t:=t) (D:=D) n m (d+1) (wl (lR t d) l) (by omega) (by omega)
  omega
theorem FO{t:bf}{D:Int}(hD:1≤D∧D≤t.1)(g':nQ (gY t D)){q:List (List Int)}(h:iU t q):iU (gY t D) q∧ma (gY t D) q≤ma t q:=by
 have hl:(gY t D).2.1.length=t.2.1.length:=by unfold gY;dsimp only;rw [List.length_map]
 have hs:∀(l:List Int),cQ (gY t D) l=cQ t l:=by
  intro l
  induction l with
  |nil=>rfl
  |cons x l ih=>
   have e:fe (gY t D) x=fe t x:=by
    unfold fe gY;dsimp only;rw [List.getElem?_map];cases t.2.1[x.toNat]? <;> rfl
   rw [cQ,cQ,e,ih]
 refine⟨⟨g',h.len,h.nd,fun x hx=>by rw [hl];exact h.rng x hx,fun i hi=>h.all i (by rw [hl] at hi;exact hi),fun i hi=>by rw [hs];exact h.room i hi⟩,?_⟩;unfold ma iy;show(List.map (kS (gY t D) D.toNat 0) q).sum≤_;clear h
 induction q with
 |nil=>exact Nat.le_refl _
 |cons l q ih=>
  simp only [List.map_cons,List.sum_cons];have e1:(0:Int)+(D.toNat:Int)≤D:=by omega
  have e2:D.toNat≤t.1.toNat:=by omega
  have:=wb (t:=t) (D:=D) D.toNat t.1.toNat 0 l e1 e2;have h2:=ih;omega
section
variable {k:Nat}
theorem DJ{t:bf}{a b:Int}(h:tL t a b){D:Int}(hD:1≤D∧D≤t.1):tL (gY t D) a b:=by
 refine⟨⟨hD.1,by have:=h.days;show D≤4;omega⟩,by unfold gY;dsimp only;rw [List.length_map];exact h.things,fun x hx=>?_,h.trunks,h.rooms⟩;obtain⟨y,hy,rfl⟩:=List.mem_map.1 hx;have hi:=h.item y hy;refine⟨hi.1,hi.2.1,Nat.le_trans (List.length_filter_le _ _) hi.2.2.1,fun d hd=>?_,hi.2.2.2.2.filter _⟩;obtain⟨h1,h2⟩:=List.mem_filter.1 hd;exact⟨(hi.2.2.2.1 d h1).1,of_decide_eq_true h2⟩
end
end Go.Proofs.YtmeojbemjkmebaaGreatDoor
