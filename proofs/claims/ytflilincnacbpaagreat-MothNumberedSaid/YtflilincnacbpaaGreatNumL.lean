import Derived.Test.YtflilincnacbpaaGreatVTB11
open Nat
open List hiding mem_of_getElem?
open Array hiding mem_of_getElem? mk
set_option linter.unusedVariables false
set_option linter.unusedSimpArgs false
set_option maxRecDepth 4000
namespace Go.Proofs.YtflilincnacbpaaGreat
open K Go Go.Proofs
theorem na{α β:Type}{f:β->α}:∀(l:List β) (j:Nat) (s:List α),s.length=j+l.length->oQ (λ(s:List α) j x=>s.set j (f x)) j l s=s.take j++l.map f
 |[],j,s,h=>by
  rw [oQ,take_of_length_le (by simp at h;omega)];simp
 |x::l,j,s,h=>by
  rw [length_cons] at h
  rw [oQ,na l (j+1) _ (by rw [length_set];omega),map_cons]
  have:(s.set j (f x)).take (j+1)=s.take j++[f x]:=by
   rw [take_add_one,List.take_set_of_le (Nat.le_refl j),List.getElem?_set];rw [if_pos rfl,if_pos (by omega)];rfl
  rw [this,List.append_assoc];rfl
theorem Qc{k:Nat}{l:List Int}{x:Int}(hk:l.length < k)(hl:l.length≤1000000):lD k l x=some (match l.findIdx? (λy=>decide (y=x)) with |some i=>(i:Int) |none=> -1):=by
 unfold lD
 have key:=mh (f:=gA k l x) l (λ(_:Unit) j=>j) (λ_ j y=>if decide (y=x)=true then Except.error (j:Int) else .ok ()) (λ_ _=>True) (λr=>some r)
  (λn s j hj _=>by
   have hck:ck ((j:Int)+1)=some ((j:Int)+1):=dz (by omega) (by omega);refine⟨?_,λ_ _=>trivial⟩;simp only [gA,Int.ofNat_lt,hj,if_true,eh hj,bs,decide_eq_true_eq];grind)
  (λn s _=>by simp [gA]) (n:=k) (s0:=()) hk trivial
 rw [show gA k l x k 0=_ from key,qG (λy=>decide (y=x)) l 0];grind [decide,oc,qN]
def kB(o:List Int)(x:Int):Int:=o[x.toNat]?.getD 0
theorem qZ{o:List Int}{x:Int}(h0:0≤x)(h1:x < o.length):aG o x=some (kB o x):=by
 rw [rN h0 (by omega)];unfold kB;rw [List.getElem?_eq_getElem (by omega)];rfl
theorem K0{o:List Int}(hr:∀x∈o,0≤x/\x < (o.length:Int))(hn:o.Nodup):zd (o.length:Int) (kB o):=by
 have hg:∀x:Int,0≤x->x < o.length->∃h:x.toNat < o.length,kB o x=o[x.toNat]:=λx h0 h1=>⟨by omega,by unfold kB;rw [List.getElem?_eq_getElem (by omega)];rfl⟩
 have inj:∀x y:Int,0≤x->x < o.length->0≤y->y < o.length->kB o x=kB o y->x=y:=λx y h0 h1 g0 g1 he=>by
  obtain⟨hx,ex⟩:=hg x h0 h1;obtain⟨hy,ey⟩:=hg y g0 g1;have hp:=List.pairwise_iff_getElem.1 (List.nodup_iff_pairwise_ne.1 hn);rcases Nat.lt_trichotomy x.toNat y.toNat with h |h |h
  .exact absurd (ex▸ey▸he) (hp _ _ hx hy h)
  .omega
  .exact absurd (ex▸ey▸he).symm (hp _ _ hy hx h)
 refine⟨λx h0 h1=>?_,inj,λy h0 h1=>?_⟩
 .obtain⟨hx,ex⟩:=hg x h0 h1;rw [ex];exact hr _ (List.getElem_mem hx)
 .have hy:y∈o:=by
   refine Decidable.byContradiction λhno=>?_
   have:=qh (o.length) (y::o) (by rw [nodup_cons];exact⟨hno,hn⟩) λx hx=>by
    rcases mem_cons.1 hx with rfl |hx
    .exact⟨h0,h1⟩
    .exact hr x hx
   rw [length_cons] at this;omega
  obtain⟨i,hi,he⟩:=List.getElem_of_mem hy;refine⟨(i:Int),by omega,by omega,?_⟩;unfold kB;rw [Int.toNat_natCast,List.getElem?_eq_getElem hi];exact he
theorem uE{α:Type}{l:List α}{i:Nat}{x:α}(h:l[i]? =some x):l.set i x=l:=by
 obtain⟨hi,he⟩:=List.getElem?_eq_some_iff.1 h;rw [<-he,List.set_getElem_self]
section
variable {k:Nat}{o:List Int}{lo:ba}{m:ae}
theorem Pn{d i:Nat}{days:List (List (List Int))}{x:List (List Int)}{rail cur:List Int}{z12 z16:List (List (List Int))}(hk:20≤k)(hd:days[d]? =some x)(hi:x[i]? =some cur)(hlen:cur.length=rail.length)(hl:rail.length≤5)(hm:∃q,(mD m)[d]? =some q)(hr:∀y∈rail,0≤y/\y < (o.length:Int)):
 bV k (o,lo) m ((d:Int),z12) ((i:Int),z16) rail k (0,days)=some (days.set d (x.set i (sd (kB o) rail))):=by
 have hdl:=(List.getElem?_eq_some_iff.1 hd).1
 have hil:=(List.getElem?_eq_some_iff.1 hi).1
 obtain⟨q,hq⟩:=hm
 have htl:(sd (kB o) rail).length=rail.length:=by unfold sd;simp
 have key:=fH (T:=Int×List (List (List Int))) (f:=bV k (o,lo) m ((d:Int),z12) ((i:Int),z16) rail) (sd (kB o) rail) (λ(s:List Int) j=>(j,days.set d (x.set i s))) (λ(s:List Int) j y=>s.set j (id y)) (λj s=>s.length=rail.length) (λs=>some (days.set d (x.set i s)))
  (λn s j hj hs=>by
   rw [htl] at hj;have hck:ck ((j:Int)+1)=some ((j:Int)+1):=dz (by omega) (by omega);have hck1:ck ((rail.length:Int) - 1)=some ((rail.length:Int) - 1):=dz (by omega) (by omega)
   have hck2:ck ((rail.length:Int) - 1 - (j:Int))=some (((rail.length - 1 - j:Nat):Int)):=by
    have e:(rail.length:Int) - 1 - (j:Int)=((rail.length - 1 - j:Nat):Int):=by omega
    rw [e];exact dz (by omega) (by omega)
   have g1:aG (days.set d (x.set i s)) (d:Int)=some (x.set i s):=qE (by omega) (by rw [Int.toNat_natCast,List.getElem?_set];simp [hdl]);have g2:aG (mD m) (d:Int)=some q:=qE (by omega) (by rw [Int.toNat_natCast];exact hq);have g3:aG (x.set i s) (i:Int)=some s:=qE (by omega) (by rw [Int.toNat_natCast,List.getElem?_set];simp [hil]);have hj2:rail.length - 1 - j < rail.length:=by omega
   have g4:aG rail (((rail.length - 1 - j:Nat):Int))=some rail[rail.length - 1 - j]:=eh hj2;have hy:=hr _ (List.getElem_mem hj2);have g5:=qZ (o:=o) hy.1 hy.2;have g6:aG s (j:Int)=some s[j]:=eh (by omega)
   have hx:(sd (kB o) rail)[j]'(by rw [htl];exact hj)=kB o rail[rail.length - 1 - j]:=by
    have:=xO (σ:=kB o) (l:=rail) hj2;rw [show rail.length - 1 - (rail.length - 1 - j)=j by omega,List.getElem?_eq_getElem hj2,List.getElem?_eq_getElem (by rw [htl];exact hj)] at this;exact Option.some.inj this
   refine⟨?_,by rw [length_set];exact hs⟩;rw [bV];show(if(j:Int) < (rail.length:Int) then(aG (days.set d (x.set i s)) (d:Int)).bind _ else _)=_;rw [if_pos (by omega),g1,bs];show((aG (mD m) (d:Int)).bind _)=_;rw [g2,bs];show((aG (x.set i s) (i:Int)).bind _)=_;rw [g3,bs,hck1,bs];show((ck ((rail.length:Int) - 1 - (j:Int))).bind _)=_;rw [hck2,bs,g4,bs,g5,bs];show((aG s (j:Int)).bind _)=_;rw [g6,bs];show((ck ((j:Int)+1)).bind _)=_;rw [hck,bs,hx];show bV k (o,lo) m _ _ rail n ((j:Int)+1,List.set (days.set d (x.set i s)) (Int.toNat (d:Int)) (List.set (x.set i s) (Int.toNat (i:Int)) (List.set s (Int.toNat (j:Int)) _)))=_;rw [Int.toNat_natCast,Int.toNat_natCast,Int.toNat_natCast,List.set_set,List.set_set];rfl)
  (λn s _=>by
   rw [htl,bV];exact if_neg (Int.lt_irrefl _)) (n:=k) (s0:=cur) (by rw [htl];omega) hlen
 have h0:=key.1
 rw [uE hi,uE hd] at h0
 rw [show bV k (o,lo) m ((d:Int),z12) ((i:Int),z16) rail k (0,days)=_ from h0,na _ _ _ (by rw [htl];omega)]
 simp
theorem Po{d:Nat}{days:List (List (List Int))}{day:List (List Int)}{z12:List (List (List Int))}{r3:ae×ba}(hk:20≤k)(h3:r3.1=m)(hd:days[d]? =some day)(hm:(mD m)[d]? =some day)(hl3:day.length≤3)(hl:∀l∈day,l.length≤5)(hr:∀l∈day,∀y∈l,0≤y/\y < (o.length:Int)):
 co k r3 (o,lo) m ((d:Int),z12) k (0,days)=some (days.set d (day.map (sd (kB o)))):=by
 subst h3
 have hdl:=(List.getElem?_eq_some_iff.1 hd).1
 have g2:aG (mD r3.1) (d:Int)=some day:=qE (by omega) (by rw [Int.toNat_natCast];exact hm)
 have key:=fH (T:=Int×List (List (List Int))) (f:=co k r3 (o,lo) r3.1 ((d:Int),z12)) day (λ(s:List (List Int)) j=>(j,days.set d s)) (λ(s:List (List Int)) j y=>s.set j (sd (kB o) y)) (λj s=>s.length=day.length/\∀i,j≤i->s[i]? =day[i]?) (λs=>some (days.set d s))
  (λn s j hj hs=>by
   have hck:ck ((j:Int)+1)=some ((j:Int)+1):=dz (by omega) (by omega);have e1:(days.set d s)[d]? =some s:=by rw [List.getElem?_set];simp [hdl]
   have g1:aG (days.set d s) (d:Int)=some s:=qE (by omega) (by rw [Int.toNat_natCast];exact e1);have g4:aG day (j:Int)=some day[j]:=eh hj;have hsj:s[j]? =some day[j]:=by rw [hs.2 j (Nat.le_refl _),List.getElem?_eq_getElem hj]
   have hm':=List.getElem_mem hj;have h3:=Pn (k:=k) (o:=o) (lo:=lo) (m:=r3.1) (d:=d) (i:=j) (days:=days.set d s) (z12:=z12) (z16:=days.set d s) (rail:=day[j]) hk e1 hsj rfl (hl _ hm') ⟨day,hm⟩ (hr _ hm');refine⟨?_,by rw [length_set];exact hs.1,λi hi=>by rw [List.getElem?_set_ne (by omega)];exact hs.2 i (by omega)⟩;rw [co];show((aG (days.set d s) (d:Int)).bind _)=_;rw [g1,bs];show((aG (mD r3.1) (d:Int)).bind _)=_;rw [g2,bs];show(if(j:Int) < (s.length:Int) then _ else _)=_;rw [if_pos (by omega),bs];show((((aG day (j:Int)).bind _):Option _).bind _)=_;rw [g4,bs,h3,bs];show((ck ((j:Int)+1)).bind _)=_;rw [hck,bs,List.set_set])
  (λn s hs=>by
   have g1:aG (days.set d s) (d:Int)=some s:=qE (by omega) (by rw [Int.toNat_natCast,List.getElem?_set];simp [hdl]);rw [co];show((aG (days.set d s) (d:Int)).bind _)=_;rw [g1,bs];show((aG (mD r3.1) (d:Int)).bind _)=_;rw [g2,bs];exact if_neg (by show¬(day.length:Int) < (s.length:Int);omega)) (n:=k) (s0:=day) (by omega) ⟨rfl,λ_ _=>rfl⟩
 have h0:=key.1
 rw [uE hd] at h0
 rw [show co k r3 (o,lo) r3.1 ((d:Int),z12) k (0,days)=_ from h0,na _ _ _ (by omega)]
 simp
theorem Px{r3:ae×ba}(v:Vd m)(hk:20≤k)(h3:r3.1=m)(ho:(o.length:Int)=mC m):bW k r3 (o,lo) m k (0,mD m)=some ((mD m).map λd=>d.map (sd (kB o))):=by
 have d6:=v.d6
 have key:=fH (T:=Int×List (List (List Int))) (f:=bW k r3 (o,lo) m) (mD m) (λ(s:List (List (List Int))) j=>(j,s)) (λ(s:List (List (List Int))) j y=>s.set j (y.map (sd (kB o)))) (λj s=>s.length=(mD m).length/\∀i,j≤i->s[i]? =(mD m)[i]?) (λs=>some s)
  (λn s j hj hs=>by
   have hck:ck ((j:Int)+1)=some ((j:Int)+1):=dz (by omega) (by omega);have hm':=List.getElem_mem hj;have hmj:(mD m)[j]? =some (mD m)[j]:=List.getElem?_eq_getElem hj;have h2:=Po (k:=k) (o:=o) (lo:=lo) (m:=m) (d:=j) (days:=s) (day:=(mD m)[j]) (z12:=s) hk h3 (by rw [hs.2 j (Nat.le_refl _)];exact hmj) hmj (v.r3 _ hm') (v.l5 _ hm') (λl hl y hy=>by have:=v.x5 _ hm' l hl y hy;omega);refine⟨?_,by rw [length_set];exact hs.1,λi hi=>by rw [List.getElem?_set_ne (by omega)];exact hs.2 i (by omega)⟩;rw [bW];show(if(j:Int) < ((mD m).length:Int) then _ else _)=_;rw [if_pos (by omega),h2,bs];show((ck ((j:Int)+1)).bind _)=_;rw [hck,bs])
  (λn s _=>by
   rw [bW];exact if_neg (Int.lt_irrefl _)) (n:=k) (s0:=mD m) (by omega) ⟨rfl,λ_ _=>rfl⟩
 rw [show bW k r3 (o,lo) m k (0,mD m)=_ from key.1,na _ _ _ (by omega)];simp
theorem Pm{r3:ae×ba}(v:Vd m)(hk:20≤k)(h3:r3.1=m)(ho:(o.length:Int)=mC m):bU k r3 (o,lo) k (mG m,0)=some ((mG m).map λg=>(kB o g.1,g.2.1,g.2.2)):=by
 subst h3;have g8:=v.g8
 have key:=fH (T:=List an×Int) (f:=bU k r3 (o,lo)) (mG r3.1) (λ(s:List an) j=>(s,j)) (λ(s:List an) j y=>s.set j (kB o y.1,y.2.1,y.2.2)) (λj s=>s.length=(mG r3.1).length/\∀i,j≤i->s[i]? =(mG r3.1)[i]?) (λs=>some s)
  (λn s j hj hs=>by
   have hck:ck ((j:Int)+1)=some ((j:Int)+1):=dz (by omega) (by omega);have hg:=v.gl _ (List.getElem_mem hj);have g1:aG (mG r3.1) (j:Int)=some (mG r3.1)[j]:=eh hj;have g2:=qZ (o:=o) hg.1 (by omega);have g3:aG s (j:Int)=some (mG r3.1)[j]:=qE (by omega) (by rw [Int.toNat_natCast,hs.2 j (Nat.le_refl _),List.getElem?_eq_getElem hj]);refine⟨?_,by rw [length_set];exact hs.1,λi hi=>by rw [List.getElem?_set_ne (by omega)];exact hs.2 i (by omega)⟩;rw [bU];show(if(j:Int) < (s.length:Int) then((aG (mG r3.1) (j:Int)).bind _) else _)=_;rw [if_pos (by omega),g1,bs];show((aG o _).bind _)=_;rw [g2,bs];show((aG s (j:Int)).bind _)=_;rw [g3,bs];show((ck ((j:Int)+1)).bind _)=_;rw [hck,bs];rfl)
  (λn s hs=>by
   rw [bU];exact if_neg (by show¬((mG r3.1).length:Int) < (s.length:Int);omega)) (n:=k) (s0:=mG r3.1) (by omega) ⟨rfl,λ_ _=>rfl⟩
 rw [show bU k r3 (o,lo) k (mG r3.1,0)=_ from key.1,na _ _ _ (by omega)];simp
theorem xi{p:Nat->Bool}:∀(n i:Nat) (s:List Int),oQ (λ(s:List Int) (j _:Nat)=>if p j=true then s++[(j:Int)] else s) i (List.range' i n) s=s++((List.range' i n).filter p).map λ(i:Nat)=>(i:Int)
 |0,_,s=>by simp [oQ]
 |n+1,i,s=>by
  rw [List.range'_succ,oQ,xi n (i+1),List.filter_cons]
  cases p i <;> simp
theorem Pl{r3:ae×ba}{b:List Int}{lb:ba}(v:Vd m)(hk:20≤k)(h3:r3.1=m)(ho:(o.length:Int)=mC m)(R:zd (mC m) (kB o))(hb:Bg (mC m) b):bT k r3 (b,lb) (o,lo) k ([],0)=some (vG (kB o) (mC m).toNat b):=by
 subst h3;have c1:=v.c1;have c5:=v.c5;have hbl:=hb.len ⟨by omega,c5⟩
 have key:=fH (T:=List Int×Int) (f:=bT k r3 (b,lb) (o,lo)) (List.range (mC r3.1).toNat) (λ(s:List Int) j=>(s,j)) (λ(s:List Int) j _=>if(b.any λx=>decide (kB o x=(j:Int)))=true then s++[(j:Int)] else s) (λj s=>s.length≤j) (λs=>some s)
  (λn s j hj hs=>by
   rw [length_range] at hj;have hck:ck ((j:Int)+1)=some ((j:Int)+1):=dz (by omega) (by omega);obtain⟨x,hx0,hx1,hxe⟩:=R.sur (j:Int) (by omega) (by omega)
   have hfi:o.findIdx? (λy=>decide (y=(j:Int)))=some x.toNat:=by
    rw [List.findIdx?_eq_some_iff_getElem];have hxl:x.toNat < o.length:=by omega
    have he:o[x.toNat]=(j:Int):=by
     have:=qZ (o:=o) hx0 (by omega);rw [rN hx0 hxl,hxe] at this;exact Option.some.inj this
    refine⟨hxl,by simp [he],λi hi=>?_⟩;have h1:=qZ (o:=o) (x:=(i:Int)) (by omega) (by omega);rw [eh (show i < o.length by omega)] at h1;simp;intro h2;have:kB o (i:Int)=kB o x:=by rw [<-Option.some.inj h1,h2,hxe]
    have:=R.inj _ _ (by omega) (by omega) hx0 hx1 this;omega
   have h1:lD k o (j:Int)=some x:=by
    rw [Qc (by omega) (by omega),hfi];show some ((x.toNat:Nat):Int)=some x;rw [Int.toNat_of_nonneg hx0]
   obtain⟨r,er,hr⟩:=SJ (k:=k) (l:=b) (x:=x) (by omega) (by omega)
   have hiff:(b.any λy=>decide (kB o y=(j:Int)))=decide (x∈b):=by
    rw [Bool.eq_iff_iff,List.any_eq_true,decide_eq_true_iff];constructor
    .rintro⟨y,hy,h⟩;have hyr:=hb.rng y hy;have:=R.inj y x hyr.1 hyr.2 hx0 hx1 (by rw [of_decide_eq_true h,hxe]);exact this▸hy
    .intro h;exact⟨x,h,by simp [hxe]⟩
   refine⟨?_,by split <;> grind⟩;rw [bT];show(if(j:Int) < mC r3.1 then _ else _)=_;rw [if_pos (by omega)];show((((lD k o (j:Int)).bind _):Option _).bind _)=_;rw [h1,bs];show((((lD k b x).bind _):Option _).bind _)=_;rw [er,bs,hiff];by_cases hxb:x∈b
   .rw [if_pos (hr.2 hxb),if_pos (by simpa using hxb)];show((((cM (bN (length s+length [(j:Int)]))).bind _):Option _).bind _)=_;rw [dD (U8 (n:=50) (by omega) (by omega)),bs,bs];show((ck ((j:Int)+1)).bind _)=_;rw [hck,bs]
   .rw [if_neg (λh=>hxb (hr.1 h)),if_neg (by simpa using hxb),bs];show((ck ((j:Int)+1)).bind _)=_;rw [hck,bs])
  (λn s _=>by
   rw [length_range,bT];exact if_neg (by show¬(((mC r3.1).toNat:Nat):Int) < mC r3.1;omega)) (n:=k) (s0:=[]) (by rw [length_range];omega) (Nat.le_refl 0)
 rw [show bT k r3 (b,lb) (o,lo) k ([],0)=_ from key.1,List.range_eq_range',xi (p:=λj=>b.any λx=>decide (kB o x=(j:Int))),nil_append];unfold vG;rw [List.filter_map,List.range_eq_range'];rfl
end
theorem pT{k:Nat}{m m':ae}{c:List (List Int)}(h1:m.1=m'.1):∀(n:Nat) (y:Int),dn k m c n y=dn k m' c n y
 |0,_=>rfl
 |n+1,y=>by
  rw [dn,dn,h1]
  simp only [pT h1 n]
theorem Bz{k:Nat}{m m':ae}{c:List (List Int)}(h1:m.1=m'.1)(h2:(mD m).length=(mD m').length):fC k m c=fC k m' c:=by
 have h2:m.2.2.2.2.1.length=m'.2.2.2.2.1.length:=h2;unfold fC;rw [h2,pT h1]
theorem yf(a0:List Int):hH 1200 a0=some true:=by
 unfold hH;obtain⟨r1,e1,rfl⟩:∃r1,l9 1200 a0=some r1/\r1=(a0,0,1):=⟨_,rfl,rfl⟩;rw [e1,bs];obtain⟨r3,e3,lo3,v,hg4,hcs,hds⟩:=yp (k:=1200) (by omega) (l:=(a0,0,1)) (m:=0) (cs:=4) (ds:=4) ⟨Int.le_refl 0,Int.le_refl 0⟩ (by omega) (by omega) (by omega);have c1:=v.c1;have c5:=v.c5;have d6:=v.d6;rw [show gz 1200 ((a0,(0:Int),(1:Int)).1,(a0,(0:Int),(1:Int)).2.1,(a0,(0:Int),(1:Int)).2.2) 4 4=some r3 from e3,bs];obtain⟨r5,e5,lo5,hb⟩:=C5 (k:=1200) (l:=(r3.2.1,r3.2.2.1,r3.2.2.2)) (c:=mC r3.1) (by omega) lo3 (by omega) ⟨c1,c5⟩;rw [show iO 1200 (r3.2.1,r3.2.2.1,r3.2.2.2) r3.1.1=some r5 from e5,bs];obtain⟨r6,e6,lo6,hol,hor,hon⟩:=uZ (k:=1200) (l:=(r5.2.1,r5.2.2.1,r5.2.2.2)) (n:=(mC r3.1).toNat) (by omega) lo5 (by omega) (by omega);have hC:(((mC r3.1).toNat:Nat):Int)=mC r3.1:=by omega
 rw [hC] at e6;rw [show eK 1200 (r5.2.1,r5.2.2.1,r5.2.2.2) r3.1.1=some r6 from e6,bs,AI (by omega) v.sm,bs];obtain⟨o,lo⟩:=r6;obtain⟨b,lb⟩:=r5;have ho:(o.length:Int)=mC r3.1:=by have:o.length=(mC r3.1).toNat:=hol;omega
 have R:zd (mC r3.1) (kB o):=by
  have:=K0 (o:=o) (λx hx=>by have:=hor x hx;omega) hon;rwa [ho] at this
 rw [show bW 1200 r3 (o,lo) r3.1 1200 (0,r3.1.2.2.2.2.1)=_ from Px v (by omega) rfl ho,bs,dD (by rw [length_map]),bs,show bU 1200 r3 (o,lo) 1200 (r3.1.2.2.2.2.2,0)=_ from Pm v (by omega) rfl ho,bs,show bT 1200 r3 (b,lb) (o,lo) 1200 ([],0)=_ from Pl v (by omega) rfl ho R hb,bs];have v':=NV v R;have hb':Bg (mC (sq (kB o) r3.1)) (vG (kB o) (mC r3.1).toNat b):=by have:=HW (σ:=kB o) (C:=(mC r3.1).toNat) (b:=b);rwa [hC] at this
 have hB:∀c,0≤c->c < mC r3.1->decide (kB o c∈vG (kB o) (mC r3.1).toNat b)=decide (c∈b):=λc h0 h1=>yc v R hb h0 h1;have eC1:=u5 (k:=1200) v hb (by omega);have eC2:=u5 (k:=1200) v' hb' (by omega);have eB1:=wX (k:=1200) v (by omega);have eB2:=wX (k:=1200) v' (by omega);have hlen:=MA v R;rw [show fj 1200 r3.1 b=_ from eC1,bs];show((fj 1200 (sq (kB o) r3.1) (vG (kB o) (mC r3.1).toNat b)).bind _)=_;rw [eC2,bs,eB1,bs];show((gd 1200 (sq (kB o) r3.1)).bind _)=_;rw [eB2,bs];have w1:fC 1200 r3.1 (ig r3.1 λc=>decide (c∈b))=some true:=zl v (by omega)
 have w2:fC 1200 r3.1 (ig (sq (kB o) r3.1) λc=>decide (c∈vG (kB o) (mC r3.1).toNat b))=some true:=by
  have:=zl (k:=1200) (B:=λc=>decide (c∈vG (kB o) (mC r3.1).toNat b)) v' (by omega);rw [<-this];exact Bz rfl (by show(mD r3.1).length=(List.map _ _).length;rw [length_map])
 simp only [not_true_eq_false,if_false];rw [if_neg (by rw [hlen];simp)];rw [w1,bs];simp only [not_true_eq_false,if_false];rw [w2,bs,bs];simp only [Bool.not_true,Bool.false_eq_true,if_false]
 have key:=mh (ε:=Bool) (T:=Int) (f:=cR 1200 r3 (o,lo) (ig r3.1 λc=>decide (c∈b),0) (ig (sq (kB o) r3.1) λc=>decide (c∈vG (kB o) (mC r3.1).toNat b),0)) (List.range ((mD r3.1).length+1)) (λ(_:Unit) j=>j) (λ_ _ _=>.ok ()) (λ_ _=>True) (λr=>some r)
  (λf s n hn _=>by
   rw [length_range] at hn;have hck:ck ((n:Int)+1)=some ((n:Int)+1):=dz (by omega) (by omega)
   have key7:=mh (ε:=Bool) (T:=Int) (f:=cQ 1200 r3 (o,lo) (ig r3.1 λc=>decide (c∈b),0) (ig (sq (kB o) r3.1) λc=>decide (c∈vG (kB o) (mC r3.1).toNat b),0) (n:Int)) (List.range (mC r3.1).toNat) (λ(_:Unit) j=>j) (λ_ _ _=>.ok ()) (λ_ _=>True) (λr=>some r)
    (λf s c hc _=>by
     rw [length_range] at hc;have hck:ck ((c:Int)+1)=some ((c:Int)+1):=dz (by omega) (by omega);have hr:=R.rng (c:Int) (by omega) (by omega);have ha:=Df (B:=λc=>decide (c∈b)) (B':=λc=>decide (c∈vG (kB o) (mC r3.1).toNat b)) v R hB n (c:Int) (by omega) (by omega);have hg1:=tz (m:=r3.1) (B:=λc=>decide (c∈b)) (n:=n) (by omega);have hg2:=tz (m:=sq (kB o) r3.1) (B:=λc=>decide (c∈vG (kB o) (mC r3.1).toNat b)) (n:=n) (by show n≤(List.map _ _).length;rw [length_map];omega);have hr1:=zG (m:=r3.1) (B:=λc=>decide (c∈b)) (n:=n) (c:=(c:Int)) (by omega) (by omega);have hr2:=zG (m:=sq (kB o) r3.1) (B:=λc=>decide (c∈vG (kB o) (mC r3.1).toNat b)) (n:=n) (c:=kB o (c:Int)) hr.1 hr.2;have hs:=qZ (o:=o) (x:=(c:Int)) (by omega) (by omega);refine⟨?_,λ_ _=>trivial⟩;rw [cQ];show(if(c:Int) < mC r3.1 then((aG (ig r3.1 _) (n:Int)).bind _) else _)=_;rw [if_pos (by omega),hg1,bs,hr1,bs];show((aG (ig (sq (kB o) r3.1) _) (n:Int)).bind _)=_;rw [hg2,bs];show((aG o (c:Int)).bind _)=_;rw [hs,bs,hr2,bs,if_neg (by rw [ha];simp),hck,bs])
    (λf s _=>by
     rw [length_range,cQ];exact if_neg (by show¬(((mC r3.1).toNat:Nat):Int) < mC r3.1;omega)) (n:=1200) (s0:=()) (by rw [length_range];omega) trivial
   refine⟨?_,λ_ _=>trivial⟩;rw [cR];show(if(n:Int) < ((ig r3.1 _).length:Int) then _ else _)=_;rw [if_pos (by rw [kV];omega),show cQ 1200 r3 (o,lo) _ _ (n:Int) 1200 0=_ from key7,yK,oc,hck,bs])
  (λf s _=>by
   rw [length_range,cR];exact if_neg (by show¬(((mD r3.1).length+1:Nat):Int) < ((ig r3.1 _).length:Int);rw [kV];omega)) (n:=1200) (s0:=()) (by rw [length_range];omega) trivial
 rw [show cR 1200 r3 (o,lo) _ _ 1200 0=_ from key,yK,oc,IT,bs]
