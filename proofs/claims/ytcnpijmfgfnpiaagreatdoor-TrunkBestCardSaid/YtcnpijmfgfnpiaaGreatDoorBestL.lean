import Derived.Test.YtcnpijmfgfnpiaaGreatDoorUB11
set_option linter.unusedVariables false
set_option linter.unusedSimpArgs false
namespace Go.Proofs.YtcnpijmfgfnpiaaGreatDoor
open K Go Go.Proofs
def sU:List Int→List Int→Bool
 |x::a,y::b=>if x=y then sU a b else decide (x < y)
 |[],_::_=>true
 |_,[]=>false
def jC:List (List Int)→List (List Int)→Bool
 |x::a,y::b=>if x=y then jC a b else sU x y
 |_,_=>false
theorem jB:∀{a:List (List Int)},jC a a=false
 |[]=>rfl
 |x::a=>by rw [jC,if_pos rfl];exact jB
section
variable {k:Nat}
theorem IL{a b:List Int}(ha:a.length < k)(hk1:k≤1000000)(hb:b.length≤1000000):nZ k a b=some (sU a b):=by
 unfold nZ
 have key:∀(d j n:Nat),j+d=a.length→j≤b.length→d < n→K.bE (hC k a b n (j:Int)) some (fun _=>some (decide ((a.length:Int) < (b.length:Int))))=some (sU (a.drop j) (b.drop j)):=by
  intro d
  induction d with
  |zero=>
   intro j n hj hb' hn;obtain⟨n,rfl⟩:∃n',n=n'+1:=⟨n - 1,by omega⟩;rw [hC,if_neg (show¬(j:Int) < (a.length:Int) by omega),bs,iF,j8,List.drop_of_length_le (show a.length≤j by omega)];rcases Nat.lt_or_ge j b.length with h |h
   ·rw [List.drop_eq_getElem_cons h,sU,decide_eq_true (show(a.length:Int) < (b.length:Int) by omega)]
   ·rw [List.drop_of_length_le h,sU,decide_eq_false (show¬(a.length:Int) < (b.length:Int) by omega)]
  |succ d ih=>
   intro j n hj hb' hn;obtain⟨n,rfl⟩:∃n',n=n'+1:=⟨n - 1,by omega⟩;have hja:j < a.length:=by omega
   rw [hC,if_pos (Int.ofNat_lt.2 hja),bs,List.drop_eq_getElem_cons hja];rcases Nat.lt_or_ge j b.length with h |h
   ·rw [decide_eq_true (Int.ofNat_lt.2 h),iT,cZ hja,bs,cZ h,bs,List.drop_eq_getElem_cons h,sU];by_cases c:a[j]=b[j]
    ·rw [if_neg (not_not_intro c),if_pos c,bY (by omega) (by omega),bs];have:=ih (j+1) n (by omega) (by omega) (by omega);rw [←this];rfl
    ·rw [if_pos c,if_neg c,bs,bs,uD]
   ·rw [decide_eq_false (show¬(j:Int) < (b.length:Int) by omega),iF,j8,List.drop_of_length_le h,sU,decide_eq_false (show¬(a.length:Int) < (b.length:Int) by omega)]
 have:=key a.length 0 k (by omega) (by omega) ha;rw [List.drop_zero,List.drop_zero] at this;exact this
theorem G2{a b:List (List Int)}(hab:a.length≤b.length)(ha:a.length < k)(hk1:k≤1000000)(hl:∀x∈a,x.length < k)(hb:∀x∈b,x.length≤1000000):fX k a b=some (jC a b):=by
 unfold fX
 have key:∀(d j n:Nat),j+d=a.length→d < n→K.bE (eN k a b n (j:Int)) some (fun _=>some false)=some (jC (a.drop j) (b.drop j)):=by
  intro d
  induction d with
  |zero=>
   intro j n hj hn;obtain⟨n,rfl⟩:∃n',n=n'+1:=⟨n - 1,by omega⟩;rw [eN,if_neg (show¬(j:Int) < (a.length:Int) by omega),j8,List.drop_of_length_le (show a.length≤j by omega),jC];intro _ _ _ _ e;cases e
  |succ d ih=>
   intro j n hj hn;obtain⟨n,rfl⟩:∃n',n=n'+1:=⟨n - 1,by omega⟩;have hja:j < a.length:=by omega
   have hjb:j < b.length:=by omega
   have hla:=hl _ (List.getElem_mem hja);rw [eN,if_pos (Int.ofNat_lt.2 hja),cZ hja,bs,cZ hjb,bs,sP hla (by omega),bs,List.drop_eq_getElem_cons hja,List.drop_eq_getElem_cons hjb,jC];by_cases c:a[j]=b[j]
   ·rw [decide_eq_true c,nT,if_pos c,bY (by omega) (by omega),bs];have:=ih (j+1) n (by omega) (by omega);rw [←this];rfl
   ·rw [decide_eq_false c,nF,if_neg c,bs,bs,IL hla hk1 (hb _ (List.getElem_mem hjb)),bs,uD]
 have:=key a.length 0 k (by omega) ha;rw [List.drop_zero,List.drop_zero] at this;exact this
def yl(p:List Int):Bool:=(List.range p.length).all fun m=>decide (m=0∨p[m - 1]?.getD 0≤p[m]?.getD 0)
def nN:List Int→List Int→List (List Int)→List (List Int)
 |r::rs,p::ps,x=>nN rs ps (x.set p.toNat (x[p.toNat]?.getD []++[r]))
 |_,_,x=>x
theorem Ie{r7 r8:List (List Int)}{y11 y15:(List (List Int))×Int×Int×Int}{row place:List Int}(hr:a9 r7 y11.2.2.2=some row)(hp:a9 r8 y15.2.2.2=some place)(hl:place.length=row.length)(h8:row.length≤8){N:Nat}(hN:∀x∈place,0≤x∧x < (N:Int))(hk:50≤k):
 cI k r7 r8 y11 y15 k (true,0,List.replicate N [])=some (yl place,nN row place (List.replicate N [])):=by
 have key:∀(d j n:Nat) (x:List (List Int)),j+d=row.length→d < n→x.length=N→(∀l∈x,l.length≤j)→
  cI k r7 r8 y11 y15 n ((List.range j).all fun m=>decide (m=0∨place[m - 1]?.getD 0≤place[m]?.getD 0),(j:Int),x)=some (yl place,nN (row.drop j) (place.drop j) x):=by
  intro d
  induction d with
  |zero=>
   intro j n x hj hn _ _;obtain⟨n,rfl⟩:∃n',n=n'+1:=⟨n - 1,by omega⟩;rw [cI];dsimp only;rw [hr,bs,if_neg (by omega),List.drop_of_length_le (show row.length≤j by omega),nN]
   ·have:j=place.length:=by omega
    rw [this];rfl
   ·intro _ _ _ _ e;cases e
  |succ d ih=>
   intro j n x hj hn hx hxl;obtain⟨n,rfl⟩:∃n',n=n'+1:=⟨n - 1,by omega⟩;have hjr:j < row.length:=by omega
   have hjp:j < place.length:=by omega
   have hpj:=hN _ (List.getElem_mem hjp);have hpx:place[j].toNat < x.length:=by omega
   have hxx:=hxl _ (List.getElem_mem hpx)
   have tail:∀b:Bool,(b=((List.range (j+1)).all fun m=>decide (m=0∨place[m - 1]?.getD 0≤place[m]?.getD 0)))→((some (b,x):Option (Bool×List (List Int))).bind fun x26=>(a9 r8 y15.2.2.2).bind fun x33=>(a9 x33 (j:Int)).bind fun x34=>(a9 x26.2 x34).bind fun x35=>(a9 r7 y11.2.2.2).bind fun x36=>(a9 x36 (j:Int)).bind fun x37=>(d3 (bV (List.length x35+List.length [x37]))).bind fun _=>(ck ((j:Int)+(1:Int))).bind fun x41=>cI k r7 r8 y11 y15 n (x26.1,x41,List.set x26.2 (Int.toNat x34) (x35++[x37])))=some (yl place,nN (row.drop j) (place.drop j) x):=by
    intro b hb;rw [bs,hp,bs,cZ hjp,bs];dsimp only;rw [BG hpj.1 hpx,bs,hr,bs,cZ hjr,bs,dJ (Qi (by simp only [List.length_cons,List.length_nil];omega)),bs,bY (by omega) (by omega),bs,List.drop_eq_getElem_cons hjr,List.drop_eq_getElem_cons hjp,nN,hb];have e:x[place[j].toNat]?.getD []=x[place[j].toNat]:=by rw [List.getElem?_eq_getElem hpx];rfl
    rw [e]
    have:=ih (j+1) n (x.set place[j].toNat (x[place[j].toNat]++[row[j]])) (by omega) (by omega) (by rw [List.length_set];exact hx) (fun l hl=>by
     rcases List.mem_or_eq_of_mem_set hl with h |h
     ·have:=hxl l h;omega
     ·subst h;simp only [List.length_append,List.length_cons,List.length_nil];omega)
    rw [←this];rfl
   rw [hr] at tail;rw [cI];dsimp only;rw [hr,bs,if_pos (Int.ofNat_lt.2 hjr)]
   have hall:((List.range (j+1)).all fun m=>decide (m=0∨place[m - 1]?.getD 0≤place[m]?.getD 0))=(((List.range j).all fun m=>decide (m=0∨place[m - 1]?.getD 0≤place[m]?.getD 0)) && decide (j=0∨place[j - 1]?.getD 0≤place[j]?.getD 0)):=by
    rw [List.range_succ,List.all_append];simp
   cases hb:(List.range j).all fun m=>decide (m=0∨place[m - 1]?.getD 0≤place[m]?.getD 0) with
   |false=>
    rw [iF];refine tail false ?_;rw [hall,hb,Bool.false_and]
   |true=>
    rw [iT];by_cases c:j=0
    ·rw [if_pos (show(j:Int)=0 by omega)];refine tail true ?_;rw [hall,hb,decide_eq_true (.inl c)];rfl
    ·rw [if_neg (show¬(j:Int)=0 by omega),hp,bs,cZ hjp,bs,bs,bY (by omega) (by omega),bs,EZ hjp (by omega),bs];rw [hp] at tail;refine tail _ ?_;rw [hall,hb,Bool.true_and];refine decide_eq_decide.2 ?_;rw [List.getElem?_eq_getElem hjp];exact⟨fun h=>.inr h,fun h=>h.elim (fun h=>absurd h c) id⟩
 have:=key row.length 0 k (List.replicate N []) (by omega) (by omega) (by simp) (fun l hl=>by simp only [List.mem_replicate] at hl;rw [hl.2];simp)
 rw [List.drop_zero,List.drop_zero] at this
 exact this
def rJ(t:aY)(b:Option (List (List Int)×Nat×Nat))(x:List (List Int)):Option (List (List Int)×Nat×Nat):=match b with
 |none=>some (x,cO t x,1)
 |some (f,l,c)=>if cO t x < l then some (x,cO t x,1) else if cO t x=l then some (if jC x f=true then x else f,l,c+1) else some (f,l,c)
def nm(t:aY)(row:List Int)(b:Option (List (List Int)×Nat×Nat))(place:List Int):Option (List (List Int)×Nat×Nat):=
 if yl place=true∧gG t (nN row place (List.replicate t.2.2.length []))=0 then rJ t b (nN row place (List.replicate t.2.2.length [])) else b
def yP(N:Nat)(rows places:List (List Int)):List (List (List Int)):=rows.flatMap fun r=>(places.filter yl).map fun p=>nN r p (List.replicate N [])
theorem yf{t:aY}{row:List Int}:∀(ps:List (List Int)) (b:Option (List (List Int)×Nat×Nat)),ps.foldl (nm t row) b=(((ps.filter yl).map fun p=>nN row p (List.replicate t.2.2.length [])).filter fun x=>decide (gG t x=0)).foldl (rJ t) b
 |[],b=>rfl
 |p::ps,b=>by
  rw [List.foldl_cons,yf ps]
  unfold nm
  cases h:yl p with
  |false=>rw [if_neg (fun h'=>by simp at h'),List.filter_cons_of_neg (by simp [h])]
  |true=>
   rw [List.filter_cons_of_pos h,List.map_cons]
   by_cases c:gG t (nN row p (List.replicate t.2.2.length []))=0
   ·
    rw [if_pos ⟨rfl,c⟩,List.filter_cons_of_pos (by exact decide_eq_true c),List.foldl_cons]
   ·
    rw [if_neg (fun h'=>c h'.2),List.filter_cons_of_neg (by simpa using c)]
theorem Bl{t:aY}{places:List (List Int)}:∀(rows:List (List Int)) (b:Option (List (List Int)×Nat×Nat)),rows.foldl (fun b r=>places.foldl (nm t r) b) b=((yP t.2.2.length rows places).filter fun x=>decide (gG t x=0)).foldl (rJ t) b
 |[],b=>rfl
 |r::rows,b=>by
  rw [List.foldl_cons,Bl rows,yf]
  unfold yP
  rw [List.flatMap_cons,List.filter_append,List.foldl_append]
def Hu(t:aY)(l:List (List (List Int))):Option (List (List Int)×Nat×Nat)→Prop
 |none=>l=[]
 |some (f,n,c)=>f∈l∧n=cO t f∧(∀x∈l,n≤cO t x)∧c=(l.countP fun q=>decide (cO t q=n))∧0 < c
theorem wA{t:aY}:∀(l pre:List (List (List Int))) (b:Option (List (List Int)×Nat×Nat)),Hu t pre b→Hu t (pre++l) (l.foldl (rJ t) b)
 |[],pre,b,h=>by simpa using h
 |x::l,pre,b,h=>by
  have h1:Hu t (pre++[x]) (rJ t b x):=by
   cases b with
   |none=>
    have h:pre=[]:=h;subst h;exact⟨by simp,rfl,fun y hy=>by simp only [List.nil_append,List.mem_singleton] at hy;subst hy;exact Nat.le_refl _,by simp,by decide⟩
   |some b=>
    obtain⟨f,n,c⟩:=b;obtain⟨h1,h2,h3,h4,h5⟩:=h;unfold rJ;dsimp only;by_cases c1:cO t x < n
    ·rw [if_pos c1];refine⟨by simp,rfl,fun y hy=>?_,?_,by decide⟩
     ·rcases List.mem_append.1 hy with hy |hy
      ·exact Nat.le_of_lt (Nat.lt_of_lt_of_le c1 (h3 y hy))
      ·rw [List.mem_singleton] at hy;subst hy;exact Nat.le_refl _
     ·rw [List.countP_append]
      have:(pre.countP fun q=>decide (cO t q=cO t x))=0:=by
       rw [List.countP_eq_zero];intro y hy;have:=h3 y hy;simp only [decide_eq_true_eq];omega
      rw [this];simp
    ·rw [if_neg c1];by_cases c2:cO t x=n
     ·rw [if_pos c2];refine⟨?_,?_,fun y hy=>?_,?_,by omega⟩
      ·split
       ·simp
       ·simp [h1]
      ·split
       ·exact c2.symm
       ·exact h2
      ·rcases List.mem_append.1 hy with hy |hy
       ·exact h3 y hy
       ·rw [List.mem_singleton] at hy;subst hy;omega
      ·rw [List.countP_append,←h4];simp [c2]
     ·rw [if_neg c2];refine⟨by simp [h1],h2,fun y hy=>?_,?_,h5⟩
      ·rcases List.mem_append.1 hy with hy |hy
       ·exact h3 y hy
       ·rw [List.mem_singleton] at hy;subst hy;omega
      ·rw [List.countP_append,←h4];simp [c2]
  have:=wA l (pre++[x]) _ h1;rwa [List.append_assoc] at this
def CE(t:aY)(S:List (List (List Int)))(l:List (List (List Int))):Option (List (List Int)×Nat×Nat)→Prop
 |none=>True
 |some (f,n,_)=>∀x∈l,cO t x=n→jC x f=false
theorem zc{t:aY}{S:List (List (List Int))}(hS:S.Pairwise fun a b=>jC a b=true∧jC b a=false):∀(l pre:List (List (List Int))) (b:Option (List (List Int)×Nat×Nat)),(∀x∈pre++l,x∈S)→Hu t pre b→CE t S pre b→CE t S (pre++l) (l.foldl (rJ t) b)
 |[],pre,b,_,_,h=>by simpa using h
 |x::l,pre,b,hall,hs,h=>by
  have hs1:=wA [x] pre b hs
  rw [show List.foldl (rJ t) b [x]=rJ t b x from rfl] at hs1
  have h1:CE t S (pre++[x]) (rJ t b x):=by
   cases b with
   |none=>
    have hs:pre=[]:=hs;subst hs;intro y hy _;simp only [List.nil_append,List.mem_singleton] at hy;subst hy;exact jB
   |some b=>
    obtain⟨f,n,c⟩:=b;have hf:f∈S:=hall f (List.mem_append_left _ hs.1);have hx:x∈S:=hall x (by simp);unfold rJ;dsimp only;by_cases c1:cO t x < n
    ·rw [if_pos c1];intro y hy e;rcases List.mem_append.1 hy with hy |hy
     ·have:=hs.2.2.1 y hy;omega
     ·rw [List.mem_singleton] at hy;subst hy;exact jB
    ·rw [if_neg c1];by_cases c2:cO t x=n
     ·rw [if_pos c2];intro y hy e;by_cases c3:jC x f=true
      ·rw [if_pos c3];rcases List.mem_append.1 hy with hy |hy
       ·have hyf:=h y hy e;have hyS:y∈S:=hall y (List.mem_append_left _ hy)
        have three:∀(S:List (List (List Int))),S.Pairwise (fun a b=>jC a b=true∧jC b a=false)→x∈S→f∈S→y∈S→jC y x=false:=by
         intro S hS
         induction S with
         |nil=>intro hx;cases hx
         |cons a S ih=>
          intro hx hf hy;obtain⟨p1,p2⟩:=List.pairwise_cons.1 hS;rcases List.mem_cons.1 hx with ex |hx'
          ·subst ex;rcases List.mem_cons.1 hy with ey |hy'
           ·rw [ey];exact jB
           ·exact(p1 y hy').2
          ·rcases List.mem_cons.1 hf with ef |hf'
           ·subst ef;have:=(p1 x hx').2;rw [c3] at this;cases this
           ·rcases List.mem_cons.1 hy with ey |hy'
            ·subst ey;have:=(p1 f hf').1;rw [hyf] at this;cases this
            ·exact ih p2 hx' hf' hy'
        exact three S hS hx hf hyS
       ·rw [List.mem_singleton] at hy;subst hy;exact jB
      ·rw [if_neg c3];rcases List.mem_append.1 hy with hy |hy
       ·exact h y hy e
       ·rw [List.mem_singleton] at hy;subst hy;simpa using c3
     ·rw [if_neg c2];intro y hy e;rcases List.mem_append.1 hy with hy |hy
      ·exact h y hy e
      ·rw [List.mem_singleton] at hy;subst hy;exact absurd e c2
  have:=zc hS l (pre++[x]) _ (by simpa using hall) hs1 h1;rwa [List.append_assoc] at this
def Hf(n N:Nat):Bool:=match nX 3000 (n:Int),jr 3000 (N:Int) (n:Int) with
 |some rows,some places=>decide (rows.length≤24) && decide (places.length≤16) && (rows.all fun r=>decide (r.length=n)) && (places.all fun p=>decide (p.length=n) && p.all fun x=>decide (0≤x∧x < (N:Int))) && (yP N rows places).isPerm (xq n N)
 |_,_=>false
theorem He:((List.range 5).all fun n=>(List.range 3).all fun N=>Hf n N)=true:=by decide+kernel
theorem Dh:((List.range 5).all fun n=>(List.range 3).all fun N=>decide ((xq n N).Pairwise fun a b=>jC a b=true∧jC b a=false))=true:=by decide+kernel
theorem D3{k:Nat}(hk:k=3000){n N:Nat}(hn:n≤4)(hN:N≤2):∃rows places,nX k (n:Int)=some rows∧jr k (N:Int) (n:Int)=some places∧rows.length≤24∧places.length≤16∧(∀r∈rows,r.length=n)∧(∀p∈places,p.length=n∧∀x∈p,0≤x∧x < (N:Int))∧(yP N rows places).Perm (xq n N):=by
 subst hk;have h:=He;rw [List.all_eq_true] at h;have h:=h n (List.mem_range.2 (by omega));rw [List.all_eq_true] at h;have h:=h N (List.mem_range.2 (by omega));unfold Hf at h;split at h
 ·rename_i rows places e1 e2;simp only [Bool.and_eq_true,decide_eq_true_eq,List.all_eq_true] at h;obtain⟨⟨⟨⟨h1,h2⟩,h3⟩,h4⟩,h5⟩:=h;exact⟨rows,places,e1,e2,h1,h2,h3,h4,List.isPerm_iff.1 h5⟩
 ·cases h
theorem A1{n N:Nat}(hn:n≤4)(hN:N≤2):(xq n N).Pairwise fun a b=>jC a b=true∧jC b a=false:=by
 have h:=Dh;rw [List.all_eq_true] at h;have h:=h n (List.mem_range.2 (by omega));rw [List.all_eq_true] at h;exact of_decide_eq_true (h N (List.mem_range.2 (by omega)))
theorem G9{t:aY}(ht:iN t=0){x:List (List Int)}(hx:x∈xq t.2.1.length t.2.2.length):decide (gG t x=0)=oh t x:=by
 obtain⟨a,b,c⟩:=BW hx;cases h:oh t x with
 |true=>
  refine decide_eq_true (ia.chk ?_ ht);exact o7 (lN ht) (List.mem_filter.2 ⟨hx,h⟩)
 |false=>
  refine decide_eq_false fun h'=>?_;have g:=ui h'
  have:oh t x=true:=by
   rw [i9];intro i hi;rw [List.getElem?_eq_getElem hi];exact g.room i hi
  rw [h] at this;cases this
theorem vt{N:Nat}:∀(r p:List Int) (x:List (List Int)) (m:Nat),(∀l∈x,l.length≤m)→(∀l∈nN r p x,l.length≤m+r.length)∧(nN r p x).length=x.length
 |[],_,x,m,h=>by rw [nN];exact⟨fun l hl=>by have:=h l hl;simp;omega,rfl⟩;intro _ _ _ _ e;cases e
 |r::rs,[],x,m,h=>by rw [nN];exact⟨fun l hl=>by have:=h l hl;simp only [List.length_cons];omega,rfl⟩;intro _ _ _ _ _ e;cases e
 |r::rs,p::ps,x,m,h=>by
  obtain⟨a,b⟩:=vt (N:=N) rs ps (x.set p.toNat (x[p.toNat]?.getD []++[r])) (m+1) (fun l hl=>by
   rcases List.mem_or_eq_of_mem_set hl with h' |h'
   ·
    have:=h l h';omega
   ·
    subst h'
    rcases Nat.lt_or_ge p.toNat x.length with hp |hp
    ·
     have:=h _ (List.getElem_mem hp)
     rw [List.getElem?_eq_getElem hp]
     simp only [Option.getD_some,List.length_append,List.length_cons,List.length_nil];omega
    ·
     rw [List.getElem?_eq_none hp];simp)
  rw [nN]
  exact⟨fun l hl=>by have:=a l hl;simp only [List.length_cons];omega,by rw [b,List.length_set]⟩
def qG(b:Option (List (List Int)×Nat×Nat)):List (List Int)×Int×Int:=match b with
 |none=>([],0,0)
 |some (f,n,c)=>(f,(n:Int),(c:Int))
def M7(N:Nat)(m:Nat)(b:Option (List (List Int)×Nat×Nat)):Prop:=∀f n c,b=some (f,n,c)→f.length=N∧(∀l∈f,l.length≤8)∧0 < c∧c≤m
theorem E1{r3:bR×cJ}{r7 r8:List (List Int)}{y11:(List (List Int))×Int×Int×Int}(h:sJ k r3.1)(hs:je k r3.1)(ht:iN r3.1=0){row:List Int}(hr:a9 r7 y11.2.2.2=some row)(hrl:row.length≤5){places:List (List Int)}(h8:r8=places)(hpl:places.length≤16)
 (hp:∀p∈places,p.length=row.length∧∀x∈p,0≤x∧x < (r3.1.2.2.length:Int)) {b:Option (List (List Int)×Nat×Nat)} {m:Nat} (hm:m≤1000) (hb:M7 r3.1.2.2.length m b):
 cU k r3 r7 r8 y11 k ((qG b).1,(qG b).2.1,(qG b).2.2,0)=some (.ok (qG (places.foldl (nm r3.1 row) b)))∧M7 r3.1.2.2.length (m+places.length) (places.foldl (nm r3.1 row) b):=by
 subst h8
 have hk:=h.k0
 have hk1:=h.k1
 have g:=lN ht
 have h3:=g.trunks
 have key:=qZ (f:=cU k r3 r7 r8 y11) r8 (fun(b:Option (List (List Int)×Nat×Nat)) j=>((qG b).1,(qG b).2.1,(qG b).2.2,j)) (fun b _ p=>nm r3.1 row b p) (fun j b=>M7 r3.1.2.2.length (m+j) b) (fun b=>some (.ok (qG b)))
  (fun n b j hj hb=>by
   obtain⟨p1,p2⟩:=hp _ (List.getElem_mem hj);have hrow:=Ie (r7:=r7) (r8:=r8) (y11:=y11) (y15:=((qG b).1,(qG b).2.1,(qG b).2.2,(j:Int))) hr (cZ hj) p1 (by omega) (N:=r3.1.2.2.length) p2 hk;obtain⟨q1,q2⟩:=vt (N:=0) row r8[j] (List.replicate r3.1.2.2.length []) 0 (fun l hl=>by simp only [List.mem_replicate] at hl;rw [hl.2];simp);rw [List.length_replicate] at q2;rw [cU];dsimp only;rw [if_pos (Int.ofNat_lt.2 hj),dJ (by exact⟨by omega,show Int.toNat (r3.1.2.2.length:Int)≤4294967296 by omega⟩),bs,show Int.toNat (r3.1.2.2.length:Int)=r3.1.2.2.length from rfl,hrow,bs];dsimp only;unfold nm;generalize nN row r8[j] (List.replicate r3.1.2.2.length [])=x at q1 q2⊢
   have skip:M7 r3.1.2.2.length (m+(j+1)) b:=fun f n c e=>by
    obtain⟨a1,a2,a3,a4⟩:=hb f n c e;exact⟨a1,a2,a3,by omega⟩
   cases ho:yl r8[j] with
   |false=>
    rw [nF,bs,iT,j8,bY (by omega) (by omega),bs,if_neg (show¬(false=true∧gG r3.1 x=0) from fun h'=>by simp at h')];exact⟨rfl,skip⟩
   |true=>
    rw [nT,uA hs (by omega) (fun l hl=>by have:=q1 l hl;omega),bs,bs];dsimp only;by_cases c:gG r3.1 x=0
    ·have hA:At k r3.1 x:=⟨hs,h,c⟩;rw [decide_eq_true c,Bool.not_true,iF,HA hA,bs,if_pos (show true=true∧gG r3.1 x=0 from⟨rfl,c⟩)];dsimp only;rw [if_neg (not_not_intro rfl),bs,decide_eq_false (show¬((rQ r3.1 r3.1.1.toNat 0 x:Nat):Int) < 0 by omega),iF];have hln:rQ r3.1 r3.1.1.toNat 0 x=cO r3.1 x:=rfl;rw [hln];have hself:fX k x x=some (jC x x):=G2 (Nat.le_refl _) (by omega) hk1 (fun l hl=>by have:=q1 l hl;omega) (fun l hl=>by have:=q1 l hl;omega)
     have fresh:M7 r3.1.2.2.length (m+(j+1)) (some (x,cO r3.1 x,1)):=fun f n c e=>by
      cases e;exact⟨q2,fun l hl=>by have:=q1 l hl;omega,by decide,by omega⟩
     cases b with
     |none=>
      rw [if_pos (show(qG none).2.2=0 from rfl),bs,iT,bs];dsimp only;rw [if_pos rfl,bY (by omega) (by omega),bs,hself,bs,jB,iF,j8,bY (by omega) (by omega),bs];exact⟨rfl,fresh⟩
     |some b=>
      obtain⟨f,l,cnt⟩:=b;obtain⟨a1,a2,a3,a4⟩:=hb f l cnt rfl;have hear:fX k x f=some (jC x f):=G2 (by omega) (by omega) hk1 (fun l hl=>by have:=q1 l hl;omega) (fun l hl=>by have:=a2 l hl;omega);rw [if_neg (show¬(qG (some (f,l,cnt))).2.2=0 by show¬(cnt:Int)=0;omega),bs];dsimp only;unfold rJ;dsimp only;by_cases c1:cO r3.1 x < l
      ·rw [decide_eq_true (show(cO r3.1 x:Int) < (qG (some (f,l,cnt))).2.1 from Int.ofNat_lt.2 c1),iT,bs];dsimp only;rw [if_pos rfl,bY (by omega) (by omega),bs,hself,bs,jB,iF,j8,bY (by omega) (by omega),bs,if_pos c1];exact⟨rfl,fresh⟩
      ·rw [decide_eq_false (show¬(cO r3.1 x:Int) < (qG (some (f,l,cnt))).2.1 from fun h=>c1 (Int.ofNat_lt.1 h)),iF,bs,if_neg c1];dsimp only;by_cases c2:cO r3.1 x=l
       ·rw [if_pos (show(cO r3.1 x:Int)=(qG (some (f,l,cnt))).2.1 by show(cO r3.1 x:Int)=(l:Int);omega),show ck ((qG (some (f,l,cnt))).2.2+1)=some ((cnt:Int)+1) from(show ck ((cnt:Int)+1)=some ((cnt:Int)+1) from bY (by omega) (by omega)),bs,show fX k x (qG (some (f,l,cnt))).1=some (jC x f) from hear,bs,if_pos c2];cases he:jC x f with
        |true=>
         rw [iT,j8,bY (by omega) (by omega),bs];exact⟨rfl,fun f' n' c' e=>by cases e;exact⟨q2,fun l hl=>by have:=q1 l hl;omega,by omega,by omega⟩⟩
        |false=>
         rw [iF,j8,bY (by omega) (by omega),bs];exact⟨rfl,fun f' n' c' e=>by cases e;exact⟨a1,a2,by omega,by omega⟩⟩
       ·rw [if_neg (show¬(cO r3.1 x:Int)=(qG (some (f,l,cnt))).2.1 by show¬(cO r3.1 x:Int)=(l:Int);omega),j8,bY (by omega) (by omega),bs,if_neg c2];exact⟨rfl,skip⟩
    ·rw [decide_eq_false c,Bool.not_false,iT,j8,bY (by omega) (by omega),bs,if_neg (show¬(true=true∧gG r3.1 x=0) from fun h'=>c h'.2)];exact⟨rfl,skip⟩)
  (fun n b _=>by rw [cU];dsimp only;rw [if_neg (by omega)]) (s0:=b) (n:=k) (by omega) hb
 have ef:∀(l:List (List Int)) (j:Nat) (b:Option (List (List Int)×Nat×Nat)),q7 (fun b _ p=>nm r3.1 row b p) j l b=l.foldl (nm r3.1 row) b:=by
  intro l
  induction l with
  |nil=>intro j b;rfl
  |cons p l ih=>intro j b;rw [q7,List.foldl_cons,ih]
 rw [ef] at key
 exact key
theorem EW{r3:bR×cJ}{rows places:List (List Int)}(h:sJ k r3.1)(hs:je k r3.1)(ht:iN r3.1=0)(hrl:rows.length≤24)(hpl:places.length≤16)(hr:∀r∈rows,r.length=r3.1.2.1.length)
 (hp:∀p∈places,p.length=r3.1.2.1.length∧∀x∈p,0≤x∧x < (r3.1.2.2.length:Int)):
 cV k r3 rows places k ([],0,0,0)=some (.ok (qG (((yP r3.1.2.2.length rows places).filter fun x=>decide (gG r3.1 x=0)).foldl (rJ r3.1) none))):=by
 have hk:=h.k0
 have g:=lN ht
 have h5:=g.things
 have key:=qZ (f:=cV k r3 rows places) rows (fun(b:Option (List (List Int)×Nat×Nat)) j=>((qG b).1,(qG b).2.1,(qG b).2.2,j)) (fun b _ r=>places.foldl (nm r3.1 r) b) (fun j b=>M7 r3.1.2.2.length (16 * j) b) (fun b=>some (.ok (qG b)))
  (fun n b j hj hb=>by
   have hrj:=hr _ (List.getElem_mem hj);obtain⟨a1,a2⟩:=E1 (r7:=rows) (r8:=places) (y11:=((qG b).1,(qG b).2.1,(qG b).2.2,(j:Int))) h hs ht (cZ hj) (by omega) rfl hpl (fun p hp'=>by rw [hrj];exact hp p hp') (m:=16 * j) (by omega) hb;rw [cV];dsimp only;rw [if_pos (Int.ofNat_lt.2 hj),a1,j8,bY (by omega) (by omega),bs];exact⟨rfl,fun f n c e=>by obtain⟨b1,b2,b3,b4⟩:=a2 f n c e;exact⟨b1,b2,b3,by omega⟩⟩)
  (fun n b _=>by rw [cV];dsimp only;rw [if_neg (by omega)]) (s0:=none) (n:=k) (by omega) (fun f n c e=>by cases e)
 have ef:∀(l:List (List Int)) (j:Nat) (b:Option (List (List Int)×Nat×Nat)),q7 (fun b _ r=>places.foldl (nm r3.1 r) b) j l b=l.foldl (fun b r=>places.foldl (nm r3.1 r) b) b:=by
  intro l
  induction l with
  |nil=>intro j b;rfl
  |cons p l ih=>intro j b;rw [q7,List.foldl_cons,ih]
 rw [ef,Bl] at key
 exact key.1
theorem Dy{t:aY}{a b:Int}(h:HB t a b)(ha:a≤8)(hb:b≤8)(hk:50≤k)(hk1:k≤1000000):je k t∧sJ k t:=
 ⟨⟨hk1,by have:=h.things;omega,fun x hx=>by have:=h.item x hx;omega,by have:=h.trunks;omega⟩,⟨hk,hk1,by have:=h.things;omega,fun x hx=>by have:=h.item x hx;omega⟩⟩
theorem oD.same{t:aY}{S l:List (List (List Int))}(hS:S.Pairwise fun a b=>jC a b=true∧jC b a=false)(hl:l.Perm S){b:Option (List (List Int)×Nat)}(hb:oD (cO t) S b){s:Option (List (List Int)×Nat×Nat)}(hs:Hu t l s)(he:CE t S l s):
 (b=none∧s=none)∨∃q n c,b=some (q,n)∧s=some (q,n,c)∧c=(S.countP fun x=>decide (cO t x=n))∧0 < c:=by
 cases b with
 |none=>
  have hb:S=[]:=hb;subst hb;have:l=[]:=hl.eq_nil;subst this;cases s with
  |none=>exact .inl ⟨rfl,rfl⟩
  |some s=>obtain⟨f,n,c⟩:=s;exact absurd hs.1 (by simp)
 |some b=>
  obtain⟨q,n⟩:=b;obtain⟨h1,h2,p,r,h3,h4⟩:=hb;have hqS:q∈S:=by rw [h3];simp
  cases s with
  |none=>
   have hs:l=[]:=hs;subst hs;have:=hl.symm.eq_nil;rw [this] at hqS;cases hqS
  |some s=>
   obtain⟨f,n',c⟩:=s;obtain⟨g1,g2,g3,g4,g5⟩:=hs;have hfS:f∈S:=hl.mem_iff.1 g1;have hql:q∈l:=hl.mem_iff.2 hqS;have e1:=h2 f hfS;have e2:=g3 q hql;have en:n'=n:=by omega
   subst en
   have hfq:f=q:=by
    rw [h3] at hfS;rcases List.mem_append.1 hfS with h |h
    ·have:=h4 f h;omega
    ·rcases List.mem_cons.1 h with h |h
     ·exact h
     ·have hp:=hS;rw [h3] at hp;have:=(List.pairwise_append.1 hp).2.1;have:=((List.pairwise_cons.1 this).1 f h).1;have h5:=he q hql h1.symm;rw [this] at h5;cases h5
   subst hfq;exact .inr ⟨f,n',c,rfl,rfl,by rw [g4,hl.countP_eq],g5⟩
theorem tD(hk:k=3000)(hp:jq k=some true)(a0:List Int):jI k a0=some true:=by
 have hk50:50≤k:=by omega
 have hk1:k≤1000000:=by omega
 unfold jI;rw [show lM k a0=some (a0,0,1) from rfl,bs];obtain⟨r3,e3,hT,_⟩:=If hk50 (l:=(a0,0,1)) (m:=0) ⟨by simp,by simp⟩ (by decide) (a:=4) (b:=2) (by decide) (by decide);obtain⟨hs,hd⟩:=Dy hT (by decide) (by decide) hk50 hk1;have ht:iN r3.1=0:=hT.chk (by decide) (by decide);have g:=lN ht;have h4:=hT.things;have h2:=hT.trunks;obtain⟨rows,places,k1,k2,k3,k4,k5,k6,k7⟩:=D3 hk (n:=r3.1.2.1.length) (N:=r3.1.2.2.length) (by omega) (by omega);have hpw:=A1 (n:=r3.1.2.1.length) (N:=r3.1.2.2.length) (by omega) (by omega);have hpw':(qm r3.1).Pairwise fun a b=>jC a b=true∧jC b a=false:=hpw.filter _
 have hperm:((yP r3.1.2.2.length rows places).filter fun x=>decide (gG r3.1 x=0)).Perm (qm r3.1):=by
  refine(k7.filter _).trans ?_;have:(xq r3.1.2.1.length r3.1.2.2.length).filter (fun x=>decide (gG r3.1 x=0))=qm r3.1:=List.filter_congr fun x hx=>G9 ht hx;rw [this]
 have hseen:=wA (t:=r3.1) ((yP r3.1.2.2.length rows places).filter fun x=>decide (gG r3.1 x=0)) [] none rfl;have hearly:=zc (t:=r3.1) hpw' ((yP r3.1.2.2.length rows places).filter fun x=>decide (gG r3.1 x=0)) [] none (fun x hx=>hperm.mem_iff.1 (by simpa using hx)) rfl trivial;rw [List.nil_append] at hseen hearly;rw [show jt k (a0,0,1) 4 2=some r3 from e3,bs,CN hd hs (by omega) ht,bs,HU hd hs (by omega) ht,bs,k1,bs,k2,bs,EW hd hs ht k3 k4 k5 k6,j8];rcases oD.same hpw' hperm (uC (t:=r3.1)) hseen hearly with⟨e1,e2⟩ |⟨q,n,c,e1,e2,e4,e5⟩
 ·rw [e1,e2];simp only [qG];rw [if_pos trivial,if_pos trivial,if_pos trivial,if_pos (by simp),if_pos trivial,if_pos trivial,hp,bs,bs]
 ·have hq:q∈qm r3.1:=by
   have hb:=uC (t:=r3.1);rw [e1] at hb;obtain⟨_,_,p,s,h3,_⟩:=hb;rw [h3];simp
  have hgq:=o7 g hq;rw [e1,e2];simp only [qG];rw [if_neg (show¬(c:Int)=0 by omega),if_pos trivial,if_pos trivial,if_pos trivial];simp only [e4,if_true]
  have hsame:ft k q q=some true:=by
   unfold ft;rw [if_neg (by simp)]
   have hb:=W.loop (f:=eE k q q) (Q:=fun o=>o= .ok ()) (fun m y=>∃j:Nat,y=(j:Int)∧j≤q.length∧m=q.length - j) (by
    rintro aQ m y ⟨j,hj,hle,hm⟩ ih;subst hj;unfold eE;refine W.ite (fun hlt=>?_) (fun hge=>W.ret rfl);have hj:j < q.length:=by omega
    have h5:=(hgq.fit.fit _ (List.getElem_mem hj)).1;have h3:=hgq.fit.len;have hs:dZ k q[j] q[j]=some true:=by rw [sP (by omega) (by omega)];simp
    rw [cZ hj,bs,bs,hs,bs,nT,bY (by omega) (by omega),bs];exact ih (m - 1) _ (by omega) ⟨j+1,by omega,by omega,by omega⟩) q.length k 0 (by have:=hgq.fit.len;omega) ⟨0,rfl,by omega,by omega⟩
   obtain⟨o,eo,rfl⟩:=hb;rw [eo,j8]
  rw [hsame,bs,iT,hp,bs,bs]
end
end Go.Proofs.YtcnpijmfgfnpiaaGreatDoor
