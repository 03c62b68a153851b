import Derived.Test.YtopgphikdglphaaGreatB7
namespace Go.Proofs.YtopgphikdglphaaGreat
open K Go Go.Proofs
theorem aY{α:Type}{l:List α}{i:Nat}(h:i < l.length):aL l (i:Int)=some l[i]:=by
 rw [aL,if_pos (by omega)];exact List.getElem?_eq_getElem h
def uY(c:ae)(C:Nat→Prop):Prop:=∀i,i < c.1.length→pL c C i→C i
abbrev nn(mv:List Bool):Nat:=mv.count true
theorem FW{mv:List Bool}{i:Nat}(h:mv[i]? =some false):nn (mv.set i true)=nn mv+1:=by
 induction mv generalizing i with
 |nil=>cases h
 |cons b mv ih=>
  cases i with
  |zero=>
   simp only [List.getElem?_cons_zero,Option.some.injEq] at h;subst h;simp [nn]
  |succ i=>
   simp only [List.getElem?_cons_succ] at h;have:=ih h;simp only [nn,List.set_cons_succ,List.count_cons] at this⊢;omega
theorem lR{mv:List Bool}{i j:Nat}(hi:i < mv.length):In (mv.set i true) j↔j=i∨In mv j:=by
 unfold In;rw [List.getElem?_set];by_cases h:i=j
 ·subst h;simp [hi]
 ·simp [h,Ne.symm h]
structure Ln(c:ae)(mv0 mv:List Bool)(again:Bool)(j:Nat):Prop where
 len:mv.length=c.1.length
 mono:∀i,In mv0 i→In mv i
 sound:∀C,uY c C→(∀i,In mv0 i→C i)→∀i,In mv i→C i
 same:again=false→mv=mv0∧∀i,i < j→pL c (In mv0) i→In mv0 i
 more:again=true→nn mv0 < nn mv
 le:nn mv0≤nn mv
theorem pL.mono{c:ae}{M N:Nat→Prop}(h:∀i,M i→N i){i:Nat}(hf:pL c M i):pL c N i:=by
 rcases hf with hf |⟨a,b,q,t,h1,h2,h3⟩
 ·exact .inl hf
 ·exact .inr ⟨a,b,q,t,h1,h q h2,h3⟩
theorem JU{k:Nat}(hk:50≤k){c:ae}(hs:vl c){mv0:List Bool}(hmv:mv0.length=c.1.length):W (eR k c k (mv0,false,0)) fun r=>Ln c mv0 r.1 r.2 c.1.length:=by
 have h8:=hs.things
 refine W.loop (f:=eR k c) (fun m y=>∃j:Nat,y.2.2=(j:Int)∧j≤c.1.length∧m=c.1.length - j∧Ln c mv0 y.1 y.2.1 j) ?_ c.1.length k (mv0,false,0) (by omega)
  ⟨0,rfl,by omega,by omega,hmv,fun _ h=>h,fun C hC h=>h,fun _=>⟨rfl,fun i hi=>by omega⟩,fun h=>(by cases h),Nat.le_refl _⟩
 rintro aH m ⟨mv,again,y⟩ ⟨j,hj,hle,hm,hP⟩ ih;simp only at hj hP;subst hj;unfold eR;refine W.ite (fun hlt=>?_) (fun hge=>W.ret ?_)
 ·obtain⟨r1,e1,i1⟩:=xx (k:=k) (l:=c.2.2.1) (x:=(j:Int)) (by have:=hs.wears;omega) (by have:=hs.wears;omega);obtain⟨r2,e2,i2⟩:=xx (k:=k) (l:=c.2.2.2) (x:=(j:Int)) (by have:=hs.wants;omega) (by have:=hs.wants;omega);obtain⟨d,e3,i3⟩:=Nh hk (c:=c) (mv:=mv) (again:=again) (i:=j) hs hP.len (d0:= !decide ((decide (0≤r1))=(decide (0≤r2))));have hlt':j < c.1.length:=by simp only at hlt;omega
  have hfd:d=true↔pL c (In mv) j:=by
   rw [i3];unfold pL
   have:((!decide ((decide (0≤r1))=(decide (0≤r2))))=true)↔(((j:Int)∈c.2.2.1∧¬(j:Int)∈c.2.2.2)∨(¬(j:Int)∈c.2.2.1∧(j:Int)∈c.2.2.2)):=by
    rw [←i1,←i2];by_cases a:0≤r1 <;> by_cases b:0≤r2 <;> simp [a,b]
   rw [this]
  have hlm:j < mv.length:=by rw [hP.len];exact hlt'
  simp only [e1,e2,Option.bind_some];rw [e3];simp only [Option.bind_some,aY hlm]
  have next:∀mv' again',Ln c mv0 mv' again' (j+1)→W ((some (mv',again'):Option (List Bool×Bool)).bind fun x12=>(K.ck ((j:Int)+1)).bind fun x34=>eR k c aH (x12.1,x12.2,x34)) fun r=>Ln c mv0 r.1 r.2 c.1.length:=fun mv' again' h=>by
   refine W.sb (W.ck (by omega) (by omega) (ih (m - 1) (mv',again',(j:Int)+1) (by omega) ⟨j+1,?_,by omega,by omega,h⟩));show(j:Int)+1=((j+1:Nat):Int);omega
  by_cases hd:d=true
  ·have hF:=hfd.1 hd;rw [if_pos hd];simp only [Option.bind_some];by_cases hb:mv[j]=true
   ·have hnb:¬((!mv[j])=true):=by rw [hb];decide
    rw [if_neg hnb];have hIn:In mv j:=by rw [In,List.getElem?_eq_getElem hlm,hb]
    refine next mv again ⟨hP.len,hP.mono,hP.sound,fun ha=>⟨(hP.same ha).1,fun i hi hf=>?_⟩,hP.more,hP.le⟩;obtain⟨h1,h2⟩:=hP.same ha;subst h1;by_cases hij:i < j
    ·exact h2 i hij hf
    ·have:i=j:=by omega
     subst this;exact hIn
   ·have hbf:mv[j]=false:=by simpa using hb
    have hnb:(!mv[j])=true:=by rw [hbf];rfl
    rw [if_pos hnb];have hget:mv[j]? =some false:=by rw [List.getElem?_eq_getElem hlm,hbf]
    have hcs:=FW hget;refine next (mv.set j true) true ⟨by rw [List.length_set];exact hP.len,fun i hi=>(lR hlm).2 (.inr (hP.mono i hi)),fun C hC h0 i hi=>?_,fun h=>(by cases h),fun _=>?_,?_⟩
    ·rcases(lR hlm).1 hi with rfl |hi
     ·exact hC _ hlt' (hF.mono (hP.sound C hC h0))
     ·exact hP.sound C hC h0 i hi
    ·have:=hP.le;omega
    ·have:=hP.le;omega
  ·rw [if_neg hd];simp only [Option.bind_some];rw [if_neg (by decide)];refine next mv again ⟨hP.len,hP.mono,hP.sound,fun ha=>⟨(hP.same ha).1,fun i hi hf=>?_⟩,hP.more,hP.le⟩;obtain⟨h1,h2⟩:=hP.same ha;subst h1;by_cases hij:i < j
   ·exact h2 i hij hf
   ·have:i=j:=by omega
    subst this;exact absurd (hfd.2 hf) hd
 ·have:j=c.1.length:=by simp only at hge;omega
  subst this;exact hP
structure xH(c:ae)(mv:List Bool):Prop where
 len:mv.length=c.1.length
 sound:∀C,uY c C→∀i,In mv i→C i
 shut:uY c (In mv)
theorem Ik{k:Nat}(hk:50≤k){c:ae}(hs:vl c):W (fO k c k (List.replicate c.1.length false,true)) (xH c):=by
 have h8:=hs.things;have hcl:∀mv:List Bool,mv.length=c.1.length→nn mv≤c.1.length:=fun mv h=>by rw [←h];exact List.count_le_length
 refine W.loop (f:=fO k c) (fun m y=>m=(if y.2=true then c.1.length - nn y.1+1 else 0)∧y.1.length=c.1.length∧(∀C,uY c C→∀i,In y.1 i→C i)∧(y.2=false→uY c (In y.1))) ?_ (c.1.length+1) k _ (by omega)
  ⟨by simp [nn,List.count_replicate],by simp,fun C _ i h=>(by
   exfalso;have h:(List.replicate c.1.length false)[i]? =some true:=h;rw [List.getElem?_replicate] at h;split at h <;> cases h),fun h=>(by cases h)⟩
 rintro aH m ⟨mv,again⟩ ⟨hm,hl,hsd,hsh⟩ ih;simp only at hm hl hsd hsh;unfold fO;refine W.ite (fun ha=>?_) (fun ha=>W.ret ⟨hl,hsd,hsh (by simpa using ha)⟩);simp only at ha;rw [if_pos ha] at hm;refine W.bind (JU hk hs hl) fun r hP=>ih _ (r.1,r.2) ?_ ⟨rfl,hP.len,fun C hC=>hP.sound C hC (hsd C hC),fun hr=>?_⟩
 ·have h1:=hcl _ hl;have h2:=hcl _ hP.len;have h3:=hP.le;show(if r.2=true then c.1.length - nn r.1+1 else 0) < m;simp only at h3;split
  ·rename_i hr;have:=hP.more hr;simp only at this;omega
  ·omega
 ·obtain⟨e,h⟩:=hP.same hr;rw [e];exact h
def pN(mv:List Bool)(ws:List Int)(b:Bool)(j:Nat):List cZ:=((List.range j).filter fun(i:Nat)=>mv[i]?.getD false && decide ((i:Int)∈ws)).map fun(i:Nat)=>((i:Int),b)
theorem oq{mv:List Bool}{ws:List Int}{b:Bool}{j:Nat}:pN mv ws b (j+1)=pN mv ws b j++(if In mv j∧(j:Int)∈ws then [((j:Int),b)] else []):=by
 unfold pN;rw [List.range_succ,List.filter_append,List.map_append];congr 1;by_cases h:In mv j∧(j:Int)∈ws
 ·rw [if_pos h];have h1:mv[j]? =some true:=h.1;simp [h1,h.2]
 ·rw [if_neg h];rw [List.filter_cons];split
  ·rename_i hh;exfalso;simp only [Bool.and_eq_true,decide_eq_true_eq] at hh;refine h ⟨?_,hh.2⟩;cases hg:mv[j]? with
   |none=>rw [hg] at hh;simp at hh
   |some b=>rw [hg] at hh;simp at hh;show mv[j]? =_;rw [hg,hh.1]
  ·rfl
theorem qV{mv:List Bool}{ws:List Int}{b:Bool}{j:Nat}:(pN mv ws b j).length≤j:=by
 unfold pN;rw [List.length_map];exact Nat.le_trans (List.length_filter_le _ _) (by simp)
theorem bH{n:Nat}(h:n≤1000):cx n:=by unfold cx;omega
theorem Ej{k:Nat}(hk:50≤k){c:ae}(hs:vl c){mv:List Bool}(hl:mv.length=c.1.length){out:List cZ}(ho:out.length≤20){on:Int}(hon:on=0∨on=1):
 W (eQ k c mv (out,on) k (out,0)) fun r=>r=out++pN mv (if on=0 then c.2.2.1 else c.2.2.2) (decide (on=1)) mv.length:=by
 have h8:=hs.things
 refine W.loop (f:=eQ k c mv (out,on)) (fun m y=>∃j:Nat,y.2=(j:Int)∧j≤mv.length∧m=mv.length - j∧y.1=out++pN mv (if on=0 then c.2.2.1 else c.2.2.2) (decide (on=1)) j) ?_ mv.length k (out,0) (by omega)
  ⟨0,rfl,by omega,by omega,by simp [pN]⟩
 rintro aH m ⟨o,y⟩ ⟨j,hj,hle,hm,ho'⟩ ih
 simp only at hj ho'
 subst hj ho'
 unfold eQ
 refine W.ite (fun hlt=>?_) (fun hge=>W.ret ?_)
 ·
  have hlt':j < mv.length:=by simp only at hlt;omega
  obtain⟨r1,e1,i1⟩:=xx (k:=k) (l:=c.2.2.1) (x:=(j:Int)) (by have:=hs.wears;omega) (by have:=hs.wears;omega);obtain⟨r2,e2,i2⟩:=xx (k:=k) (l:=c.2.2.2) (x:=(j:Int)) (by have:=hs.wants;omega) (by have:=hs.wants;omega);have hsl:=qV (mv:=mv) (ws:=if on=0 then c.2.2.1 else c.2.2.2) (b:=decide (on=1)) (j:=j)
  have next:∀bb:Bool,(bb=true↔In mv j∧(j:Int)∈(if on=0 then c.2.2.1 else c.2.2.2))→
   W (((some bb:Option Bool).bind fun x45=>if x45=true then((cF (cx (List.length (out++pN mv (if on=0 then c.2.2.1 else c.2.2.2) (decide (on=1)) j)+List.length [((j:Int),decide (on=(1:Int)))]))).bind fun _=>
    some ((out++pN mv (if on=0 then c.2.2.1 else c.2.2.2) (decide (on=1)) j)++[((j:Int),decide (on=(1:Int)))])) else(some (out++pN mv (if on=0 then c.2.2.1 else c.2.2.2) (decide (on=1)) j))).bind fun x43=>
    (K.ck ((j:Int)+1)).bind fun x53=>eQ k c mv (out,on) aH (x43,x53)) fun r=>r=out++pN mv (if on=0 then c.2.2.1 else c.2.2.2) (decide (on=1)) mv.length:=by
   intro bb hbb
   refine W.sb (W.iteB (fun hb=>?_) (fun hb=>?_))
   ·
    have hc:cx (List.length (out++pN mv (if on=0 then c.2.2.1 else c.2.2.2) (decide (on=1)) j)+List.length [((j:Int),decide (on=(1:Int)))]):=bH (by rw [List.length_append];simp only [List.length_cons,List.length_nil];omega);refine W.chkB hc (W.sb (W.ck (by omega) (by omega) (ih (m - 1) (_,(j:Int)+1) (by omega) ⟨j+1,?_,by omega,by omega,?_⟩)))
    ·show(j:Int)+1=((j+1:Nat):Int);omega
    ·show(out++_)++_=_;rw [oq,if_pos (hbb.1 hb),List.append_assoc]
   ·
    refine W.sb (W.ck (by omega) (by omega) (ih (m - 1) (_,(j:Int)+1) (by omega) ⟨j+1,?_,by omega,by omega,?_⟩))
    ·show(j:Int)+1=((j+1:Nat):Int);omega
    ·show out++_=_;rw [oq,if_neg (fun h=>hb (hbb.2 h)),List.append_nil]
  simp only [aY hlt',e1,e2,Option.bind_some];have hIn:In mv j↔mv[j]=true:=by unfold In;rw [List.getElem?_eq_getElem hlt'];simp
  by_cases hb:mv[j]=true
  ·rw [if_pos hb];rcases hon with rfl |rfl
   ·simp only [if_true];by_cases h1:0≤r1
    ·rw [if_pos h1];exact next true ⟨fun _=>⟨hIn.2 hb,i1.1 h1⟩,fun _=>rfl⟩
    ·rw [if_neg h1];exact next false ⟨fun h=>(by cases h),fun h=>absurd (i1.2 h.2) h1⟩
   ·rw [if_neg (by decide),if_pos rfl];exact next (decide (0≤r2)) ⟨fun h=>⟨hIn.2 hb,i2.1 (of_decide_eq_true h)⟩,fun h=>decide_eq_true (i2.2 h.2)⟩
  ·rw [if_neg hb];exact next false ⟨fun h=>(by cases h),fun h=>absurd (hIn.1 h.1) hb⟩
 ·
  have:j=mv.length:=by simp only at hge;omega
  subst this;rfl
theorem vU{k:Nat}(hk:50≤k){c:ae}(hs:vl c):W (fB k c) fun r=>∃mv,xH c mv∧r=pN mv c.2.2.1 false c.1.length++pN mv c.2.2.2 true c.1.length:=by
 have h8:=hs.things;unfold fB;refine W.chk ⟨by omega,bH (by omega)⟩ ?_;have e:Int.toNat (c.1.length:Int)=c.1.length:=by omega
 rw [e];refine W.bind (Ik hk hs) fun mv hF=>?_;have hsl:=qV (mv:=mv) (ws:=c.2.2.1) (b:=false) (j:=mv.length);have hlen:=hF.len;have hw:=qV (mv:=mv) (ws:=c.2.2.1) (b:=false) (j:=mv.length);obtain⟨o1,f1,g1⟩:=Ej hk hs hF.len (out:=[]) (by simp) (on:=0) (.inl rfl);have g1':o1=pN mv c.2.2.1 false mv.length:=by rw [g1];simp
 have hl1:o1.length≤20:=by rw [g1'];omega
 obtain⟨o2,f2,g2⟩:=Ej hk hs hF.len hl1 (on:=1) (.inr rfl);have g2':o2=o1++pN mv c.2.2.2 true mv.length:=by rw [g2];simp
 have run:cI k c mv k ([],0)=some o2:=by
  obtain⟨k',rfl⟩:∃k',k=k'+3:=⟨k - 3,by omega⟩;have e0:K.ck ((0:Int)+1)=some 1:=rfl;have e1:K.ck ((1:Int)+1)=some 2:=rfl
  have s1:cI (k'+3) c mv (k'+3) ([],0)=cI (k'+3) c mv (k'+2) (o1,1):=by
   rw [cI];simp only [f1,Option.bind_some,e0];rfl
  have s2:cI (k'+3) c mv (k'+2) (o1,1)=cI (k'+3) c mv (k'+1) (o2,2):=by
   rw [cI];simp only [f2,Option.bind_some,e1];rfl
  have s3:cI (k'+3) c mv (k'+1) (o2,2)=some o2:=by
   rw [cI];simp
  rw [s1,s2,s3]
 rw [run];refine W.ret ⟨mv,hF,?_⟩;rw [g2',g1',←hF.len]
def lD(l:List Int)(n:Int):Prop:=l.Pairwise (· < ·)∧∀x∈l,0≤x∧x < n
theorem lD.nil{n:Int}:lD [] n:=⟨List.Pairwise.nil,fun x h=>by simp at h⟩
theorem lD.mono{l:List Int}{n m:Int}(h:lD l n)(hm:n≤m):lD l m:=⟨h.1,fun x hx=>⟨(h.2 x hx).1,by have:=(h.2 x hx).2;omega⟩⟩
theorem lD.snoc{l:List Int}{i:Int}(h:lD l i)(h0:0≤i):lD (l++[i]) (i+1):=by
 refine⟨List.pairwise_append.2 ⟨h.1,List.pairwise_singleton _ _,fun a ha b hb=>?_⟩,fun x hx=>?_⟩
 ·simp only [List.mem_singleton] at hb;subst hb;exact(h.2 a ha).2
 ·rcases List.mem_append.1 hx with hx |hx
  ·have:=h.2 x hx;omega
  ·simp only [List.mem_singleton] at hx;subst hx;omega
theorem lD.take{l:List Int}{n:Int}(h:lD l n)(j:Nat):lD (l.take j) n:=⟨h.1.sublist (List.take_sublist _ _),fun x hx=>h.2 x (List.mem_of_mem_take hx)⟩
theorem EF:∀(l:List Int) (a n:Int),l.Pairwise (· < ·)→(∀x∈l,a≤x∧x < n)→a≤n→(l.length:Int)≤n - a
 |[],a,n,_,_,h=>by simp;omega
 |x::l,a,n,hp,hx,h=>by
  obtain⟨h1,h2⟩:=List.pairwise_cons.1 hp
  have h3:=hx x (List.mem_cons_self ..)
  have:=EF l (x+1) n h2 (fun y hy=>⟨by have:=h1 y hy;omega,(hx y (List.mem_cons_of_mem _ hy)).2⟩) (by omega)
  simp only [List.length_cons]
  omega
theorem lD.len{l:List Int}{n:Int}(h:lD l n)(h0:0≤n):(l.length:Int)≤n:=by
 have:=EF l 0 n h.1 h.2 h0;omega
theorem Lo.mono{l:cr}{m m':Int}(h:Lo l m)(hm:m≤m'):Lo l m':=⟨h.1,by have:=h.2;omega⟩
def xC(up:Bool)(i n:Int)(l:List Int):Prop:=lD l n∧∀x∈l,decide (i < x)=up∧x≠i
structure pQ(up:Bool)(n:Int)(i:Nat)(t:bp):Prop where
 over:xC up (i:Int) n t.1
 off:1≤t.2.1∧t.2.1≤4
 put:1≤t.2.2.1∧t.2.2.1≤4
 side:0≤t.2.2.2.1∧t.2.2.2.1≤2
 due:0≤t.2.2.2.2∧t.2.2.2.2≤12
structure kl(n:Int)(d:ax):Prop where
 can:lD d.1 n
 side:0≤d.2.1∧d.2.1≤2
 start:0≤d.2.2∧d.2.2≤9
theorem JV{k:Nat}(hk:50≤k){r3:Int×cr}{r4:Bool×cr}{y7:(List Int)×Int×Int×(List bp)×(List Int)×(List Int)×Int}{l:cr}{m:Int}(hn:1≤r3.1∧r3.1≤4)(hl:Lo l m)(hm:0≤m∧m≤100000):
 W (eH k r3 r4 y7 k (l.1,l.2.1,l.2.2,[],0)) fun r=>Lo (r.1,r.2.1,r.2.2.1) (m+4)∧xC r4.1 y7.2.2.2.2.2.2 r3.1 r.2.2.2:=by
 refine W.loop (f:=eH k r3 r4 y7) (fun q y=>0≤y.2.2.2.2∧y.2.2.2.2≤r3.1∧q=(r3.1 - y.2.2.2.2).toNat∧Lo (y.1,y.2.1,y.2.2.1) (m+y.2.2.2.2)∧xC r4.1 y7.2.2.2.2.2.2 y.2.2.2.2 y.2.2.2.1) ?_ r3.1.toNat k _ (by omega)
  ⟨Int.le_refl 0,by show 0≤r3.1;omega,by show r3.1.toNat=(r3.1 - 0).toNat;omega,hl.mono (by show m≤m+0;omega),lD.nil,fun x h=>by simp at h⟩
 rintro aH q ⟨nums,d,s,over,j⟩ ⟨h0,h1,hq,hlo,hov⟩ ih
 simp only at h0 h1 hq hlo hov
 unfold eH
 refine W.ite (fun hlt=>?_) (fun hge=>W.ret ?_)
 ·
  simp only at hlt
  have next:∀(nums':List Int) (d' s':Int) (bb:Bool),Lo (nums',d',s') (m+(j+1))→(bb=true→decide (y7.2.2.2.2.2.2 < j)=r4.1∧j≠y7.2.2.2.2.2.2)→
   W (((some (nums',d',s',bb):Option ((List Int)×Int×Int×Bool)).bind fun x26=>if x26.2.2.2=true then((cF (cx (List.length over+List.length [j]))).bind fun _=>
    some (x26.1,x26.2.1,x26.2.2.1,over++[j])) else(some (x26.1,x26.2.1,x26.2.2.1,over))).bind fun x24=>
    (K.ck (j+(1:Int))).bind fun x32=>eH k r3 r4 y7 aH (x24.1,x24.2.1,x24.2.2.1,x24.2.2.2,x32)) fun r=>Lo (r.1,r.2.1,r.2.2.1) (m+4)∧xC r4.1 y7.2.2.2.2.2.2 r3.1 r.2.2.2:=by
   intro nums' d' s' bb hlo' hbb
   have hlen:=hov.1.len h0
   refine W.sb (W.iteB (fun hb=>?_) (fun hb=>?_))
   ·
    simp only at hb;refine W.chkB (bH (by simp only [List.length_cons,List.length_nil];omega)) (W.sb (W.ck (by omega) (by omega) (ih (q - 1) (nums',d',s',over++[j],j+1) (by omega) ⟨?_,?_,?_,hlo',hov.1.snoc h0,fun x hx=>?_⟩)))
    ·show 0≤j+1;omega
    ·show j+1≤r3.1;omega
    ·show q - 1=(r3.1 - (j+1)).toNat;omega
    ·rcases List.mem_append.1 hx with hx |hx
     ·exact hov.2 x hx
     ·simp only [List.mem_singleton] at hx;subst hx;exact hbb hb
   ·
    refine W.sb (W.ck (by omega) (by omega) (ih (q - 1) (nums',d',s',over,j+1) (by omega) ⟨?_,?_,?_,hlo',hov.1.mono (by show j≤j+1;omega),hov.2⟩))
    ·show 0≤j+1;omega
    ·show j+1≤r3.1;omega
    ·show q - 1=(r3.1 - (j+1)).toNat;omega
  by_cases hu:decide (y7.2.2.2.2.2.2 < j)=r4.1
  ·rw [if_pos hu];by_cases hj:j=y7.2.2.2.2.2.2
   ·rw [if_neg (fun h=>h hj)];exact next nums d s false (hlo.mono (by omega)) (fun h=>by cases h)
   ·rw [if_pos hj];obtain⟨r,e,hr⟩:=vE (k:=k) (a:=3) hlo (by omega) (by decide) (by decide);rw [e];exact next r.2.1 r.2.2.1 r.2.2.2 r.1 (hr.mono (by omega)) (fun _=>⟨hu,hj⟩)
  ·rw [if_neg hu];exact next nums d s false (hlo.mono (by omega)) (fun h=>by cases h)
 ·
  have:j=r3.1:=by simp only at hge;omega
  subst this;exact⟨hlo.mono (by omega),hov⟩
structure Lq(up:Bool)(n:Int)(i:Int)(things:List bp)(wears wants:List Int):Prop where
 len:(things.length:Int)=i
 good:∀(j:Nat) t,things[j]? =some t→pQ up n j t
 wears:lD wears i
 wants:lD wants i
theorem EX{k:Nat}(hk:50≤k){r3:Int×cr}{r4:Bool×cr}{l:cr}{m:Int}(hn:1≤r3.1∧r3.1≤4)(hl:Lo l m)(hm:0≤m∧m≤10000):
 W (dI k r3 r4 k (l.1,l.2.1,l.2.2,[],[],[],0)) fun r=>Lo (r.1,r.2.1,r.2.2.1) (m+120)∧Lq r4.1 r3.1 r3.1 r.2.2.2.1 r.2.2.2.2.1 r.2.2.2.2.2:=by
 refine W.loop (f:=dI k r3 r4) (fun q y=>0≤y.2.2.2.2.2.2∧y.2.2.2.2.2.2≤r3.1∧q=(r3.1 - y.2.2.2.2.2.2).toNat∧Lo (y.1,y.2.1,y.2.2.1) (m+30 * y.2.2.2.2.2.2)∧Lq r4.1 r3.1 y.2.2.2.2.2.2 y.2.2.2.1 y.2.2.2.2.1 y.2.2.2.2.2.1) ?_ r3.1.toNat k _ (by omega)
  ⟨Int.le_refl 0,by show 0≤r3.1;omega,by show r3.1.toNat=(r3.1 - 0).toNat;omega,hl.mono (by show m≤m+30 * 0;omega),rfl,fun j t h=>by simp at h,lD.nil,lD.nil⟩
 rintro aH q ⟨nums,d,s,things,wears,wants,i⟩ ⟨h0,h1,hq,hlo,hM⟩ ih
 simp only at h0 h1 hq hlo hM
 unfold dI
 refine W.ite (fun hlt=>?_) (fun hge=>W.ret ?_)
 ·
  simp only at hlt;obtain⟨r11,e11,a11,b11,c11⟩:=yH (k:=k) (a:=1) (b:=4) hlo (by omega) (by decide) (by decide) (by decide);refine W.bindEB e11 ?_;obtain⟨r12,e12,a12,c12⟩:=yu (k:=k) (some_:=[1,1,2,r11.1]) c11 (by omega) (by simp) (by simp);refine W.bindEB e12 ?_;obtain⟨r13,e13,a13,b13,c13⟩:=yH (k:=k) (a:=1) (b:=4) c12 (by omega) (by decide) (by decide) (by decide);refine W.bindEB e13 ?_;obtain⟨r14,e14,a14,c14⟩:=yu (k:=k) (some_:=[1,2,2,r13.1]) c13 (by omega) (by simp) (by simp);refine W.bindEB e14 ?_;obtain⟨r15,e15,a15,c15⟩:=yu (k:=k) (some_:=[0,0,1,2]) c14 (by omega) (by simp) (by simp);refine W.bindEB e15 ?_;obtain⟨r16,e16,a16,b16,c16⟩:=yH (k:=k) (a:=1) (b:=6) c15 (by omega) (by decide) (by decide) (by decide);refine W.bindEB e16 ?_;obtain⟨r17,e17,a17,b17,c17⟩:=yH (k:=k) (a:=3) (b:=12) c16 (by omega) (by decide) (by decide) (by decide);refine W.bindEB e17 ?_;obtain⟨r18,e18,a18,c18⟩:=yu (k:=k) (some_:=[0,0,r16.1,r17.1]) c17 (by omega) (by simp) (by simp);refine W.bindEB e18 ?_;obtain⟨x20,e20,c20,o20⟩:=JV hk (r3:=r3) (r4:=r4) (y7:=(nums,d,s,things,wears,wants,i)) hn c18 (by omega);refine W.bindEB e20 ?_;have hi4:i < 4:=by omega
  have hlen:=hM.len;have hw:=hM.wears.len h0;have hv:=hM.wants.len h0;refine W.chkB (bH (by simp only [List.length_cons,List.length_nil];omega)) ?_;obtain⟨r36,e36,a36,b36,c36⟩:=nI (k:=k) (n:=5) c20 (by omega) (by decide);refine W.bindEB e36 ?_;have hlo':Lo r36.2 (m+30 * (i+1)):=c36.mono (by omega)
  have hnew:pQ r4.1 r3.1 things.length (x20.2.2.2,r12.1,r14.1,r15.1,r18.1):=by
   have hin:((things.length:Nat):Int)=i:=hlen;refine⟨by rw [hin];exact o20,?_,?_,?_,?_⟩
   ·show 1≤r12.1∧r12.1≤4;simp only [List.mem_cons,List.not_mem_nil,or_false] at a12;omega
   ·show 1≤r14.1∧r14.1≤4;simp only [List.mem_cons,List.not_mem_nil,or_false] at a14;omega
   ·show 0≤r15.1∧r15.1≤2;simp only [List.mem_cons,List.not_mem_nil,or_false] at a15;omega
   ·show 0≤r18.1∧r18.1≤12;simp only [List.mem_cons,List.not_mem_nil,or_false] at a18;omega
  have hgood:∀(j:Nat) t,(things++[(x20.2.2.2,r12.1,r14.1,r15.1,r18.1)])[j]? =some t→pQ r4.1 r3.1 j t:=by
   intro j t hj;by_cases hjl:j < things.length
   ·rw [List.getElem?_append_left hjl] at hj;exact hM.good j t hj
   ·rw [List.getElem?_append_right (by omega)] at hj
    have hj0:j - things.length=0:=by
     rcases Nat.eq_zero_or_pos (j - things.length) with h |h
     ·exact h
     ·rw [List.getElem?_eq_none (by simp only [List.length_cons,List.length_nil];omega)] at hj;cases hj
    rw [hj0] at hj;have:j=things.length:=by omega
    subst this;cases hj;exact hnew
  have next:∀(wears' wants':List Int),lD wears' (i+1)→lD wants' (i+1)→
   W ((some (r36.2.1,r36.2.2.1,r36.2.2.2,things++[(x20.2.2.2,r12.1,r14.1,r15.1,r18.1)],wears',wants'):Option ((List Int)×Int×Int×(List bp)×(List Int)×(List Int))).bind fun x9=>(K.ck (i+(1:Int))).bind fun x51=>
    dI k r3 r4 aH (x9.1,x9.2.1,x9.2.2.1,x9.2.2.2.1,x9.2.2.2.2.1,x9.2.2.2.2.2,x51)) fun r=>Lo (r.1,r.2.1,r.2.2.1) (m+120)∧Lq r4.1 r3.1 r3.1 r.2.2.2.1 r.2.2.2.2.1 r.2.2.2.2.2:=by
   intro wears' wants' h1' h2'
   refine W.sb (W.ck (by omega) (by omega) (ih (q - 1) (r36.2.1,r36.2.2.1,r36.2.2.2,things++[(x20.2.2.2,r12.1,r14.1,r15.1,r18.1)],wears',wants',i+1) (by omega) ⟨?_,?_,?_,hlo',?_,hgood,h1',h2'⟩))
   ·
    show 0≤i+1;omega
   ·
    show i+1≤r3.1;omega
   ·
    show q - 1=(r3.1 - (i+1)).toNat;omega
   ·
    show(((things++[_]).length:Nat):Int)=i+1;rw [List.length_append];simp only [List.length_cons,List.length_nil];omega
  have w1:=hM.wears.mono (show i≤i+1 by omega);have v1:=hM.wants.mono (show i≤i+1 by omega);have w2:=hM.wears.snoc h0;have v2:=hM.wants.snoc h0;have cw:cx (List.length wears+List.length [i]):=bH (by simp only [List.length_cons,List.length_nil];omega);have cv:cx (List.length wants+List.length [i]):=bH (by simp only [List.length_cons,List.length_nil];omega);refine W.iteB (fun _=>next wears wants w1 v1) (fun _=>?_)
  have tail:∀bb:Bool,W (((some bb:Option Bool).bind fun x37=>if x37=true then((cF (cx (List.length wears+List.length [i]))).bind fun _=>
   some (r36.2.1,r36.2.2.1,r36.2.2.2,things++[(x20.2.2.2,r12.1,r14.1,r15.1,r18.1)],wears++[i],wants)) else(if r36.1=(3:Int) then((cF (cx (List.length wants+List.length [i]))).bind fun _=>
   some (r36.2.1,r36.2.2.1,r36.2.2.2,things++[(x20.2.2.2,r12.1,r14.1,r15.1,r18.1)],wears,wants++[i])) else((cF (cx (List.length wears+List.length [i]))).bind fun _=>
   (cF (cx (List.length wants+List.length [i]))).bind fun _=>
   some (r36.2.1,r36.2.2.1,r36.2.2.2,things++[(x20.2.2.2,r12.1,r14.1,r15.1,r18.1)],wears++[i],wants++[i])))).bind fun x9=>(K.ck (i+(1:Int))).bind fun x51=>
    dI k r3 r4 aH (x9.1,x9.2.1,x9.2.2.1,x9.2.2.2.1,x9.2.2.2.2.1,x9.2.2.2.2.2,x51)) fun r=>Lo (r.1,r.2.1,r.2.2.1) (m+120)∧Lq r4.1 r3.1 r3.1 r.2.2.2.1 r.2.2.2.2.1 r.2.2.2.2.2:=fun bb=>
   W.sbB (W.iteB (fun _=>W.chkB cw (next _ _ w2 v1)) (fun _=>W.iteB (fun _=>W.chkB cv (next _ _ w1 v2)) (fun _=>W.chkB cw (W.chkB cv (next _ _ w2 v2)))))
  exact W.iteBB (fun _=>tail _) (fun _=>tail _)
 ·
  have:i=r3.1:=by simp only at hge;omega
  subst this;exact⟨hlo.mono (by omega),hM⟩
theorem Nj{k:Nat}(hk:50≤k){r3:Int×cr}{l:cr}{m:Int}(hn:1≤r3.1∧r3.1≤4)(hl:Lo l m)(hm:0≤m∧m≤100000):
 W (fm k r3 k (l.1,l.2.1,l.2.2,[],0)) fun r=>Lo (r.1,r.2.1,r.2.2.1) (m+4)∧lD r.2.2.2 r3.1:=by
 refine W.loop (f:=fm k r3) (fun q y=>0≤y.2.2.2.2∧y.2.2.2.2≤r3.1∧q=(r3.1 - y.2.2.2.2).toNat∧Lo (y.1,y.2.1,y.2.2.1) (m+y.2.2.2.2)∧lD y.2.2.2.1 y.2.2.2.2) ?_ r3.1.toNat k _ (by omega)
  ⟨Int.le_refl 0,by show 0≤r3.1;omega,by show r3.1.toNat=(r3.1 - 0).toNat;omega,hl.mono (by show m≤m+0;omega),lD.nil⟩
 rintro aH q ⟨nums,d,s,can,j⟩ ⟨h0,h1,hq,hlo,hc⟩ ih
 simp only at h0 h1 hq hlo hc
 unfold fm
 dsimp only
 refine W.ite (fun hlt=>?_) (fun hge=>W.ret ?_)
 ·
  try simp only at hlt
  have hlen:=hc.len h0;obtain⟨r,e,hr⟩:=vE (k:=k) (a:=4) hlo (by omega) (by decide) (by decide);refine W.bindEB e (W.iteB (fun _=>?_) (fun _=>?_))
  ·refine W.chkB (bH (by simp only [List.length_cons,List.length_nil];omega)) (W.sb (W.ck (by omega) (by omega) (ih (q - 1) (r.2.1,r.2.2.1,r.2.2.2,can++[j],j+1) (by omega) ⟨?_,?_,?_,hr.mono (by show m+j+1≤m+(j+1);omega),hc.snoc h0⟩)))
   ·show 0≤j+1;omega
   ·show j+1≤r3.1;omega
   ·show q - 1=(r3.1 - (j+1)).toNat;omega
  ·refine W.sb (W.ck (by omega) (by omega) (ih (q - 1) (r.2.1,r.2.2.1,r.2.2.2,can,j+1) (by omega) ⟨?_,?_,?_,hr.mono (by show m+j+1≤m+(j+1);omega),hc.mono (by show j≤j+1;omega)⟩))
   ·show 0≤j+1;omega
   ·show j+1≤r3.1;omega
   ·show q - 1=(r3.1 - (j+1)).toNat;omega
 ·
  have:j=r3.1:=by(try simp only at hge);omega
  subst this;exact⟨hlo.mono (by omega),hc⟩
theorem Bz{k:Nat}(hk:50≤k){r3:Int×cr}{l:cr}{m D:Int}(hn:1≤r3.1∧r3.1≤4)(hD:1≤D∧D≤3)(hl:Lo l m)(hm:0≤m∧m≤10000):
 W (fo k r3 k (l.1,l.2.1,l.2.2,[],D)) fun r=>Lo (r.1,r.2.1,r.2.2.1) (m+90)∧(r.2.2.2.length:Int)=D∧∀x∈r.2.2.2,kl r3.1 x:=by
 refine W.loop (f:=fo k r3) (fun q y=>0≤y.2.2.2.2∧y.2.2.2.2≤D∧q=y.2.2.2.2.toNat∧Lo (y.1,y.2.1,y.2.2.1) (m+30 * (D - y.2.2.2.2))∧(y.2.2.2.1.length:Int)=D - y.2.2.2.2∧∀x∈y.2.2.2.1,kl r3.1 x) ?_ D.toNat k _ (by omega)
  ⟨by show 0≤D;omega,Int.le_refl D,rfl,hl.mono (by show m≤m+30 * (D - D);omega),by show((0:Nat):Int)=D - D;omega,fun x h=>by simp at h⟩
 rintro aH q ⟨nums,d,s,ds,i⟩ ⟨h0,h1,hq,hlo,hlen,hg⟩ ih
 simp only at h0 h1 hq hlo hlen hg
 unfold fo
 dsimp only
 refine W.ite (fun hlt=>?_) (fun hge=>W.ret ?_)
 ·
  try simp only at hlt
  obtain⟨r59,e59,a59,c59⟩:=yu (k:=k) (some_:=[0,0,1,2]) hlo (by omega) (by simp) (by simp);refine W.bindEB e59 ?_;obtain⟨r60,e60,a60,b60,c60⟩:=nI (k:=k) (n:=4) c59 (by omega) (by decide);refine W.bindEB e60 ?_;obtain⟨r61,e61,a61,c61⟩:=yu (k:=k) (some_:=[0,0,1,r60.1]) c60 (by omega) (by simp) (by simp);refine W.bindEB e61 ?_;obtain⟨x63,e63,c63,o63⟩:=Nj hk (r3:=r3) hn c61 (by omega);refine W.bindEB e63 ?_;have h60:=b60 (by decide);refine W.chkB (bH (by simp only [List.length_cons,List.length_nil];omega)) (W.sb (W.ck (by omega) (by omega) (ih (q - 1) (x63.1,x63.2.1,x63.2.2.1,ds++[(x63.2.2.2,r59.1,r61.1)],i - 1) (by omega) ⟨?_,?_,?_,c63.mono (by show m+30 * (D - i)+1+1+1+4≤m+30 * (D - (i - 1));omega),?_,fun x hx=>?_⟩)))
  ·show 0≤i - 1;omega
  ·show i - 1≤D;omega
  ·show q - 1=(i - 1).toNat;omega
  ·show(((ds++[_]).length:Nat):Int)=D - (i - 1);rw [List.length_append];simp only [List.length_cons,List.length_nil];omega
  ·rcases List.mem_append.1 hx with hx |hx
   ·exact hg x hx
   ·simp only [List.mem_singleton] at hx;subst hx;refine⟨o63,?_,?_⟩
    ·show 0≤r59.1∧r59.1≤2;simp only [List.mem_cons,List.not_mem_nil,or_false] at a59;omega
    ·show 0≤r61.1∧r61.1≤9;simp only [List.mem_cons,List.not_mem_nil,or_false] at a61;omega
 ·
  have:i=0:=by(try simp only at hge);omega
  subst this;exact⟨hlo.mono (by omega),by show(ds.length:Int)=D;omega,hg⟩
structure LY(k:Nat)(c:ae):Prop where
 ex:∃(up:Bool) (n:Int),1≤n∧n≤4∧(c.1.length:Int)=n∧(∀(j:Nat) t,c.1[j]? =some t→pQ up n j t)∧lD c.2.2.1 n∧lD c.2.2.2 n∧∀x∈c.2.1,kl n x
 dressers:1≤c.2.1.length∧c.2.1.length≤3
 tasks:∀r,fB k c=some r→r.length≤4
theorem GP{up:Bool}{n:Int}{c:ae}(h0:1≤n)(h4:n≤4)(hl:(c.1.length:Int)=n)(hg:∀(j:Nat) t,c.1[j]? =some t→pQ up n j t)(hw:lD c.2.2.1 n)(hv:lD c.2.2.2 n):vl c:=by
 have a:=hw.len (by omega);have b:=hv.len (by omega);refine⟨by omega,fun t ht=>?_,by omega,by omega⟩;obtain⟨j,hj⟩:=List.mem_iff_getElem?.1 ht;have:=(hg j t hj).over.1.len (by omega);omega
theorem D3{mv:List Bool}{b:Bool}{j:Nat}:pN mv [] b j=[]:=by
 unfold pN;rw [List.map_eq_nil_iff,List.filter_eq_nil_iff];intro i _;simp
theorem E5{k:Nat}(hk:50≤k){up:Bool}{n:Int}{things:List bp}{ds:List ax}{wears wants:List Int}{l:cr}{m:Int}(h0:1≤n)(h4:n≤4)(hl:(things.length:Int)=n)
 (hg:∀(j:Nat) t,things[j]? =some t→pQ up n j t) (hw:lD wears n) (hv:lD wants n) (hlo:Lo l m) (hm:0≤m∧m≤10000):
 W (bU k k (l.1,l.2.1,l.2.2,things,ds,wears,wants)) fun r=>r.1=things∧r.2.1=ds∧lD r.2.2.1 n∧lD r.2.2.2.1 n∧Lo (r.2.2.2.2.1,r.2.2.2.2.2.1,r.2.2.2.2.2.2) (m+8)∧∀x,fB k (r.1,r.2.1,r.2.2.1,r.2.2.2.1)=some x→x.length≤4:=by
 have a:=hw.len (by omega)
 have b:=hv.len (by omega)
 refine W.loop (f:=bU k) (fun q y=>y.2.2.2.1=things∧y.2.2.2.2.1=ds∧lD y.2.2.2.2.2.1 n∧lD y.2.2.2.2.2.2 n∧q=y.2.2.2.2.2.1.length+y.2.2.2.2.2.2.length∧∃e:Int,Lo (y.1,y.2.1,y.2.2.1) (m+e)∧0≤e∧e+q≤8) ?_ (wears.length+wants.length) k _ (by omega)
  ⟨rfl,rfl,hw,hv,rfl,0,hlo.mono (by omega),by omega,by omega⟩
 rintro aH q ⟨nums,d,s,th,ds',ws,vs⟩ ⟨e1,e2,hw',hv',hq,e,hlo',he0,he⟩ ih
 simp only at e1 e2 hw' hv' hq hlo'
 subst e1 e2
 unfold bU
 dsimp only
 have hs:vl (th,ds',ws,vs):=GP (up:=up) h0 h4 hl hg hw' hv'
 obtain⟨r82,e82,mv,hF,h82⟩:=vU hk hs
 refine W.bindE e82 (W.ite (fun hlt=>?_) (fun hge=>W.ret ⟨rfl,rfl,hw',hv',hlo'.mono (by omega),fun x hx=>?_⟩))
 ·
  have hwl:=hw'.len (by omega);have hvl:=hv'.len (by omega)
  have cut:∀(nums':List Int) (d' s':Int),Lo (nums',d',s') (m+(e+1))→0 < q→W (if(0:Int) < (ws.length:Int) then((K.ck ((ws.length:Int) - (1:Int))).bind fun x88=>
   (cF (0≤x88∧x88≤(ws.length:Int))).bind fun _=>
   bU k aH (nums',d',s',th,ds',List.take (Int.toNat x88) ws,vs)) else(bU k aH (nums',d',s',th,ds',ws,[]))) fun r=>r.1=th∧r.2.1=ds'∧lD r.2.2.1 n∧lD r.2.2.2.1 n∧Lo (r.2.2.2.2.1,r.2.2.2.2.2.1,r.2.2.2.2.2.2) (m+8)∧∀x,fB k (r.1,r.2.1,r.2.2.1,r.2.2.2.1)=some x→x.length≤4:=by
   intro nums' d' s' hlo2 hpos
   refine W.ite (fun hw0=>W.ck (by omega) (by omega) (W.chk (by omega) (ih (q - 1) (nums',d',s',th,ds',List.take (Int.toNat ((ws.length:Int) - 1)) ws,vs) (by omega) ⟨rfl,rfl,hw'.take _,hv',?_,e+1,hlo2,by omega,by omega⟩))) (fun hw0=>?_)
   ·show q - 1=(List.take _ ws).length+vs.length;rw [List.length_take];omega
   ·exact ih 0 (nums',d',s',th,ds',ws,[]) hpos ⟨rfl,rfl,hw',lD.nil,by show 0=ws.length+0;omega,e+1,hlo2,by omega,by omega⟩
  have hpos:0 < q:=by
   rcases Nat.eq_zero_or_pos q with h |h
   ·exfalso;have hw0:ws=[]:=List.eq_nil_of_length_eq_zero (by omega);have hv0:vs=[]:=List.eq_nil_of_length_eq_zero (by omega);subst hw0 hv0;rw [h82] at hlt;have x1:pN mv ([]:List Int) false th.length=[]:=D3;have x2:pN mv ([]:List Int) true th.length=[]:=D3;simp only [x1,x2] at hlt;simp at hlt
   ·exact h
  have pick:∀(nums':List Int) (d' s':Int) (bb:Bool),Lo (nums',d',s') (m+(e+1))→(bb=true→0 < vs.length)→
   W ((some (nums',d',s',bb):Option ((List Int)×Int×Int×Bool)).bind fun x83=>if x83.2.2.2=true then((K.ck ((vs.length:Int) - (1:Int))).bind fun x86=>
   (cF (0≤x86∧x86≤(vs.length:Int))).bind fun _=>
   bU k aH (x83.1,x83.2.1,x83.2.2.1,th,ds',ws,List.take (Int.toNat x86) vs)) else(if(0:Int) < (ws.length:Int) then((K.ck ((ws.length:Int) - (1:Int))).bind fun x88=>
   (cF (0≤x88∧x88≤(ws.length:Int))).bind fun _=>
   bU k aH (x83.1,x83.2.1,x83.2.2.1,th,ds',List.take (Int.toNat x88) ws,vs)) else(bU k aH (x83.1,x83.2.1,x83.2.2.1,th,ds',ws,[]))))
    fun r=>r.1=th∧r.2.1=ds'∧lD r.2.2.1 n∧lD r.2.2.2.1 n∧Lo (r.2.2.2.2.1,r.2.2.2.2.2.1,r.2.2.2.2.2.2) (m+8)∧∀x,fB k (r.1,r.2.1,r.2.2.1,r.2.2.2.1)=some x→x.length≤4:=by
   intro nums' d' s' bb hlo2 hbb
   refine W.sb (W.ite (fun hb=>?_) (fun _=>cut nums' d' s' hlo2 hpos))
   have hv0:=hbb hb
   refine W.ck (by omega) (by omega) (W.chk (by omega) (ih (q - 1) (nums',d',s',th,ds',ws,List.take (Int.toNat ((vs.length:Int) - 1)) vs) (by omega) ⟨rfl,rfl,hw',hv'.take _,?_,e+1,hlo2,by omega,by omega⟩))
   show q - 1=ws.length+(List.take _ vs).length
   rw [List.length_take]
   omega
  refine W.iteB (fun hv0=>?_) (fun hv0=>pick nums d s false (hlo'.mono (by omega)) (fun h=>by cases h));obtain⟨r,er,hr⟩:=vE (k:=k) (a:=2) hlo' (by omega) (by decide) (by decide);refine W.bindEB er (pick r.2.1 r.2.2.1 r.2.2.2 r.1 (hr.mono (by omega)) (fun _=>by(try simp only at hv0);omega))
 ·
  have:x=r82:=Option.some.inj (hx.symm.trans e82);subst this;(try simp only at hge);omega
theorem F4{k:Nat}(hk:50≤k){l:cr}{m:Int}(hl:Lo l m)(hm:0≤m∧m≤1000):W (jM k l) fun r=>LY k r.1∧Lo r.2 (m+300):=by
 unfold jM;obtain⟨r3,e3,a3,b3,c3⟩:=yH (k:=k) (a:=1) (b:=4) hl (by omega) (by decide) (by decide) (by decide);refine W.bindE e3 ?_;obtain⟨r4,e4,c4⟩:=vE (k:=k) (a:=2) c3 (by omega) (by decide) (by decide);refine W.bindE e4 ?_;obtain⟨x5,e5,c5,hM⟩:=EX hk (r3:=r3) (r4:=r4) ⟨a3,b3⟩ c4 (by omega);refine W.bindE e5 ?_;obtain⟨r54,e54,a54,b54,c54⟩:=yH (k:=k) (a:=1) (b:=3) c5 (by omega) (by decide) (by decide) (by decide);refine W.bindEB e54 ?_;obtain⟨x52,e52,c52,l52,g52⟩:=Bz hk (r3:=r3) (D:=r54.1) ⟨a3,b3⟩ ⟨a54,b54⟩ c54 (by omega);refine W.bindE e52 ?_;obtain⟨x78,e78,f1,f2,hw,hv,c78,ht⟩:=E5 hk (up:=r4.1) (n:=r3.1) (things:=x5.2.2.2.1) (ds:=x52.2.2.2) a3 b3 hM.len hM.good hM.wears hM.wants c52 (by omega);refine W.bindE e78 (W.ret ⟨⟨⟨r4.1,r3.1,a3,b3,?_,?_,hw,hv,?_⟩,?_,ht⟩,c78.mono (by omega)⟩)
 ·show((x78.1.length:Nat):Int)=r3.1;rw [f1];exact hM.len
 ·show∀(j:Nat) t,x78.1[j]? =some t→pQ r4.1 r3.1 j t;rw [f1];exact hM.good
 ·show∀x∈x78.2.1,kl r3.1 x;rw [f2];exact g52
 ·show 1≤x78.2.1.length∧x78.2.1.length≤3;rw [f2];omega
def jr(s:Int):Prop:=0≤s∧s < 256
def cu(s:Int)(i:Nat):Prop:=s.toNat.testBit i=true
instance (s:Int) (i:Nat):Decidable (cu s i):=by unfold cu;infer_instance
theorem qS{x:Nat}(h:x < 256):IntKind.u8.wrap (x:Int)=x:=by
 have e:IntKind.u8.wrap (x:Int)=(x:Int) % 256:=by simp [IntKind.wrap,IntKind.signed,IntKind.bits]
 rw [e];omega
theorem lm{s:Int}(h:jr s):∃n:Nat,n < 256∧s=n:=⟨s.toNat,by have:=h.1;have:=h.2;omega,by have:=h.1;omega⟩
theorem o9{n:Nat}(h:n < 256):(BitVec.ofInt IntKind.u8.bits (n:Int)).toNat=n:=by
 show(BitVec.ofInt 8 (n:Int)).toNat=n;rw [BitVec.ofInt_natCast,BitVec.toNat_ofNat];exact Nat.mod_eq_of_lt h
theorem HV{n m:Nat}(hn:n < 256)(hm:m < 256):n |||m < 256:=Nat.or_lt_two_pow (n:=8) hn hm
theorem vI{n m:Nat}(hn:n < 256):n &&& m < 256:=Nat.lt_of_le_of_lt Nat.and_le_left hn
theorem Eh{n m:Nat}(hn:n < 256)(hm:m < 256):n ^^^ m < 256:=Nat.xor_lt_two_pow (n:=8) hn hm
theorem po{a b:Int}(ha:jr a)(hb:jr b):jr (nF .u8 a b)∧∀i,cu (nF .u8 a b) i↔cu a i∨cu b i:=by
 obtain⟨n,hn,rfl⟩:=lm ha;obtain⟨m,hm,rfl⟩:=lm hb
 have e:nF .u8 (n:Int) (m:Int)=((n |||m:Nat):Int):=by
  unfold nF;rw [BitVec.toNat_or,o9 hn,o9 hm];exact qS (HV hn hm)
 rw [e];refine⟨⟨by omega,by have:=HV hn hm;omega⟩,fun i=>?_⟩;simp [cu,Nat.testBit_or]
theorem vK{a b:Int}(ha:jr a)(hb:jr b):jr (nj .u8 a b)∧∀i,cu (nj .u8 a b) i↔cu a i∧cu b i:=by
 obtain⟨n,hn,rfl⟩:=lm ha;obtain⟨m,hm,rfl⟩:=lm hb
 have e:nj .u8 (n:Int) (m:Int)=((n &&& m:Nat):Int):=by
  unfold nj;rw [BitVec.toNat_and,o9 hn,o9 hm];exact qS (vI hn)
 rw [e];refine⟨⟨by omega,by have:=vI (m:=m) hn;omega⟩,fun i=>?_⟩;simp [cu,Nat.testBit_and]
theorem KE{a b:Int}(ha:jr a)(hb:jr b):jr (mf .u8 a b)∧∀i,cu (mf .u8 a b) i↔((cu a i∧¬cu b i)∨(¬cu a i∧cu b i)):=by
 obtain⟨n,hn,rfl⟩:=lm ha;obtain⟨m,hm,rfl⟩:=lm hb
 have e:mf .u8 (n:Int) (m:Int)=((n ^^^ m:Nat):Int):=by
  unfold mf;rw [BitVec.toNat_xor,o9 hn,o9 hm];exact qS (Eh hn hm)
 rw [e];refine⟨⟨by omega,by have:=Eh hn hm;omega⟩,fun i=>?_⟩;simp only [cu,Int.toNat_natCast,Nat.testBit_xor];cases n.testBit i <;> cases m.testBit i <;> simp
theorem MH{x:Int}(h0:0≤x)(h8:x < 8):jr (zJ .u8 1 x)∧∀i:Nat,cu (zJ .u8 1 x) i↔(i:Int)=x:=by
 obtain⟨n,rfl⟩:=Int.eq_ofNat_of_zero_le h0;have hn:n < 8:=by omega
 have e:zJ .u8 1 (n:Int)=((2 ^ n:Nat):Int):=by
  unfold zJ
  have h1:min (Int.toNat (n:Int)) IntKind.u8.bits=n:=by
   show min n 8=n;omega
  rw [h1,Int.one_mul];have h2:2 ^ n < 256:=Nat.pow_lt_pow_right (by decide) hn;have h3:((2:Int) ^ n)=((2 ^ n:Nat):Int):=by simp
  rw [h3];exact qS h2
 rw [e];have h9:2 ^ n < 256:=Nat.pow_lt_pow_right (by decide) hn;refine⟨⟨Int.natCast_nonneg _,Int.ofNat_lt.2 h9⟩,fun i=>?_⟩;simp only [cu,Int.toNat_natCast,Nat.testBit_two_pow,decide_eq_true_eq];omega
theorem wR{k:Nat}{s:Int}(hs:jr s){i:Nat}(hi:i < 8):fF k s (i:Int)=some (decide (cu s i)):=by
 obtain⟨n,hn,rfl⟩:=lm hs;unfold fF;rw [cF,if_pos (by omega)];show some _=some _;congr 1
 have e1:kT .u8 (n:Int) (i:Int)=((n >>> i:Nat):Int):=by
  unfold kT
  have h1:min (Int.toNat (i:Int)) IntKind.u8.bits=i:=by
   show min i 8=i;omega
  have h3:((2:Int) ^ i)=((2 ^ i:Nat):Int):=by simp
  rw [h1,h3,Int.fdiv_eq_ediv_of_nonneg _ (Int.natCast_nonneg _),Nat.shiftRight_eq_div_pow];rfl
 have hlt:n >>> i < 256:=Nat.lt_of_le_of_lt (by rw [Nat.shiftRight_eq_div_pow];exact Nat.div_le_self _ _) hn
 have e2:nj .u8 ((n >>> i:Nat):Int) 1=(((n >>> i) &&& 1:Nat):Int):=by
  unfold nj;have h1:(BitVec.ofInt IntKind.u8.bits 1).toNat=1:=rfl;rw [BitVec.toNat_and,o9 hlt,h1];exact qS (vI hlt)
 rw [e1,e2]
 have e3:(((n >>> i) &&& 1:Nat):Int)=1↔cu (n:Int) i:=by
  rw [cu,Int.toNat_natCast,Nat.testBit];have h5:(n >>> i) &&& 1=1 &&& (n >>> i):=Nat.and_comm _ _;rw [h5];have h4:1 &&& (n >>> i) < 2:=Nat.lt_of_le_of_lt Nat.and_le_left (by decide);simp only [bne_iff_ne,ne_eq];omega
 exact decide_eq_decide.2 e3
theorem ij{k:Nat}(hk:50≤k){l:List Int}(hl:l.length≤20)(hb:∀x∈l,0≤x∧x < 8):W (eK k l) fun s=>jr s∧∀i:Nat,cu s i↔(i:Int)∈l:=by
 unfold eK;refine W.bind (R:=fun s=>jr s∧∀i:Nat,cu s i↔(i:Int)∈l) ?_ fun s h=>W.ret h
 refine W.loop (f:=mX k l) (fun q y=>∃j:Nat,y.2=(j:Int)∧j≤l.length∧q=l.length - j∧jr y.1∧∀i:Nat,cu y.1 i↔(i:Int)∈l.take j) ?_ l.length k (0,0) (by omega)
  ⟨0,rfl,by omega,by omega,⟨by decide,by decide⟩,fun i=>by simp [cu]⟩
 rintro aH q ⟨s,y⟩ ⟨j,hj,hle,hq,hm,hh⟩ ih;simp only at hj hm hh;subst hj;unfold mX;dsimp only;refine W.ite (fun hlt=>?_) (fun hge=>W.ret ?_)
 ·have hlt':j < l.length:=by omega
  have hx:=hb l[j] (List.getElem_mem hlt');obtain⟨o1,o2⟩:=MH hx.1 hx.2;obtain⟨p1,p2⟩:=po hm o1;refine W.bindE (aY hlt') (W.chk hx.1 (W.ck (by omega) (by omega) (ih (q - 1) (_,(j:Int)+1) (by omega) ⟨j+1,?_,by omega,by omega,p1,fun i=>?_⟩)))
  ·show(j:Int)+1=((j+1:Nat):Int);omega
  ·show cu (nF .u8 s (zJ .u8 1 l[j])) i↔_;rw [p2,hh,o2,List.take_add_one,List.getElem?_eq_getElem hlt'];simp only [Option.toList_some,List.mem_append,List.mem_singleton]
 ·have:j=l.length:=by omega
  subst this;rw [List.take_length] at hh;exact⟨hm,hh⟩
theorem kB{k:Nat}{x a b:Int}(h:a≤x∧x≤b):bD k x a b=some false:=by
 unfold bD;rw [if_neg (by omega)];show some (decide (b < x))=some false;rw [decide_eq_false (by omega)]
theorem mM{k:Nat}(hk:50≤k){l:List Int}{n but:Int}(hn:1≤n∧n≤8)(h:lD l n)(hb:∀x∈l,x≠but):cK k l n but=some 0:=by
 have hlen:=h.len (by omega)
 have key:W (cX k l n but k 0) fun r=>r= .ok ():=by
  refine W.loop (f:=cX k l n but) (fun q y=>∃j:Nat,y=(j:Int)∧j≤l.length∧q=l.length - j) ?_ l.length k 0 (by omega) ⟨0,rfl,by omega,by omega⟩;rintro aH q y ⟨j,hj,hle,hq⟩ ih;subst hj;unfold cX;refine W.ite (fun hlt=>?_) (fun hge=>W.ret rfl);have hlt':j < l.length:=by omega
  have hx:=h.2 l[j] (List.getElem_mem hlt');have hne:=hb l[j] (List.getElem_mem hlt');refine W.bindE (aY hlt') ?_
  have e1:((K.ck (n - (1:Int))).bind fun x8=>(bD k l[j] (0:Int) x8).bind fun r9=>if r9=true then(some true) else(some (decide (l[j]=but))))=some false:=by
   rw [K.ck,if_pos (by omega)];show((bD k l[j] (0:Int) (n - 1)).bind fun r9=>_)=_;rw [kB (by omega)];show some (decide (l[j]=but))=some false;rw [decide_eq_false hne]
  refine W.bindE e1 ?_;rw [if_neg (by decide)]
  have e2:(if(0:Int) < (j:Int) then((K.ck ((j:Int) - (1:Int))).bind fun x12=>(aL l x12).bind fun x13=>some (decide (l[j]≤x13))) else(some false))=some false:=by
   split
   ·rename_i hj0;have hp:(j:Int) - 1=((j - 1:Nat):Int):=by omega
    have hl1:j - 1 < l.length:=by omega
    rw [K.ck,if_pos (by omega)];show((aL l ((j:Int) - 1)).bind fun x13=>_)=_;rw [hp,aY hl1];show some (decide (l[j]≤l[j - 1]))=some false;have:=List.pairwise_iff_getElem.1 h.1 (j - 1) j hl1 hlt' (by omega);rw [decide_eq_false (by omega)]
   ·rfl
  refine W.bindE e2 ?_;rw [if_neg (by decide)];exact W.ck (by omega) (by omega) (ih (q - 1) ((j:Int)+1) (by omega) ⟨j+1,by omega,by omega,by omega⟩)
 obtain⟨r,e,rfl⟩:=key;unfold cK;rw [e];rfl
def Jj(up:Bool)(i x:Nat):Prop:=if up=true then i < x else x < i
theorem Jj.trans{up:Bool}{a b c:Nat}(h:Jj up a b)(h':Jj up b c):Jj up a c:=by
 unfold Jj at *;split at h <;> rename_i hu
 ·rw [if_pos hu] at h'⊢;omega
 ·rw [if_neg hu] at h'⊢;omega
theorem Jj.irrefl{up:Bool}{a:Nat}(h:Jj up a a):False:=by
 unfold Jj at h;split at h <;> omega
theorem Ni{up:Bool}{i:Nat}{x:Int}(h0:0≤x)(h:decide ((i:Int) < x)=up∧x≠(i:Int)):Jj up i x.toNat:=by
 unfold Jj;cases up with
 |true=>rw [if_pos rfl];have:=of_decide_eq_true h.1;omega
 |false=>rw [if_neg (by decide)];have:=of_decide_eq_false h.1;have:=h.2;omega
def Ju(up:Bool)(ab:List Int):Prop:=ab.length=4∧∀(i:Nat) s,ab[i]? =some s→jr s∧∀x,cu s x→Jj up i x
theorem Gh{k:Nat}(hk:50≤k){up:Bool}{n:Int}{i:Nat}{ab0 ab:List Int}{t:bp}(hn:1≤n∧n≤4)(hi:(i:Int) < n)(hab:Ju up ab)(ho:xC up (i:Int) n t.1):
 W (cz k (ab0,(i:Int)) t k (ab,0)) (Ju up):=by
 have hlen:=ho.1.len (by omega)
 refine W.loop (f:=cz k (ab0,(i:Int)) t) (fun q y=>∃j:Nat,y.2=(j:Int)∧j≤t.1.length∧q=t.1.length - j∧Ju up y.1) ?_ t.1.length k (ab,0) (by omega) ⟨0,rfl,by omega,by omega,hab⟩
 rintro aH q ⟨b,y⟩ ⟨j,hj,hle,hq,hA⟩ ih
 simp only at hj hA
 subst hj
 unfold cz
 dsimp only
 refine W.ite (fun hlt=>?_) (fun hge=>W.ret hA)
 have hlt':j < t.1.length:=by omega
 have hx:=ho.1.2 t.1[j] (List.getElem_mem hlt')
 have hd:=ho.2 t.1[j] (List.getElem_mem hlt')
 have hdir:=Ni hx.1 hd
 have hib:i < b.length:=by rw [hA.1];omega
 have hxb:t.1[j].toNat < b.length:=by rw [hA.1];omega
 have hxn:t.1[j]=((t.1[j].toNat:Nat):Int):=by omega
 have g1:aL b (i:Int)=some b[i]:=aY hib
 have g2:aL b t.1[j]=some (b[t.1[j].toNat]'hxb):=by
  rw [aL,if_pos hx.1];exact List.getElem?_eq_getElem hxb
 obtain⟨m1,d1⟩:=hA.2 i _ (List.getElem?_eq_getElem hib)
 obtain⟨m2,d2⟩:=hA.2 t.1[j].toNat _ (List.getElem?_eq_getElem hxb)
 obtain⟨s,es,m3,d3⟩:=ij (k:=k) hk (l:=[t.1[j]]) (by simp) (fun x h=>by simp only [List.mem_singleton] at h;subst h;omega)
 obtain⟨m4,d4⟩:=po m2 m3
 obtain⟨m5,d5⟩:=po m1 m4
 refine W.bindE (aY hlt') (W.chk (by omega) (W.bindE g1 (W.chk (by omega) (W.bindE g2 (W.bindE es (W.chk (by omega) (W.ck (by omega) (by omega) (ih (q - 1) (_,(j:Int)+1) (by omega) ⟨j+1,?_,by omega,by omega,?_,fun i' s' h=>?_⟩))))))))
 ·
  show(j:Int)+1=((j+1:Nat):Int);omega
 ·
  show(List.set b _ _).length=4;rw [List.length_set];exact hA.1
 ·
  have e:Int.toNat (i:Int)=i:=by omega
  have h:(List.set b (Int.toNat (i:Int)) (nF .u8 b[i] (nF .u8 (b[t.1[j].toNat]'hxb) s)))[i']? =some s':=h;rw [e,List.getElem?_set] at h;by_cases hii:i=i'
  ·subst hii;rw [if_pos rfl,if_pos hib] at h;cases h;refine⟨m5,fun x hx'=>?_⟩;rcases(d5 x).1 hx' with h |h
   ·exact d1 x h
   ·rcases(d4 x).1 h with h |h
    ·exact hdir.trans (d2 x h)
    ·have:=(d3 x).1 h;simp only [List.mem_singleton] at this;have:x=t.1[j].toNat:=by omega
     subst this;exact hdir
  ·rw [if_neg hii] at h;exact hA.2 i' s' h
theorem Gg{k:Nat}(hk:50≤k){up:Bool}{n:Int}{c:ae}{ab:List Int}(hn:1≤n∧n≤4)(hl:(c.1.length:Int)=n)(hg:∀(j:Nat) t,c.1[j]? =some t→pQ up n j t)(hab:Ju up ab):
 W (cC k c k (ab,0)) (Ju up):=by
 refine W.loop (f:=cC k c) (fun q y=>∃j:Nat,y.2=(j:Int)∧j≤c.1.length∧q=c.1.length - j∧Ju up y.1) ?_ c.1.length k (ab,0) (by omega) ⟨0,rfl,by omega,by omega,hab⟩
 rintro aH q ⟨b,y⟩ ⟨j,hj,hle,hq,hA⟩ ih
 simp only at hj hA
 subst hj
 unfold cC
 dsimp only
 refine W.ite (fun hlt=>?_) (fun hge=>W.ret hA)
 have hlt':j < c.1.length:=by omega
 refine W.bindEB (aY hlt') (W.bind (Gh hk (ab0:=b) hn (by omega) hA (hg j _ (List.getElem?_eq_getElem hlt')).over) fun b' hb'=>W.ck (by omega) (by omega) (ih (q - 1) (b',(j:Int)+1) (by omega) ⟨j+1,?_,by omega,by omega,hb'⟩))
 show(j:Int)+1=((j+1:Nat):Int)
 omega
theorem Gf{k:Nat}(hk:50≤k){up:Bool}{n:Int}{c:ae}{ab:List Int}(hn:1≤n∧n≤4)(hl:(c.1.length:Int)=n)(hg:∀(j:Nat) t,c.1[j]? =some t→pQ up n j t)(hab:Ju up ab):
 W (cd k c k (ab,0)) (Ju up):=by
 refine W.loop (f:=cd k c) (fun q y=>∃j:Nat,y.2=(j:Int)∧j≤c.1.length∧q=c.1.length - j∧Ju up y.1) ?_ c.1.length k (ab,0) (by omega) ⟨0,rfl,by omega,by omega,hab⟩
 rintro aH q ⟨b,y⟩ ⟨j,hj,hle,hq,hA⟩ ih
 simp only at hj hA
 subst hj
 unfold cd
 dsimp only
 refine W.ite (fun hlt=>?_) (fun hge=>W.ret hA)
 have hlt':j < c.1.length:=by omega
 refine W.bind (Gg hk hn hl hg hA) fun b' hb'=>W.ck (by omega) (by omega) (ih (q - 1) (b',(j:Int)+1) (by omega) ⟨j+1,?_,by omega,by omega,hb'⟩)
 show(j:Int)+1=((j+1:Nat):Int)
 omega
theorem xq{k:Nat}(hk:50≤k){up:Bool}{n:Int}{c:ae}(hn:1≤n∧n≤4)(hl:(c.1.length:Int)=n)(hg:∀(j:Nat) t,c.1[j]? =some t→pQ up n j t):f7 k c=some 0:=by
 have h1:W (ce k c k 0) fun r=>r= .ok ():=by
  refine W.loop (f:=ce k c) (fun q y=>∃j:Nat,y=(j:Int)∧j≤c.1.length∧q=c.1.length - j) ?_ c.1.length k 0 (by omega) ⟨0,rfl,by omega,by omega⟩;rintro aH q y ⟨j,hj,hle,hq⟩ ih;subst hj;unfold ce;refine W.ite (fun hlt=>?_) (fun hge=>W.ret rfl);have hlt':j < c.1.length:=by omega
  have hG:=hg j _ (List.getElem?_eq_getElem hlt');refine W.bindE (aY hlt') ?_
  have e1:cK k c.1[j].1 (c.1.length:Int) (j:Int)=some 0:=by
   rw [hl];exact mM hk (by omega) hG.over.1 fun x hx=>(hG.over.2 x hx).2
  refine W.bindE e1 ?_;rw [if_neg (by decide)]
  have e2:((bD k c.1[j].2.1 (1:Int) (4:Int)).bind fun r12=>if r12=true then(some true) else((bD k c.1[j].2.2.1 (1:Int) (4:Int)).bind fun r13=>some r13))=some false:=by
   rw [kB hG.off];show(if false=true then(some true) else((bD k c.1[j].2.2.1 (1:Int) (4:Int)).bind fun r13=>some r13))=some false;rw [if_neg (by decide),kB hG.put];rfl
  refine W.bindE e2 ?_;rw [if_neg (by decide)];refine W.bindE (kB hG.side) ?_;rw [if_neg (by decide)];refine W.bindE (kB (by have:=hG.due;omega)) ?_;rw [if_neg (by decide)];exact W.ck (by omega) (by omega) (ih (q - 1) ((j:Int)+1) (by omega) ⟨j+1,by omega,by omega,by omega⟩)
 have h0:Ju up [(0:Int),0,0,0]:=by
  refine⟨rfl,fun i s h=>?_⟩
  have hs:s=0:=by
   have:=List.mem_of_getElem? h;simp only [List.mem_cons,List.not_mem_nil,or_false,or_self] at this;exact this
  subst hs;refine⟨⟨by decide,by decide⟩,fun x hx=>?_⟩;simp [cu] at hx
 obtain⟨ab,e18,hab⟩:=Gf hk hn hl hg h0
 have h5:W (bq k c ab k 0) fun r=>r= .ok ():=by
  refine W.loop (f:=bq k c ab) (fun q y=>∃j:Nat,y=(j:Int)∧j≤c.1.length∧q=c.1.length - j) ?_ c.1.length k 0 (by omega) ⟨0,rfl,by omega,by omega⟩;rintro aH q y ⟨j,hj,hle,hq⟩ ih;subst hj;unfold bq;refine W.ite (fun hlt=>?_) (fun hge=>W.ret rfl);have hjb:j < ab.length:=by rw [hab.1];omega
  obtain⟨m1,d1⟩:=hab.2 j _ (List.getElem?_eq_getElem hjb);refine W.chk (by omega) (W.bindE (aY hjb) (W.bindE (wR m1 (by omega)) ?_));rw [if_neg (fun h=>(d1 j (of_decide_eq_true h)).irrefl)];exact W.ck (by omega) (by omega) (ih (q - 1) ((j:Int)+1) (by omega) ⟨j+1,by omega,by omega,by omega⟩)
 obtain⟨x1,e1,rfl⟩:=h1;obtain⟨x5,e5,rfl⟩:=h5;unfold f7
 have es:iw k (c.1.length:Int) 4=some 0:=by
  unfold iw;rw [if_neg (by omega),if_neg (by omega)]
 rw [es];show(if¬((0:Int)=0) then(some 0) else(bE (α:=Unit) (ce k c k (0:Int)) (some) fun _=>_))=some (0:Int);rw [if_neg (by decide),e1];show((cd k c k ([(0:Int),(0:Int),(0:Int),(0:Int)],(0:Int))).bind fun x18=>bE (α:=Unit) (bq k c x18 k (0:Int)) (some) fun _=>some (0:Int))=some (0:Int);rw [e18];show(bE (α:=Unit) (bq k c ab k (0:Int)) (some) fun _=>some (0:Int))=some (0:Int);rw [e5];rfl
theorem IE{k:Nat}(hk:50≤k){up:Bool}{n:Int}{c:ae}(hn:1≤n∧n≤4)(hl:(c.1.length:Int)=n)(hg:∀(j:Nat) t,c.1[j]? =some t→pQ up n j t)
 (hw:lD c.2.2.1 n) (hv:lD c.2.2.2 n) (hd:∀x∈c.2.1,kl n x) (hdl:1≤c.2.1.length∧c.2.1.length≤3):jQ k c=some 0:=by
 have neg:∀(l:List Int),lD l n→∀x∈l,x≠(-1:Int):=fun l h x hx=>by have:=(h.2 x hx).1;omega
 have h1:W (eO k c k 0) fun r=>r= .ok ():=by
  refine W.loop (f:=eO k c) (fun q y=>∃j:Nat,y=(j:Int)∧j≤c.2.1.length∧q=c.2.1.length - j) ?_ c.2.1.length k 0 (by omega) ⟨0,rfl,by omega,by omega⟩;rintro aH q y ⟨j,hj,hle,hq⟩ ih;subst hj;unfold eO;refine W.ite (fun hlt=>?_) (fun hge=>W.ret rfl);have hlt':j < c.2.1.length:=by omega
  have hG:=hd _ (List.getElem_mem hlt');refine W.bindE (aY hlt') ?_
  have e1:cK k c.2.1[j].1 (c.1.length:Int) (-1)=some 0:=by
   rw [hl];exact mM hk (by omega) hG.can (neg _ hG.can)
  refine W.bindE e1 ?_;rw [if_neg (by decide)];refine W.bindE (kB hG.side) ?_;rw [if_neg (by decide)];refine W.bindE (kB (by have:=hG.start;omega)) ?_;rw [if_neg (by decide)];exact W.ck (by omega) (by omega) (ih (q - 1) ((j:Int)+1) (by omega) ⟨j+1,by omega,by omega,by omega⟩)
 obtain⟨x1,e1,rfl⟩:=h1
 have es:iw k (c.2.1.length:Int) 3=some 0:=by
  unfold iw;rw [if_neg (by omega),if_neg (by omega)]
 have ew:cK k c.2.2.1 (c.1.length:Int) (-1)=some 0:=by rw [hl];exact mM hk (by omega) hw (neg _ hw)
 have ev:cK k c.2.2.2 (c.1.length:Int) (-1)=some 0:=by rw [hl];exact mM hk (by omega) hv (neg _ hv)
 unfold jQ
 rw [xq hk hn hl hg]
 simp only [Option.bind_some,es,e1,ew,ev]
 rfl
def uR(s:Int)(n:Nat):Nat:=(List.range n).countP fun i=>decide (cu s i)
theorem KY{s:Int}{n:Nat}:uR s n≤n:=by
 have:=List.countP_le_length (p:=fun i=>decide (cu s i)) (l:=List.range n);simpa [uR] using this
theorem FY{s s':Int}{n:Nat}(h:∀i,cu s i→cu s' i):uR s n≤uR s' n:=by
 unfold uR;exact List.countP_mono_left fun i _ hi=>decide_eq_true (h i (of_decide_eq_true hi))
theorem zU{s s':Int}:∀{n:Nat},(∀i,cu s i→cu s' i)→(∃i,i < n∧cu s' i∧¬cu s i)→uR s n < uR s' n
 |0,_,⟨i,hi,_⟩=>by omega
 |n+1,h,⟨i,hi,h1,h2⟩=>by
  have e:∀s:Int,uR s (n+1)=uR s n+(if cu s n then 1 else 0):=fun s=>by
   unfold uR
   rw [List.range_succ,List.countP_append]
   by_cases hs:cu s n <;> simp [hs]
  rw [e,e]
  by_cases hin:i=n
  ·
   subst hin
   rw [if_pos h1,if_neg h2]
   have:=FY (n:=i) h
   omega
  ·
   have:=zU (n:=n) h ⟨i,by omega,h1,h2⟩
   by_cases hs:cu s n
   ·
    rw [if_pos hs,if_pos (h n hs)];omega
   ·
    rw [if_neg hs];omega
def Ae(c:ae)(s s':Int)(j:Nat):Prop:=∀(q:Nat) (t:bp) (i:Nat),q < j→c.1[q]? =some t→cu s q→(i:Int)∈t.1→(i:Int)∈c.2.2.1→(i:Int)∈c.2.2.2→cu s' i
structure LX(c:ae)(s s':Int)(j:Nat):Prop where
 mask:jr s'
 mono:∀i,cu s i→cu s' i
 sound:∀C,uY c C→(∀i,cu s i→C i)→∀i,cu s' i→C i
 follows:Ae c s s' j
structure VT(n:Int)(i:Nat)(t:bp):Prop where
 over:lD t.1 n
 irr:¬(i:Int)∈t.1
 off:1≤t.2.1∧t.2.1≤4
 put:1≤t.2.2.1∧t.2.2.1≤4
 side:0≤t.2.2.2.1∧t.2.2.2.1≤2
 due:0≤t.2.2.2.2∧t.2.2.2.2≤30
structure VC(n:Int)(c:ae):Prop where
 n4:1≤n∧n≤4
 len:(c.1.length:Int)=n
 good:∀(j:Nat) t,c.1[j]? =some t→VT n j t
 wears:lD c.2.2.1 n
 wants:lD c.2.2.2 n
 dressers:∀x∈c.2.1,kl n x
 dl:1≤c.2.1.length∧c.2.1.length≤3
 chk:∀k,50≤k→jQ k c=some 0
theorem CC{up:Bool}{n:Int}{c:ae}(hn:1≤n∧n≤4)(hl:(c.1.length:Int)=n)(hg:∀(j:Nat) t,c.1[j]? =some t→pQ up n j t)
 (hw:lD c.2.2.1 n) (hv:lD c.2.2.2 n) (hd:∀x∈c.2.1,kl n x) (hdl:1≤c.2.1.length∧c.2.1.length≤3):VC n c:=
 ⟨hn,hl,fun j t h=>⟨(hg j t h).over.1,fun hj=>((hg j t h).over.2 _ hj).2 rfl,(hg j t h).off,(hg j t h).put,(hg j t h).side,by have:=(hg j t h).due;omega⟩,hw,hv,hd,hdl,fun _ hk=>IE hk hn hl hg hw hv hd hdl⟩
theorem GX{k:Nat}(hk:50≤k){n:Int}{c:ae}(hc:VC n c){r2 r3 s:Int}(h2:jr r2∧∀i:Nat,cu r2 i↔(i:Int)∈c.2.2.1)(h3:jr r3∧∀i:Nat,cu r3 i↔(i:Int)∈c.2.2.2)(hs:jr s):
 W (fR k c r2 r3 k (s,0)) fun s'=>LX c s s' c.1.length:=by
 have hn:=hc.n4
 have hl:=hc.len
 refine W.loop (f:=fR k c r2 r3) (fun q y=>∃j:Nat,y.2=(j:Int)∧j≤c.1.length∧q=c.1.length - j∧LX c s y.1 j) ?_ c.1.length k (s,0) (by omega)
  ⟨0,rfl,by omega,by omega,hs,fun _ h=>h,fun C hC h=>h,fun q t i hq=>by omega⟩
 rintro aH q ⟨b,y⟩ ⟨j,hj,hle,hq,hR⟩ ih
 simp only at hj hR
 subst hj
 unfold fR
 dsimp only
 refine W.ite (fun hlt=>?_) (fun hge=>W.ret (by have:j=c.1.length:=by omega
                                                subst this;exact hR))
 have hlt':j < c.1.length:=by omega
 have hget:c.1[j]? =some c.1[j]:=List.getElem?_eq_getElem hlt'
 have hG:=hc.good j _ hget
 refine W.bindEB (aY hlt') (W.bindEB (wR hR.mask (by omega)) (W.iteB (fun hh=>?_) (fun hh=>?_)))
 ·
  have hHas:=of_decide_eq_true hh;have hol:=hG.over.len (by omega);obtain⟨r17,e17,m17,d17⟩:=ij (k:=k) hk (l:=c.1[j].1) (by omega) (fun x hx=>by have:=hG.over.2 x hx;omega);obtain⟨m1,d1⟩:=vK m17 h2.1;obtain⟨m2,d2⟩:=vK m1 h3.1;obtain⟨m3,d3⟩:=po hR.mask m2
  have hnew:∀i,cu (nF .u8 b (nj .u8 (nj .u8 r17 r2) r3)) i↔cu b i∨((i:Int)∈c.1[j].1∧(i:Int)∈c.2.2.1∧(i:Int)∈c.2.2.2):=fun i=>by
   rw [d3,d2,d1,d17,h2.2,h3.2];constructor
   ·rintro(h |⟨⟨a,b⟩,d⟩)
    ·exact .inl h
    ·exact .inr ⟨a,b,d⟩
   ·rintro(h |⟨a,b,d⟩)
    ·exact .inl h
    ·exact .inr ⟨⟨a,b⟩,d⟩
  refine W.bindEB e17 (W.sb (W.ck (by omega) (by omega) (ih (q - 1) (_,(j:Int)+1) (by omega) ⟨j+1,?_,by omega,by omega,m3,fun i hi=>(hnew i).2 (.inl (hR.mono i hi)),fun C hC h0 i hi=>?_,fun q' t i hq' ht hs' ho hw hv=>?_⟩)))
  ·show(j:Int)+1=((j+1:Nat):Int);omega
  ·rcases(hnew i).1 hi with h |⟨a,b',d⟩
   ·exact hR.sound C hC h0 i h
   ·have hin:i < c.1.length:=by have:=(hc.wears.2 _ b').2;omega
    exact hC i hin (.inr ⟨b',d,j,c.1[j],hget,hR.sound C hC h0 j hHas,a⟩)
  ·refine(hnew i).2 ?_;by_cases hqj:q' < j
   ·exact .inl (hR.follows q' t i hqj ht hs' ho hw hv)
   ·have:q'=j:=by omega
    subst this;have:t=c.1[q']:=Option.some.inj (ht.symm.trans hget);subst this;exact .inr ⟨ho,hw,hv⟩
 ·
  refine W.sb (W.ck (by omega) (by omega) (ih (q - 1) (b,(j:Int)+1) (by omega) ⟨j+1,?_,by omega,by omega,hR.mask,hR.mono,hR.sound,fun q' t i hq' ht hs' ho hw hv=>?_⟩))
  ·show(j:Int)+1=((j+1:Nat):Int);omega
  ·by_cases hqj:q' < j
   ·exact hR.follows q' t i hqj ht hs' ho hw hv
   ·have:q'=j:=by omega
    subst this;exact absurd (decide_eq_true (hR.mono q' hs')) hh
structure Qh(c:ae)(s:Int):Prop where
 mask:jr s
 sound:∀C,uY c C→∀i,cu s i→C i
 shut:uY c (cu s)
theorem DD{k:Nat}(hk:50≤k){n:Int}{c:ae}(hc:VC n c):W (mn k c) (Qh c):=by
 have hn:=hc.n4;have hl:=hc.len;have hwl:=hc.wears.len (by omega);have hvl:=hc.wants.len (by omega);obtain⟨r2,e2,h2⟩:=ij (k:=k) hk (l:=c.2.2.1) (by omega) (fun x hx=>by have:=hc.wears.2 x hx;omega);obtain⟨r3,e3,h3⟩:=ij (k:=k) hk (l:=c.2.2.2) (by omega) (fun x hx=>by have:=hc.wants.2 x hx;omega);obtain⟨m0,d0⟩:=KE h2.1 h3.1;have hx0:∀i:Nat,cu (mf .u8 r2 r3) i↔(((i:Int)∈c.2.2.1∧¬(i:Int)∈c.2.2.2)∨(¬(i:Int)∈c.2.2.1∧(i:Int)∈c.2.2.2)):=fun i=>by rw [d0,h2.2,h3.2]
 have small:∀i:Nat,(i:Int)∈c.2.2.1∨(i:Int)∈c.2.2.2→i < c.1.length:=fun i h=>by
  rcases h with h |h
  ·have:=(hc.wears.2 _ h).2;omega
  ·have:=(hc.wants.2 _ h).2;omega
 unfold mn;refine W.bindE e2 (W.bindE e3 (W.bind (R:=Qh c) ?_ fun s h=>W.ret h))
 refine W.loop (f:=iz k c r2 r3) (fun q y=>∃j:Nat,y.2=(j:Int)∧j≤c.1.length∧q=c.1.length - j∧jr y.1∧(∀i,cu (mf .u8 r2 r3) i→cu y.1 i)∧(∀C,uY c C→∀i,cu y.1 i→C i)∧
  (Ae c y.1 y.1 c.1.length∨j+1≤uR y.1 c.1.length)) ?_ c.1.length k _ (by omega)
  ⟨0,rfl,by omega,by omega,m0,fun _ h=>h,fun C hC i hi=>?_,?_⟩
 ·rintro aH q ⟨s,y⟩ ⟨j,hj,hle,hq,hm,hb,hsd,hor⟩ ih;simp only at hj hm hb hsd hor;subst hj;unfold iz;dsimp only;refine W.ite (fun hlt=>?_) (fun hge=>W.ret ⟨hm,hsd,fun i hi hF=>?_⟩)
  ·refine W.bind (GX hk hc h2 h3 hm) fun s' hR=>W.ck (by omega) (by omega) (ih (q - 1) (s',(j:Int)+1) (by omega) ⟨j+1,?_,by omega,by omega,hR.mask,fun i hi=>hR.mono i (hb i hi),fun C hC=>hR.sound C hC (hsd C hC),?_⟩)
   ·show(j:Int)+1=((j+1:Nat):Int);omega
   ·by_cases hsame:∀i,i < c.1.length→cu s' i→cu s i
    ·refine .inl fun q' t i hq' ht hs' ho hw hv=>?_;have h1:=hsame q' hq' hs';exact hR.follows q' t i hq' ht h1 ho hw hv
    ·have hex:∃i,i < c.1.length∧cu s' i∧¬cu s i:=by
      false_or_by_contra;rename_i hno;refine hsame fun i hi hsi=>?_;false_or_by_contra;rename_i hns;exact hno ⟨i,hi,hsi,hns⟩
     have hlt2:=zU hR.mono hex;rcases hor with hcl |hcn
     ·exfalso;obtain⟨i,hi,h1,h2'⟩:=hex;refine h2' ?_
      have hsh:uY c (cu s):=fun i hi hF=>by
       rcases hF with hF |⟨a,b,q',t,ht,hq',ho⟩
       ·exact hb i ((hx0 i).2 hF)
       ·have hq'':q' < c.1.length:=by
         rcases Nat.lt_or_ge q' c.1.length with h |h
         ·exact h
         ·rw [List.getElem?_eq_none h] at ht;cases ht
        exact hcl q' t i hq'' ht hq' ho a b
      exact hR.sound (cu s) hsh (fun _ h=>h) i h1
     ·exact .inr (by show j+1+1≤uR s' c.1.length;omega)
  ·have hj':j=c.1.length:=by omega
   subst hj'
   have hcl:Ae c s s c.1.length:=by
    rcases hor with h |h
    ·exact h
    ·have:=KY (s:=s) (n:=c.1.length);omega
   rcases hF with hF |⟨a,b,q',t,ht,hq',ho⟩
   ·exact hb i ((hx0 i).2 hF)
   ·have hq'':q' < c.1.length:=by
     rcases Nat.lt_or_ge q' c.1.length with h |h
     ·exact h
     ·rw [List.getElem?_eq_none h] at ht;cases ht
    exact hcl q' t i hq'' ht hq' ho a b
 ·have h:=(hx0 i).1 hi;exact hC i (small i (h.elim (fun h=>.inl h.1) (fun h=>.inr h.2))) (.inl h)
 ·by_cases he:∃i,cu (mf .u8 r2 r3) i
  ·obtain⟨i,hi⟩:=he;have hil:=small i (((hx0 i).1 hi).elim (fun h=>.inl h.1) (fun h=>.inr h.2));refine .inr ?_;show 0+1≤uR (mf .u8 r2 r3) c.1.length;have h0:∀i,¬cu 0 i:=fun i h=>by simp [cu] at h
   have:=zU (s:=0) (s':=mf .u8 r2 r3) (n:=c.1.length) (fun i h=>absurd h (h0 i)) ⟨i,hil,hi,h0 i⟩;omega
  ·exact .inl fun q' t i hq' ht hs' _ _ _=>absurd ⟨q',hs'⟩ he
theorem Ew{c:ae}{s:Int}{mv:List Bool}(h:Qh c s)(hf:xH c mv)(i:Nat):cu s i↔In mv i:=
 ⟨fun hi=>h.sound (In mv) hf.shut i hi,fun hi=>hf.sound (cu s) h.shut i hi⟩
section
variable {α β γ ε σ T:Type}
theorem bs{a:α}{f:α→Option β}:(some a).bind f=f a:=by cases h:f a <;> simp [h]
theorem bK{n:Int}(h1: -9223372036854775808≤n)(h2:n≤9223372036854775807):K.ck n=some n:=by rw [K.ck,if_pos ⟨h1,h2⟩]
theorem cO{p:Prop}[Decidable p](h:p):cF p=some ():=by rw [cF,if_pos h]
theorem pq{l:List α}{i:Int}(h0:0≤i)(h:i.toNat < l.length):aL l i=some l[i.toNat]:=by rw [aL,if_pos h0];exact List.getElem?_eq_getElem h
theorem qw{l:List α}{i:Int}{x:α}(h0:0≤i)(h:l[i.toNat]? =some x):aL l i=some x:=by rw [aL,if_pos h0];exact h
theorem lU{a:α}{g:ε→Option β}{f:α→Option β}:K.bE (some (.ok a)) g f=f a:=by cases h:f a <;> simp [K.bE,h]
theorem pH{e:ε}{g:ε→Option β}{f:α→Option β}:K.bE (some (.error e)) g f=g e:=by cases h:g e <;> simp [K.bE,h]
theorem rq{q:α}{a:β}{b:α→β}:jE (some q) a b=b q:=by unfold jE;exact Eq.refl _
theorem zT{a:β}{b:α→β}:jE none a b=a:=by unfold jE;exact Eq.refl _
def qz(g:σ→Nat→α→σ):Nat→List α→σ→σ
 |_,[],s=>s
 |j,x::l,s=>qz g (j+1) l (g s j x)
theorem qy(l:List α)(mk:σ→Int→T)(g:σ→Nat→α→σ)(P:Nat→σ→Prop){f:Nat→T→Option β}(fin:σ→Option β)
 (step:∀n s (j:Nat) (h:j < l.length),P j s→f (n+1) (mk s j)=f n (mk (g s j l[j]) ((j:Int)+1))∧P (j+1) (g s j l[j]))
 (stop:∀n s,P l.length s→f (n+1) (mk s l.length)=fin s) {s0:σ} {n:Nat} (hn:l.length < n) (h0:P 0 s0):f n (mk s0 0)=fin (qz g 0 l s0)∧P l.length (qz g 0 l s0):=by
 have key:∀(m:List α) (pre:List α) (n:Nat) (s:σ),l=pre++m→m.length < n→P pre.length s→f n (mk s pre.length)=fin (qz g pre.length m s)∧P l.length (qz g pre.length m s):=by
  intro m
  induction m with
  |nil=>
   intro pre n s e hn hp;obtain⟨n,rfl⟩:∃n',n=n'+1:=⟨n - 1,by omega⟩;have:l.length=pre.length:=by rw [e];simp
   rw [←this] at hp⊢;exact⟨stop n s hp,hp⟩
  |cons x m ih=>
   intro pre n s e hn hp;simp only [List.length_cons] at hn;obtain⟨n,rfl⟩:∃n',n=n'+1:=⟨n - 1,by omega⟩;have hl:pre.length < l.length:=by rw [e];simp
   have hx:l[pre.length]=x:=by simp [e]
   obtain⟨h1,h2⟩:=step n s pre.length hl hp;rw [hx] at h1 h2;have:=ih (pre++[x]) n (g s pre.length x) (by rw [e];simp) (by omega) (by rw [List.length_append];exact h2);rw [List.length_append] at this;simp only [List.length_cons,List.length_nil,Nat.zero_add] at this;rw [h1];exact this
 have:=key l [] n s0 rfl hn h0
 exact this
def lH(g:σ→Nat→α→Except ε σ):Nat→List α→σ→Except ε σ
 |_,[],s=>.ok s
 |j,x::l,s=>match g s j x with
  | .error e=>.error e
  | .ok s'=>lH g (j+1) l s'
theorem mV(l:List α)(mk:σ→Int→T)(g:σ→Nat→α→Except ε σ)(P:Nat→σ→Prop){f:Nat→T→Option β}(fin:Except ε σ→Option β)
 (step:∀n s (j:Nat) (h:j < l.length),P j s→(∃e,g s j l[j]= .error e∧f (n+1) (mk s j)=fin (.error e))∨(∃s',g s j l[j]= .ok s'∧f (n+1) (mk s j)=f n (mk s' ((j:Int)+1))∧P (j+1) s'))
 (stop:∀n s,P l.length s→f (n+1) (mk s l.length)=fin (.ok s)) {s0:σ} {n:Nat} (hn:l.length < n) (h0:P 0 s0):f n (mk s0 0)=fin (lH g 0 l s0):=by
 have key:∀(m:List α) (pre:List α) (n:Nat) (s:σ),l=pre++m→m.length < n→P pre.length s→f n (mk s pre.length)=fin (lH g pre.length m s):=by
  intro m
  induction m with
  |nil=>
   intro pre n s e hn hp;obtain⟨n,rfl⟩:∃n',n=n'+1:=⟨n - 1,by omega⟩;have:l.length=pre.length:=by rw [e];simp
   rw [←this] at hp⊢;exact stop n s hp
  |cons x m ih=>
   intro pre n s e hn hp;simp only [List.length_cons] at hn;obtain⟨n,rfl⟩:∃n',n=n'+1:=⟨n - 1,by omega⟩;have hl:pre.length < l.length:=by rw [e];simp
   have hx:l[pre.length]=x:=by simp [e]
   rcases step n s pre.length hl hp with⟨e',h1,h2⟩ |⟨s',h1,h2,h3⟩
   ·rw [hx] at h1;rw [h2,lH,h1]
   ·rw [hx] at h1;have:=ih (pre++[x]) n s' (by rw [e];simp) (by omega) (by rw [List.length_append];exact h3);rw [List.length_append] at this;simp only [List.length_cons,List.length_nil,Nat.zero_add] at this;rw [h2,lH,h1];exact this
 exact key l [] n s0 rfl hn h0
end
def nX(ts:List (Bool×Int))(t:Int)(b:Bool):Int:=match ts.findIdx? (fun x=>decide (x=(b,t))) with
 |some i=>(i:Int)
 |none=> -1
theorem pu{α:Type}(p:α→Bool):∀(l:List α) (j:Nat),lH (fun(_:Unit) j x=>if p x then Except.error (j:Int) else .ok ()) j l ()=match l.findIdx? p with |some i=>.error ((i+j:Nat):Int) |none=>.ok ()
 |[],j=>by simp [lH]
 |x::l,j=>by
  rw [lH,List.findIdx?_cons]
  by_cases h:p x=true
  ·
   simp [h]
  ·
   simp only [h,if_false,Bool.false_eq_true]
   rw [pu p l (j+1)]
   cases l.findIdx? p with
   |none=>rfl
   |some i=>simp only [Option.map_some];congr 2;omega
theorem yy{k:Nat}(hk:50≤k){a0:ae×(List (Bool×Int))×(List Int)}{t:Int}{b:Bool}(h8:a0.2.1.length≤8):bz k a0 t b=some (nX a0.2.1 t b):=by
 have key:=mV (f:=c6 k a0 t b) a0.2.1 (fun(_:Unit) j=>j) (fun _ j x=>if decide (x=(b,t)) then Except.error (j:Int) else .ok ()) (fun _ _=>True)
  (fun r=>some r) (fun n s j h _=>?_) (fun n s _=>by simp [c6]) (n:=k) (s0:=()) (by omega) trivial
 ·unfold bz;rw [show c6 k a0 t b k 0=_ from key,pu];unfold nX;cases a0.2.1.findIdx? _ with
  |none=>simp only [lU]
  |some i=>simp only [pH,Nat.add_zero]
 ·simp only [c6,Int.ofNat_lt,h,if_true,aY h,bs];obtain⟨xb,xt⟩:=a0.2.1[j];cases xb <;> cases b <;> simp (disch:=omega) only [dr,cV,cond,bs,Bool.false_eq_true,not_true_eq_false,not_false_eq_true,if_true,if_false,lU,bK,Prod.mk.injEq,false_and,true_and,decide_false,reduceCtorEq] <;> by_cases hx:xt=t <;> simp (disch:=omega) [hx,lU,pH]
abbrev cS:=ae×(List (Bool×Int))×(List Int)
theorem fZ{ts:List (Bool×Int)}{t:Int}{b:Bool}{i:Nat}(hn:ts.Nodup):nX ts t b=(i:Int)↔ts[i]? =some (b,t):=by
 unfold nX;cases h:ts.findIdx? (fun x=>decide (x=(b,t))) with
 |none=>
  refine⟨fun h=>by simp only at h;omega,fun h'=>?_⟩;exfalso;rw [List.findIdx?_eq_none_iff] at h;have:=h _ (List.mem_of_getElem? h');simp at this
 |some j=>
  rw [List.findIdx?_eq_some_iff_getElem] at h;obtain⟨hj,h1,_⟩:=h;have h1:=of_decide_eq_true h1;refine⟨fun h=>?_,fun h'=>?_⟩
  ·have:j=i:=by simp only at h;omega
   subst this;rw [List.getElem?_eq_getElem hj,h1]
  ·obtain⟨hi,hi'⟩:=List.getElem?_eq_some_iff.1 h';have:=(List.getElem_inj (h₀:=hj) (h₁:=hi) hn).1 (by rw [h1,hi']);simp only;omega
theorem D9{ts:List (Bool×Int)}{t:Int}{b:Bool}: -1≤nX ts t b∧nX ts t b < (ts.length:Int):=by
 unfold nX;cases h:ts.findIdx? (fun x=>decide (x=(b,t))) with
 |none=>simp only;omega
 |some j=>
  rw [List.findIdx?_eq_some_iff_getElem] at h;obtain⟨hj,_,_⟩:=h;simp only;omega
structure QI(c:ae)(ts:List (Bool×Int))(ps:List (Int×Int))(q:cS):Prop where
 c:q.1=c
 tasks:q.2.1=ts
 len:q.2.2.length=8
 masks:∀(b:Nat) m,q.2.2[b]? =some m→jr m∧∀a:Nat,cu m a↔((a:Int),(b:Int))∈ps
theorem tq{k:Nat}(hk:50≤k){c:ae}{ts:List (Bool×Int)}{ps:List (Int×Int)}{q:cS}{a b:Int}(h:QI c ts ps q)(ht:ts.length≤8)(ha:a < ts.length)(hb:b < ts.length):
 W (c8 k a b q) (QI c ts (ps++[(a,b)])):=by
 unfold c8
 by_cases hab:0≤a∧0≤b
 ·
  obtain⟨ha0,hb0⟩:=hab;have hlt:b.toNat < q.2.2.length:=by rw [h.len];omega
  obtain⟨hm,hmm⟩:=h.masks b.toNat _ (List.getElem?_eq_getElem hlt);obtain⟨r5,e5,m5,d5⟩:=ij (k:=k) hk (l:=[a]) (by simp) (fun x hx=>by simp only [List.mem_singleton] at hx;subst hx;omega);obtain⟨m6,d6⟩:=po hm m5;simp only [ha0,hb0,if_true,bs,decide_true,pq hb0 hlt,e5];rw [cO ⟨True.intro,by omega⟩];simp only [bs];refine W.ret ⟨h.c,h.tasks,by show(List.set q.2.2 _ _).length=8;rw [List.length_set];exact h.len,fun b' m' hm'=>?_⟩;simp only [List.getElem?_set] at hm';by_cases hbb:b.toNat=b'
  ·subst hbb;rw [if_pos rfl,if_pos hlt] at hm';cases hm';refine⟨m6,fun a'=>?_⟩;rw [d6,hmm,d5];simp only [List.mem_append,List.mem_singleton,Prod.mk.injEq];have hbn:((b.toNat:Nat):Int)=b:=by omega
   rw [hbn];simp
  ·rw [if_neg hbb] at hm';obtain⟨h1,h2⟩:=h.masks b' m' hm';refine⟨h1,fun a'=>?_⟩;rw [h2];simp only [List.mem_append,List.mem_singleton,Prod.mk.injEq];refine⟨fun h=>.inl h,fun h=>h.elim id fun h=>?_⟩;omega
 ·
  have hf:(if(0:Int)≤a then(some (decide ((0:Int)≤b))) else(some false))=some false:=by
   by_cases ha0:0≤a
   ·rw [if_pos ha0,decide_eq_false (fun h=>hab ⟨ha0,h⟩)]
   ·rw [if_neg ha0]
  rw [hf];simp only [bs,Bool.false_eq_true,if_false];refine W.ret ⟨h.c,h.tasks,h.len,fun b' m' hm'=>?_⟩;obtain⟨h1,h2⟩:=h.masks b' m' hm';refine⟨h1,fun a'=>?_⟩;rw [h2];simp only [List.mem_append,List.mem_singleton,Prod.mk.injEq];refine⟨fun h=>.inl h,fun h=>h.elim id fun h=>?_⟩;omega
def sa(ts:List (Bool×Int))(y x:Int):List (Int×Int):=[(nX ts x false,nX ts y false),(nX ts x false,nX ts y true),(nX ts y false,nX ts x true),(nX ts y true,nX ts x true)]
def uq(ts:List (Bool×Int))(i:Nat)(t:bp):List (Int×Int):=(nX ts (i:Int) false,nX ts (i:Int) true)::t.1.flatMap (sa ts (i:Int))
def ut(ts:List (Bool×Int))(c:ae)(j:Nat):List (Int×Int):=(List.range j).flatMap fun i=>match c.1[i]? with |some t=>uq ts i t |none=>[]
theorem Fo{k:Nat}(hk:50≤k){c:ae}{ts:List (Bool×Int)}{ps:List (Int×Int)}{q:cS}{y2:(List bp)×(List ax)×(List Int)×(List Int)×(List (Bool×Int))×(List Int)×Int}{x6:bp}(h:QI c ts ps q)(ht:ts.length≤8)(hx:x6.1.length≤20):
 W (dR k y2 x6 k (q.1.1,q.1.2.1,q.1.2.2.1,q.1.2.2.2,q.2.1,q.2.2,0)) fun r=>QI c ts (ps++x6.1.flatMap (sa ts y2.2.2.2.2.2.2)) ((r.1,r.2.1,r.2.2.1,r.2.2.2.1),r.2.2.2.2.1,r.2.2.2.2.2):=by
 refine W.loop (f:=dR k y2 x6) (fun m y=>∃j:Nat,y.2.2.2.2.2.2=(j:Int)∧j≤x6.1.length∧m=x6.1.length - j∧QI c ts (ps++(x6.1.take j).flatMap (sa ts y2.2.2.2.2.2.2)) ((y.1,y.2.1,y.2.2.1,y.2.2.2.1),y.2.2.2.2.1,y.2.2.2.2.2.1)) ?_ x6.1.length k _ (by omega) ⟨0,rfl,by omega,by omega,by simpa using h⟩
 rintro aH m ⟨y1,y3,y4,y5,y6,y7,y⟩ ⟨j,hj,hle,hq,hQ⟩ ih
 simp only at hj hQ
 subst hj
 unfold dR
 dsimp only
 refine W.ite (fun hlt=>?_) (fun hge=>W.ret (by have:j=x6.1.length:=by omega
                                                subst this;rw [List.take_length] at hQ;exact hQ))
 have hlt':j < x6.1.length:=by omega
 have num:∀{ps':List (Int×Int)} {q:cS} (x:Int) (b:Bool),QI c ts ps' q→bz k q x b=some (nX ts x b):=fun x b hq=>by
  rw [yy hk (by rw [hq.tasks];exact ht),hq.tasks]
 have nl:∀x b,nX ts x b < (ts.length:Int):=fun x b=>D9.2
 rw [aY hlt',bs,num _ _ hQ,bs,num _ _ hQ,bs]
 refine W.bind (tq hk hQ ht (nl _ _) (nl _ _)) fun r16 h16=>?_
 rw [num _ _ h16,bs,num _ _ h16,bs]
 refine W.bind (tq hk h16 ht (nl _ _) (nl _ _)) fun r19 h19=>?_
 rw [num _ _ h19,bs,num _ _ h19,bs]
 refine W.bind (tq hk h19 ht (nl _ _) (nl _ _)) fun r22 h22=>?_
 rw [num _ _ h22,bs,num _ _ h22,bs]
 refine W.bind (tq hk h22 ht (nl _ _) (nl _ _)) fun r25 h25=>?_
 refine W.ck (by omega) (by omega) (ih (m - 1) (r25.1.1,r25.1.2.1,r25.1.2.2.1,r25.1.2.2.2,r25.2.1,r25.2.2,(j:Int)+1) (by omega) ⟨j+1,by show(j:Int)+1=((j+1:Nat):Int);omega,by omega,by omega,?_⟩)
 rw [List.take_add_one,List.getElem?_eq_getElem hlt',List.flatMap_append,←List.append_assoc]
 simp only [Option.toList_some,List.flatMap_cons,List.flatMap_nil,List.append_nil,sa]
 simp only [List.append_assoc,List.cons_append,List.nil_append] at h25⊢
 exact h25
theorem Hh{k:Nat}(hk:50≤k){c:ae}{ts:List (Bool×Int)}{q:cS}(h:QI c ts [] q)(ht:ts.length≤8)(hl:c.1.length≤20)(hx:∀t∈c.1,t.1.length≤20):W (f5 k q) (QI c ts (ut ts c c.1.length)):=by
 obtain⟨qc,qt,qb⟩:=q;obtain rfl:qc=c:=h.c;unfold f5;refine W.loop (f:=eJ k (qc,qt,qb)) (fun m y=>∃j:Nat,y.2.2.2.2.2.2=(j:Int)∧j≤qc.1.length∧m=qc.1.length - j∧QI qc ts (ut ts qc j) ((y.1,y.2.1,y.2.2.1,y.2.2.2.1),y.2.2.2.2.1,y.2.2.2.2.2.1)) ?_ qc.1.length k _ (by omega) ⟨0,rfl,by omega,by omega,h⟩;rintro aH m ⟨y1,y3,y4,y5,y6,y7,y⟩ ⟨j,hj,hle,hq,hQ⟩ ih;simp only at hj hQ;subst hj;unfold eJ;dsimp only
 refine W.ite (fun hlt=>?_) (fun hge=>W.ret (by have:j=qc.1.length:=by omega
                                                subst this;exact hQ))
 have hlt':j < qc.1.length:=by omega
 have num:∀{ps':List (Int×Int)} {q:cS} (x:Int) (b:Bool),QI qc ts ps' q→bz k q x b=some (nX ts x b):=fun x b hq=>by
  rw [yy hk (by rw [hq.tasks];exact ht),hq.tasks]
 have nl:∀x b,nX ts x b < (ts.length:Int):=fun x b=>D9.2;rw [aY hlt',bs,num _ _ hQ,bs,num _ _ hQ,bs];refine W.bind (R:=fun r=>QI qc ts (ut ts qc (j+1)) ((r.1,r.2.1,r.2.2.1,r.2.2.2.1),r.2.2.2.2.1,r.2.2.2.2.2)) ?_ fun r hr=>W.ck (by omega) (by omega) (ih (m - 1) (r.1,r.2.1,r.2.2.1,r.2.2.2.1,r.2.2.2.2.1,r.2.2.2.2.2,(j:Int)+1) (by omega) ⟨j+1,by show(j:Int)+1=((j+1:Nat):Int);omega,by omega,by omega,hr⟩);refine W.bind (tq hk hQ ht (nl _ _) (nl _ _)) fun r10 h10=>(Fo hk h10 ht (hx _ (List.getElem_mem hlt'))).mono fun r hr=>?_;unfold ut at hr⊢;rw [List.range_succ,List.flatMap_append];simp only [List.flatMap_cons,List.flatMap_nil,List.append_nil,List.getElem?_eq_getElem hlt',uq,List.append_assoc,List.cons_append,List.nil_append] at hr⊢;exact hr
def Jq(c:ae)(x y:Bool×Int):Prop:=
 (x.2=y.2∧x.1=false∧y.1=true)∨(∃(i:Nat) (t:bp),c.1[i]? =some t∧y.2=(i:Int)∧x.2∈t.1∧x.1=false)∨(∃(i:Nat) (t:bp),c.1[i]? =some t∧x.2=(i:Int)∧y.2∈t.1∧y.1=true)
theorem C3{c:ae}{ts:List (Bool×Int)}(hn:ts.Nodup)(hr:∀x∈ts,∃i:Nat,i < c.1.length∧x.2=(i:Int)){a b:Nat}:
 ((a:Int),(b:Int))∈ut ts c c.1.length↔∃x y,ts[a]? =some x∧ts[b]? =some y∧Jq c x y:=by
 unfold ut
 simp only [List.mem_flatMap,List.mem_range]
 constructor
 ·
  rintro⟨i,hi,h⟩;rw [List.getElem?_eq_getElem hi] at h;simp only [uq,List.mem_cons,List.mem_flatMap,sa,Prod.mk.injEq,List.not_mem_nil,or_false] at h;have hg:=List.getElem?_eq_getElem hi;rcases h with⟨h1,h2⟩ |⟨x,hx,⟨h1,h2⟩ |⟨h1,h2⟩ |⟨h1,h2⟩ |⟨h1,h2⟩⟩
  ·exact⟨_,_,(fZ hn).1 h1.symm,(fZ hn).1 h2.symm,.inl ⟨rfl,rfl,rfl⟩⟩
  ·exact⟨_,_,(fZ hn).1 h1.symm,(fZ hn).1 h2.symm,.inr (.inl ⟨i,_,hg,rfl,hx,rfl⟩)⟩
  ·exact⟨_,_,(fZ hn).1 h1.symm,(fZ hn).1 h2.symm,.inr (.inl ⟨i,_,hg,rfl,hx,rfl⟩)⟩
  ·exact⟨_,_,(fZ hn).1 h1.symm,(fZ hn).1 h2.symm,.inr (.inr ⟨i,_,hg,rfl,hx,rfl⟩)⟩
  ·exact⟨_,_,(fZ hn).1 h1.symm,(fZ hn).1 h2.symm,.inr (.inr ⟨i,_,hg,rfl,hx,rfl⟩)⟩
 ·
  rintro⟨⟨x1,x2⟩,⟨y1,y2⟩,h1,h2,h⟩;have e1:=(fZ hn).2 h1;have e2:=(fZ hn).2 h2;simp only [Jq] at h;rcases h with⟨rfl,rfl,rfl⟩ |⟨i,t,hg,rfl,hx,rfl⟩ |⟨i,t,hg,rfl,hx,rfl⟩
  ·obtain⟨i,hi,rfl⟩:=hr _ (List.mem_of_getElem? h1);refine⟨i,hi,?_⟩;rw [List.getElem?_eq_getElem hi];simp only [uq,List.mem_cons,Prod.mk.injEq];exact .inl ⟨e1.symm,e2.symm⟩
  ·refine⟨i,(List.getElem?_eq_some_iff.1 hg).1,?_⟩;rw [hg];simp only [uq,List.mem_cons,List.mem_flatMap,sa,Prod.mk.injEq,List.not_mem_nil,or_false];refine .inr ⟨x2,hx,?_⟩;cases y1 with
   |false=>exact .inl ⟨e1.symm,e2.symm⟩
   |true=>exact .inr (.inl ⟨e1.symm,e2.symm⟩)
  ·refine⟨i,(List.getElem?_eq_some_iff.1 hg).1,?_⟩;rw [hg];simp only [uq,List.mem_cons,List.mem_flatMap,sa,Prod.mk.injEq,List.not_mem_nil,or_false];refine .inr ⟨y2,hx,?_⟩;cases x1 with
   |false=>exact .inr (.inr (.inl ⟨e1.symm,e2.symm⟩))
   |true=>exact .inr (.inr (.inr ⟨e1.symm,e2.symm⟩))
def fS(s:Int)(j:Nat):List Int:=((List.range j).filter fun(i:Nat)=>decide (cu s i)).map fun(i:Nat)=>(i:Int)
theorem nr{s:Int}{j:Nat}:fS s (j+1)=fS s j++(if cu s j then [(j:Int)] else []):=by
 unfold fS;rw [List.range_succ,List.filter_append,List.map_append];congr 1;by_cases h:cu s j <;> simp [h]
theorem oN{s:Int}{j:Nat}:(fS s j).length≤j:=by
 unfold fS;rw [List.length_map];exact Nat.le_trans (List.length_filter_le _ _) (by simp)
theorem nJ{k:Nat}(hk:50≤k){s:Int}(hs:jr s):eN k s=some (fS s 8):=by
 have key:W (fq k s k ([],0)) fun r=>r=fS s 8:=by
  refine W.loop (f:=fq k s) (fun q y=>∃j:Nat,y.2=(j:Int)∧j≤8∧q=8 - j∧y.1=fS s j) ?_ 8 k _ (by omega) ⟨0,rfl,by omega,by omega,by simp [fS]⟩;rintro aH q ⟨o,y⟩ ⟨j,hj,hle,hq,ho⟩ ih;simp only at hj ho;subst hj ho;unfold fq;dsimp only
  refine W.ite (fun hlt=>?_) (fun hge=>W.ret (by have:j=8:=by omega
                                                 subst this;rfl))
  have hbl:=oN (s:=s) (j:=j);refine W.bindEB (wR hs (by omega)) (W.iteB (fun hh=>?_) (fun hh=>?_))
  ·refine W.chkB (bH (by simp only [List.length_cons,List.length_nil];omega)) (W.sb (W.ck (by omega) (by omega) (ih (q - 1) (_,(j:Int)+1) (by omega) ⟨j+1,?_,by omega,by omega,?_⟩)))
   ·show(j:Int)+1=((j+1:Nat):Int);omega
   ·show fS s j++[(j:Int)]=_;rw [nr,if_pos (of_decide_eq_true hh)]
  ·refine W.sb (W.ck (by omega) (by omega) (ih (q - 1) (_,(j:Int)+1) (by omega) ⟨j+1,?_,by omega,by omega,?_⟩))
   ·show(j:Int)+1=((j+1:Nat):Int);omega
   ·show fS s j=_;rw [nr,if_neg (fun h=>hh (decide_eq_true h)),List.append_nil]
 obtain⟨r,e,rfl⟩:=key;unfold eN;rw [e];rfl
theorem MF{k:Nat}(hk:50≤k){l:List Int}{o:List (Bool×Int)}(hl:l.length≤8)(ho:o.length≤100):gB k l k (o,0)=some (o++l.map fun n=>(false,n)):=by
 have key:W (gB k l k (o,0)) fun r=>r=o++l.map fun n=>(false,n):=by
  refine W.loop (f:=gB k l) (fun q y=>∃j:Nat,y.2=(j:Int)∧j≤l.length∧q=l.length - j∧y.1=o++(l.take j).map fun n=>(false,n)) ?_ l.length k _ (by omega) ⟨0,rfl,by omega,by omega,by simp⟩;rintro aH q ⟨o',y⟩ ⟨j,hj,hle,hq,ho'⟩ ih;simp only at hj ho';subst hj ho';unfold gB;dsimp only
  refine W.ite (fun hlt=>?_) (fun hge=>W.ret (by have:j=l.length:=by omega
                                                 subst this;rw [List.take_length]))
  have hlt':j < l.length:=by omega
  refine W.bindE (aY hlt') (W.chk (bH (by simp only [List.length_append,List.length_map,List.length_take,List.length_cons,List.length_nil];omega)) (W.ck (by omega) (by omega) (ih (q - 1) (_,(j:Int)+1) (by omega) ⟨j+1,?_,by omega,by omega,?_⟩)))
  ·show(j:Int)+1=((j+1:Nat):Int);omega
  ·show(o++_)++_=_;rw [List.take_add_one,List.getElem?_eq_getElem hlt',List.map_append,List.append_assoc];rfl
 obtain⟨r,e,rfl⟩:=key;exact e
theorem JQ{k:Nat}(hk:50≤k){l:List Int}{o:List (Bool×Int)}(hl:l.length≤8)(ho:o.length≤100):gA k l k (o,0)=some (o++l.map fun n=>(true,n)):=by
 have key:W (gA k l k (o,0)) fun r=>r=o++l.map fun n=>(true,n):=by
  refine W.loop (f:=gA k l) (fun q y=>∃j:Nat,y.2=(j:Int)∧j≤l.length∧q=l.length - j∧y.1=o++(l.take j).map fun n=>(true,n)) ?_ l.length k _ (by omega) ⟨0,rfl,by omega,by omega,by simp⟩;rintro aH q ⟨o',y⟩ ⟨j,hj,hle,hq,ho'⟩ ih;simp only at hj ho';subst hj ho';unfold gA;dsimp only
  refine W.ite (fun hlt=>?_) (fun hge=>W.ret (by have:j=l.length:=by omega
                                                 subst this;rw [List.take_length]))
  have hlt':j < l.length:=by omega
  refine W.bindE (aY hlt') (W.chk (bH (by simp only [List.length_append,List.length_map,List.length_take,List.length_cons,List.length_nil];omega)) (W.ck (by omega) (by omega) (ih (q - 1) (_,(j:Int)+1) (by omega) ⟨j+1,?_,by omega,by omega,?_⟩)))
  ·show(j:Int)+1=((j+1:Nat):Int);omega
  ·show(o++_)++_=_;rw [List.take_add_one,List.getElem?_eq_getElem hlt',List.map_append,List.append_assoc];rfl
 obtain⟨r,e,rfl⟩:=key;exact e
theorem tI{p:Nat→Bool}{n:Nat}(hp:∀i,p i=true→i < n):∀m,n≤m→(List.range m).filter p=(List.range n).filter p:=by
 intro m
 induction m with
 |zero=>intro h;have:n=0:=by omega
        subst this;rfl
 |succ m ih=>
  intro h;by_cases hn:n=m+1
  ·subst hn;rfl
  ·rw [List.range_succ,List.filter_append,ih (by omega)]
   have:p m=false:=by
    cases hm:p m with
    |false=>rfl
    |true=>have:=hp m hm;omega
   simp [this]
def GK(mv:List Bool)(ws:List Int)(n:Nat):List Int:=((List.range n).filter fun(i:Nat)=>mv[i]?.getD false && decide ((i:Int)∈ws)).map fun(i:Nat)=>(i:Int)
def aI(c:ae)(mv:List Bool):List (Bool×Int):=((GK mv c.2.2.1 c.1.length).map fun x=>(false,x))++((GK mv c.2.2.2 c.1.length).map fun x=>(true,x))
theorem D2{mv:List Bool}{ws:List Int}{b:Bool}{n:Nat}:pN mv ws b n=(GK mv ws n).map fun x=>(x,b):=by
 unfold pN GK;rw [List.map_map];rfl
theorem D1{c:ae}{mv:List Bool}:pN mv c.2.2.1 false c.1.length++pN mv c.2.2.2 true c.1.length=(aI c mv).map fun x=>(x.2,x.1):=by
 rw [D2,D2,aI,List.map_append,List.map_map,List.map_map];rfl
theorem Kv{mv:List Bool}{ws:List Int}{n:Nat}{x:Int}:x∈GK mv ws n↔∃i:Nat,i < n∧x=(i:Int)∧In mv i∧x∈ws:=by
 unfold GK;simp only [List.mem_map,List.mem_filter,List.mem_range,Bool.and_eq_true,decide_eq_true_eq];constructor
 ·rintro⟨i,⟨h1,h2,h3⟩,rfl⟩;refine⟨i,h1,rfl,?_,h3⟩;cases hg:mv[i]? with
  |none=>rw [hg] at h2;cases h2
  |some x=>rw [hg] at h2;simp at h2;show mv[i]? =_;rw [hg,h2]
 ·rintro⟨i,h1,rfl,h2,h3⟩;refine⟨i,⟨h1,?_,h3⟩,rfl⟩;have h2:mv[i]? =some true:=h2;rw [h2];rfl
theorem L8{mv:List Bool}{ws:List Int}{n:Nat}:(GK mv ws n).Pairwise (· < ·):=by
 unfold GK;rw [List.pairwise_map];exact((List.pairwise_lt_range (n:=n)).filter _).imp fun {a b} h=>by omega
theorem Kw{c:ae}{mv:List Bool}{x:Bool×Int}:x∈aI c mv↔∃i:Nat,i < c.1.length∧x.2=(i:Int)∧In mv i∧x.2∈(if x.1=true then c.2.2.2 else c.2.2.1):=by
 unfold aI;simp only [List.mem_append,List.mem_map,Kv];obtain⟨b,v⟩:=x;constructor
 ·rintro(⟨x,h,h'⟩ |⟨x,h,h'⟩)
  ·cases h';exact h
  ·cases h';exact h
 ·intro h;cases b with
  |false=>exact .inl ⟨v,h,rfl⟩
  |true=>exact .inr ⟨v,h,rfl⟩
theorem EW{c:ae}{mv:List Bool}:(aI c mv).Nodup:=by
 unfold aI
 have pw:∀{ws:List Int} (b:Bool),((GK mv ws c.1.length).map fun x=>(b,x)).Nodup:=fun {ws} b=>by
  rw [List.Nodup,List.pairwise_map];refine(L8 (mv:=mv) (ws:=ws) (n:=c.1.length)).imp fun {a b'} h e=>?_;simp only [Prod.mk.injEq,true_and] at e;omega
 refine List.nodup_append.2 ⟨pw false,pw true,fun a ha b hb e=>?_⟩;subst e;simp only [List.mem_map] at ha hb;obtain⟨x,_,rfl⟩:=ha;obtain⟨y,_,h⟩:=hb;cases h
theorem KO{c:ae}{mv:List Bool}(h:xH c mv){i:Nat}(hi:In mv i):i < c.1.length:=h.sound (fun i=>i < c.1.length) (fun _ hi _=>hi) i hi
theorem wY{c:ae}{mv mv':List Bool}(h:xH c mv)(h':xH c mv'):mv=mv':=by
 apply List.ext_getElem? fun i=>?_;have hl:=h.len;have hl':=h'.len
 have hb:∀m:List Bool,m.length=c.1.length→In m i∨m[i]? =some false∨(m[i]? =none∧¬i < c.1.length):=fun m hm=>by
  cases hg:m[i]? with
  |none=>exact .inr (.inr ⟨rfl,by have:=List.getElem?_eq_none_iff.1 hg;omega⟩)
  |some b=>cases b with
   |true=>exact .inl hg
   |false=>exact .inr (.inl rfl)
 have hx:In mv i↔In mv' i:=⟨fun hi=>h.sound _ h'.shut i hi,fun hi=>h'.sound _ h.shut i hi⟩;rcases hb _ hl with a |a |⟨a,a'⟩
 ·have b:mv'[i]? =some true:=hx.1 a;rw [b];exact a
 ·rcases hb _ hl' with b |b |⟨b,b'⟩
  ·have:=hx.2 b;have a':mv[i]? =some true:=this;rw [a] at a';cases a'
  ·rw [a,b]
  ·have:=(List.getElem?_eq_some_iff.1 a).1;omega
 ·rcases hb _ hl' with b |b |⟨b,b'⟩
  ·have:=KO h' b;omega
  ·have:=(List.getElem?_eq_some_iff.1 b).1;omega
  ·rw [a,b]
theorem VC.wl{n:Int}{c:ae}(hc:VC n c):c.2.2.1.length≤4∧c.2.2.2.length≤4∧c.1.length≤4∧(∀t∈c.1,t.1.length≤4)∧(∀d∈c.2.1,d.1.length≤4):=by
 have h1:=hc.n4;have h2:=hc.len;have h3:=hc.wears.len (by omega);have h4:=hc.wants.len (by omega);refine⟨by omega,by omega,by omega,fun t ht=>?_,fun d hd=>?_⟩
 ·obtain⟨j,hj⟩:=List.mem_iff_getElem?.1 ht;have:=(hc.good j t hj).over.len (by omega);omega
 ·have:=(hc.dressers d hd).can.len (by omega);omega
theorem VC.small{n:Int}{c:ae}(hc:VC n c):vl c:=by
 obtain⟨h1,h2,h3,h4,_⟩:=hc.wl;exact⟨by omega,fun t ht=>by have:=h4 t ht;omega,by omega,by omega⟩
theorem VC.fix{n:Int}{c:ae}(hc:VC n c):∃mv,xH c mv:=by
 obtain⟨mv,_,h⟩:=Ik (k:=100) (by decide) hc.small;exact⟨mv,h⟩
theorem BL{c:ae}{s a m:Int}{mv:List Bool}{ws:List Int}(hm:∀i,cu m i↔cu s i∧cu a i)(ha:∀i:Nat,cu a i↔(i:Int)∈ws)(hw:∀i:Nat,(i:Int)∈ws→i < c.1.length)(hc:c.1.length≤8)(hf:∀i,cu s i↔In mv i):
 fS m 8=GK mv ws c.1.length:=by
 unfold fS GK
 rw [tI (n:=c.1.length) (fun i hi=>hw i ((ha i).1 ((hm i).1 (of_decide_eq_true hi)).2)) 8 hc]
 congr 1
 apply List.filter_congr
 intro i _
 rw [Bool.eq_iff_iff]
 simp only [decide_eq_true_eq,Bool.and_eq_true]
 rw [hm,hf,ha]
 unfold In
 constructor
 ·
  rintro⟨h1,h2⟩;exact⟨by rw [h1];rfl,h2⟩
 ·
  rintro⟨h1,h2⟩;refine⟨?_,h2⟩;cases hg:mv[i]? with
  |none=>rw [hg] at h1;cases h1
  |some x=>rw [hg] at h1;simp at h1;rw [h1]
structure QV(n:Int)(c:ae)(mv:List Bool)(q:cS):Prop where
 vc:VC n c
 fix:xH c mv
 eq:q.1=c
 tasks:q.2.1=aI c mv
 t4:(aI c mv).length≤4
 len:q.2.2.length=8
 masks:∀(b:Nat) m,q.2.2[b]? =some m→jr m∧∀a:Nat,cu m a↔∃x y,(aI c mv)[a]? =some x∧(aI c mv)[b]? =some y∧Jq c x y
theorem km{c:ae}{mv:List Bool}:∀x∈aI c mv,∃i:Nat,i < c.1.length∧x.2=(i:Int):=fun x hx=>by
 obtain⟨i,h1,h2,_⟩:=Kw.1 hx
 exact⟨i,h1,h2⟩
theorem qK{k:Nat}(hk:50≤k){n:Int}{c:ae}{mv:List Bool}(hc:VC n c)(hF:xH c mv):
 (4 < (aI c mv).length→bM k c=some (none,6))∧((aI c mv).length≤4→∃q,bM k c=some (some q,0)∧QV n c mv q):=by
 have hn:=hc.n4
 have hl:=hc.len
 obtain⟨w1,w2,w3,w4,_⟩:=hc.wl
 obtain⟨a,ea,ha⟩:=ij (k:=k) hk (l:=c.2.2.1) (by omega) (fun x hx=>by have:=hc.wears.2 x hx;omega)
 obtain⟨b,eb,hb⟩:=ij (k:=k) hk (l:=c.2.2.2) (by omega) (fun x hx=>by have:=hc.wants.2 x hx;omega)
 obtain⟨s,es,hs⟩:=DD hk hc
 obtain⟨m1,d1⟩:=vK hs.mask ha.1
 obtain⟨m2,d2⟩:=vK hs.mask hb.1
 have l1:=oN (s:=nj .u8 s a) (j:=8)
 have l2:=oN (s:=nj .u8 s b) (j:=8)
 have b1:=BL (c:=c) d1 ha.2 (fun i h=>by have:=(hc.wears.2 _ h).2;omega) (by omega) (Ew hs hF)
 have b2:=BL (c:=c) d2 hb.2 (fun i h=>by have:=(hc.wants.2 _ h).2;omega) (by omega) (Ew hs hF)
 have e:([]++(fS (nj .u8 s a) 8).map fun n=>(false,n))++(fS (nj .u8 s b) 8).map (fun n=>(true,n))=aI c mv:=by rw [b1,b2,aI,List.nil_append]
 have run:bM k c=if(4:Int) < ((aI c mv).length:Int) then(some (none,(6:Int))) else((f5 k (c,aI c mv,[(0:Int),0,0,0,0,0,0,0])).bind fun r28=>
  some (some ((r28.1.1,r28.1.2.1,r28.1.2.2.1,r28.1.2.2.2),r28.2.1,r28.2.2),(0:Int))):=by
  unfold bM;rw [hc.chk k hk];simp only [bs,not_true_eq_false,if_false,es,ea,eb,nJ hk m1,nJ hk m2];rw [MF hk l1 (by simp)];simp only [bs];rw [JQ hk l2 (by simp;omega),bs,e]
 refine⟨fun h=>by rw [run,if_pos (by omega)],fun h=>?_⟩
 have hq:QI c (aI c mv) [] (c,aI c mv,[(0:Int),0,0,0,0,0,0,0]):=⟨rfl,rfl,rfl,fun b m hm=>by
  have:=List.mem_of_getElem? hm;simp only [List.mem_cons,List.not_mem_nil,or_false,or_self] at this;subst this;exact⟨⟨by decide,by decide⟩,fun a=>by simp [cu]⟩⟩
 obtain⟨r,er,hr⟩:=Hh hk hq (by omega) (by omega) (fun t ht=>by have:=w4 t ht;omega)
 refine⟨r,by rw [run,if_neg (by omega),er,bs],hc,hF,hr.c,hr.tasks,h,hr.len,fun b m hm=>?_⟩
 obtain⟨h1,h2⟩:=hr.masks b m hm
 exact⟨h1,fun a=>by rw [h2,C3 EW km]⟩
theorem CH{k:Nat}(hk:50≤k){n:Int}{c:ae}{mv:List Bool}(hc:VC n c)(hF:xH c mv):fB k c=some ((aI c mv).map fun x=>(x.2,x.1)):=by
 obtain⟨r,e,mv',hF',rfl⟩:=vU hk hc.small;rw [e,wY hF' hF,D1]
theorem Ky{k:Nat}(hk:50≤k){l:cr}{m:Int}(hl:Lo l m)(hm:0≤m∧m≤1000):W (jM k l) fun r=>Lo r.2 (m+300)∧LY k r.1∧∃n mv q,VC n r.1∧bM k r.1=some (some q,0)∧QV n r.1 mv q:=by
 refine(F4 hk hl hm).mono fun r hr=>?_;obtain⟨hg,hlo⟩:=hr;obtain⟨⟨up,n,h1,h4,hl,hgo,hw,hv,hd⟩,hdl,htk⟩:=hg;have hc:VC n r.1:=CC ⟨h1,h4⟩ hl hgo hw hv hd hdl;obtain⟨mv,hF⟩:=hc.fix;have:=htk _ (CH hk hc hF);rw [List.length_map] at this;obtain⟨q,hb,hq⟩:=(qK hk hc hF).2 this;exact⟨hlo,⟨⟨up,n,h1,h4,hl,hgo,hw,hv,hd⟩,hdl,htk⟩,n,mv,q,hc,hb,hq⟩
theorem Dm{l:List Int}:Lo (l,0,1) 0:=⟨Int.le_refl 0,Int.le_refl 0⟩
section
variable {α β ε:Type}
theorem zN{f:Nat→Int→Option (Except ε Unit)}(i0 N:Nat)(step:∀n (j:Nat),i0≤j→j < N→f (n+1) (j:Int)=f n ((j:Int)+1))(stop:∀n (j:Nat),i0≤j→N≤j→f (n+1) (j:Int)=some (.ok ())):
 ∀n,N - i0 < n→f n (i0:Int)=some (.ok ()):=by
 have key:∀(m:Nat) (j n:Nat),N - j=m→i0≤j→m < n→f n (j:Int)=some (.ok ()):=by
  intro m
  induction m with
  |zero=>
   intro j n h1 h2 h3;obtain⟨n,rfl⟩:∃n',n=n'+1:=⟨n - 1,by omega⟩;exact stop n j h2 (by omega)
  |succ m ih=>
   intro j n h1 h2 h3;obtain⟨n,rfl⟩:∃n',n=n'+1:=⟨n - 1,by omega⟩;rw [step n j h2 (by omega)];have:=ih (j+1) n (by omega) (by omega) (by omega);rw [←this];rfl
 intro n hn
 exact key (N - i0) i0 n rfl (Nat.le_refl _) hn
theorem Bo{f:Nat→Int→Option (Except ε Unit)}{e:ε}(N i:Nat)(hi:i < N)(step:∀n (j:Nat),j < i→f (n+1) (j:Int)=f n ((j:Int)+1))(stop:∀n,f (n+1) (i:Int)=some (.error e)):
 ∀n,N < n→f n 0=some (.error e):=by
 have key:∀(m:Nat) (j n:Nat),i - j=m→j≤i→m < n→f n (j:Int)=some (.error e):=by
  intro m
  induction m with
  |zero=>
   intro j n h1 h2 h3;obtain⟨n,rfl⟩:∃n',n=n'+1:=⟨n - 1,by omega⟩;have:j=i:=by omega
   subst this;exact stop n
  |succ m ih=>
   intro j n h1 h2 h3;obtain⟨n,rfl⟩:∃n',n=n'+1:=⟨n - 1,by omega⟩;rw [step n j (by omega)];have:=ih (j+1) n (by omega) (by omega) (by omega);rw [←this];rfl
 intro n hn
 exact key i 0 n (by omega) (by omega) (by omega)
end
theorem j7{k:Nat}{l:List Int}(h:l.length < k)(hk:l.length≤1000000):dG k l l=some true:=by
 unfold dG;have key:=zN (f:=eG k l l) 0 l.length (fun n j _ hj=>by simp (disch:=omega) only [eG,Int.ofNat_lt,hj,if_true,aY hj,bs,not_true_eq_false,if_false,bK]) (fun n j _ hj=>by simp only [eG];rw [if_neg (by omega)]) k (by omega);rw [if_neg (by simp),show eG k l l k 0=_ from key,lU]
theorem H5{a b:Int}(ha:jr a)(hb:jr b):(pP .u8 a b=0↔∀i,cu a i→cu b i):=by
 obtain⟨n,hn,rfl⟩:=lm ha;obtain⟨m,hm,rfl⟩:=lm hb
 have h1:((BitVec.ofInt IntKind.u8.bits (n:Int)) &&& ~~~ (BitVec.ofInt IntKind.u8.bits (m:Int))).toNat=n &&& (255 - m):=by
  show((BitVec.ofInt 8 (n:Int)) &&& ~~~ (BitVec.ofInt 8 (m:Int))).toNat=n &&& (255 - m);have e1:(BitVec.ofInt 8 (n:Int)).toNat=n:=o9 hn;have e2:(BitVec.ofInt 8 (m:Int)).toNat=m:=o9 hm;rw [BitVec.toNat_and,BitVec.toNat_not,e1,e2]
 have e:pP .u8 (n:Int) (m:Int)=((n &&& (255 - m):Nat):Int):=by
  unfold pP;rw [h1];exact qS (vI hn)
 rw [e];have h2:((n &&& (255 - m):Nat):Int)=0↔n &&& (255 - m)=0:=by omega
 have h3:∀i,i < 8→(255 - m).testBit i= !m.testBit i:=fun i hi=>by
  have:=Nat.testBit_two_pow_sub_succ (n:=8) (x:=m) hm i;have e:2 ^ 8 - (m+1)=255 - m:=by omega
  rw [e] at this;simp [this,hi]
 rw [h2];constructor
 ·intro h i hi;have hi':n.testBit i=true:=by simpa [cu] using hi
  have h8:i < 8:=by
   false_or_by_contra;have:=Nat.testBit_lt_two_pow (x:=n) (i:=i) (Nat.lt_of_lt_of_le hn (Nat.pow_le_pow_right (by decide) (by omega):2 ^ 8≤2 ^ i));rw [this] at hi';cases hi'
  have:=congrArg (fun x=>Nat.testBit x i) h;simp only [Nat.testBit_and,h3 i h8,hi',Nat.zero_testBit,Bool.true_and] at this;show(m:Int).toNat.testBit i=true;simpa using this
 ·intro h;apply Nat.eq_of_testBit_eq;intro i;simp only [Nat.testBit_and,Nat.zero_testBit];by_cases h8:i < 8
  ·cases hb:n.testBit i with
   |false=>rfl
   |true=>
    have:=h i (by simpa [cu] using hb);have:m.testBit i=true:=by simpa [cu] using this
    rw [h3 i h8,this];rfl
  ·have:=Nat.testBit_lt_two_pow (x:=n) (i:=i) (Nat.lt_of_lt_of_le hn (Nat.pow_le_pow_right (by decide) (by omega):2 ^ 8≤2 ^ i));rw [this];rfl
def Au(c:ae)(x:Int):bp:=c.1[x.toNat]?.getD ([],0,0,0,0)
def oK(c:ae)(d:Int):ax:=c.2.1[d.toNat]?.getD ([],0,0)
def ji(c:ae)(d:Int)(w:Bool×Int):Bool:=decide (w.2∈(oK c d).1) && (decide ((Au c w.2).2.2.2.1=0) || decide ((oK c d).2.1=0) || decide ((oK c d).2.1=(Au c w.2).2.2.2.1))
def jF(c:ae)(w:Bool×Int):Int:=if w.1=true then(Au c w.2).2.2.1 else(Au c w.2).2.1
def vA(c:ae)(x y:Bool×Int):Bool:=(decide (x.2=y.2) && !x.1 && y.1) || (decide (x.2∈(Au c y.2).1) && !x.1) || (decide (y.2∈(Au c x.2).1) && y.1)
def Ak(c:ae)(ts:List (Bool×Int))(a b:Nat):Bool:=match ts[a]?,ts[b]? with
 |some x,some y=>vA c x y
 |_,_=>false
def g8(c:ae)(ts:List (Bool×Int))(b:Nat):List Nat:=(List.range ts.length).filter fun a=>Ak c ts a b
theorem mZ{c:ae}{i:Nat}{t:bp}(h:c.1[i]? =some t):Au c (i:Int)=t:=by simp [Au,h]
theorem Bj{c:ae}{x:Int}(h0:0≤x)(h:x.toNat < c.1.length):aL c.1 x=some (Au c x):=by
 rw [pq h0 h,Au,List.getElem?_eq_getElem h];rfl
theorem tC{c:ae}{d:Int}(h0:0≤d)(h:d < c.2.1.length):aL c.2.1 d=some (oK c d):=by
 have:d.toNat < c.2.1.length:=by omega
 rw [pq h0 this,oK,List.getElem?_eq_getElem this];rfl
theorem BO{c:ae}{x y:Bool×Int}(hx:∃i:Nat,i < c.1.length∧x.2=(i:Int))(hy:∃i:Nat,i < c.1.length∧y.2=(i:Int)):Jq c x y↔vA c x y=true:=by
 obtain⟨i,hi,ei⟩:=hx;obtain⟨j,hj,ej⟩:=hy;obtain⟨xb,xv⟩:=x;obtain⟨yb,yv⟩:=y;simp only at ei ej;subst ei ej;have hgi:=List.getElem?_eq_getElem hi;have hgj:=List.getElem?_eq_getElem hj;simp only [Jq,vA,Bool.or_eq_true,Bool.and_eq_true,decide_eq_true_eq,Bool.not_eq_true',mZ hgi,mZ hgj];constructor
 ·rintro(⟨a,b,d⟩ |⟨i',t,a,b,d,e⟩ |⟨i',t,a,b,d,e⟩)
  ·exact .inl (.inl ⟨⟨a,b⟩,d⟩)
  ·have:j=i':=by omega
   subst this;rw [hgj] at a;cases a;exact .inl (.inr ⟨d,e⟩)
  ·have:i=i':=by omega
   subst this;rw [hgi] at a;cases a;exact .inr ⟨d,e⟩
 ·rintro((⟨⟨a,b⟩,d⟩ |⟨a,b⟩) |⟨a,b⟩)
  ·exact .inl ⟨a,b,d⟩
  ·exact .inr (.inl ⟨j,_,hgj,rfl,a,b⟩)
  ·exact .inr (.inr ⟨i,_,hgi,rfl,a,b⟩)
theorem QV.mask{n:Int}{c:ae}{mv:List Bool}{q:cS}(h:QV n c mv q){b:Nat}(hb:b < 8):∃m,q.2.2[b]? =some m∧jr m∧(∀a:Nat,cu m a↔Ak c (aI c mv) a b=true)∧fS m 8=(g8 c (aI c mv) b).map fun(a:Nat)=>(a:Int):=by
 have hl:b < q.2.2.length:=by rw [h.len];exact hb
 obtain⟨h1,h2⟩:=h.masks b _ (List.getElem?_eq_getElem hl)
 have h3:∀a:Nat,cu q.2.2[b] a↔Ak c (aI c mv) a b=true:=fun a=>by
  rw [h2];unfold Ak;constructor
  ·rintro⟨x,y,e1,e2,hb⟩;rw [e1,e2];exact(BO (km _ (List.mem_of_getElem? e1)) (km _ (List.mem_of_getElem? e2))).1 hb
  ·intro hm;cases e1:(aI c mv)[a]? with
   |none=>rw [e1] at hm;simp at hm
   |some x=>cases e2:(aI c mv)[b]? with
    |none=>rw [e1,e2] at hm;simp at hm
    |some y=>
     rw [e1,e2] at hm;exact⟨x,y,rfl,rfl,(BO (km _ (List.mem_of_getElem? e1)) (km _ (List.mem_of_getElem? e2))).2 hm⟩
 refine⟨_,List.getElem?_eq_getElem hl,h1,h3,?_⟩;unfold fS g8
 have hf:∀i,decide (cu q.2.2[b] i)=true→i < (aI c mv).length:=fun i hi=>by
  have:=(h3 i).1 (of_decide_eq_true hi);unfold Ak at this;cases e1:(aI c mv)[i]? with
  |none=>rw [e1] at this;simp at this
  |some x=>exact(List.getElem?_eq_some_iff.1 e1).1
 rw [tI hf 8 (by have:=h.t4;omega)];congr 1;apply List.filter_congr;intro i _;rw [Bool.eq_iff_iff,decide_eq_true_eq];exact h3 i
theorem vk{k:Nat}{l:List Int}{x:Int}(h:l.length < k)(hk:l.length≤1000000):fH k l x=some (decide (x∈l)):=by
 have key:=mV (f:=dS k l x) l (fun(_:Unit) j=>j) (fun _ j y=>if decide (x=y) then Except.error (j:Int) else .ok ()) (fun _ _=>True) (fun r=>some r)
  (fun n s j h _=>by
   simp (disch:=omega) only [dS,Int.ofNat_lt,h,if_true,aY h,bs,bK];by_cases hx:x=l[j] <;> simp [hx]) (fun n s _=>by simp [dS]) (n:=k) (s0:=()) h trivial
 unfold fH lY;rw [show dS k l x k 0=_ from key,pu (fun y=>decide (x=y))];cases hf:l.findIdx? (fun y=>decide (x=y)) with
 |none=>
  simp only [lU,bs];rw [List.findIdx?_eq_none_iff] at hf;have:x∉l:=fun hm=>by have:=hf x hm;simp at this
  simp [this]
 |some i=>
  simp only [pH,bs];rw [List.findIdx?_eq_some_iff_getElem] at hf;obtain⟨hi,h1,_⟩:=hf;have h1:=of_decide_eq_true h1;have:x∈l:=by rw [h1];exact List.getElem_mem hi
  simp [this]
theorem vS{k:Nat}{w:Bool×Int}:cond w.1 (dr k w.2) (cV k w.2)=some w.2:=by
 obtain⟨b,v⟩:=w;cases b <;> rfl
theorem Nk{k:Nat}(hk:50≤k){n:Int}{c:ae}{mv:List Bool}{q:cS}(h:QV n c mv q){d:Int}{w:Bool×Int}(hd:0≤d∧d < c.2.1.length)(hw:w∈aI c mv):jf k q d w=some (ji c d w):=by
 obtain⟨i,hi,ei⟩:=km w hw;obtain⟨_,_,_,_,w5⟩:=h.vc.wl
 have hl:(oK c d).1.length≤4:=by
  have hdl:d.toNat < c.2.1.length:=by omega
  rw [oK,List.getElem?_eq_getElem hdl];exact w5 _ (List.getElem_mem hdl)
 unfold jf;rw [h.eq,tC hd.1 hd.2,bs,vS,bs,Bj (by omega) (by omega),bs,bs,vk (by omega) (by omega),bs];unfold ji;by_cases h1:w.2∈(oK c d).1
 ·by_cases h2:(Au c w.2).2.2.2.1=0
  ·simp [h1,h2]
  ·by_cases h3:(oK c d).2.1=0
   ·simp [h1,h3]
   ·simp [h1,h2,h3]
 ·simp [h1]
theorem La{k:Nat}{n:Int}{c:ae}{mv:List Bool}{q:cS}(h:QV n c mv q){w:Bool×Int}(hw:w∈aI c mv):jD k q w=some (jF c w):=by
 obtain⟨i,hi,ei⟩:=km w hw;unfold jD jF;rw [vS,bs,h.eq,Bj (by omega) (by omega),bs];by_cases hb:w.1=true <;> simp [hb]
theorem rD{n:Int}{c:ae}{mv:List Bool}(hc:VC n c){w:Bool×Int}(hw:w∈aI c mv):1≤jF c w∧jF c w≤4:=by
 obtain⟨i,hi,ei⟩:=km w hw;have hg:=List.getElem?_eq_getElem hi;have hG:=hc.good i _ hg;unfold jF;rw [ei,mZ hg];split
 ·exact hG.put
 ·exact hG.off
def dC(c:ae)(ts:List (Bool×Int))(done:List Int)(s:ap):Int:=
 if¬(0≤s.1∧s.1 < ts.length) then 3
 else if s.1∈done then 4
 else if¬(0≤s.2∧s.2 < c.2.1.length) then 3
 else if ji c s.2 (ts[s.1.toNat]?.getD (false,0))=false then 8
 else if¬(∀a∈g8 c ts s.1.toNat,(a:Int)∈done) then 5
 else 0
def qD(c:ae)(ts:List (Bool×Int)):List Int→List ap→Int
 |_,[]=>0
 |done,s::p=>if¬dC c ts done s=0 then dC c ts done s else qD c ts (done++[s.1]) p
def tL(c:ae)(ts:List (Bool×Int))(p:List ap):Int:=if p.length < ts.length then 7 else if ts.length < p.length then 6 else qD c ts [] p
theorem ww{k:Nat}{x a b:Int}:bD k x a b=some (decide (¬(a≤x∧x≤b))):=by
 unfold bD;by_cases h:x < a
 ·rw [if_pos h,bs,decide_eq_true (by omega)]
 ·rw [if_neg h,bs];congr 1;rw [decide_eq_decide];omega
theorem qm{c:ae}{ts:List (Bool×Int)}{a b:Nat}:a∈g8 c ts b↔Ak c ts a b=true:=by
 unfold g8;simp only [List.mem_filter,List.mem_range];refine⟨fun h=>h.2,fun h=>⟨?_,h⟩⟩;unfold Ak at h;cases e1:ts[a]? with
 |none=>rw [e1] at h;simp at h
 |some x=>exact(List.getElem?_eq_some_iff.1 e1).1
def upd(f:Nat→Int)(i:Nat)(v:Int):Nat→Int:=fun j=>if j=i then v else f j
def lJ(ts:List (Bool×Int))(t:Int):Bool×Int:=ts[t.toNat]?.getD (false,0)
def sK(c:ae)(ts:List (Bool×Int))(E F:Nat→Int)(s:ap):Int:=(g8 c ts s.1.toNat).foldl (fun m a=>kD m (E a)) (F s.2.toNat)
def gI(c:ae)(ts:List (Bool×Int))(E F:Nat→Int)(s:ap):Int:=sK c ts E F s+jF c (lJ ts s.1)
def vO(c:ae)(ts:List (Bool×Int)):(Nat→Int)→(Nat→Int)→List ap→List Int
 |_,_,[]=>[]
 |E,F,s::p=>sK c ts E F s::vO c ts (upd E s.1.toNat (gI c ts E F s)) (upd F s.2.toNat (gI c ts E F s)) p
def sQ(c:ae)(ts:List (Bool×Int)):(Nat→Int)→(Nat→Int)→List ap→Nat→Int
 |E,_,[]=>E
 |E,F,s::p=>sQ c ts (upd E s.1.toNat (gI c ts E F s)) (upd F s.2.toNat (gI c ts E F s)) p
def F0(c:ae):Nat→Int:=fun d=>(oK c (d:Int)).2.2
def E0:Nat→Int:=fun _=>0
def qL(l:List Int)(f:Nat→Int)(n:Nat):Prop:=l.length=n∧∀i,i < n→l[i]? =some (f i)
def An(f:Nat→Int)(b:Int):Prop:=∀i,0≤f i∧f i≤b
theorem qL.set{l:List Int}{f:Nat→Int}{n i:Nat}{v:Int}(h:qL l f n):qL (l.set i v) (upd f i v) n:=by
 refine⟨by rw [List.length_set];exact h.1,fun j hj=>?_⟩;rw [List.getElem?_set];unfold upd;by_cases hij:i=j
 ·subst hij;rw [if_pos rfl,if_pos rfl,if_pos (by rw [h.1];exact hj)]
 ·rw [if_neg hij,if_neg (Ne.symm hij)];exact h.2 j hj
theorem qL.get{l:List Int}{f:Nat→Int}{n:Nat}{i:Int}(h:qL l f n)(h0:0≤i)(hi:i < n):aL l i=some (f i.toNat):=qw h0 (h.2 _ (by omega))
theorem An.upd{f:Nat→Int}{b v:Int}{i:Nat}(h:An f b)(hv:0≤v∧v≤b):An (upd f i v) b:=fun j=>by
 unfold Go.Proofs.YtopgphikdglphaaGreat.upd
 split
 ·
  exact hv
 ·
  exact h j
theorem An.mono{f:Nat→Int}{b b':Int}(h:An f b)(hb:b≤b'):An f b':=fun j=>⟨(h j).1,by have:=(h j).2;omega⟩
theorem tz{a b x:Int}:kD a b≤x↔a≤x∧b≤x:=by unfold kD;split <;> omega
theorem KD{a b x:Int}:x≤kD a b↔x≤a∨x≤b:=by unfold kD;split <;> omega
theorem nk{α:Type}{E:α→Int}{x:Int}:∀{l:List α} {m:Int},l.foldl (fun m a=>kD m (E a)) m≤x↔m≤x∧∀a∈l,E a≤x
 |[],m=>by simp
 |a::l,m=>by
  rw [List.foldl_cons,nk,tz]
  simp only [List.mem_cons,forall_eq_or_imp]
  exact and_assoc
theorem su{α:Type}{E:α→Int}{l:List α}{m:Int}:m≤l.foldl (fun m a=>kD m (E a)) m∧∀a∈l,E a≤l.foldl (fun m a=>kD m (E a)) m:=nk.1 (Int.le_refl _)
theorem tW{c:ae}{ts:List (Bool×Int)}{E F:Nat→Int}{s:ap}{b:Int}(hE:An E b)(hF:An F b):0≤sK c ts E F s∧sK c ts E F s≤b:=by
 unfold sK;refine⟨?_,nk.2 ⟨(hF _).2,fun a _=>(hE a).2⟩⟩;have:=(su (E:=E) (l:=g8 c ts s.1.toNat) (m:=F s.2.toNat)).1;have:=(hF s.2.toNat).1;omega
theorem DU{n:Int}{c:ae}(hc:VC n c):An (F0 c) 9:=fun d=>by
 unfold F0 oK
 simp only [Int.toNat_natCast]
 cases h:c.2.1[d]? with
 |none=>simp
 |some x=>
  have:=(hc.dressers x (List.mem_of_getElem? h)).start
  simpa using this
def gZ(c:ae)(ts:List (Bool×Int))(s:ap):Prop:=0≤s.1∧s.1 < ts.length∧0≤s.2∧s.2 < c.2.1.length
theorem kV{c:ae}{ts:List (Bool×Int)}{s:ap}(h:gZ c ts s):lJ ts s.1∈ts:=by
 have hl:s.1.toNat < ts.length:=by have:=h.1;have:=h.2.1;omega
 rw [lJ,List.getElem?_eq_getElem hl];exact List.getElem_mem hl
theorem H7{c:ae}{ts:List (Bool×Int)}{s:ap}(h:gZ c ts s):aL ts s.1=some (lJ ts s.1):=by
 have hl:s.1.toNat < ts.length:=by have:=h.1;have:=h.2.1;omega
 rw [pq h.1 hl,lJ,List.getElem?_eq_getElem hl];rfl
theorem DG{k:Nat}(hk:50≤k){y14:(List Int)×(List Int)×(List Int)×Int}{E:Nat→Int}{l:List Nat}{m:Int}(hE:qL y14.2.1 E 4)(hl:∀a∈l,a < 4)(hn:l.length≤8):
 c7 k y14 (l.map fun(a:Nat)=>(a:Int)) k (m,0)=some (l.foldl (fun m a=>kD m (E a)) m):=by
 have key:=qy (f:=c7 k y14 (l.map fun(a:Nat)=>(a:Int))) l (fun s j=>(s,j)) (fun s _ a=>kD s (E a)) (fun _ _=>True) (fun s=>some s)
  (fun n s j h _=>⟨by
   have hm:j < (l.map fun(a:Nat)=>(a:Int)).length:=by simpa using h
   have ha:=hl l[j] (List.getElem_mem h);have hlt:(j:Int) < ((l.map fun(a:Nat)=>(a:Int)).length:Int):=by omega
   simp only [c7,hlt,if_true,aY hm,bs,List.getElem_map];rw [cO (by omega),bs,hE.get (by omega) (by omega),bs,bK (by omega) (by omega),bs];simp,trivial⟩)
  (fun n s _=>by simp [c7]) (n:=k) (s0:=m) (by omega) trivial
 rw [key.1]
 have:∀(l:List Nat) (j:Nat) (m:Int),qz (fun(s:Int) _ a=>kD s (E a)) j l m=l.foldl (fun m a=>kD m (E a)) m:=by
  intro l
  induction l with
  |nil=>intro j m;rfl
  |cons a l ih=>intro j m;simp only [qz,List.foldl_cons];exact ih _ _
 rw [this]
theorem DJ{k:Nat}(hk:50≤k){q:cS}(h3:q.1.2.1.length≤3):W (dB k q k ([0,0,0],0)) fun r=>r.length=3∧∀i,i < q.1.2.1.length→r[i]? =some (F0 q.1 i):=by
 refine W.loop (f:=dB k q) (fun m y=>∃j:Nat,y.2=(j:Int)∧j≤q.1.2.1.length∧m=q.1.2.1.length - j∧y.1.length=3∧∀i,i < j→y.1[i]? =some (F0 q.1 i)) ?_ q.1.2.1.length k ([0,0,0],0) (by omega) ⟨0,rfl,by omega,by omega,rfl,fun i hi=>by omega⟩;rintro aH m ⟨l,y⟩ ⟨j,hj,hle,hm,hl,hv⟩ ih;simp only at hj hl hv;subst hj;unfold dB;dsimp only;refine W.ite (fun hlt=>?_) (fun hge=>W.ret ⟨hl,fun i hi=>hv i (by omega)⟩);have hlt':j < q.1.2.1.length:=by omega
 rw [aY hlt',bs,cO (by omega),bs,bK (by omega) (by omega),bs];refine ih (m - 1) (_,(j:Int)+1) (by omega) ⟨j+1,by show(j:Int)+1=((j+1:Nat):Int);omega,by omega,by omega,by simpa using hl,fun i hi=>?_⟩;simp only [Int.toNat_natCast,List.getElem?_set];by_cases hij:j=i
 ·subst hij;rw [if_pos rfl,if_pos (by omega)];simp [F0,oK,List.getElem?_eq_getElem hlt']
 ·rw [if_neg hij];exact hv i (by omega)
theorem ED{c:ae}{ts:List (Bool×Int)}{b:Nat}:∀a∈g8 c ts b,a < ts.length:=fun a ha=>by
 unfold g8 at ha
 simpa using (List.mem_filter.1 ha).1
theorem IK{c:ae}{ts:List (Bool×Int)}{b:Nat}:(g8 c ts b).length≤ts.length:=by
 unfold g8;exact Nat.le_trans (List.length_filter_le _ _) (by simp)
theorem NS{D:Nat}{r:List Int}{F:Nat→Int}(hl:r.length=3)(hv:∀i,i < D→r[i]? =some (F i)){d:Nat}{v:Int}(hd:d < 3):(r.set d v).length=3∧∀i,i < D→(r.set d v)[i]? =some (upd F d v i):=by
 refine⟨by rw [List.length_set];exact hl,fun i hi=>?_⟩;rw [List.getElem?_set];unfold upd;by_cases hij:d=i
 ·subst hij;rw [if_pos rfl,if_pos rfl,if_pos (by omega)]
 ·rw [if_neg hij,if_neg (Ne.symm hij)];exact hv i hi
theorem DI{k:Nat}(hk:50≤k){n:Int}{c:ae}{mv:List Bool}{q:cS}(h:QV n c mv q){p:List ap}(hp:p.length≤30)(hs:∀s∈p,gZ c (aI c mv) s){l4:List Int}
 (hl4:l4.length=3∧∀i,i < c.2.1.length→l4[i]? =some (F0 c i)):W (dA k q p k ([],[0,0,0,0],l4,0)) fun r=>r.1=vO c (aI c mv) E0 (F0 c) p∧qL r.2 (sQ c (aI c mv) E0 (F0 c) p) 4:=by
 have ht:=h.t4
 have hdl:=h.vc.dl
 refine W.loop (f:=dA k q p) (fun m y=>∃(j:Nat) (E F:Nat→Int),y.2.2.2=(j:Int)∧j≤p.length∧m=p.length - j∧y.1.length=j∧qL y.2.1 E 4∧(y.2.2.1.length=3∧∀i,i < c.2.1.length→y.2.2.1[i]? =some (F i))∧
  An E (9+4 * j)∧An F (9+4 * j)∧vO c (aI c mv) E0 (F0 c) p=y.1++vO c (aI c mv) E F (p.drop j)∧sQ c (aI c mv) E0 (F0 c) p=sQ c (aI c mv) E F (p.drop j)) ?_ p.length k _ (by omega)
  ⟨0,E0,F0 c,rfl,by omega,by omega,rfl,⟨rfl,fun i hi=>by
   match i,hi with
   |0,_=>rfl
   |1,_=>rfl
   |2,_=>rfl
   |3,_=>rfl⟩,hl4,fun i=>by simp [E0],by simpa using DU h.vc,by simp,by simp⟩
 rintro aH m ⟨out,el,fl,y⟩ ⟨j,E,F,hj,hle,hm,ho,hE,hF,bE,bF,e1,e2⟩ ih
 simp only at hj ho hE hF e1 e2
 subst hj
 unfold dA
 dsimp only
 refine W.ite (fun hlt=>?_) (fun hge=>W.ret (by
  have:j=p.length:=by omega
  subst this;rw [List.drop_length] at e1 e2;rw [e1,e2];exact⟨by simp [vO],hE⟩))
 have hlt':j < p.length:=by omega
 have hdr:p.drop j=p[j]::p.drop (j+1):=List.drop_eq_getElem_cons hlt'
 have hS:=hs p[j] (List.getElem_mem hlt')
 rw [hdr] at e1 e2
 rw [aY hlt',bs]
 generalize p[j]=s at *
 obtain⟨h1,h2,h3,h4⟩:=hS
 have hS:gZ c (aI c mv) s:=⟨h1,h2,h3,h4⟩
 have hb:=rD h.vc (kV hS)
 have hat:=tW (c:=c) (ts:=aI c mv) (s:=s) bE bF
 obtain⟨mk,em,hmk,hmb,hbl⟩:=h.mask (b:=s.1.toNat) (by omega)
 have hF':aL fl s.2=some (F s.2.toNat):=qw h3 (hF.2 _ (by omega))
 have hcq:(((q.1.1,q.1.2.1,q.1.2.2.1,q.1.2.2.2),aI c mv,q.2.2):cS)=q:=by rw [←h.tasks]
 rw [cO (by omega),bs,hF',bs,cO (by omega),bs,qw h1 em,bs,nJ hk hmk,bs,hbl]
 rw [DG hk (y14:=(out,el,fl,(j:Int))) hE (fun a ha=>by have:=ED a ha;omega) (by have:=IK (c:=c) (ts:=aI c mv) (b:=s.1.toNat);omega),bs,h.tasks,H7 hS,bs,hcq,La h (kV hS),bs]
 have hen:sK c (aI c mv) E F s+jF c (lJ (aI c mv) s.1)=gI c (aI c mv) E F s:=rfl
 show W ((((ck (sK c (aI c mv) E F s+jF c (lJ (aI c mv) s.1))).bind _:Option _).bind _)) _
 rw [bK (by omega) (by omega),bs,cO (bH (by simp only [List.length_cons,List.length_nil];omega)),bs,cO (by omega),bs,bs,bs,bK (by omega) (by omega),bs,hen]
 have bV:0≤gI c (aI c mv) E F s∧gI c (aI c mv) E F s≤9+4 * (j+1:Nat):=by unfold gI;omega
 refine ih (m - 1) (_,_,_,(j:Int)+1) (by omega) ⟨j+1,upd E s.1.toNat (gI c (aI c mv) E F s),upd F s.2.toNat (gI c (aI c mv) E F s),by show(j:Int)+1=((j+1:Nat):Int);omega,by omega,by omega,by simp [ho],
  hE.set,NS hF.1 hF.2 (by omega),(bE.mono (by omega)).upd bV,(bF.mono (by omega)).upd bV,?_,e2⟩
 simp only
 rw [e1,vO,List.append_assoc]
 rfl
theorem F6{k:Nat}(hk:50≤k){n:Int}{c:ae}{mv:List Bool}{q:cS}(h:QV n c mv q){p:List ap}(hp:p.length≤30)(hs:∀s∈p,gZ c (aI c mv) s):
 ∃el,dZ k q p=some (vO c (aI c mv) E0 (F0 c) p,el)∧qL el (sQ c (aI c mv) E0 (F0 c) p) 4:=by
 obtain⟨l4,e1,h1⟩:=DJ hk (q:=q) (by rw [h.eq];exact h.vc.dl.2)
 rw [h.eq] at h1
 obtain⟨⟨a,b⟩,e2,h2,h3⟩:=DI hk h hp hs h1
 simp only at h2 h3
 subst h2
 refine⟨b,?_,h3⟩
 unfold dZ
 rw [e1,bs,e2,bs]
theorem nQ{c:ae}{ts:List (Bool×Int)}:∀{p:List ap} {done:List Int},qD c ts done p=0→(∀s∈p,gZ c ts s∧ji c s.2 (lJ ts s.1)=true∧s.1∉done)∧(p.map (·.1)).Nodup
 |[],_,_=>by simp
 |s::p,done,h=>by
  rw [qD] at h
  by_cases h0:dC c ts done s=0
  ·
   rw [if_neg (by simp [h0])] at h
   obtain⟨h1,h2⟩:=nQ h
   unfold dC at h0
   by_cases a1:0≤s.1∧s.1 < ts.length
   ·
    rw [if_neg (by simpa using a1)] at h0
    by_cases a2:s.1∈done
    ·
     rw [if_pos a2] at h0;cases h0
    ·
     rw [if_neg a2] at h0
     by_cases a3:0≤s.2∧s.2 < c.2.1.length
     ·
      rw [if_neg (by simpa using a3)] at h0
      by_cases a4:ji c s.2 (ts[s.1.toNat]?.getD (false,0))=false
      ·
       rw [if_pos a4] at h0;cases h0
      ·
       refine⟨fun x hx=>?_,?_⟩
       ·
        rcases List.mem_cons.1 hx with rfl |hx
        ·
         exact⟨⟨a1.1,a1.2,a3.1,a3.2⟩,by simpa [lJ] using a4,a2⟩
        ·
         obtain⟨b1,b2,b3⟩:=h1 x hx
         exact⟨b1,b2,fun hd=>b3 (List.mem_append_left _ hd)⟩
       ·
        simp only [List.map_cons,List.nodup_cons,List.mem_map]
        refine⟨?_,h2⟩
        rintro⟨x,hx,e⟩
        exact(h1 x hx).2.2 (by rw [e];simp)
     ·
      rw [if_pos (by simpa using a3)] at h0;cases h0
   ·
    rw [if_pos (by simpa using a1)] at h0;cases h0
  ·
   rw [if_pos h0] at h
   exact absurd h h0
theorem qC{c:ae}{ts:List (Bool×Int)}{p:List ap}(h:tL c ts p=0):p.length=ts.length∧qD c ts [] p=0:=by
 unfold tL at h;by_cases h1:p.length < ts.length
 ·rw [if_pos h1] at h;cases h
 ·rw [if_neg h1] at h;by_cases h2:ts.length < p.length
  ·rw [if_pos h2] at h;cases h
  ·rw [if_neg h2] at h;exact⟨by omega,h⟩
end Go.Proofs.YtopgphikdglphaaGreat
