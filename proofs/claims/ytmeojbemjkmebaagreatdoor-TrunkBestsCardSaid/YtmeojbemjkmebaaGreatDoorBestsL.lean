import Derived.Test.YtmeojbemjkmebaaGreatDoorRDB13
set_option linter.unusedSimpArgs false
set_option linter.unusedVariables false
namespace Go.Proofs.YtmeojbemjkmebaaGreatDoor
open K Go Go.Proofs
section
variable {k:Nat}{t:aW}
def oU(f:List (List Int)→Nat)(pre:List (List (List Int))):(List (List Int))×Int×Int:=match pre.foldl (lx f) none with
 |none=>([],0,0)
 |some (x,n)=>(x,(n:Int),(pre.countP fun q=>decide (f q=n):Nat))
theorem Gm(h:mE k t)(g:jk t){r:List (List (List Int))}(hr:r.length < k)(hg:∀q∈r,eK t q):gV k t r k ([],0,0,0)=some (oU (dI t) r):=by
 have hk1:=h.k1;have h6:=g.days
 have hb:=W.loop (f:=gV k t r) (Q:=fun o=>o=oU (dI t) r) (fun m y=>∃j:Nat,y.2.2.2=(j:Int)∧j≤r.length∧m=r.length - j∧(y.1,y.2.1,y.2.2.1)=oU (dI t) (r.take j)) (by
  rintro aS m ⟨a,b,c,y⟩ ⟨j,hj,hle,hm,ho⟩ ih;simp only at hj ho;subst hj;unfold gV;dsimp only;refine W.ite (fun hlt=>?_) (fun hge=>W.ret ?_)
  ·have hj:j < r.length:=by omega
   have hgj:=hg _ (List.getElem_mem hj);have hlf:lM k t r[j] 0=some (dI t r[j]:Int):=by rw [FP h hgj (by omega),Int.sub_zero];rfl
   rw [cD hj,bs,hlf,bs];have hbest:=EC (f:=dI t) (r.take j);have e1:r.take (j+1)=r.take j++[r[j]]:=by rw [List.take_add_one,List.getElem?_eq_getElem hj];rfl
   have next:∀z:(List (List Int))×Int×Int,z=oU (dI t) (r.take (j+1))→W ((ck ((j:Int)+1)).bind fun x18=>gV k t r aS (z.1,z.2.1,z.2.2,x18)) fun o=>o=oU (dI t) r:=fun z hz=>by
    rw [bh (by omega) (by omega),bs];exact ih (m - 1) (_,_,_,(j:Int)+1) (by omega) ⟨j+1,by show(j:Int)+1=((j+1:Nat):Int);omega,by omega,by omega,hz⟩
   rw [oU] at ho;cases ef:(r.take j).foldl (lx (dI t)) none with
   |none=>
    rw [ef] at ho hbest;have hnil:r.take j=[]:=hbest;simp only [Prod.mk.injEq] at ho;obtain⟨rfl,rfl,rfl⟩:=ho;rw [if_pos rfl,bs,iT,bs,bs];dsimp only;rw [if_pos rfl,bh (by omega) (by omega),bs,bs];refine next (r[j],(dI t r[j]:Int),0+1) ?_;rw [e1,hnil,oU];simp [lx]
   |some q=>
    obtain⟨x,n⟩:=q;rw [ef] at ho hbest;simp only [Prod.mk.injEq] at ho;obtain⟨rfl,rfl,rfl⟩:=ho;obtain⟨b1,b2,p,s,b3,_⟩:=hbest;have hc:0 < (r.take j).countP fun q=>decide (dI t q=n):=List.countP_pos_iff.2 ⟨a,by rw [b3];simp,decide_eq_true b1.symm⟩;have hcl:=List.countP_le_length (p:=fun q=>decide (dI t q=n)) (l:=r.take j);rw [List.length_take] at hcl
    have hz:∀m,m < n→((r.take j).countP fun q=>decide (dI t q=m))=0:=fun m hm=>by
     rw [List.countP_eq_zero];intro q hq;have:=b2 q hq;simp only [decide_eq_true_eq];omega
    rw [if_neg (show¬(((r.take j).countP fun q=>decide (dI t q=n):Nat):Int)=0 by omega),bs];by_cases c1:dI t r[j] < n
    ·rw [decide_eq_true (Int.ofNat_lt.2 c1),iT,bs,bs];dsimp only;rw [if_pos rfl,bh (by omega) (by omega),bs,bs];refine next (r[j],(dI t r[j]:Int),0+1) ?_;rw [e1,oU,List.foldl_append,ef];simp only [List.foldl_cons,List.foldl_nil,lx,c1,if_true,List.countP_append,hz _ c1];simp
    ·rw [decide_eq_false (fun h=>c1 (Int.ofNat_lt.1 h)),iF,bs];dsimp only;by_cases c2:dI t r[j]=n
     ·rw [if_pos (by omega),bh (by omega) (by omega),bs,bs];refine next (a,(n:Int),_) ?_;rw [e1,oU,List.foldl_append,ef];simp only [List.foldl_cons,List.foldl_nil,lx,c1,if_false,List.countP_append];simp [c2]
     ·rw [if_neg (by omega),bs];refine next (a,(n:Int),_) ?_;rw [e1,oU,List.foldl_append,ef];simp only [List.foldl_cons,List.foldl_nil,lx,c1,if_false,List.countP_append];simp [c2]
  ·rw [List.take_of_length_le (by omega)] at ho;exact ho) r.length k ([],0,0,0) hr ⟨0,rfl,by omega,by omega,rfl⟩
 obtain⟨o,eo,h⟩:=hb;rw [eo,h]
theorem Bc(h:mE k t)(hk:3000≤k)(g:jk t):nE k t=some (oU (dI t) (nb t)):=by
 have h3:=g.trunks;have hl:=Bg g;have hall:(nb t).filter (zF ((List.range t.2.2.length).map fun(i:Nat)=>(i:Int)))=nb t:=List.filter_eq_self.2 fun q hq=>Kq (nS g hq).len;unfold nE;rw [F6 h.k0 (by omega),bs,MQ h g (by rw [List.length_map,List.length_range];omega),bs,hall,Gm h g (by omega) (fun q hq=>nS g hq),bs]
theorem xj:oU (dI t) (nb t)=match rc t with |none=>([],0,0) |some (x,n)=>(x,(n:Int),((nb t).countP fun q=>decide (dI t q=n):Nat)):=rfl
theorem wo{x:List (List Int)}{n:Nat}(e:rc t=some (x,n)):x∈nb t∧0 < (nb t).countP fun q=>decide (dI t q=n):=by
 have hb:=Bd (t:=t);rw [e] at hb;obtain⟨b1,_,p,s,b3,_⟩:=hb;have hx:x∈nb t:=by rw [b3];simp
 exact⟨hx,List.countP_pos_iff.2 ⟨x,hx,decide_eq_true b1.symm⟩⟩
theorem GK(hk:3000≤k)(hs:eS k t):∃r,iL k t=some r∧nH k t=some r∧uh k r.1:=by
 have hk50:50≤k:=by omega
 by_cases c:jp t=0
 ·have g:=oD c;have h:mE k t:=⟨hk50,hs.k1,by have:=g.things;omega,hs.worn⟩;refine⟨_,EZ h hs hk c,?_,?_⟩
  ·unfold nH;rw [qI hs,bs,if_neg (not_not_intro c),Bc h hk g,bs,xj];cases e:rc t with
   |none=>rfl
   |some b=>
    obtain⟨x,n⟩:=b;have:=(wo e).2;dsimp only;rw [if_neg (by omega)]
  ·cases e:rc t with
   |none=>exact .nil hk50
   |some b=>obtain⟨x,n⟩:=b;exact(nS g (wo e).1).short hk50
 ·refine⟨([],0,jp t),?_,?_,.nil hk50⟩
  ·unfold iL;rw [qH hs,bs,if_pos c]
  ·unfold nH;rw [qI hs,bs,if_pos c]
theorem DG(hk:3000≤k)(hs:eS k t):∃r,jO k t=some r∧lN k t=some r:=by
 have hk50:50≤k:=by omega
 by_cases c:jp t=0
 ·have g:=oD c;have h:mE k t:=⟨hk50,hs.k1,by have:=g.things;omega,hs.worn⟩;refine⟨_,JX h hs hk c,?_⟩;unfold lN;rw [qI hs,bs,if_neg (not_not_intro c),Bc h hk g,bs,xj];cases e:rc t with
  |none=>rfl
  |some b=>
   obtain⟨x,n⟩:=b;have:=(wo e).2;dsimp only;rw [if_neg (by omega)]
 ·refine⟨(0,jp t),?_,?_⟩
  ·unfold jO iL;rw [qH hs,bs,if_pos c,bs,if_pos c]
  ·unfold lN;rw [qI hs,bs,if_pos c]
theorem Dv(hk:3000≤k)(hk1:k≤1000000){r9:(List aP)×(List (List (List Int)))×bV}(h:PG k r9.1 r9.2.1):di k r9 k 0=some (.ok ()):=by
 have hk50:50≤k:=by omega
 have hb:=W.loop (f:=di k r9) (Q:=fun o=>o= .ok ()) (fun q y=>∃j:Nat,y=(j:Int)∧j≤4∧q=4 - j) (by
  rintro aS q y ⟨j,hj,hle,hq⟩ ih;subst hj;unfold di;rw [h.l1];refine W.ite (fun hlt=>?_) (fun hge=>W.ret rfl)
  have next:W ((ck ((j:Int)+1)).bind fun x35=>di k r9 aS x35) fun o=>o= .ok ():=by
   rw [bh (by omega) (by omega),bs];exact ih (q - 1) _ (by omega) ⟨j+1,by omega,by omega,by omega⟩
  by_cases c:(j:Int)=2
  ·rw [if_pos c,bs,iT,mJ];exact next
  ·obtain⟨t,p,e1,_,hs⟩:=h.at_ j (by omega);obtain⟨b,eb,_⟩:=DL (t:=t) hk50;rw [if_neg c,e1,bs,eb,bs,bs];cases b with
   |true=>rw [iT,mJ];exact next
   |false=>
    obtain⟨r,f1,f2,f3⟩:=GK hk hs.hs;obtain⟨o,g1,g2⟩:=DG hk hs.hs;rw [iF,bs,uE hs.hs,bs,show iL k (t.1,t.2.1,t.2.2)=some r from f1,bs,bs,f2,bs,show jO k (t.1,t.2.1,t.2.2)=some o from g1,bs,bs,g2,bs,if_neg (not_not_intro rfl),if_neg (not_not_intro rfl),if_neg (not_not_intro rfl),if_neg (not_not_intro rfl),yp f3 hk1,bs,nT,bs,show iu k (t.1,t.2.1,t.2.2) t=some true from yo hs.hs,bs,bs,Bool.not_true,iF,mJ];exact next) 4 k 0 (by omega) ⟨0,rfl,by omega,by omega⟩
 obtain⟨o,eo,rfl⟩:=hb;exact eo
theorem uI(hk:3000≤k)(hk1:k≤1000000)(hp:kC k=some true)(a0:aP)(a1:gf)(a2:List Int):kf k a0 a1 a2=some true:=by
 have hk50:50≤k:=by omega
 unfold kf;obtain⟨b,eb,hb⟩:=FV (t:=a0) (x:=a1) hk50;rw [eb,bs];cases b with
 |true=>rw [iT,hp,bs]
 |false=>
  obtain⟨g1,g4⟩:=hb rfl;obtain⟨r,er,h1,h2⟩:=Cb hk50 hk1 (g1.small hk50 hk1) (p:=[]) (by simp) (fun l h=>by cases h) g4 (UV (a:=a2)) (by omega);rw [iF,show mW k a2=some (a2,0,1) from rfl,bs,er,bs,Dv hk hk1 h1,mJ,hp,bs]
end
end Go.Proofs.YtmeojbemjkmebaaGreatDoor
