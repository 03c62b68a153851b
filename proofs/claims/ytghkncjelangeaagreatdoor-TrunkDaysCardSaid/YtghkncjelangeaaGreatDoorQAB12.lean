import Derived.Test.YtghkncjelangeaaGreatDoorQAB11
set_option linter.unusedVariables false
set_option linter.unusedSimpArgs false
namespace Go.Proofs.YtghkncjelangeaaGreatDoor
open K Go Go.Proofs
structure gx(k:Nat)(t:bY)(p:List (List Int)):Prop where
 k0:50≤k
 hs:gw k t
 hp:p.length < k
 hl:∀l∈p,l.length < k
section
variable {k:Nat}{t:bY}{p:List (List Int)}
theorem gx.dayT(h:gx k t p)(c:lh t=0):yy k t:=⟨h.k0,h.hs.k1,by have:=(ul c).things;omega,h.hs.worn⟩
theorem gx.at(h:gx k t p)(c:hH t p=0):At k t p:=⟨h.hs,h.dayT (Dp c),c⟩
theorem gx.trk(h:gx k t p):cu k t p=some (hH t p):=qW h.hs (by have:=h.k0;omega) h.hl
theorem gx.ref(h:gx k t p):dP k t p=some (hH t p):=Cd h.hs h.k0 h.hl
theorem gx.asked(h:gx k t p)(b:Bool):jC k t p b=some (if hH t p=0 then if b=true then 0 else 3 else hH t p):=by
 unfold jC;rw [h.ref,bs];by_cases c:hH t p=0
 ·rw [if_neg (not_not_intro c),if_pos c];cases b <;> rfl
 ·rw [if_pos c,if_neg c]
theorem gx.askedT(h:gx k t p)(c:hH t p=0):jC k t p true=some 0:=by rw [h.asked,if_pos c];rfl
theorem gx.askedF(h:gx k t p)(c:hH t p=0):jC k t p false=some 3:=by rw [h.asked,if_pos c];rfl
theorem gx.askedE(h:gx k t p)(c:¬hH t p=0)(b:Bool):jC k t p b=some (hH t p):=by rw [h.asked,if_neg c]
theorem BM{d:Int}:(pQ t p d).length≤t.2.1.length:=by
 unfold pQ;rw [List.length_map];refine Nat.le_trans (List.length_filter_le _ _) ?_;rw [List.length_range];omega
theorem NF{m:Nat}{L:Nat→Bool}{j:Nat}(h:j < m):aR (hP (List.replicate m 0) L) (j:Int)=some (if L j then 1 else 0):=by
 rw [cd (by rw [pq,List.length_replicate];exact h)];simp only [hP,List.getElem_mapIdx,List.getElem_replicate];split <;> rfl
theorem IN{r:(List Int)×(List (List Int))}{d:Int}(hr:r.1=hP (List.replicate t.2.1.length 0) (oq t p d))(h8:t.2.1.length≤8)(hk:50≤k):jv k r k ([],0)=some (pQ t p d):=by
 have hlen:r.1.length=t.2.1.length:=by rw [hr,pq,List.length_replicate]
 have hb:=W.loop (f:=jv k r) (Q:=fun z=>z=pQ t p d) (fun qq z=>∃j:Nat,z.2=(j:Int)∧j≤r.1.length∧qq=r.1.length - j∧z.1=((List.range j).filter (oq t p d)).map fun(i:Nat)=>(i:Int)) (by
  rintro aW qq ⟨c,z⟩ ⟨j,hj,hle,hq,hc⟩ ih;simp only at hj hc;subst hj hc;unfold jv;dsimp only;refine W.ite (fun hlt=>?_) (fun hge=>W.ret ?_)
  ·have hj:j < r.1.length:=by omega
   have hg:aR r.1 (j:Int)=some (if oq t p d j then 1 else 0):=by rw [hr];exact NF (by omega)
   have hl:=List.length_filter_le (oq t p d) (List.range j);rw [List.length_range] at hl
   have es:((List.range (j+1)).filter (oq t p d)).map (fun(i:Nat)=>(i:Int))=((List.range j).filter (oq t p d)).map (fun(i:Nat)=>(i:Int))++(if oq t p d j then [(j:Int)] else []):=by
    rw [List.range_succ,List.filter_append,List.map_append];congr 1;cases c:oq t p d j <;> simp [c]
   rw [hg,bs];cases c:oq t p d j with
   |true=>
    rw [iT,if_pos (by decide),cJ (yB (n:=100) (by rw [List.length_map];omega) (by omega)),bs,bs,bC (by omega) (by omega),bs];refine ih (qq - 1) (_,(j:Int)+1) (by omega) ⟨j+1,by show(j:Int)+1=((j+1:Nat):Int);omega,by omega,by omega,?_⟩;rw [es,c];rfl
   |false=>
    rw [iF,if_neg (by decide),bs,bC (by omega) (by omega),bs];refine ih (qq - 1) (_,(j:Int)+1) (by omega) ⟨j+1,by show(j:Int)+1=((j+1:Nat):Int);omega,by omega,by omega,?_⟩;rw [es,c];simp
  ·have:j=t.2.1.length:=by omega
   subst this;rfl) r.1.length k ([],0) (by omega) ⟨0,rfl,by omega,by omega,rfl⟩
 obtain⟨o,eo,h⟩:=hb;rw [eo,h]
def tG(k:Nat)(q:List (List Int)):Prop:=q.length < k∧∀l∈q,l.length < k
theorem jk.short(hk:50≤k)(h:jk t p):tG k p:=⟨by have:=h.fit.len;omega,fun l hl=>by have:=(h.fit.fit l hl).1;omega⟩
theorem tG.nil(hk:50≤k):tG k []:=⟨by show 0 < k;omega,fun _ h=>by cases h⟩
theorem IM(h:gx k t p)(d:Int):∃r,lr k t p d=some r∧nL k t p d=some r∧r.1.length < k∧tG k r.2.1:=by
 have hk:=h.k0;by_cases c:hH t p=0
 ·have g:=rT c;have h6:=g.g.days;have a:=h.at c;have ew:IntKind.i64.wrap (t.1 - 1)=t.1 - 1:=pX (bC (by omega) (by omega));by_cases hd:0≤d∧d≤t.1 - 1
  ·refine⟨_,NU a.dayT h.hs c (by omega),?_,?_,?_⟩
   ·unfold nL;rw [ew,jK,bs,decide_eq_true hd,h.askedT c,bs,if_neg (not_not_intro rfl),bC (by omega) (by omega),bs,IL a.dayT g (d:=d) (n:=1) (by omega) (by omega) (by omega),bs];rw [IN (t:=t) (p:=p) (d:=d) (by show sT t d p 1=_;rw [sT,sT,aftD,Int.natCast_zero,Int.add_zero]) a.dayT.things hk,bs];show some (_,aftD t d p 1,(0:Int))=_;rw [aftD,aftD,Int.natCast_zero,Int.add_zero];rfl
   ·show(pQ t p d).length < k;have:=BM (t:=t) (p:=p) (d:=d);have:=a.dayT.things;omega
   ·exact g.next.short hk
  ·refine⟨([],[],3),?_,?_,by show 0 < k;omega,.nil hk⟩
   ·unfold lr;rw [h.trk,bs,if_neg (not_not_intro c),bC (by omega) (by omega),bs,kg,bs,decide_eq_false hd,nF]
   ·unfold nL;rw [ew,jK,bs,decide_eq_false hd,h.askedF c,bs,if_pos (by decide)]
 ·refine⟨([],[],hH t p),?_,?_,by show 0 < k;omega,.nil hk⟩
  ·unfold lr;rw [h.trk,bs,if_pos c]
  ·unfold nL;rw [jK,bs,h.askedE c,bs,if_pos c]
end
section
variable {k:Nat}{t:bY}{p:List (List Int)}
theorem mJ{l:List Int}(h:l.length≤1000000):dX k l=some l:=by
 unfold dX;rw [cJ (Lp (by simp only [List.length_nil];omega)),bs];rfl
theorem tX(h:gw k t):iN k t=some t:=by
 have hk1:=h.k1;have h1:=h.things;have h2:=h.trunks;unfold iN;rw [mJ (by omega),bs]
 have hb:=W.loop (f:=fL k t) (Q:=fun o=>o=t.2.1) (fun m y=>∃j:Nat,y.2=(j:Int)∧j≤t.2.1.length∧m=t.2.1.length - j∧y.1=t.2.1.take j) (by
  rintro aW m ⟨o,y⟩ ⟨j,hj,hle,hm,ho⟩ ih;simp only at hj ho;subst hj ho;unfold fL;dsimp only;refine W.ite (fun hlt=>?_) (fun hge=>W.ret ?_)
  ·have hj:j < t.2.1.length:=by omega
   rw [cd hj,bs,bs,mJ (by have:=h.worn _ (List.getElem_mem hj);omega),bs,cJ (Lp (by simp only [List.length_take,List.length_cons,List.length_nil];omega)),bs,bC (by omega) (by omega),bs];refine ih (m - 1) (_,(j:Int)+1) (by omega) ⟨j+1,by show(j:Int)+1=((j+1:Nat):Int);omega,by omega,by omega,?_⟩;rw [List.take_add_one,List.getElem?_eq_getElem hj];rfl
  ·rw [List.take_of_length_le (by omega)]) t.2.1.length k ([],0) h1 ⟨0,rfl,by omega,by omega,by simp⟩
 obtain⟨o,eo,rfl⟩:=hb;rw [eo,bs]
theorem Ib: @jf= @iN:=by kernel_rfl
theorem yj(h:gw k t):jf k t=some t:=by rw [Ib];exact tX h
theorem rZ(h:tG k p)(hk1:k≤1000000):ff k p=some p:=by
 have h1:=h.1;unfold ff
 have hb:=W.loop (f:=dt k p) (Q:=fun o=>o=p) (fun q y=>∃j:Nat,y.2=(j:Int)∧j≤p.length∧q=p.length - j∧y.1=p.take j) (by
  rintro aW q ⟨o,y⟩ ⟨j,hj,hle,hq,ho⟩ ih;simp only at hj ho;subst hj ho;unfold dt;dsimp only;refine W.ite (fun hlt=>?_) (fun hge=>W.ret ?_)
  ·have hj:j < p.length:=by omega
   rw [cd hj,bs,mJ (by have:=h.2 _ (List.getElem_mem hj);omega),bs,cJ (Lp (by simp only [List.length_take,List.length_cons,List.length_nil];omega)),bs,bC (by omega) (by omega),bs];refine ih (q - 1) (_,(j:Int)+1) (by omega) ⟨j+1,by show(j:Int)+1=((j+1:Nat):Int);omega,by omega,by omega,?_⟩;rw [List.take_add_one,List.getElem?_eq_getElem hj];rfl
  ·rw [List.take_of_length_le (by omega)]) p.length k ([],0) h.1 ⟨0,rfl,by omega,by omega,by simp⟩
 obtain⟨o,eo,rfl⟩:=hb;rw [eo,bs]
theorem mB{l:List Int}(h:l.length < k)(hk1:k≤1000000):dE k l l=some true:=by rw [za h (by omega)];simp
theorem rz(h:tG k p)(hk1:k≤1000000):eZ k p p=some true:=by
 unfold eZ;rw [if_neg (by simp)];have h1:=h.1
 have hb:=W.loop (f:=fk k p p) (Q:=fun o=>o= .ok ()) (fun q y=>∃j:Nat,y=(j:Int)∧j≤p.length∧q=p.length - j) (by
  rintro aW q y ⟨j,hj,hle,hq⟩ ih;subst hj;unfold fk;refine W.ite (fun hlt=>?_) (fun hge=>W.ret rfl);have hj:j < p.length:=by omega
  rw [cd hj,bs,bs,mB (h.2 _ (List.getElem_mem hj)) hk1,bs,nT,bC (by omega) (by omega),bs];exact ih (q - 1) _ (by omega) ⟨j+1,by omega,by omega,by omega⟩) p.length k 0 h.1 ⟨0,rfl,by omega,by omega⟩
 obtain⟨o,eo,rfl⟩:=hb;rw [eo,oy]
theorem xC(h:gw k t):jd k t t=some true:=by
 have hk1:=h.k1;have h1:=h.things;unfold jd;rw [if_neg (by simp),if_neg (by simp),mB h.trunks hk1,bs,bs,Bool.not_true,iF]
 have hb:=W.loop (f:=fj k t t) (Q:=fun o=>o= .ok ()) (fun q y=>∃j:Nat,y=(j:Int)∧j≤t.2.1.length∧q=t.2.1.length - j) (by
  rintro aW q y ⟨j,hj,hle,hq⟩ ih;subst hj;unfold fj;refine W.ite (fun hlt=>?_) (fun hge=>W.ret rfl);have hj:j < t.2.1.length:=by omega
  rw [cd hj,bs,bs,if_neg (not_not_intro rfl),bs,bs,mB (h.worn _ (List.getElem_mem hj)) hk1,bs,bs,Bool.not_true,iF,bC (by omega) (by omega),bs];exact ih (q - 1) _ (by omega) ⟨j+1,by omega,by omega,by omega⟩) t.2.1.length k 0 h.things ⟨0,rfl,by omega,by omega⟩
 obtain⟨o,eo,rfl⟩:=hb;rw [eo,oy]
structure Dy(t:bY):Prop where
 things:t.2.1.length≤20
 trunks:t.2.2.length≤20
 worn:∀x∈t.2.1,x.2.length≤20
 few:¬(t.2.1.length=5∧t.2.2.length=3)
theorem Dy.small(h:Dy t)(hk:50≤k)(hk1:k≤1000000):gw k t:=⟨hk1,by have:=h.things;omega,fun x hx=>by have:=h.worn x hx;omega,by have:=h.trunks;omega⟩
theorem I5(hk:50≤k):W (ni k t) fun b=>b=false→Dy t:=by
 unfold ni;by_cases c1:(20:Int) < (t.2.1.length:Int)
 ·rw [if_pos c1,bs,iT];exact W.ret fun h=>by cases h
 ·rw [if_neg c1,bs];by_cases c2:(20:Int) < (t.2.2.length:Int)
  ·rw [decide_eq_true c2,iT];exact W.ret fun h=>by cases h
  ·rw [decide_eq_false c2,iF]
   have hb:=W.loop (f:=jG k t) (Q:=fun o=>o= .error true∨(o= .ok ()∧∀x∈t.2.1,x.2.length≤20)) (fun q y=>∃j:Nat,y=(j:Int)∧j≤t.2.1.length∧q=t.2.1.length - j∧∀i (h:i < t.2.1.length),i < j→(t.2.1[i]).2.length≤20) (by
    rintro aW q y ⟨j,hj,hle,hq,ha⟩ ih;subst hj;unfold jG;refine W.ite (fun hlt=>?_) (fun hge=>W.ret (.inr ⟨rfl,fun x hx=>?_⟩))
    ·have hj:j < t.2.1.length:=by omega
     rw [cd hj,bs];refine W.ite (fun hc=>W.ret (.inl rfl)) (fun hc=>?_);rw [bC (by omega) (by omega),bs];refine ih (q - 1) _ (by omega) ⟨j+1,by omega,by omega,by omega,fun i hi hij=>?_⟩;by_cases e:i=j
     ·subst e;omega
     ·exact ha i hi (by omega)
    ·obtain⟨i,hi,rfl⟩:=List.getElem_of_mem hx;exact ha i hi (by omega)) t.2.1.length k 0 (show t.2.1.length < k by omega) ⟨0,rfl,by omega,by omega,fun i _ h=>by omega⟩
   refine W.bEE hb (fun e he=>?_) (fun u hu=>?_)
   ·rcases he with he |he
    ·cases he;exact W.ret fun h=>by cases h
    ·cases he.1
   ·rcases hu with hu |hu
    ·cases hu
    ·by_cases c3:(t.2.1.length:Int)=5
     ·rw [if_pos c3,bs];exact W.ret fun h=>⟨by omega,by omega,hu.2,fun hh=>of_decide_eq_false h (by omega)⟩
     ·rw [if_neg c3,bs];exact W.ret fun h=>⟨by omega,by omega,hu.2,fun hh=>by omega⟩
theorem I2(hk:50≤k):W (nh k p) fun b=>b=false→p.length≤20∧∀l∈p,l.length≤20:=by
 unfold nh
 have hb:=W.loop (f:=jF k p) (Q:=fun o=>o= .error true∨(o= .ok ()∧(p.length≤20→∀x∈p,x.length≤20))) (fun q y=>∃j:Nat,y=(j:Int)∧j≤p.length∧j≤20∧q=20 - j∧∀i (h:i < p.length),i < j→(p[i]).length≤20) (by
  rintro aW q y ⟨j,hj,hle,h20,hq,ha⟩ ih;subst hj;unfold jF;by_cases c1:(j:Int) < (p.length:Int)
  ·rw [if_pos c1,bs];by_cases c2:(j:Int) < 20
   ·have hj:j < p.length:=by omega
    rw [decide_eq_true c2,iT,cd hj,bs];refine W.ite (fun hc=>W.ret (.inl rfl)) (fun hc=>?_);rw [bC (by omega) (by omega),bs];refine ih (q - 1) _ (by omega) ⟨j+1,by omega,by omega,by omega,by omega,fun i hi hij=>?_⟩;by_cases e:i=j
    ·subst e;omega
    ·exact ha i hi (by omega)
   ·rw [decide_eq_false c2,iF];refine W.ret (.inr ⟨rfl,fun h=>by omega⟩)
  ·rw [if_neg c1,bs,iF];refine W.ret (.inr ⟨rfl,fun _ x hx=>?_⟩);obtain⟨i,hi,rfl⟩:=List.getElem_of_mem hx;exact ha i hi (by omega)) 20 k 0 (by omega) ⟨0,rfl,by omega,by omega,by omega,fun i _ h=>by omega⟩
 refine W.bEE hb (fun e he=>?_) (fun u hu=>?_)
 ·rcases he with he |he
  ·cases he;exact W.ret fun h=>by cases h
  ·cases he.1
 ·rcases hu with hu |hu
  ·cases hu
  ·exact W.ret fun h=>⟨by have:=of_decide_eq_false h;omega,hu.2 (by have:=of_decide_eq_false h;omega)⟩
theorem HE(hk:50≤k){x:eF}:W (((ni k t).bind fun r5=>if r5=true then(some true) else((nh k p).bind fun r6=>if r6=true then(some true) else(some (decide ((20:Int) < (x.2.length:Int)))))):Option Bool) fun b=>b=false→Dy t∧(p.length≤20∧∀l∈p,l.length≤20)∧x.2.length≤20:=by
 obtain⟨b,eb,hb⟩:=I5 (t:=t) hk;rw [eb,bs];cases b with
 |true=>rw [iT];exact W.ret fun h=>by cases h
 |false=>
  rw [iF];obtain⟨c,ec,hc⟩:=I2 (p:=p) hk;rw [ec,bs];cases c with
  |true=>rw [iT];exact W.ret fun h=>by cases h
  |false=>rw [iF];exact W.ret fun h=>⟨hb rfl,hc rfl,by have:=of_decide_eq_false h;omega⟩
structure N8(k:Nat)(ts:List bY)(ps:List (List (List Int))):Prop where
 l1:ts.length=4
 l2:ps.length=4
 at_:∀j:Nat,j < 4→∃t p,aR ts (j:Int)=some t∧aR ps (j:Int)=some p∧gx k t p
theorem N8.of{a b c d:bY}{p q r s:List (List Int)}(h0:gx k a p)(h1:gx k b q)(h2:gx k c r)(h3:gx k d s):N8 k [a,b,c,d] [p,q,r,s]:=
 ⟨rfl,rfl,fun j hj=>by
  match j,hj with
  |0,_=>exact⟨_,_,rfl,rfl,h0⟩
  |1,_=>exact⟨_,_,rfl,rfl,h1⟩
  |2,_=>exact⟨_,_,rfl,rfl,h2⟩
  |3,_=>exact⟨_,_,rfl,rfl,h3⟩⟩
theorem AG.small{a b:Int}(h:AG t a b)(ha:a≤8)(hb:b≤8)(hk:50≤k)(hk1:k≤1000000):gw k t:=
 ⟨hk1,by have:=h.things;omega,fun x hx=>by have:=(h.item x hx).2.2.1;omega,by have:=h.trunks;omega⟩
theorem gx.of(hk:50≤k)(hs:gw k t)(hp:p.length≤20)(hl:∀l∈p,l.length≤20):gx k t p:=⟨hk,hs,by omega,fun l h=>by have:=hl l h;omega⟩
theorem A7(hk:50≤k)(hk1:k≤1000000){x:eF}(ht:gw k t)(hp:p.length≤20)(hl:∀l∈p,l.length≤20)(hx:x.2.length≤20){l:bS}{m:Int}(hlo:Lo l m)(hm:0≤m∧m≤10):
 W (kT k t x p l) fun r=>N8 k r.1 r.2.1∧Lo r.2.2 (m+200):=by
 unfold kT
 obtain⟨r3,e3,hT,hl3⟩:=I9 hk hlo (by omega) (a:=4) (b:=3) (by omega) (by omega)
 have hT3:=hT.things
 have hTt:=hT.trunks
 have hs3:=hT.small (k:=k) (by omega) (by omega) hk hk1
 rw [show kw k (l.1,l.2.1,l.2.2) (4:Int) 3=some r3 from e3,bs,tX hs3,bs,mJ (by omega),bs,cJ (yB (n:=100) (by omega) (by omega)),bs]
 obtain⟨r12,e12,h1,h2,h3⟩:=uV hk hT (by omega) (by omega) hl3 (by omega)
 rw [show fa k (r3.2.1,r3.2.2.1,r3.2.2.2) r3.1=some r12 from e12,bs]
 obtain⟨r13,e13,g1,g2,g3⟩:=uV hk hT (by omega) (by omega) h3 (by omega)
 rw [show fa k (r12.2.1,r12.2.2.1,r12.2.2.2) r3.1=some r13 from e13,bs,bC (by omega) (by omega),bs]
 have hsO:∀T:List Int,T.length=r3.1.2.2.length→gw k (r3.1.1,r3.1.2.1++[(x.1,x.2)],T):=fun T hT'=>⟨hk1,by show(r3.1.2.1++[(x.1,x.2)]).length < k;rw [List.length_append];simp only [List.length_cons,List.length_nil];omega,fun y hy=>by
  rcases List.mem_append.1 hy with hy |hy
  ·exact hs3.worn y hy
  ·rw [List.mem_singleton] at hy;subst hy;show x.2.length < k;omega,by show T.length < k;omega⟩
 have s0:gx k t p:=.of hk ht hp hl
 have s1:gx k r3.1 r12.1:=.of hk hs3 (by omega) (fun l h=>by have:=h2 l h;omega)
 have s2:gx k r3.1 p:=.of hk hs3 hp hl
 by_cases c:(r3.1.2.2.length:Int) < 3
 ·
  have hi:((r3.1.2.2.length:Int) - 1).toNat=r3.1.2.2.length - 1:=by omega
  have hr:r3.1.2.2.length - 1 < r3.1.2.2.length:=by omega
  have hroom:=hT.rooms _ (List.getElem_mem hr);have hg:aR r3.1.2.2 ((r3.1.2.2.length:Int) - 1)=some r3.1.2.2[r3.1.2.2.length - 1]:=vr (by omega) (by rw [hi];exact List.getElem?_eq_getElem hr);have hr':r3.1.2.2.length - 1 < r13.1.length:=by omega
  have hg':aR r13.1 ((r3.1.2.2.length:Int) - 1)=some r13.1[r3.1.2.2.length - 1]:=vr (by omega) (by rw [hi];exact List.getElem?_eq_getElem hr');have hb:=g2 _ (List.getElem_mem hr');rw [if_pos c,hg,bs,bC (by omega) (by omega),bs,bs,show aR [p,r12.1,p,r13.1] (3:Int)=some r13.1 from rfl,bs,rZ ⟨by omega,fun l h=>by have:=g2 l h;omega⟩ hk1,bs,bs,hg',bs,cJ (yB (n:=100) (by omega) (by omega)),bs,bs,hi];refine W.ret ⟨N8.of s0 s1 s2 (.of hk (hsO _ (by rw [List.length_set])) (by rw [List.length_set];omega) (fun l hl=>?_)),g3.mono (by omega)⟩;rcases List.mem_or_eq_of_mem_set hl with h |h
  ·have:=g2 l h;omega
  ·rw [h,List.length_append];simp only [List.length_cons,List.length_nil];omega
 ·
  rw [if_neg c,bs];exact W.ret ⟨N8.of s0 s1 s2 (.of hk (hsO _ rfl) (by omega) (fun l h=>by have:=g2 l h;omega)),g3.mono (by omega)⟩
theorem TB{a:List Int}:Lo (a,0,1) 0:=⟨Int.le_refl 0,Int.le_refl 0⟩
theorem RL{α:Type}(a b c d:α){j:Nat}(h:j < 4):∃x,aR [a,b,c,d] (j:Int)=some x:=⟨_,cd (by exact h)⟩
end
end Go.Proofs.YtghkncjelangeaaGreatDoor
