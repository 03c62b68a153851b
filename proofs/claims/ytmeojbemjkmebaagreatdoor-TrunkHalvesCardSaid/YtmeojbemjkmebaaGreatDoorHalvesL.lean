import Derived.Test.YtmeojbemjkmebaaGreatDoorRAB13
set_option linter.unusedSimpArgs false
set_option linter.unusedVariables false
namespace Go.Proofs.YtmeojbemjkmebaaGreatDoor
open K Go Go.Proofs
theorem yR{t:bf}{d:Int}{q:List (List Int)}:iy t 0 d q=0:=by
 unfold iy
 induction q with
 |nil=>rfl
 |cons l q ih=>rw [List.map_cons,List.sum_cons,ih];rfl
theorem uc{t:bf}{p:List (List Int)}:∀(m n:Nat),iy t (m+n) 0 p=iy t m 0 p+iy t n (m:Int) (nW t p m)
 |0,n=>by rw [Nat.zero_add,yR,Nat.zero_add];rfl
 |m+1,n=>by
  have h1:=uc (t:=t) (p:=p) m (n+1)
  have h2:=uc (t:=t) (p:=p) m 1
  rw [vU] at h1
  have h3:=vU (t:=t) (n:=0) (d:=(m:Int)) (p:=nW t p m)
  rw [yR,Nat.add_zero] at h3
  have h4:iy t 1 (m:Int) (nW t p m)=_:=h3
  rw [h4] at h2
  have e:nW t p (m+1)=vb t (m:Int) (nW t p m):=rfl
  rw [show m+1+n=m+(n+1) by omega,h1,show((m+1:Nat):Int)=(m:Int)+1 by omega,e]
  rw [h2];omega
theorem vV{t t':bf}{e:Int}:∀(n:Nat) (d:Int),(∀d',d≤d'→d' < d+(n:Int)→lR t' d'=lR t (e+d'))→∀(l:List Int),kS t' n d l=kS t n (e+d) l
 |0,_,_,_=>rfl
 |n+1,d,h,l=>by
  rw [kS,kS,h d (by omega) (by omega),vV n (d+1) (fun d' h1 h2=>h d' (by omega) (by omega)),show e+(d+1)=e+d+1 by omega]
theorem ub{t t':bf}{e:Int}{n:Nat}{d:Int}(h:∀d',d≤d'→d' < d+(n:Int)→lR t' d'=lR t (e+d')){q:List (List Int)}:iy t' n d q=iy t n (e+d) q:=by
 unfold iy;congr 1;exact List.map_congr_left fun l _=>vV n d h l
def oD(D:Int)(x:cR):cR:=(x.1,(x.2.filter fun d=>decide (¬d < D)).map fun d=>d - D)
def mb(t:bf)(D:Int):bf:=(t.1 - D,t.2.1.map (oD D),t.2.2)
theorem Jp{t:bf}{D d x:Int}(hd:0≤d):lR (mb t D) d x=lR t (D+d) x:=by
 unfold lR mb;dsimp only;rw [List.getElem?_map];cases t.2.1[x.toNat]? with
 |none=>rfl
 |some y=>
  show decide (d∈(oD D y).2)=decide (D+d∈y.2);refine decide_eq_decide.2 ⟨fun h=>?_,fun h=>?_⟩
  ·obtain⟨z,h1,h2⟩:=List.mem_map.1 h;obtain⟨h3,_⟩:=List.mem_filter.1 h1;rw [show D+d=z by omega];exact h3
  ·exact List.mem_map.2 ⟨D+d,List.mem_filter.2 ⟨h,decide_eq_true (by omega)⟩,by omega⟩
theorem Ha{t:bf}{a b:Int}(h:tL t a b){D:Int}(hD:1≤D∧D < t.1):tL (mb t D) a b:=by
 have hd:=h.days;refine⟨by show 1≤t.1 - D∧t.1 - D≤4;omega,by unfold mb;dsimp only;rw [List.length_map];exact h.things,fun x hx=>?_,h.trunks,h.rooms⟩;obtain⟨y,hy,rfl⟩:=List.mem_map.1 hx;have hi:=h.item y hy;refine⟨hi.1,hi.2.1,by unfold oD;dsimp only;rw [List.length_map];exact Nat.le_trans (List.length_filter_le _ _) hi.2.2.1,fun d hd=>?_,List.Pairwise.map _ (fun a b hab=>by show a - D < b - D;omega) (hi.2.2.2.2.filter _)⟩;obtain⟨z,h1,rfl⟩:=List.mem_map.1 hd;obtain⟨h2,h3⟩:=List.mem_filter.1 h1;have h4:=of_decide_eq_true h3;have h5:=(hi.2.2.2.1 z h2);show 0≤z - D∧z - D < t.1 - D;omega
theorem Ej{t:bf}{D:Int}(g':nQ (mb t D)){q:List (List Int)}(h:iU t q):iU (mb t D) q:=by
 have hl:(mb t D).2.1.length=t.2.1.length:=by unfold mb;dsimp only;rw [List.length_map]
 have hs:∀(l:List Int),cQ (mb t D) l=cQ t l:=by
  intro l
  induction l with
  |nil=>rfl
  |cons x l ih=>
   have e:fe (mb t D) x=fe t x:=by
    unfold fe mb;dsimp only;rw [List.getElem?_map];cases t.2.1[x.toNat]? <;> rfl
   rw [cQ,cQ,e,ih]
 exact⟨g',h.len,h.nd,fun x hx=>by rw [hl];exact h.rng x hx,fun i hi=>h.all i (by rw [hl] at hi;exact hi),fun i hi=>by rw [hs];exact h.room i hi⟩
section
variable {α:Type}{f:α→α}{l:List α}
def sB(f:α→α)(l:List α)(j:Nat):List α:=(l.map f).take j++l.drop j
theorem CC{j:Nat}(hj:j < l.length):a8 (sB f l j) (j:Int)=some l[j]:=by
 rw [a8,if_pos (by omega)];unfold sB;rw [Int.toNat_natCast,List.getElem?_append_right (by rw [List.length_take,List.length_map];omega),List.length_take,List.length_map,List.getElem?_drop,show j+(j - min j l.length)=j by omega,List.getElem?_eq_getElem hj]
theorem zc{j:Nat}(hj:j < l.length):List.set (sB f l j) j (f l[j])=sB f l (j+1):=by
 unfold sB;have e:(l.map f)[j]? =some (f l[j]):=by rw [List.getElem?_map,List.getElem?_eq_getElem hj];rfl
 rw [List.take_add_one,e];generalize f l[j]=y;rw [List.drop_eq_getElem_cons hj,List.set_append_right _ _ (by rw [List.length_take,List.length_map];omega),List.length_take,List.length_map,show j - min j l.length=0 by omega,List.set_cons_zero];simp
theorem zd:sB f l l.length=l.map f:=by
 unfold sB;rw [List.take_of_length_le (by rw [List.length_map];omega),List.drop_eq_nil_of_le (by omega),List.append_nil]
end
section
variable {k:Nat}
def oN(D:Int)(x:cR):cR:=(x.1,x.2.filter fun d=>decide (d < D))
theorem zO(hk1:k≤1000000){r3:be×(List (List Int))×Bool×bI}{r9:Int×bI}{y:(List cR)×(List cR)×Int}{x x29 x30:cR}(hg:a8 r3.1.2.1 y.2.2=some x)(hx:x.2.length < k)(hx1:x.2.length≤1000)
 (hd:∀d∈x.2,0≤d∧d≤1000) (h9:0≤r9.1∧r9.1≤1000):
 cK k r3 r9 y x29 x30 k ([],[],0)=some (List.set y.1 (Int.toNat y.2.2) (x29.1,(oN r9.1 x).2),List.set y.2.1 (Int.toNat y.2.2) (x30.1,(oD r9.1 x).2)):=by
 have hb:=W.loop (f:=cK k r3 r9 y x29 x30) (Q:=fun o=>o=(List.set y.1 (Int.toNat y.2.2) (x29.1,(oN r9.1 x).2),List.set y.2.1 (Int.toNat y.2.2) (x30.1,(oD r9.1 x).2)))
  (fun q z=>∃j:Nat,z.2.2=(j:Int)∧j≤x.2.length∧q=x.2.length - j∧z.1=(x.2.take j).filter (fun d=>decide (d < r9.1))∧z.2.1=((x.2.take j).filter (fun d=>decide (¬d < r9.1))).map fun d=>d - r9.1) (by
  rintro aS q ⟨a,b,z⟩ ⟨j,hj,hle,hq,ha,hb⟩ ih
  simp only at hj ha hb
  subst hj
  unfold cK
  rw [hg,bs]
  dsimp only
  refine W.ite (fun hlt=>?_) (fun hge=>W.ret ?_)
  ·
   have hj:j < x.2.length:=by omega
   have hdj:=hd _ (List.getElem_mem hj)
   have la:a.length≤1000:=by
    rw [ha];refine Nat.le_trans (List.length_filter_le _ _) ?_;rw [List.length_take];omega
   have lb:b.length≤1000:=by
    rw [hb,List.length_map];refine Nat.le_trans (List.length_filter_le _ _) ?_;rw [List.length_take];omega
   have step:∀a' b':List Int,a'=(x.2.take (j+1)).filter (fun d=>decide (d < r9.1))→b'=((x.2.take (j+1)).filter (fun d=>decide (¬d < r9.1))).map (fun d=>d - r9.1)→
    W ((K.ck ((j:Int)+1)).bind fun x45=>cK k r3 r9 y x29 x30 aS (a',b',x45)) (fun o=>o=(List.set y.1 (Int.toNat y.2.2) (x29.1,(oN r9.1 x).2),List.set y.2.1 (Int.toNat y.2.2) (x30.1,(oD r9.1 x).2))):=fun a' b' ha' hb'=>by
    rw [bV (by omega) (by omega),bs]
    exact ih (q - 1) (a',b',(j:Int)+1) (by omega) ⟨j+1,by show(j:Int)+1=((j+1:Nat):Int);omega,by omega,by omega,ha',hb'⟩
   have ea:(x.2.take (j+1)).filter (fun d=>decide (d < r9.1))=a++if x.2[j] < r9.1 then [x.2[j]] else []:=by
    rw [List.take_add_one,List.getElem?_eq_getElem hj,List.filter_append,←ha];congr 1;by_cases c:x.2[j] < r9.1 <;> simp [c]
   have eb:((x.2.take (j+1)).filter (fun d=>decide (¬d < r9.1))).map (fun d=>d - r9.1)=b++if x.2[j] < r9.1 then [] else [x.2[j] - r9.1]:=by
    rw [List.take_add_one,List.getElem?_eq_getElem hj,List.filter_append,List.map_append,←hb];congr 1;by_cases c:x.2[j] < r9.1
    ·simp [c]
    ·have c':r9.1≤x.2[j]:=by omega
     simp [c,c']
   rw [bs,dh hj,bs];by_cases c:x.2[j] < r9.1
   ·rw [if_pos c,du (K5 (by simp only [List.length_cons,List.length_nil];omega)),bs,bs];exact step _ _ (by rw [ea,if_pos c]) (by rw [eb,if_pos c,List.append_nil])
   ·rw [if_neg c,bV (by omega) (by omega),bs,du (K5 (by simp only [List.length_cons,List.length_nil];omega)),bs,bs];exact step _ _ (by rw [ea,if_neg c,List.append_nil]) (by rw [eb,if_neg c])
  ·
   rw [ha,hb,List.take_of_length_le (by omega)];rfl) x.2.length k ([],[],0) hx ⟨0,rfl,by omega,by omega,by simp,by simp⟩
 obtain⟨o,eo,h⟩:=hb
 rw [eo,h]
theorem zP(hk1:k≤1000000){r3:be×(List (List Int))×Bool×bI}{r9:Int×bI}(hl:r3.1.2.1.length < k)(hx:∀x∈r3.1.2.1,x.2.length < k∧x.2.length≤1000∧∀d∈x.2,0≤d∧d≤1000)(h9:0≤r9.1∧r9.1≤1000):
 de k r3 r9 k (r3.1.2.1,r3.1.2.1,0)=some (r3.1.2.1.map (oN r9.1),r3.1.2.1.map (oD r9.1)):=by
 have hb:=W.loop (f:=de k r3 r9) (Q:=fun o=>o=(r3.1.2.1.map (oN r9.1),r3.1.2.1.map (oD r9.1))) (fun q y=>∃j:Nat,y.2.2=(j:Int)∧j≤r3.1.2.1.length∧q=r3.1.2.1.length - j∧y.1=sB (oN r9.1) r3.1.2.1 j∧y.2.1=sB (oD r9.1) r3.1.2.1 j) (by
  rintro aS q ⟨a,b,y⟩ ⟨j,hj,hle,hq,ha,hb⟩ ih;simp only at hj ha hb;subst hj ha hb;unfold de;dsimp only;refine W.ite (fun hlt=>?_) (fun hge=>W.ret ?_)
  ·have hj:j < r3.1.2.1.length:=by omega
   have hxj:=hx _ (List.getElem_mem hj);rw [CC hj,bs,CC hj,bs,zO hk1 (y:=(sB (oN r9.1) r3.1.2.1 j,sB (oD r9.1) r3.1.2.1 j,(j:Int))) (dh hj) hxj.1 hxj.2.1 hxj.2.2 h9,bs,bV (by omega) (by omega),bs];exact ih (q - 1) (_,_,(j:Int)+1) (by omega) ⟨j+1,by show(j:Int)+1=((j+1:Nat):Int);omega,by omega,by omega,zc hj,zc hj⟩
  ·have:j=r3.1.2.1.length:=by omega
   subst this;rw [zd,zd]) r3.1.2.1.length k (r3.1.2.1,r3.1.2.1,0) hl ⟨0,rfl,by omega,by omega,by simp [sB],by simp [sB]⟩
 obtain⟨o,eo,h⟩:=hb
 rw [eo,h]
theorem sc(hk:50≤k)(hk1:k≤1000000)(hp:jR k=some true)(a0:List Int):i8 k a0=some true:=by
 unfold i8;rw [show me k a0=some (a0,0,1) from rfl,bs];obtain⟨r3,e3,hg,his,hlo⟩:=IQ hk hk1 (l:=(a0,0,1)) (m:=0) ⟨by simp,by simp⟩ (by decide) (a:=5) (by decide);rw [show mT k (a0,0,1) 5=some r3 from e3,bs,his];by_cases c:mg r3.1 r3.2.1=0
 ·rw [decide_eq_true c,nT,bs];by_cases c2:r3.1.1 < 2
  ·rw [decide_eq_true c2,iT,hp,bs]
  rw [decide_eq_false c2,iF];have gp:=uR c;have hA:=hg.at (a:=5) hk hk1 (by decide) c;have hday:=hg.kit.days;have hth:=hg.kit.things;have hsm:=hg.small hk hk1 (a:=5) (by decide);obtain⟨r9,e9,w1,w2,_⟩:=CQ (k:=k) (l:=r3.2.2.2) (m:=200) (a:=1) (b:=r3.1.1 - 1) hlo (by decide) (by decide) (by omega) (by omega);have hcopy:gz k r3.1=some r3.1:=Aa hk1 (by omega) (by have:=hg.kit.trunks;omega) (fun x hx=>by have:=hg.kit.item x hx;omega)
  rw [bV (by omega) (by omega),bs,show dA k (r3.2.2.2.1,r3.2.2.2.2.1,r3.2.2.2.2.2) 1 (r3.1.1 - 1)=some r9 from e9,bs,hcopy,bs,bs,bV (by omega) (by omega),bs,
   zP hk1 (by omega) (fun x hx=>by
    have h:=hg.kit.item x hx;exact⟨by omega,by omega,fun d hd=>by have:=h.2.2.2.1 d hd;omega⟩) (by omega),bs]
  have hD:1≤r9.1∧r9.1≤r3.1.1:=by omega
  have k1:=DJ hg.kit hD;have k2:=Ha hg.kit (D:=r9.1) (by omega);have t1:=k1.chk (by decide) (by decide);have t2:=k2.chk (by decide) (by decide);have hs1:∀{s:bf},tL s 5 3→jW k s:=fun h=>⟨hk1,by have:=h.things;omega,fun x hx=>by have:=h.item x hx;omega,by have:=h.trunks;omega⟩;have hd1:∀{s:bf},tL s 5 3→EY k s:=fun h=>⟨hk,hk1,by have:=h.things;omega,(hs1 h).worn⟩;have a1:At k (gY r3.1 r9.1) r3.2.1:=At.of (hd1 k1) (hs1 k1) t1 (FO hD (rF t1) gp).1;have hN:((r9.1.toNat:Nat):Int)=r9.1:=by omega
  have a2:At k (mb r3.1 r9.1) (nW r3.1 r3.2.1 r9.1.toNat):=At.of (hd1 k2) (hs1 k2) t2 (Ej (rF t2) (gp.aft _));have hA2:=Ix hA (n:=r9.1.toNat) (by omega);rw [hN] at hA2;have L1:=vp a1;have L2:=vp a2
  have q1:iy (gY r3.1 r9.1) r9.1.toNat 0 r3.2.1=iy r3.1 r9.1.toNat 0 r3.2.1:=by
   have:=ub (t:=r3.1) (t':=gY r3.1 r9.1) (e:=0) (n:=r9.1.toNat) (d:=0) (fun d' h1 h2=>by rw [Int.zero_add];exact funext fun x=>yU (by omega)) (q:=r3.2.1);rwa [Int.zero_add] at this
  have q2:iy (mb r3.1 r9.1) (r3.1.1 - r9.1).toNat 0 (nW r3.1 r3.2.1 r9.1.toNat)=iy r3.1 (r3.1.1 - r9.1).toNat (r9.1.toNat:Int) (nW r3.1 r3.2.1 r9.1.toNat):=by
   have:=ub (t:=r3.1) (t':=mb r3.1 r9.1) (e:=r9.1) (n:=(r3.1.1 - r9.1).toNat) (d:=0) (fun d' h1 h2=>funext fun x=>Jp h1) (q:=nW r3.1 r3.2.1 r9.1.toNat);rw [Int.add_zero] at this;rw [hN];exact this
  have q3:=uc (t:=r3.1) (p:=r3.2.1) r9.1.toNat (r3.1.1 - r9.1).toNat;rw [show r9.1.toNat+(r3.1.1 - r9.1).toNat=r3.1.1.toNat by omega] at q3
  have b1:iy r3.1 r3.1.1.toNat 0 r3.2.1≤1000000:=by
   have:∀(q:List (List Int)),(∀l∈q,l.length≤8)→iy r3.1 r3.1.1.toNat 0 q≤32 * q.length:=by
    intro q
    induction q with
    |nil=>intro _;exact Nat.le_refl _
    |cons l q ih=>
     intro h;have h1:=xu (t:=r3.1) r3.1.1.toNat 0 l;have h2:=h l (by simp);have h3:=ih fun l hl=>h l (by simp [hl]);have h4:r3.1.1.toNat * l.length≤4 * 8:=Nat.mul_le_mul (by omega) h2;unfold iy at h3⊢;rw [List.map_cons,List.sum_cons,List.length_cons];omega
   have h1:=this r3.2.1 hg.short;have h2:=hg.len;have h3:=hg.kit.trunks;omega
  have e1:fW k (r9.1,r3.1.2.1.map (oN r9.1),r3.1.2.2) r3.2.1=some (((iy r3.1 r9.1.toNat 0 r3.2.1:Nat):Int),0):=by rw [←q1];exact L1
  have e2:fW k (r3.1.1 - r9.1,r3.1.2.1.map (oD r9.1),r3.1.2.2) (nW r3.1 r3.2.1 r9.1.toNat)=some (((iy r3.1 (r3.1.1 - r9.1).toNat (r9.1.toNat:Int) (nW r3.1 r3.2.1 r9.1.toNat):Nat):Int),0):=by rw [←q2];exact L2
  rw [hA2,bs,vp hA,bs];dsimp only;rw [e1,bs,e2,bs];dsimp only;rw [if_pos rfl,if_pos rfl,if_pos rfl,if_pos rfl,bV (by omega) (by omega),bs,if_pos (by omega),hp,bs,bs]
 ·rw [decide_eq_false c,nF,bs,iT,hp,bs]
end
end Go.Proofs.YtmeojbemjkmebaaGreatDoor
