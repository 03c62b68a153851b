import Derived.Test.YtmbkabgllafffaaGreatVKB12
open Nat
open List hiding mem_of_getElem?
open Array hiding mem_of_getElem? mk
set_option linter.unusedVariables false
set_option linter.unusedSimpArgs false
namespace Go.Proofs.YtmbkabgllafffaaGreat
open K Go Go.Proofs
theorem Ft{k:Nat}{m:ae}{b:List Int}(v:Vd m)(hk:1010≤k)(hb:Bg (mC m) b):hJ k m b=some (iI m λc=>decide (c∈b),0):=by
 have c1:=v.c1;have:=hb.len ⟨by omega,v.c5⟩;rw [va v.sm hk (by omega),v.chk,nD.2 hb];rfl
theorem BF{k:Nat}{m:ae}{b:List Int}{d:Nat}(v:Vd m)(hk:1010≤k)(hb:Bg (mC m) b)(hd:d≤(mD m).length):j8 k m b (d:Int)=some (sL m (λc=>decide (c∈b)) d,true):=by
 have c1:=v.c1;have c5:=v.c5;have d6:=v.d6;unfold j8;rw [Ft v hk hb,bs];simp only [not_true_eq_false,if_false];rw [zi v (by omega),bs];simp only [Bool.not_true,bs,Bool.false_eq_true,if_false]
 have h2:∀(j:Nat),j < (mD m).length->dB k m (iI m λc=>decide (c∈b),0) (j:Int) k 0=some (if Ha m (λc=>decide (c∈b)) j=true then .error (true,true) else .ok ()):=λj hj=>by
  have hck0:ck ((j:Int)+1)=some (((j+1:Nat):Int)):=cM (by omega) (by omega)
  have:=pS (p:=λc=>decide (kP m (λc=>decide (c∈b)) j c < 0) && decide (0≤kP m (λc=>decide (c∈b)) (j+1) c)) (e:=(true,true)) (d:=0) (N:=(mC m).toNat) (k:=k) (f:=dB k m (iI m λc=>decide (c∈b),0) (j:Int)) (by omega) (by omega)
   (λn c _ hc=>by
    have hck:ck ((c:Int)+1)=some ((c:Int)+1):=cM (by omega) (by omega);have hc':(c:Int) < mC m:=by omega
    rw [dB,if_pos hc',pX (by omega),bs,uL (by omega) hc',bs];by_cases h:kP m (λc=>decide (c∈b)) j c < 0
    .rw [if_pos h,hck0,bs,pX (by omega),bs,uL (by omega) hc',bs,bs];simp_all
    grind)
   (λn=>by rw [dB,if_neg (by grind)])
  rw [show dB k m (iI m λc=>decide (c∈b),0) (j:Int) k 0=_ from this,Nat.sub_zero,<-List.range_eq_range'];rfl
 have:=pS (p:=λn=>Ha m (λc=>decide (c∈b)) n) (e:=(true,true)) (d:=d) (N:=(mD m).length) (k:=k) (f:=eT k m (iI m λc=>decide (c∈b),0)) hd (by omega)
  (λn j hdj hj=>by
   have hck:ck ((j:Int)+1)=some ((j:Int)+1):=cM (by omega) (by omega);rw [eT,if_pos (by simp_all),h2 j hj];cases Ha m (λc=>decide (c∈b)) j with
   |true=>simp_all [if_pos,nE]
   |false=>simp_all [if_neg,lU,bs])
  (λn=>by simp_all [eT,if_neg,mD])
 rw [this];unfold sL;cases(List.range' d ((mD m).length - d)).any λn=>Ha m (λc=>decide (c∈b)) n <;> rfl
theorem Pz{m:ae}{d:Nat}{L:List (List Int)}{e:Int}{r9:Int×bJ}(v:Vd m)(hL:∀b∈L,Bg (mC m) b)(hl:L.length≤32)(h9:r9.1=d)(hd:d≤(mD m).length):
 c8 1200 (L,e) r9 m 1200 (true,0)=some (.ok (L.all λb=> !sL m (λc=>decide (c∈b)) d)):=by
 have gen:∀(r j f:Nat) (s:Bool),L.length - j=r->j≤L.length->r < f->c8 1200 (L,e) r9 m f (s,(j:Int))=some (.ok (s && (L.drop j).all λb=> !sL m (λc=>decide (c∈b)) d)):=by
  intro r
  induction r with
  |zero=>
   intro j f s h1 h2 h3;obtain⟨f,rfl⟩:∃q,f=q+1:=⟨f - 1,by omega⟩;rw [c8,if_neg (by grind),bs,if_neg (by simp),List.drop_of_length_le (by omega)];simp
  |succ r ih=>
   intro j f s h1 h2 h3;obtain⟨f,rfl⟩:∃q,f=q+1:=⟨f - 1,by omega⟩;have hj:j < L.length:=by omega
   have hck:ck ((j:Int)+1)=some (((j+1:Nat):Int)):=cM (by omega) (by omega);rw [c8,if_pos (by simp_all),bs];cases s with
   |false=>simp_all
   |true=>
    rw [if_pos rfl,dC hj,bs,h9,BF v (by omega) (hL _ (List.getElem_mem hj)) hd,bs,if_neg (by simp),hck,bs,ih (j+1) f _ (by omega) (by omega) (by omega),Bool.true_and,drop_eq_getElem_cons hj,all_cons]
 have:=gen L.length 0 1200 true rfl (by omega) (by omega)
 simp_all
theorem vt{F:Nat->List (List Int)}:∀(n i:Nat) (s:List (List Int)),kO (λ(s:List (List Int)) (j _:Nat)=>s++F j) i (List.range' i n) s=s++(List.range' i n).flatMap F
 |0,_,s=>by simp [kO]
 |n+1,i,s=>by rw [List.range'_succ,kO,vt n (i+1)];simp
theorem Fz{m:ae}(v:Vd m):nv 1200 m.1=some (J0 (mC m).toNat (kp m)):=by
 have c1:=v.c1;have c5:=v.c5;unfold nv;have hlen:∀j,((kp m).filter λb=>decide (b.length=j)).length≤32:=λj=>Nat.le_trans (List.length_filter_le _ _) (nF v)
 have key:=eU (T:=List (List Int)×Int) (f:=fB 1200 m.1) (List.range ((mC m).toNat+1)) (λ(s:List (List Int)) j=>(s,j)) (λs j _=>s++(kp m).filter λb=>decide (b.length=j)) (λj s=>s.length≤32 * j) (λs=>some s)
  (λn s j hj hs=>by
   rw [length_range] at hj;have hck:ck ((j:Int)+1)=some ((j:Int)+1):=cM (by omega) (by omega);have hp:=CH (C:=(mC m).toNat) (n:=j) (by omega) (by omega);rw [show(((mC m).toNat:Nat):Int)=m.1 by grind] at hp;have:=hlen j;refine⟨?_,by grind⟩;rw [fB,if_pos (by grind),hp,bs,show(jy (mC m).toNat (mC m).toNat [] 0)=kp m from rfl,cO (UY (by grind)),bs,hck,bs])
  (λn s _=>by rw [length_range,fB,if_neg (by grind)]) (n:=1200) (s0:=[]) (by grind) (Nat.le_refl 0)
 grind [fB,bs,List.range_eq_range',vt,J0]
theorem CO(a0:List Int):jt 1200 a0=some true:=by
 unfold jt;obtain⟨r1,e1,rfl⟩:∃r1,mA 1200 a0=some r1/\r1=(a0,0,1):=⟨_,rfl,rfl⟩;rw [e1,bs];obtain⟨r3,e3,m,b,l',er,v,hb,lo3,hcs,hds,hgs,hin⟩:=KR (k:=1200) (by omega) (l:=(a0,0,1)) (m0:=0) ⟨Int.le_refl 0,Int.le_refl 0⟩ (by omega);rw [show nu 1200 ((a0,(0:Int),(1:Int)).1,(a0,(0:Int),(1:Int)).2.1,(a0,(0:Int),(1:Int)).2.2)=some r3 from e3,bs];have h3:r3.1=m:=by rw [er]
 have h4:r3.2.2.2.1=true:=by rw [er]
 have h5:(r3.2.2.2.2.1,r3.2.2.2.2.2.1,r3.2.2.2.2.2.2)=l':=by rw [er]
 have hl:=vv v (but:=fa);have hL:∀x∈jL m fa,Bg (mC m) x:=λx h=>yB v h;have d1:=v.d1;have d6:=v.d6;rw [h3,h4,h5,Fv v (by omega),bs];simp only [not_true_eq_false,if_false];rw [show decide ((32:Int) < ((jL m fa).length:Int))=false by simp;omega];simp only [bs,Bool.false_eq_true,if_false];have hckd:ck (((mD m).length:Int) - 1)=some (((mD m).length:Int) - 1):=cM (by omega) (by omega);rw [show m.2.2.2.2.1=mD m from rfl,hckd,bs];obtain⟨r9,e9,h9⟩:=jO (k:=1200) (l:=l') (n:=((mD m).length:Int) - 1) lo3 (by omega) (by omega);obtain⟨d,ed⟩:∃d:Nat,r9.1=d:=⟨r9.1.toNat,by omega⟩;have hd:(d:Int)≤((mD m).length:Int) - 1:=by omega
 rw [e9,bs,ed,CC v.sm,bs,Fz v,bs]
 have hne:¬(jL m fa).length=0:=by
  grind
 have hS:∃x,(J0 (mC m).toNat (kp m)).find? (je m d (jL m fa))=some x/\pR m d=(x,0):=by
  rw [Ak λx hx=>PS v (sw v hx)];unfold pR;rw [if_neg (λh=>h v.chk),if_neg (λh=>h ⟨by omega,hd⟩),if_neg hne,Int.toNat_natCast];have hmem:((List.range (mC m).toNat).map λ(i:Nat)=>(i:Int))∈(kp m).filter (je m d (jL m fa)):=List.mem_filter.2 ⟨Av v,AA v⟩;cases e:(kp m).filter (je m d (jL m fa)) with
  |nil=>simp_all
  |cons b l=>simp_all
 obtain⟨x,hx,hfz⟩:=hS
 have hA:∀t∈J0 (mC m).toNat (kp m),t.length≤5:=λt ht=>by
  unfold J0 at ht;grind
 have hAl:(J0 (mC m).toNat (kp m)).length≤1000:=by
  unfold J0;rw [List.length_flatMap]
  have gen:∀l:List Nat,(l.map λn=>((kp m).filter λb=>decide (b.length=n)).length).sum≤32 * l.length:=by
   intro l
   induction l with
   |nil=>simp_all
   |cons n l ih=>
    rw [map_cons,List.sum_cons,length_cons];grind [Nat.le_trans,List.length_filter_le,decide,kp,nF]
  grind
 generalize J0 (mC m).toNat (kp m)=A at *
 have key:=mF (T:=Int) (f:=c9 1200 r3 (jL m fa,0) r9 (pR m d) A) A (λ(_:Unit) j=>j) (λ_ _ t=>if je m d (jL m fa) t=true then Except.error true else .ok ()) (λj _=>∀i (h:i < A.length),i < j->je m d (jL m fa) A[i]=false) (λr=>some r)
  (λn s j hj hP=>by
   have hck:ck ((j:Int)+1)=some ((j:Int)+1):=cM (by omega) (by omega);have ht:=hA _ (List.getElem_mem hj);refine⟨?_,λs' hs' i hi hij=>?_⟩
   .rw [c9,if_pos (by omega),dC hj,bs,h3,ed,BM v (by omega) (by omega),bs,Pz (IS v) hL hl ed (by rw [yu];omega),lU];show K.bE (if je m d (jL m fa) A[j]=true then _ else _) _ _=_;cases hf:je m d (jL m fa) A[j] with
    |true=>
     have hxj:x=A[j]:=by
      grind [je,jL,fa,List.find?_eq_some_iff_getElem,Option.some.inj]
     have hsi:=zE (k:=1200) (a:=x) (b:=x) (by grind) (by grind);simp_all [if_pos,bs,II,nE]
    |false=>simp_all [if_neg,lU,bs]
   grind)
  (λn s _=>by rw [c9,if_neg (Int.lt_irrefl _)]) (n:=1200) (s0:=()) (by omega) (λi _ h=>by omega)
 rw [show c9 1200 r3 (jL m fa,0) r9 (pR m d) A 1200 0=_ from key,tZ (g:=λ_=>true),hx];rfl
