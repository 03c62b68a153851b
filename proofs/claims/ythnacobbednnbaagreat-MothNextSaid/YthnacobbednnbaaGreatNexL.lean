import Derived.Test.YthnacobbednnbaaGreatVFB11
open Nat
open List hiding mem_of_getElem?
open Array hiding mem_of_getElem? mk
set_option linter.unusedVariables false
set_option linter.unusedSimpArgs false
namespace Go.Proofs.YthnacobbednnbaaGreat
open K Go Go.Proofs
theorem HV{m:ab}{g:aQ}{B:Int->Bool}:Aw (yl m (mG m++[g])) cK B=(Aw m cK B && decide (g.2.2=decide (mS m≤lE m B g.2.1.toNat g.1))):=by
 unfold Aw;have e:∀x:aQ×Nat,(cK x.2 || decide (x.1.2.2=decide (mS (yl m (mG m++[g]))≤lE (yl m (mG m++[g])) B x.1.2.1.toNat x.1.1)))=(cK x.2 || decide (x.1.2.2=decide (mS m≤lE m B x.1.2.1.toNat x.1.1))):=λx=>by rw [uE];rfl
 simp only [e];simp_all [mG,yl,List.zipIdx_append,List.all_append,cK]
theorem Ew{m:ab}{g:aQ}:eT (yl m (mG m++[g])) cK=(eT m cK).filter λb=>decide (g.2.2=decide (mS m≤lE m (λc=>decide (c∈b)) g.2.1.toNat g.1)):=by
 unfold eT;rw [List.filter_filter,show zY (yl m (mG m++[g]))=zY m from rfl];simp_all [List.filter_congr,HV,Bool.and_comm]
theorem CV{m:ab}{n:Nat}{c:Int}{q:Bool}:((eT (yl m (mG m++[(c,(n:Int),q)])) cK).length:Int)=if q then(xM m n c (mS m) (eT m cK):Int) else(eT m cK).length - xM m n c (mS m) (eT m cK):=by
 rw [Ew];unfold xM;show(((eT m cK).filter λb=>decide (q=decide (mS m≤lE m (λc=>decide (c∈b)) (n:Int).toNat c))).length:Int)=_;rw [Int.toNat_natCast];cases q with
 |true=>
  grind
 |false=>
  rw [if_neg (by simp)];have:=List.length_eq_countP_add_countP (λb:List Int=>decide (mS m≤lE m (λc=>decide (c∈b)) n c)) (l:=eT m cK);grind
theorem vZ{k:Nat}{m:ab}(v:Vd m)(hk:1010≤k):fO k m=some (eT m cK,0):=by
 rw [Bm v.sm hk,v.chk];rfl
theorem zc{k:Nat}{m:ab}{n:Nat}{r3:ab×(List Int)×(List (List Int))×Bool×bp}{r8:Int×bp}{y:Int×Int×Int}(v:Vd m)(hg:(mG m).length≤4)(hk:1010≤k)(hr:r3.1=m)(h8:r8.1=n)(hn:n≤(mD m).length)(h0:0≤y.2.2)(h1:y.2.2 < mC m):
 cG k r3 r8 y k (0,0)=some (.ok (eW m n (eT m cK) y.2.2)):=by
 subst hr
 obtain⟨f,rfl⟩:∃f,k=f+3:=⟨k - 3,by omega⟩
 have step:∀(f':Nat) (s:Int) (q:Nat),q < 2->cG (f+3) r3 r8 y (f'+1) (s,(q:Int))=cG (f+3) r3 r8 y f' (nz s ((eT (yl r3.1 (mG r3.1++[(y.2.2,(n:Int),decide ((q:Int)=1))])) cK).length:Int),(q:Int)+1):=by
  intro f' s q hq;have hck:ck ((q:Int)+1)=some ((q:Int)+1):=du (by omega) (by omega);have hgl:gB (f+3) y.2.2 r8.1 (decide ((q:Int)=1))=some (y.2.2,(n:Int),decide ((q:Int)=1)):=by rw [h8];rfl
  have vg:Vd (yl r3.1 (mG r3.1++[(y.2.2,(n:Int),decide ((q:Int)=1))])):=v.with (by grind) λg hgg=>by
   rcases List.mem_append.1 hgg with h |h
   .exact v.gl g h
   simp_all
  have hok:bJ (length r3.1.2.2.2.2.2+length [(y.2.2,(n:Int),decide ((q:Int)=1))]):=RP (n:=10) (by grind) (by omega);rw [cG,if_pos (by omega),zL hk v.sm,bs];show(gB (f+3) y.2.2 r8.1 (decide ((q:Int)=1))).bind _=_;rw [hgl,bs,dj hok,bs];show(fO (f+3) (yl r3.1 (mG r3.1++[(y.2.2,(n:Int),decide ((q:Int)=1))]))).bind _=_;rw [vZ vg hk,bs];simp_all
 rw [show cG (f+3) r3 r8 y (f+3) (0,0)=_ from step (f+2) 0 0 (by omega),show((0:Nat):Int)+1=((1:Nat):Int) from rfl,show cG (f+3) r3 r8 y (f+2) _=_ from step (f+1) _ 1 (by omega)]
 rw [cG,if_neg (by omega),CV,CV]
 have hle:=Ic (m:=r3.1) (n:=n) (c:=y.2.2) (x:=mS r3.1) (L:=eT r3.1 cK)
 rw [if_neg (by decide),if_pos (by decide)]
 grind [eW,nz]
theorem Hl(a0:List Int):kD 1200 a0=some true:=by
 unfold kD;obtain⟨r1,e1,rfl⟩:∃r1,lN 1200 a0=some r1/\r1=(a0,0,1):=⟨_,rfl,rfl⟩;rw [e1,bs];obtain⟨r3,e3,m,b,l',er,v,hb,lo3,hcs,hds,hgs,hin⟩:=JE (k:=1200) (by omega) (l:=(a0,0,1)) (m0:=0) ⟨Int.le_refl 0,Int.le_refl 0⟩ (by omega);rw [show mr 1200 ((a0,(0:Int),(1:Int)).1,(a0,(0:Int),(1:Int)).2.1,(a0,(0:Int),(1:Int)).2.2)=some r3 from e3,bs];have h3:r3.1=m:=by rw [er]
 have h4:r3.2.2.2.1=true:=by rw [er]
 have h5:(r3.2.2.2.2.1,r3.2.2.2.2.2.1,r3.2.2.2.2.2.2)=l':=by rw [er]
 rw [h3,h4,h5,vZ v (by omega),bs];simp only [not_true_eq_false,if_false,decide_true,Bool.not_true,bs,Bool.false_eq_true];have c1:=v.c1;have c5:=v.c5;obtain⟨r8,e8,h8⟩:=jr (k:=1200) (l:=l') (n:=(m.2.2.2.2.1.length:Int)) lo3 (by omega) (by grind);rw [e8,bs];obtain⟨n,en⟩:∃n:Nat,r8.1=n:=⟨r8.1.toNat,by omega⟩;have hn:n≤(mD m).length:=by simp_all
 have key:=fW (T:=Int×Int×Int) (β:=Except Bool (Int×Int)) (f:=dq 1200 r3 r8) (List.range (mC m).toNat) (λ(s:Int×Int) j=>(s.1,s.2,j)) (λs j _=>if eW m n (eT m cK) j < s.2 then((j:Int),eW m n (eT m cK) j) else s) (λ_ _=>True) (λs=>some (.ok s))
  (λn' s j hj _=>by
   rw [length_range] at hj;have hck:ck ((j:Int)+1)=some ((j:Int)+1):=du (by omega) (by omega);refine⟨?_,trivial⟩;rw [dq,if_pos (by simp_all),zc v hgs (by omega) h3 en hn (y:=(s.1,s.2,(j:Int))) (by simp_all) (by simp_all),nf];show K.bE (if eW m n (eT m cK) j < s.2 then some (.ok ((j:Int),eW m n (eT m cK) j)) else some (.ok (s.1,s.2))) _ _=_;by_cases h:eW m n (eT m cK) j < s.2
   .simp_all [if_pos,nf,bs]
   simp_all [if_neg,nf,bs])
  (λn' s _=>by
   rw [length_range,dq,if_neg (by grind)]) (n:=1200) (s0:=(-1,((eT m cK).length:Int))) (by grind) trivial
 rw [show dq 1200 r3 r8 1200 (-1,((eT m cK).length:Int),0)=_ from key.1,nf,en,Hv v.sm (by omega),bs];have e9:gY (λ(s:Int×Int) (j _:Nat)=>if eW m n (eT m cK) j < s.2 then((j:Int),eW m n (eT m cK) j) else s) 0 (List.range (mC m).toNat) (-1,((eT m cK).length:Int))=rS (eW m n (eT m cK)) (eT m cK).length (mC m).toNat:=rfl;rw [e9]
 have hne:¬(eT m cK).length=0:=by
  grind
 have hS:CN m n=let x:=rS (eW m n (eT m cK)) (eT m cK).length (mC m).toNat
  if x.1 < 0 then(0,0,11) else(x.1,x.2,0):=by
  unfold CN
  rw [if_neg (λh=>h v.chk),if_neg (λh=>h ⟨by omega,by omega⟩),if_neg hne,Int.toNat_natCast]
 rw [hS];generalize rS (eW m n (eT m cK)) (eT m cK).length (mC m).toNat=x;simp_all [if_true,HE,bs,if_false]
