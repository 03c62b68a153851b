import Derived.Test.YtddkbkkogpolaaaGreatVFB12
open Nat
open List hiding mem_of_getElem?
open Array hiding mem_of_getElem? mk
set_option linter.unusedVariables false
set_option linter.unusedSimpArgs false
namespace Go.Proofs.YtddkbkkogpolaaaGreat
open K Go Go.Proofs
theorem HJ(a0:List Int):kD 1200 a0=some true:=by
 unfold kD;obtain⟨r1,e1,rfl⟩:∃r1,lW 1200 a0=some r1/\r1=(a0,0,1):=⟨_,rfl,rfl⟩;rw [e1,bs];obtain⟨r3,e3,m,b,l',er,v,hb,lo3,hcs,hds,hgs,hin⟩:=J0 (k:=1200) (by omega) (l:=(a0,0,1)) (m0:=0) ⟨Int.le_refl 0,Int.le_refl 0⟩ (by omega);rw [show mK 1200 ((a0,(0:Int),(1:Int)).1,(a0,(0:Int),(1:Int)).2.1,(a0,(0:Int),(1:Int)).2.2)=some r3 from e3,bs];have h3:r3.1=m:=by rw [er]
 have h4:r3.2.2.2.1=true:=by rw [er]
 have h5:(r3.2.2.2.2.1,r3.2.2.2.2.2.1,r3.2.2.2.2.2.2)=l':=by rw [er]
 have c1:=v.c1;have c5:=v.c5;rw [h3,h4,h5,if_neg (by simp)];obtain⟨r5,e5,lo5,g0,g1,g2⟩:=s6 (k:=1200) (l:=l') (x:=(m.1,m.2.1,m.2.2.1,m.2.2.2.1,m.2.2.2.2.1,())) lo3 (by omega) ⟨c1,c5⟩ v.d6;have hgl:vt m r5.1=0:=by unfold vt;rw [if_pos ⟨g0,g1,g2⟩]
 have v':=v.more (g:=r5.1) (by omega) hgl;have hok:bM (length m.2.2.2.2.2+length [r5.1]):=R9 (n:=10) (by show(mG m).length≤10;omega) (by omega);rw [show kE 1200 l' m=some r5 from e5,bs,Ab (by omega) v.sm,bs,dz hok,bs,KP v.sm (by omega),bs,wH v (by omega),bs];rw [show(m.1,m.2.1,m.2.2.1,m.2.2.2.1,m.2.2.2.2.1,m.2.2.2.2.2++[r5.1])=px m (mG m++[r5.1]) from rfl,wH v' (by omega),bs]
 have hsub:∀x∈ia (px m (mG m++[r5.1])) dr,x∈ia m dr:=λx hx=>by
  rw [wT,List.mem_filter] at hx;exact hx.1
 have hle:(ia (px m (mG m++[r5.1])) dr).length≤(ia m dr).length:=by rw [wT];exact List.length_filter_le _ _
 have hl:=uT v (but:=dr);have hl':=uT v' (but:=dr);have hne:0 < (ia m dr).length:=List.length_pos_of_mem hin;simp only [not_true_eq_false,if_false];rw [if_neg (by omega),show decide ((32:Int) < ((ia (px m (mG m++[r5.1])) dr).length:Int))=false by simp;omega,bs];simp only [Bool.false_eq_true,if_false]
 have key:=i7 (T:=Int) (β:=Except Bool Unit) (f:=dD 1200 (ia m dr,0) (ia (px m (mG m++[r5.1])) dr,0)) (ia (px m (mG m++[r5.1])) dr) (λ(_:Unit) j=>j) (λs _ _=>s) (λ_ _=>True) (λ_=>some (.ok ()))
  (λn s j hj _=>by
   have hck:ck ((j:Int)+1)=some ((j:Int)+1):=dH (by omega) (by omega);have hm:=hsub _ (List.getElem_mem hj);refine⟨?_,trivial⟩
   rw [dD,if_pos (by show(j:Int) < ((ia (px m (mG m++[r5.1])) dr).length:Int);omega),dY hj,bs,Iz (by show(ia m dr).length < 1200;omega) (by show(ia m dr).length≤1000;omega) (λx hx=>by
    have:=(Dw v hx).len ⟨by omega,c5⟩;omega),bs,if_neg (by simp only [hm,decide_true];simp),hck,bs])
  (λn s _=>by rw [dD,if_neg (Int.lt_irrefl _)]) (n:=1200) (s0:=()) (by omega) trivial
 rw [show dD 1200 (ia m dr,0) (ia (px m (mG m++[r5.1])) dr,0) 1200 0=_ from key.1,me];by_cases h0:(ia (px m (mG m++[r5.1])) dr).length=0
 .have hA:=rm (IH v.chk (by omega) hgl hne h0) (by omega);rw [if_pos (by omega),hA];simp only [if_true,zO,bs]
 .have hA:=Cf (Ci v.chk (by omega) hgl λh=>h0 h.2);rw [if_neg (by omega),hA];simp only [if_true,uf (k:=1200) (by omega) v'.sm,zO,bs]
