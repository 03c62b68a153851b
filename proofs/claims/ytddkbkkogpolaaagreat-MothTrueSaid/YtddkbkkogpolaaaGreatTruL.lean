import Derived.Test.YtddkbkkogpolaaaGreatVHB13
open Nat
open List hiding mem_of_getElem?
open Array hiding mem_of_getElem? mk
set_option linter.unusedVariables false
set_option linter.unusedSimpArgs false
namespace Go.Proofs.YtddkbkkogpolaaaGreat
open K Go Go.Proofs
theorem Kq{m:ae}(v:Vd m)(h:0 < (eP m cN).length):TD m=([],0):=by
 unfold TD;rw [if_neg (λq=>q v.chk),List.range_succ_eq_map,findSome?_cons]
 have e:Kr m 0=some []:=by
  unfold Kr M9
  have hs:OX m []=true:=by
   unfold OX;rw [Uh,decide_eq_true_iff];exact h
  cases(mG m).length with
  |zero=>rw [fp,find?_cons];simp [hs]
  |succ n=>rw [fp,find?_cons];simp [hs]
 rw [e];rfl
theorem OW{r3:ae×(List Int)×(List (List Int))×Bool×bO}{m:ae}{b:List Int}{n:Nat}{e:Int}(v:Vd m)(hc:r3.2.2.1=jl m λc=>decide (c∈b))(hn:n≤(mD m).length)(hb:b∈eP m cN):
 di 1200 r3 (n:Int) (Gj m (eP m cN) n,e) 1200 0=some (.ok ()):=by
 have c1:=v.c1
 have c5:=v.c5
 have hl:=rJ v (but:=cN)
 have key:=me (ε:=Bool) (T:=Int) (f:=di 1200 r3 (n:Int) (Gj m (eP m cN) n,e)) (Gj m (eP m cN) n) (λ(_:Unit) j=>j) (λ_ _ _=>.ok ()) (λ_ _=>True) (λr=>some r)
  (λf s j hj _=>by
   have hj':j < (mC m).toNat:=by unfold Gj at hj;simpa using hj
   have hck:ck ((j:Int)+1)=some ((j:Int)+1):=dw (by omega) (by omega)
   have hg:aR (Gj m (eP m cN) n) (j:Int)=some (nO (rO m n (j:Int) 0 (eP m cN)) (eP m cN).length):=by
    refine IJ (by omega) ?_;rw [Int.toNat_natCast,Gj,List.getElem?_map,List.getElem?_range hj'];rfl
   have hcnt:rO m n (j:Int) 0 (eP m cN)=(eP m cN).length->0≤mi m (λc=>decide (c∈b)) n j:=λh=>by
    have:=(List.countP_eq_length.1 h) b hb;simpa using this
   have hcnt0:rO m n (j:Int) 0 (eP m cN)=0->¬0≤mi m (λc=>decide (c∈b)) n j:=λh h2=>by
    have:=(List.countP_eq_zero.1 h) b hb;simp at this;omega
   have hV:nO (rO m n (j:Int) 0 (eP m cN)) (eP m cN).length=3\/(nO (rO m n (j:Int) 0 (eP m cN)) (eP m cN).length=1/\0≤mi m (λc=>decide (c∈b)) n j)\/(nO (rO m n (j:Int) 0 (eP m cN)) (eP m cN).length=2/\¬0≤mi m (λc=>decide (c∈b)) n j):=by
    unfold nO;by_cases h1:rO m n (j:Int) 0 (eP m cN)=(eP m cN).length
    .exact .inr (.inl ⟨if_pos h1,hcnt h1⟩)
    .rw [if_neg h1];by_cases h0:0 < rO m n (j:Int) 0 (eP m cN)
     .exact .inl (if_pos h0)
     .exact .inr (.inr ⟨if_neg h0,hcnt0 (by omega)⟩)
   refine⟨?_,λ_ _=>trivial⟩;rw [di,if_pos (by show(j:Int) < ((Gj m (eP m cN) n).length:Int);omega)];simp only [hg,bs,hc,s6 hn,zD (show(0:Int)≤(j:Int) by omega) (show(j:Int) < mC m by omega),hck];rcases hV with h |⟨h,ha⟩ |⟨h,ha⟩
   .simp [h]
   .simp [h,ha]
   .simp [h,ha])
  (λf s _=>by rw [di,if_neg (Int.lt_irrefl _)]) (n:=1200) (s0:=()) (by unfold Gj;simp;omega) trivial
 rw [show di 1200 r3 (n:Int) (Gj m (eP m cN) n,e) 1200 0=_ from key,yC]
theorem G5(a0:List Int):kN 1200 a0=some true:=by
 unfold kN;obtain⟨r1,e1,rfl⟩:∃r1,l9 1200 a0=some r1/\r1=(a0,0,1):=⟨_,rfl,rfl⟩;rw [e1,bs];obtain⟨r3,e3,m,b,l',er,v,hb,lo3,hcs,hds,hgs,hin⟩:=K1 (k:=1200) (by omega) (l:=(a0,0,1)) (m0:=0) ⟨Int.le_refl 0,Int.le_refl 0⟩ (by omega);rw [show mZ 1200 ((a0,(0:Int),(1:Int)).1,(a0,(0:Int),(1:Int)).2.1,(a0,(0:Int),(1:Int)).2.2)=some r3 from e3,bs];have h3:r3.1=m:=by rw [er]
 have h4:r3.2.2.2.1=true:=by rw [er]
 have h6:r3.2.1=b:=by rw [er]
 have h7:r3.2.2.1=jl m λc=>decide (c∈b):=by rw [er]
 have hne:0 < (eP m cN).length:=List.length_pos_of_mem hin;have hl:=rJ v (but:=cN);have c1:=v.c1;have c5:=v.c5;have d6:=v.d6;rw [h3,Fb v (by omega),bs,E9 v.sm (by omega),bs,Kq v hne,h4,h6];simp only [not_true_eq_false,if_false,length_nil]
 rw [if_neg (by omega),Jf (by show(eP m cN).length < 1200;omega) (by show(eP m cN).length≤1000;omega) (λx hx=>by
  have:=(yr v hx).len ⟨by omega,c5⟩;omega),bs,bs,if_neg (by simp [hin])]
 have key:=me (ε:=Bool) (T:=Int) (f:=dG 1200 r3) (List.range ((mD m).length+1)) (λ(_:Unit) j=>j) (λ_ _ _=>.ok ()) (λ_ _=>True) (λr=>some r)
  (λf s j hj _=>by
   rw [length_range] at hj;have hck:ck ((j:Int)+1)=some ((j:Int)+1):=dw (by omega) (by omega)
   have hlen:(((Gj m (eP m cN) j).length:Nat):Int)=m.1:=by
    unfold Gj;show((List.map _ _).length:Int)=mC m;simp;omega
   refine⟨?_,λ_ _=>trivial⟩;rw [dG,if_pos (by rw [h7];show(j:Int) < ((jl m _).length:Int);rw [kX];omega),h3,Fa v.sm (by omega),bs,Hh v (by omega),if_neg (show¬(eP m cN).length=0 by omega)];simp only [not_true_eq_false,if_false,hlen,decide_true,Bool.not_true,bs,Bool.false_eq_true];rw [OW v h7 (by omega) hin,mt,hck,bs])
  (λf s _=>by rw [length_range,dG,if_neg (by rw [h7,kX];omega)]) (n:=1200) (s0:=()) (by rw [length_range];omega) trivial
 rw [show dG 1200 r3 1200 0=_ from key,yC,mt,IE,bs]
