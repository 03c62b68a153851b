import Derived.Test.YtcpbmhgakdeceaaGreatVRB13
open Nat
open List hiding mem_of_getElem?
open Array hiding mem_of_getElem? mk
set_option linter.unusedVariables false
set_option linter.unusedSimpArgs false
namespace Go.Proofs.YtcpbmhgakdeceaaGreat
open K Go Go.Proofs
theorem MK{m:ab}:(P2 m).1.length≤8:=by
 unfold P2;split
 .simp
 .rename_i hc;have v:=Vd.of (Decidable.not_not.1 hc);have g8:=v.g8;cases e:(List.range ((mG m).length+1)).findSome? (Fa m) with
  |none=>simp
  |some x=>
   obtain⟨j,_,h⟩:=List.exists_of_findSome?_eq_some e;have:=Gk (O8 (List.mem_of_find?_eq_some h));simp;omega
theorem XX:Sm ((0,0,0,0,[],[]):ab):=by
 constructor <;> simp [mD,mG]
theorem Pl{m:ab}{g:aC}:Sm (EV m g).1:=by
 by_cases h:sT m g=0
 .rw [xj h];have hc:lj m=0:=Decidable.byContradiction λhc=>hc ((EX hc).symm.trans h);have h8:¬(mG m).length=8:=λh8=>by simp_all [EY]
  have hg:tH m g=0:=Decidable.byContradiction λhg=>hg ((EW hc h8 hg).symm.trans h);have v:=Vd.of hc;have g8:=v.g8;exact(v.more (by omega) hg).sm
 simp_all [lX,XX]
theorem DI(a0:ab)(a1:aC)(a2:List Int):jZ 1200 a0 a1 a2=some true:=by
 unfold jZ;obtain⟨b,e,hb⟩:=Oe (k:=1200) (by omega) (m:=a0);rw [e,bs];by_cases hx:b=true
 .rw [if_pos hx,CM,bs]
 .rw [if_neg hx];have hs:=hb (by simp_all);obtain⟨r5,e5,rfl⟩:∃r1,nH 1200 a2=some r1/\r1=(a2,0,1):=⟨_,rfl,rfl⟩;rw [e5,bs];obtain⟨r7,e7,lo7,x,y,h7,vx,sy,cx,dx,ey⟩:=D3 (k:=1200) (by omega) hs (g:=a1) (l:=(a2,0,1)) ⟨Int.le_refl 0,Int.le_refl 0⟩;rw [show jF 1200 a0 a1 ((a2,(0:Int),(1:Int)).1,(a2,(0:Int),(1:Int)).2.1,(a2,(0:Int),(1:Int)).2.2)=some r7 from e7,bs];have g1:aK r7.1 (1:Int)=some x:=by rw [h7];rfl
  have c1:=vx.c1;have c5:=vx.c5;obtain⟨r10,e10,lo10,_⟩:=qB (k:=1200) (l:=(r7.2.1,r7.2.2.1,r7.2.2.2)) (x:=(x.1,x.2.1,x.2.2.1,x.2.2.2.1,x.2.2.2.2.1,())) lo7 (by omega) ⟨c1,c5⟩ vx.d6;obtain⟨r11,e11,lo11,_⟩:=qB (k:=1200) (l:=(r10.2.1,r10.2.2.1,r10.2.2.2)) (x:=(x.1,x.2.1,x.2.2.1,x.2.2.2.1,x.2.2.2.2.1,())) lo10 (by omega) ⟨c1,c5⟩ vx.d6;rw [g1,bs,bs,show iR 1200 (r7.2.1,r7.2.2.1,r7.2.2.2) x=some r10 from e10,bs,show iR 1200 (r10.2.1,r10.2.2.1,r10.2.2.2) x=some r11 from e11,bs];rw [IZ (f:=dP 1200 a1 r7 r10 r11) h7 hs vx sy (λn j z j3 hj hz sz=>?_) (λn=>?_),jA,CM,bs]
  .have hck:ck ((j:Int)+1)=some ((j:Int)+1):=cE (by omega) (by omega);obtain⟨q,hq⟩:∃q,aK [a1,r10.1,r11.1] (j:Int)=some q:=⟨_,cj (l:=[a1,r10.1,r11.1]) (i:=j) j3⟩;have eta:(z.1,z.2.1,z.2.2.1,z.2.2.2.1,z.2.2.2.2.1,z.2.2.2.2.2)=z:=rfl;have hl:=MK (m:=z);simp only [dP,hj,if_true,hz,hq,bs,ve (k:=1200) (by omega) sz,eta,Hl (k:=1200) sz (by omega),G8 sz,N8 (k:=1200) sz (by omega),Nx (k:=1200) sz (by omega),not_true_eq_false,if_false,pX (k:=1200) (by omega) sz,pX (k:=1200) (by omega) (Pl (m:=z) (g:=q)),uU (k:=1200) (a:=(P2 z).1) (b:=(P2 z).1) (by omega) (by omega),decide_true,Bool.not_true,Bool.false_eq_true,hck]
  .rw [dP,if_neg (Int.lt_irrefl _)]
