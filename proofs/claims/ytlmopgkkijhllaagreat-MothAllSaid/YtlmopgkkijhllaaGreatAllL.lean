import Derived.Test.YtlmopgkkijhllaaGreatVBB12
set_option linter.unusedVariables false
set_option linter.unusedSimpArgs false
namespace Go.Proofs.YtlmopgkkijhllaaGreat
open K Go Go.Proofs
theorem xN{k:Nat}{m:ag}{b but:List Int}(v:Vd m)(hb:Bg (mC m) b)(hk:1010≤k)(hl:but.length≤40):
 iY k m b but=some (yd m (fun i=>decide ((i:Int)∈but)) (fun c=>decide (c∈b)),true):=by
 have g8:=v.g8
 unfold iY
 rw [BE v hb hk,bs]
 simp only [not_true_eq_false,if_false,Gg v (show 10≤k by omega),bs,Bool.not_true,Bool.false_eq_true]
 have key:=lU (T:=Int) (f:=dp k m but (lx m fun c=>decide (c∈b),0)) (mG m) (fun(_:Unit) j=>j) (fun _ j x=>if(decide ((j:Int)∈but) || decide (x.2.2=decide (mS m≤mg m (fun c=>decide (c∈b)) x.2.1.toNat x.1)))=true then .ok () else Except.error (false,true)) (fun _ _=>True) (fun r=>some r)
  (fun n s j hj _=>by
   have hck:ck ((j:Int)+1)=some ((j:Int)+1):=c8 (by omega) (by omega);have hg:=v.gl _ (List.getElem_mem hj);have hj':(j:Int) < (m.2.2.2.2.2.length:Int):=Int.ofNat_lt.2 hj;have hget:aO m.2.2.2.2.2 (j:Int)=some (mG m)[j]:=dT hj;generalize (mG m)[j]=x at *;obtain⟨r,er,hr⟩:=QZ (k:=k) (l:=but) (x:=(j:Int)) (by omega) (by omega);have e:x.2.1=((x.2.1.toNat:Nat):Int):=by omega
   have h1:aO (lx m fun c=>decide (c∈b)) x.2.1=some (nH m (fun c=>decide (c∈b)) x.2.1.toNat):=by
    have:=wS (m:=m) (B:=fun c=>decide (c∈b)) (n:=x.2.1.toNat) (by omega);rw [←e] at this;exact this
   refine⟨?_,fun _ _=>trivial⟩;have hm1:m.2.2.1=mS m:=rfl;simp only [dp,hj',if_true,hget,bs,er,h1,GQ hg.1 hg.2.1,hm1];by_cases hin:(j:Int)∈but
   ·rw [if_neg (by have:=hr.2 hin;omega),bs,if_neg (by decide),hck,bs,if_pos (by simp [hin])]
   ·rw [if_pos (by have:¬0≤r:=fun h=>hin (hr.1 h);omega),bs];by_cases e:x.2.2=decide (mS m≤mg m (fun c=>decide (c∈b)) x.2.1.toNat x.1)
    ·rw [if_neg (by simp [←e]),hck,bs,if_pos (by simp [←e])]
    ·rw [if_pos (by simpa using e),if_neg (by simp [hin,e])])
  (fun n s _=>by
   unfold dp;rw [if_neg (Int.lt_irrefl _)]) (n:=k) (s0:=()) (by omega) trivial
 rw [show dp k m but (lx m fun c=>decide (c∈b),0) k 0=_ from key,sK (p:=fun j (x:bu)=>decide ((j:Int)∈but) || decide (x.2.2=decide (mS m≤mg m (fun c=>decide (c∈b)) x.2.1.toNat x.1)))]
 unfold yd
 cases((mG m).zipIdx 0).all fun g=>decide ((g.2:Int)∈but) || decide (g.1.2.2=decide (mS m≤mg m (fun c=>decide (c∈b)) g.1.2.1.toNat g.1.1)) with
 |true=>simp only [if_true];rw [ma]
 |false=>simp only [Bool.false_eq_true,if_false];rw [py]
theorem LF(a0:List Int):lS 1200 a0=some true:=by
 unfold lS;obtain⟨r1,e1,rfl⟩:∃r1,lT 1200 a0=some r1∧r1=(a0,0,1):=⟨_,rfl,rfl⟩;rw [e1,bs];obtain⟨r3,e3,lo3,v,hg4,_,_⟩:=xR (k:=1200) (by omega) (l:=(a0,0,1)) (m:=0) (cs:=4) (ds:=4) ⟨Int.le_refl 0,Int.le_refl 0⟩ (by omega) (by omega) (by omega);have c1:=v.c1;have hlen:=vb v;rw [show fZ 1200 ((a0,(0:Int),(1:Int)).1,(a0,(0:Int),(1:Int)).2.1,(a0,(0:Int),(1:Int)).2.2) 4 4=some r3 from e3,bs,GX v (by omega),bs]
 have key:=lU (T:=List (List Int)×Int) (f:=dK 1200 r3 (vc r3.1)) (vc r3.1) (fun(s:List (List Int)) j=>(s,j)) (fun s _ b=>(.ok (if yd r3.1 eu (fun c=>decide (c∈b)) then s++[b] else s):Except Bool (List (List Int)))) (fun j s=>s.length≤j) (fun r=>some r)
  (fun n s j hj hs=>by
   have hck:ck ((j:Int)+1)=some ((j:Int)+1):=c8 (by omega) (by omega);have hbg:=yk v (List.getElem_mem hj);have hex:=xN (k:=1200) (but:=[]) v hbg (by omega) (by simp);rw [RS] at hex;refine⟨?_,fun s' e=>?_⟩
   ·simp only [dK,Int.ofNat_lt,hj,if_true,dT hj,bs,hex,not_true_eq_false,if_false];cases yd r3.1 eu (fun c=>decide (c∈(vc r3.1)[j])) with
    |true=>
     simp only [if_true];rw [du (by simp [bK];omega),bs,ma,hck,bs]
    |false=>simp only [Bool.false_eq_true,if_false];rw [ma,hck,bs]
   ·cases e;split
    ·simp;omega
    ·omega)
  (fun n s _=>by
   unfold dK;rw [if_neg (Int.lt_irrefl _)]) (n:=1200) (s0:=[]) (by omega) (by simp)
 have hf:∀(l:List (List Int)) (j:Nat) (s:List (List Int)),eg (fun s _ b=>(.ok (if yd r3.1 eu (fun c=>decide (c∈b)) then s++[b] else s):Except Bool (List (List Int)))) j l s= .ok (s++l.filter fun b=>yd r3.1 eu (fun c=>decide (c∈b))):=by
  intro l
  induction l with
  |nil=>intro j s;simp [eg]
  |cons b l ih=>
   intro j s;rw [eg];dsimp only;rw [ih (j+1),List.filter_cons];cases yd r3.1 eu (fun c=>decide (c∈b)) <;> simp
 rw [show dK 1200 r3 (vc r3.1) 1200 ([],0)=_ from key,hf,ma,List.nil_append,BG v.sm (by omega),bs,BF v.sm (by omega),bs];have hsl:=EQ (k:=1200) (m:=r3.1) (by omega);have hE:((vc r3.1).filter fun b=>yd r3.1 eu fun c=>decide (c∈b))=mJ r3.1 eu:=rfl;have hfl:=zL (m:=r3.1);have hfe:o8 r3.1=match mJ r3.1 eu with |[]=>([],9) |b::L=>(nM b L,0):=by unfold o8;rw [if_neg (fun hn=>hn v.chk)];cases mJ r3.1 eu <;> rfl
 rw [hE];simp only [v.chk,not_true_eq_false,if_false] at hsl⊢;rw [hsl,bs,bs];simp only [Bool.not_true,Bool.false_eq_true,if_false];have hl32:=rp v (but:=eu);generalize mJ r3.1 eu=E at *;cases E with
 |nil=>
  rw [hfe];simp [zE,bs]
 |cons b L=>
  rw [hfe] at hfl⊢;rw [if_neg (by simp;omega)];have g0:aO (b::L) (0:Int)=some b:=rfl;rw [g0,bs]
  have key:=i8 (T:=List Int×Int) (f:=dJ 1200 (b::L,false)) (b::L) (fun(s:List Int) j=>(s,j)) (fun s _ x=>if x.length < s.length then x else s) (fun _ _=>True) (fun s=>some s)
   (fun n s j hj _=>by
    have hck:ck ((j:Int)+1)=some ((j:Int)+1):=c8 (by omega) (by omega);refine⟨?_,trivial⟩;simp only [dJ,Int.ofNat_lt,hj,if_true,dT hj,bs];by_cases h:(b::L)[j].length < s.length
    ·rw [if_pos h,bs,hck,bs,if_pos h]
    ·rw [if_neg h,bs,hck,bs,if_neg h])
   (fun n s _=>by
    unfold dJ;rw [if_neg (Int.lt_irrefl _)]) (n:=1200) (s0:=b) (by omega) trivial
  rw [show dJ 1200 (b::L,false) 1200 (b,0)=_ from key.1,bs,sJ];have hb2:nM b (b::L)=nM b L:=by show nM (if b.length < b.length then b else b) L=_;rw [if_neg (Nat.lt_irrefl _)]
  rw [hb2];simp only [if_true];rw [s6 (by show(nM b L).length < 1200;have:(nM b L).length≤5:=hfl;omega) (by have:(nM b L).length≤5:=hfl;omega),bs];simp [zE,bs]
