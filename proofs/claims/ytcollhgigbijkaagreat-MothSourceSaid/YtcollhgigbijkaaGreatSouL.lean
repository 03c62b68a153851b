import Derived.Test.YtcollhgigbijkaaGreatVCB11
open Nat
open List hiding mem_of_getElem?
open Array hiding mem_of_getElem? mk
set_option linter.unusedVariables false
set_option linter.unusedSimpArgs false
namespace Go.Proofs.YtcollhgigbijkaaGreat
open K Go Go.Proofs
theorem qe{m:ae}(hw:0≤mW m):∀(n:Nat) (c:Int),jm m (λ_=>false) n c= -1
 |0,c=>rfl
 |n+1,c=>by
  rw [jm,qe hw n c]
  split
  .
   omega
  .
   rw [if_neg (by omega),if_neg]
   rw [List.any_eq_true]
   rintro⟨x,_,h⟩
   rw [qe hw n x] at h
   grind
theorem xO{m:ae}(hw:0≤mW m):∀(b:List Int) (n:Nat) (c:Int),0≤jm m (λx=>decide (x∈b)) n c↔∃x∈b,0≤jm m (λy=>decide (y∈[x])) n c
 |[],n,c=>by
  have:(λx:Int=>decide (x∈([]:List Int)))=λ_=>false:=by simp_all
  simp_all [qe]
 |x::b,n,c=>by
  have h:=C9 (m:=m) (A:=λy=>decide (y∈[x])) (B:=λy=>decide (y∈b)) (U:=λy=>decide (y∈x::b)) hw (λy=>by simp_all) n c
  have e:0≤jm m (λy=>decide (y∈x::b)) n c↔0≤jm m (λy=>decide (y∈[x])) n c\/0≤jm m (λy=>decide (y∈b)) n c:=by
   grind [mX]
  rw [e,xO hw b n c];simp_all
theorem kT{m:ae}{B:Int->Bool}{c:Int}:0≤jZ m B c↔∃n,n≤(mD m).length/\0≤jm m B n c:=by
 constructor
 .intro h;unfold jZ at h;grind
 .rintro⟨n,hn,h⟩;unfold jZ;grind
def uW(N:Nat)(f:Nat->Bool):List Bool:=(List.range N).map f
theorem Cj{N:Nat}{f:Nat->Bool}{j:Nat}(h:j < N):aQ (uW N f) (j:Int)=some (f j):=by
 simp_all [HH,Int.toNat_natCast,uW,List.getElem?_map,List.getElem?_range]
theorem J7{N:Nat}{f:Nat->Bool}{j:Nat}{x:Bool}:List.set (uW N f) j x=uW N λn=>if n=j then x else f n:=by
 refine List.ext_getElem? λi=>?_;rw [List.getElem?_set];unfold uW;grind
theorem J8{N:Nat}:List.replicate N false=uW N λ_=>false:=by
 grind [uW,List.map_const',length_range]
theorem A6{k:Nat}{m:ae}{b:List Int}(v:Vd m)(hk:1010≤k)(hb:Bg (mC m) b):iq k m b=some (jO m λc=>decide (c∈b),0):=by
 have c1:=v.c1;have:=hb.len ⟨by omega,v.c5⟩;rw [A7 v.sm hk (by omega),v.chk,oZ.2 hb];rfl
theorem zq{p:Nat->Bool}:∀(n i:Nat) (s:Bool),i9 (λ(s:Bool) (j _:Nat)=>s || p j) i (List.range' i n) s=(s || (List.range' i n).any p)
 |0,_,s=>by simp [i9]
 |n+1,i,s=>by rw [List.range'_succ,i9,zq n (i+1),any_cons,Bool.or_assoc]
theorem NC{m:ae}{c:Int}{b:List Int}(v:Vd m)(h0:0≤c)(h1:c < mC m):cH 1200 c (jO m λx=>decide (x∈b),0) 1200 (false,0)=some (decide (0≤jZ m (λx=>decide (x∈b)) c)):=by
 have d6:=v.d6;have hlen:((jO m λx=>decide (x∈b)).length:Int)=(mD m).length+1:=by rw [mA];rfl
 have key:=ff (T:=Bool×Int) (f:=cH 1200 c (jO m λx=>decide (x∈b),0)) (List.range ((mD m).length+1)) (λ(s:Bool) j=>(s,j)) (λ(s:Bool) j _=>s || decide (0≤jm m (λx=>decide (x∈b)) j c)) (λ_ _=>True) (λs=>some s)
  (λn s j hj _=>by
   rw [length_range] at hj;have hck:ck ((j:Int)+1)=some ((j:Int)+1):=dq (by omega) (by omega);refine⟨?_,trivial⟩;rw [cH,if_pos (by grind)];cases s with
   |true=>simp_all
   |false=>rw [if_neg (by simp),ww (by omega),bs,Gf h0 h1,bs,bs,hck,bs];rfl)
  (λn s _=>by simp_all [length_range,cH,if_neg,mD,jO,decide]) (n:=1200) (s0:=false) (by grind) trivial
 rw [show cH 1200 c (jO m λx=>decide (x∈b),0) 1200 (false,0)=_ from key.1,List.range_eq_range',zq,Bool.false_or];congr 1;rw [Bool.eq_iff_iff,List.any_eq_true,decide_eq_true_iff,kT];grind
theorem NA{L:List (List Int)}{R:List Int}{e1 e2:Int}{j0:Nat}{w:(List Bool)×Int}{f:Nat->Bool}(hj0:j0 < L.length)(hl:L.length≤32)(hb:L[j0].length≤5)(hR:R.length≤5)(hw:w.2=j0):
 cG 1200 (L,e1) (R,e2) w 1200 (uW R.length f,false,0)=some (uW R.length λn=>f n || decide (R[n]?.getD 0∈L[j0]),R.any λx=>decide (x∈L[j0])):=by
 have key:=ff (T:=List Bool×Bool×Int) (f:=cG 1200 (L,e1) (R,e2) w) R (λ(s:(Nat->Bool)×Bool) j=>(uW R.length s.1,s.2,j)) (λs j x=>if x∈L[j0] then(λn=>if n=j then true else s.1 n,true) else s) (λj s=>(∀n,n < R.length->s.1 n=(f n || (decide (n < j) && decide (R[n]?.getD 0∈L[j0]))))/\s.2=(R.take j).any λx=>decide (x∈L[j0])) (λs=>some (uW R.length s.1,s.2))
  (λn s j hj hs=>by
   have hck:ck ((j:Int)+1)=some ((j:Int)+1):=dq (by omega) (by omega);obtain⟨r,er,hr⟩:=QL (k:=1200) (l:=L[j0]) (x:=R[j]) (by omega) (by omega);have hxj:R[j]?.getD 0=R[j]:=by simp_all
   refine⟨?_,λi hi=>?_,?_⟩
   .rw [cG,if_pos (by simp_all),hw,eH hj0,bs,eH hj,bs,er,bs];by_cases h:R[j]∈L[j0]
    .simp_all [if_pos,Cj,bs,Int.toNat_natCast,J7]
    grind
   .grind
   .rw [take_add_one,List.any_append,<-hs.2,List.getElem?_eq_getElem hj];grind)
  (λn s _=>by rw [cG,if_neg (Int.lt_irrefl _)]) (n:=1200) (s0:=(f,false)) (by omega) ⟨λi _=>by simp,by simp⟩
 rw [show cG 1200 (L,e1) (R,e2) w 1200 (uW R.length f,false,0)=_ from key.1]
 simp_all [take_length,uW,List.map_congr_left,List.mem_range]
theorem ND{m:ae}{r3:ae×bO}{c:Int}{L:List (List Int)}{e1 e2:Int}(v:Vd m)(h3:r3.1=m)(h0:0≤c)(h1:c < mC m)(hL:∀b∈L,Bg (mC m) b)(hl:L.length≤32):
 cI 1200 r3 (L,e1) c (eN m c L,e2) 1200 (List.replicate (eN m c L).length false,0)=some (.ok (uW (eN m c L).length λn=>L.any λb=>decide ((eN m c L)[n]?.getD 0∈b))):=by
 subst h3
 have c1:=v.c1
 have c5:=v.c5
 have hU:=ta (C:=(mC r3.1).toNat) (L:=L)
 have hRl:(eN r3.1 c L).length≤5:=Nat.le_trans (List.length_filter_le _ _) (hU.len ⟨by omega,by omega⟩)
 have hR:∀b∈L,((eN r3.1 c L).any λx=>decide (x∈b))=decide (0≤jZ r3.1 (λx=>decide (x∈b)) c):=λb hb=>by
  rw [Bool.eq_iff_iff,List.any_eq_true,decide_eq_true_iff];have hL':∀b∈L,Bg (((mC r3.1).toNat:Nat):Int) b:=λb hb=>by grind
  constructor
  .rintro⟨x,hx,h⟩;unfold eN at hx;rw [List.mem_filter] at hx;obtain⟨n,hn,ha⟩:=kT.1 (of_decide_eq_true hx.2);exact kT.2 ⟨n,hn,(xO v.w0 b n c).2 ⟨x,of_decide_eq_true h,ha⟩⟩
  .intro h;obtain⟨n,hn,ha⟩:=kT.1 h;obtain⟨x,hx,hax⟩:=(xO v.w0 b n c).1 ha;grind [decide_eq_true,eN,tL,kT]
 generalize eN r3.1 c L=R at *
 have key:=ff (T:=List Bool×Int) (β:=Except Bool (List Bool)) (f:=cI 1200 r3 (L,e1) c (R,e2)) L (λ(s:Nat->Bool) j=>(uW R.length s,j)) (λs _ b=>λn=>s n || decide (R[n]?.getD 0∈b)) (λ_ _=>True) (λs=>some (.ok (uW R.length s)))
  (λn s j hj _=>by
   have hck:ck ((j:Int)+1)=some ((j:Int)+1):=dq (by omega) (by omega);have hb:=hL _ (List.getElem_mem hj);refine⟨?_,trivial⟩;rw [cI,if_pos (by simp_all),eH hj,bs,A6 v (by omega) hb,bs];simp only [not_true_eq_false,if_false];rw [FB v (by omega),bs];simp only [Bool.not_true,bs,Bool.false_eq_true,if_false];rw [NC v h0 h1,bs,NA (w:=(uW R.length s,(j:Int))) hj hl (hb.len ⟨by omega,c5⟩) hRl rfl,bs,if_neg (by simp_all),mB,hck,bs])
  (λn s _=>by rw [cI,if_neg (Int.lt_irrefl _)]) (n:=1200) (s0:=λ_=>false) (by omega) trivial
 rw [J8,show cI 1200 r3 (L,e1) c (R,e2) 1200 (uW R.length λ_=>false,0)=_ from key.1]
 have:∀(l:List (List Int)) (j:Nat) (s:Nat->Bool),i9 (λ(s:Nat->Bool) _ b=>λn=>s n || decide (R[n]?.getD 0∈b)) j l s=λn=>s n || l.any λb=>decide (R[n]?.getD 0∈b):=by
  intro l
  induction l with
  |nil=>simp_all [i9]
  |cons b l ih=>intro j s;rw [i9,ih];grind
 simp_all
theorem Nz{N:Nat}{f:Nat->Bool}(hN:N≤5)(hf:∀n,n < N->f n=true):cX 1200 (uW N f) 1200 0=some (.ok ()):=by
 have hlen:(uW N f).length=N:=by simp [uW]
 have key:=ff (T:=Int) (β:=Except Bool Unit) (f:=cX 1200 (uW N f)) (List.range N) (λ(_:Unit) j=>j) (λs _ _=>s) (λ_ _=>True) (λ_=>some (.ok ()))
  (λn s j hj _=>by
   rw [length_range] at hj;have hck:ck ((j:Int)+1)=some ((j:Int)+1):=dq (by omega) (by omega);simp_all [cX,if_pos,Cj,bs,if_neg])
  (λn s _=>by simp_all [length_range,cX,if_neg]) (n:=1200) (s0:=()) (by grind) trivial
 exact key.1
theorem AB(a0:List Int):iQ 1200 a0=some true:=by
 unfold iQ;obtain⟨r1,e1,rfl⟩:∃r1,lP 1200 a0=some r1/\r1=(a0,0,1):=⟨_,rfl,rfl⟩;rw [e1,bs];obtain⟨r3,e3,lo3,v,hgs,hcs,hds⟩:=xn (k:=1200) (by omega) (l:=(a0,0,1)) (m:=0) (cs:=4) (ds:=4) ⟨Int.le_refl 0,Int.le_refl 0⟩ (by omega) (by omega) (by omega);rw [show f9 1200 ((a0,(0:Int),(1:Int)).1,(a0,(0:Int),(1:Int)).2.1,(a0,(0:Int),(1:Int)).2.2) 4 4=some r3 from e3,bs,Ed v (by omega),bs];have hl:=uw v (but:=fj);have hL:∀x∈jN r3.1 fj,Bg (mC r3.1) x:=λx h=>xB v h;have c1:=v.c1;have c5:=v.c5;simp only [not_true_eq_false,if_false];rw [show decide ((32:Int) < ((jN r3.1 fj).length:Int))=false by simp;omega];simp only [bs,Bool.false_eq_true,if_false]
 have key:=ff (T:=Int) (β:=Except Bool Unit) (f:=cY 1200 r3 (jN r3.1 fj,0)) (List.range (mC r3.1).toNat) (λ(_:Unit) j=>j) (λs _ _=>s) (λ_ _=>True) (λ_=>some (.ok ()))
  (λn s j hj _=>by
   rw [length_range] at hj;have hck:ck ((j:Int)+1)=some ((j:Int)+1):=dq (by omega) (by omega);have hjC:(j:Int) < mC r3.1:=by omega
   refine⟨?_,trivial⟩;rw [cY,if_pos hjC,Ks v.sm (by omega),bs]
   have hS:Js r3.1 j=if(jN r3.1 fj).length=0 then([],9) else(eN r3.1 j (jN r3.1 fj),0):=by
    unfold Js;rw [if_neg (λh=>h v.chk),if_neg (λh=>h ⟨by omega,hjC⟩)]
   rw [hS];by_cases h0:(jN r3.1 fj).length=0
   .simp_all [if_pos,jN,fj,if_neg,mB,bs]
   .rw [if_neg h0,if_neg (by simp_all)];have hU:=ta (C:=(mC r3.1).toNat) (L:=jN r3.1 fj)
    have hUl:(rz (mC r3.1).toNat (jN r3.1 fj)).length≤(mC r3.1).toNat:=by
     unfold rz;grind
    have hRl:(eN r3.1 j (jN r3.1 fj)).length≤(mC r3.1).toNat:=Nat.le_trans (List.length_filter_le _ _) hUl;simp only [not_true_eq_false,if_false];rw [show decide (r3.1.1 < ((eN r3.1 j (jN r3.1 fj)).length:Int))=false from decide_eq_false (by grind)];simp only [bs,Bool.false_eq_true,if_false,Int.toNat_natCast];rw [dO ⟨by omega,TS (by omega)⟩,bs,ND v rfl (by omega) hjC hL hl,mB,Nz (by omega) (λn hn=>?_),mB,hck,bs];have hm:(eN r3.1 j (jN r3.1 fj))[n]∈rz (mC r3.1).toNat (jN r3.1 fj):=(List.mem_filter.1 (List.getElem_mem hn)).1;have hL':∀b∈jN r3.1 fj,Bg (((mC r3.1).toNat:Nat):Int) b:=λb hb=>by grind
    obtain⟨b,hb,hx⟩:=(tL hL').1 hm;grind)
  (λn s _=>by rw [length_range,cY,if_neg (by grind)]) (n:=1200) (s0:=()) (by grind) trivial
 grind [cY,jN,fj,mB,HC,bs]
