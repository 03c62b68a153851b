import Derived.Test.YtddkbkkogpolaaaGreatVDB12
open Nat
open List hiding mem_of_getElem?
open Array hiding mem_of_getElem? mk
set_option linter.unusedVariables false
set_option linter.unusedSimpArgs false
namespace Go.Proofs.YtddkbkkogpolaaaGreat
open K Go Go.Proofs
def vG(N:Nat)(f:Nat->Int):List Int:=(List.range N).map f
theorem CZ{N:Nat}{f:Nat->Int}:(vG N f).length=N:=by simp [vG]
theorem C0{N:Nat}{f:Nat->Int}{j:Nat}(h:j < N):aJ (vG N f) (j:Int)=some (f j):=by
 simp_all [ov,Int.toNat_natCast,vG,List.getElem?_map,List.getElem?_range]
theorem CY{N:Nat}{f:Nat->Int}{j:Nat}{x:Int}:List.set (vG N f) j x=vG N λn=>if n=j then x else f n:=by
 refine List.ext_getElem? λi=>?_;rw [List.getElem?_set];unfold vG;grind
theorem KG{N:Nat}:List.replicate N (0:Int)=vG N λ_=>0:=by
 grind [vG,List.map_const',length_range]
def cS(m:ae)(b:List Int):List (List Int):=nB m λc=>decide (c∈b)
theorem EF{k:Nat}{m:ae}{b:List Int}(v:Vd m)(hk:1010≤k)(hb:Bg (mC m) b):ix k m b=some (cS m b,0):=by
 have c1:=v.c1;have:=hb.len ⟨by omega,v.c5⟩;rw [Bv v.sm hk (by omega),v.chk,pi.2 hb];rfl
theorem uK{α β:Type}{f:α->β}:∀(L:List α) (j:Nat) (s:List β),fC (λ(s:List β) _ b=>s++[f b]) j L s=s++L.map f
 |[],_,s=>by simp [fC]
 |b::L,j,s=>by rw [fC,uK L];simp
theorem Ob{m:ae}{r3:ae×bM}{L:List (List Int)}{e:Int}(v:Vd m)(h3:r3.1=m)(hL:∀b∈L,Bg (mC m) b)(hl:L.length≤32):c6 1200 r3 (L,e) 1200 ([],0)=some (.ok (L.map (cS m))):=by
 subst h3
 have key:=dA (T:=List (List (List Int))×Int) (β:=Except Bool (List (List (List Int)))) (f:=c6 1200 r3 (L,e)) L (λ(s:List (List (List Int))) j=>(s,j)) (λs _ b=>s++[cS r3.1 b]) (λj s=>s.length=j) (λs=>some (.ok s))
  (λn s j hj hs=>by
   have hck:ck ((j:Int)+1)=some ((j:Int)+1):=cR (by omega) (by omega);have hb:=hL _ (List.getElem_mem hj);have hok:bP (length s+length [cS r3.1 L[j]]):=Qn (n:=50) (by omega) (by omega);refine⟨?_,by simp [hs]⟩;rw [c6,if_pos (by simp_all),fZ hj,bs,EF v (by omega) hb,bs];simp only [not_true_eq_false,if_false];rw [show kW 1200 r3.1 (cS r3.1 L[j])=some true from F6 v (by omega),bs];simp_all [Bool.not_true,bs,Bool.false_eq_true,if_false,dB])
  (λn s _=>by rw [c6,if_neg (Int.lt_irrefl _)]) (n:=1200) (s0:=[]) (by omega) rfl
 grind [c6,uK]
def CE(m:ae)(L:List (List Int))(n:Nat):List Int:=(List.range (mC m).toNat).map λ(c:Nat)=>pB (nI m n c 0 L) L.length
theorem yW{m:ae}(v:Vd m){n:Nat}(hn:n≤(mD m).length):xg m n=if(fp m cU).length=0 then([],9) else(CE m (fp m cU) n,0):=by
 unfold xg;rw [if_neg (λh=>h v.chk),if_neg (λh=>h ⟨by omega,by omega⟩),Int.toNat_natCast];rfl
theorem uH{β:Type}{f:Nat->β}:∀(n i:Nat) (s:List β),fC (λ(s:List β) (j _:Nat)=>s++[f j]) i (List.range' i n) s=s++(List.range' i n).map f
 |0,_,s=>by simp [fC]
 |n+1,i,s=>by rw [List.range'_succ,fC,uH n (i+1)];simp
theorem Oa{m:ae}{r3:ae×bM}{e:Int}(v:Vd m)(h3:r3.1=m):bV 1200 r3 (fp m cU,e) 1200 ([],0)=some (.ok (if(fp m cU).length=0 then [] else(List.range ((mD m).length+1)).map (CE m (fp m cU)))):=by
 subst h3;have d6:=v.d6;have c1:=v.c1;by_cases h0:(fp r3.1 cU).length=0
 .have key:=dA (T:=List (List Int)×Int) (β:=Except Bool (List (List Int))) (f:=bV 1200 r3 (fp r3.1 cU,e)) (List.range ((mD r3.1).length+1)) (λ(s:List (List Int)) j=>(s,j)) (λs _ _=>s) (λ_ s=>s=[]) (λs=>some (.ok s))
   (λn s j hj hs=>by
    rw [length_range] at hj;have hck:ck ((j:Int)+1)=some ((j:Int)+1):=cR (by omega) (by omega);refine⟨?_,hs⟩;rw [bV,if_pos (by grind),ww v.sm (by omega),bs,yW v (by omega),if_pos h0,if_pos (by simp_all),if_neg (by simp),kN,hck,bs])
   (λn s _=>by rw [length_range,bV,if_neg (by grind)]) (n:=1200) (s0:=[]) (by grind) rfl
  simp_all
 .have key:=dA (T:=List (List Int)×Int) (β:=Except Bool (List (List Int))) (f:=bV 1200 r3 (fp r3.1 cU,e)) (List.range ((mD r3.1).length+1)) (λ(s:List (List Int)) j=>(s,j)) (λs j _=>s++[CE r3.1 (fp r3.1 cU) j]) (λj s=>s.length=j) (λs=>some (.ok s))
   (λn s j hj hs=>by
    rw [length_range] at hj;have hck:ck ((j:Int)+1)=some ((j:Int)+1):=cR (by omega) (by omega);have hok:bP (length s+length [CE r3.1 (fp r3.1 cU) j]):=Qn (n:=50) (by omega) (by omega);have hlen:(((CE r3.1 (fp r3.1 cU) j).length:Nat):Int)=r3.1.1:=by unfold CE;grind
    refine⟨?_,by simp [hs]⟩;rw [bV,if_pos (by grind),ww v.sm (by omega),bs,yW v (by omega),if_neg h0,if_neg (by simp_all)];simp only [not_true_eq_false,if_false,hlen,decide_true,Bool.not_true,bs,Bool.false_eq_true,dB hok,kN,hck])
   (λn s _=>by rw [length_range,bV,if_neg (by grind)]) (n:=1200) (s0:=[]) (by grind) rfl
  rw [show bV 1200 r3 (fp r3.1 cU,e) 1200 ([],0)=_ from key.1,if_neg h0,List.range_eq_range',uH,nil_append]
def gB(N:Nat)(A:Nat->Int)(f:Nat->Int):Nat->Int:=λn=>f n+if n < N/\0≤A n then 1 else 0
def BE(A:Nat->Int)(j:Nat):Int:=match (List.range j).findIdx? λn=>decide (0≤A n) with
 |some i=>i
 |none=> -1
theorem EL{A:Nat->Int}{j:Nat}:BE A (j+1)=if 0≤A j then(if BE A j < 0 then(j:Int) else BE A j) else BE A j:=by
 unfold BE;rw [List.range_succ,List.findIdx?_append];grind
theorem N8{m:ae}{L:List (List Int)}{c:Int}{j0:Nat}{w:Int×Int×Bool×(List Int)×Int}{f:Nat->Int}(v:Vd m)(hj0:j0 < L.length)(hc0:0≤c)(hc1:c < mC m)(hw:w.2.2.2.2=j0)(hf:∀n,0≤f n/\f n≤100):
 cJ 1200 (L.map (cS m)) c w 1200 (vG ((mD m).length+1) f, -1,0)=some (vG ((mD m).length+1) (gB ((mD m).length+1) (λn=>lP m (λx=>decide (x∈L[j0])) n c) f),eG m (λx=>decide (x∈L[j0])) c):=by
 have d6:=v.d6
 have hg:aJ (L.map (cS m)) w.2.2.2.2=some (cS m L[j0]):=by simp_all [ov,Int.toNat_natCast,List.getElem?_map,List.getElem?_eq_getElem]
 have hlen:((cS m L[j0]).length:Int)=(mD m).length+1:=by simp_all [cS,mL]
 let A:Nat->Int:=λn=>lP m (λx=>decide (x∈L[j0])) n c
 have key:=dA (T:=List Int×Int×Int) (f:=cJ 1200 (L.map (cS m)) c w) (List.range ((mD m).length+1)) (λ(s:(Nat->Int)×Int) j=>(vG ((mD m).length+1) s.1,s.2,j)) (λs j _=>if 0≤A j then(λn=>if n=j then s.1 j+1 else s.1 n,if s.2 < 0 then(j:Int) else s.2) else s) (λj s=>s=(gB j A f,BE A j)) (λs=>some (vG ((mD m).length+1) s.1,s.2))
  (λn s j hj hs=>by
   rw [length_range] at hj;subst hs;have hck:ck ((j:Int)+1)=some ((j:Int)+1):=cR (by omega) (by omega);have hf0:=hf j;have hpj:gB j A f j=f j:=by unfold gB;omega
   have hck2:ck (gB j A f j+1)=some (gB j A f j+1):=cR (by omega) (by omega);refine⟨?_,?_⟩
   .rw [cJ,hg,bs,if_pos (by grind),bs,show aJ (cS m L[j0]) (j:Int)=_ from wM (by omega),bs,GN hc0 hc1,bs];show Option.bind (if 0≤A j then _ else _) _=_;by_cases ha:0≤A j
    .rw [if_pos ha,if_pos ha,C0 (by omega),bs,hck2,bs,bs];by_cases h2:BE A j < 0
     .simp_all [if_pos,bs,Int.toNat_natCast,CY]
     simp_all [if_neg,bs,Int.toNat_natCast,CY]
    grind
   .rw [EL];by_cases ha:0≤A j
    .rw [if_pos ha,if_pos ha];refine Prod.ext ?_ rfl;funext n;show(if n=j then gB j A f j+1 else gB j A f n)=gB (j+1) A f n;unfold gB;grind
    .rw [if_neg ha,if_neg ha];refine Prod.ext ?_ rfl;funext n;show gB j A f n=gB (j+1) A f n;unfold gB;grind)
  (λn s _=>by simp_all [length_range,cJ,bs,if_neg,mD]) (n:=1200) (s0:=(f, -1)) (by grind) (Prod.ext (by funext n;simp_all [gB,if_neg]) rfl)
 rw [show cJ 1200 (L.map (cS m)) c w 1200 (vG ((mD m).length+1) f, -1,0)=_ from key.1,key.2,length_range]
 rfl
theorem N9{m:ae}{L:List (List Int)}{c:Int}(v:Vd m)(hl:L.length≤32)(hc0:0≤c)(hc1:c < mC m):
 cY 1200 (L.map (cS m)) c 1200 (99, -1,false,List.replicate ((mD m).length+1) 0,0)=some (om 99 (lM m c L),oq (-1) (lM m c L), !(lM m c L).isEmpty,vG ((mD m).length+1) λn=>if n < (mD m).length+1 then(nI m n c 0 L:Int) else 0):=by
 have d6:=v.d6
 have key:=dA (T:=Int×Int×Bool×(List Int)×Int) (f:=cY 1200 (L.map (cS m)) c) L (λ(s:Int×Int×Bool×(Nat->Int)) j=>(s.1,s.2.1,s.2.2.1,vG ((mD m).length+1) s.2.2.2,j))
  (λs _ b=>if 0≤eG m (λx=>decide (x∈b)) c then(pu s.1 (eG m (λx=>decide (x∈b)) c),kK s.2.1 (eG m (λx=>decide (x∈b)) c),true,gB ((mD m).length+1) (λn=>lP m (λx=>decide (x∈b)) n c) s.2.2.2) else(s.1,s.2.1,s.2.2.1,gB ((mD m).length+1) (λn=>lP m (λx=>decide (x∈b)) n c) s.2.2.2))
  (λj s=>∀n,0≤s.2.2.2 n/\s.2.2.2 n≤j) (λs=>some (s.1,s.2.1,s.2.2.1,vG ((mD m).length+1) s.2.2.2))
  (λn s j hj hs=>by
   have hck:ck ((j:Int)+1)=some ((j:Int)+1):=cR (by omega) (by omega);refine⟨?_,λn=>?_⟩
   .rw [cY,if_pos (by simp_all),show cJ 1200 (L.map (cS m)) c (s.1,s.2.1,s.2.2.1,vG ((mD m).length+1) s.2.2.2,(j:Int)) 1200 _=_ from N8 (w:=(s.1,s.2.1,s.2.2.1,vG ((mD m).length+1) s.2.2.2,(j:Int))) v hj hc0 hc1 rfl (λn=>by grind),bs];grind
   .have h1:=hs n
    have h2:0≤gB ((mD m).length+1) (λn=>lP m (λx=>decide (x∈L[j])) n c) s.2.2.2 n/\gB ((mD m).length+1) (λn=>lP m (λx=>decide (x∈L[j])) n c) s.2.2.2 n≤((j+1:Nat):Int):=by
     grind [gB]
    split <;> exact h2)
  (λn s _=>by simp_all [cY,if_neg,cS,length_map]) (n:=1200) (s0:=(99, -1,false,λ_=>0)) (by omega) (λn=>⟨Int.le_refl 0,Int.le_refl 0⟩)
 rw [KG,show cY 1200 (L.map (cS m)) c 1200 (99, -1,false,vG ((mD m).length+1) λ_=>0,0)=_ from key.1]
 have gen:∀(L:List (List Int)) (j:Nat) (s:Int×Int×Bool×(Nat->Int)),fC (λ(s:Int×Int×Bool×(Nat->Int)) _ b=>if 0≤eG m (λx=>decide (x∈b)) c then(pu s.1 (eG m (λx=>decide (x∈b)) c),kK s.2.1 (eG m (λx=>decide (x∈b)) c),true,gB ((mD m).length+1) (λn=>lP m (λx=>decide (x∈b)) n c) s.2.2.2) else(s.1,s.2.1,s.2.2.1,gB ((mD m).length+1) (λn=>lP m (λx=>decide (x∈b)) n c) s.2.2.2)) j L s
  =(om s.1 (lM m c L),oq s.2.1 (lM m c L),s.2.2.1 || !(lM m c L).isEmpty,λn=>s.2.2.2 n+if n < (mD m).length+1 then(nI m n c 0 L:Int) else 0):=by
  intro L
  induction L with
  |nil=>
   simp_all [mD,nI,fC,lM,om,oq]
  |cons b L ih=>
   intro j s
   have hf:∀f:Nat->Int,(λn=>gB ((mD m).length+1) (λn=>lP m (λx=>decide (x∈b)) n c) f n+if n < (mD m).length+1 then(nI m n c 0 L:Int) else 0)=λn=>f n+if n < (mD m).length+1 then(nI m n c 0 (b::L):Int) else 0:=by
    intro f;funext n;unfold gB nI;grind
   have hsn:lM m c (b::L)=if 0≤eG m (λx=>decide (x∈b)) c then eG m (λx=>decide (x∈b)) c::lM m c L else lM m c L:=by
    unfold lM;grind
   rw [fC,ih,hsn];by_cases h:0≤eG m (λx=>decide (x∈b)) c
   .rw [if_pos h,if_pos h];simp only [hf,List.isEmpty_cons,Bool.not_false,Bool.or_true,Bool.true_or];rfl
   simp_all [if_neg]
 simp_all
theorem N7{m:ae}{L:List (List Int)}{c:Nat}{x44:Int×Int×Bool×(List Int)}(v:Vd m)(h0:L.length≠0)(hc1:(c:Int) < mC m)(hx:x44.2.2.2=vG ((mD m).length+1) λn=>if n < (mD m).length+1 then(nI m n c 0 L:Int) else 0):
 dw 1200 (L.map (cS m)) ((List.range ((mD m).length+1)).map (CE m L)) (c:Int) x44 1200 0=some (.ok ()):=by
 have d6:=v.d6
 have key:=dA (T:=Int) (β:=Except Bool Unit) (f:=dw 1200 (L.map (cS m)) ((List.range ((mD m).length+1)).map (CE m L)) (c:Int) x44) (List.range ((mD m).length+1)) (λ(_:Unit) j=>j) (λs _ _=>s) (λ_ _=>True) (λ_=>some (.ok ()))
  (λn s j hj _=>by
   rw [length_range] at hj;have hck:ck ((j:Int)+1)=some ((j:Int)+1):=cR (by omega) (by omega);have g1:aJ x44.2.2.2 (j:Int)=some (nI m j c 0 L:Int):=by rw [hx,C0 hj,if_pos hj]
   have g2:aJ ((List.range ((mD m).length+1)).map (CE m L)) (j:Int)=some (CE m L j):=ov (by omega) (by simp_all);have g3:aJ (CE m L j) (c:Int)=some (pB (nI m j c 0 L) L.length):=ov (by omega) (by unfold CE;simp_all);refine⟨?_,trivial⟩
   have hv:(if((nI m j c 0 L:Nat):Int)=0 then some (2:Int) else if((nI m j c 0 L:Nat):Int)=((L.length:Nat):Int) then some 1 else some 3)=some (pB (nI m j c 0 L) L.length):=by
    unfold pB;grind
   rw [dw,if_pos (by grind [CZ])];simp_all)
  (λn s _=>by simp_all [length_range,dw,if_neg,CZ]) (n:=1200) (s0:=()) (by grind) trivial
 exact key.1
theorem If{m:ae}(v:Vd m){c:Int}(h0:0≤c)(h1:c < mC m)(hL:(fp m cU).length≠0):yb m c=match lM m c (fp m cU) with
 |[]=>((0,0),11)
 |x::l=>((om x l,oq x l),0):=by
 unfold yb
 rw [if_neg (λh=>h v.chk),if_neg (λh=>h ⟨h0,h1⟩),if_neg hL]
 grind
theorem Ej(a0:List Int):jE 1200 a0=some true:=by
 unfold jE;obtain⟨r1,e1,rfl⟩:∃r1,lZ 1200 a0=some r1/\r1=(a0,0,1):=⟨_,rfl,rfl⟩;rw [e1,bs];obtain⟨r3,e3,lo3,v,hgs,hcs,hds⟩:=xR (k:=1200) (by omega) (l:=(a0,0,1)) (m:=0) (cs:=4) (ds:=4) ⟨Int.le_refl 0,Int.le_refl 0⟩ (by omega) (by omega) (by omega);rw [show gi 1200 ((a0,(0:Int),(1:Int)).1,(a0,(0:Int),(1:Int)).2.1,(a0,(0:Int),(1:Int)).2.2) 4 4=some r3 from e3,bs,EH v (by omega),bs];have hl:=rj v (but:=cU);have hL:∀x∈fp r3.1 cU,Bg (mC r3.1) x:=λx h=>tK v h;have c1:=v.c1;have c5:=v.c5;have d6:=v.d6;simp only [not_true_eq_false,if_false];rw [show decide ((32:Int) < ((fp r3.1 cU).length:Int))=false by simp;omega];simp only [bs,Bool.false_eq_true,if_false];rw [Ob v rfl hL hl,kN,Oa v rfl,kN];by_cases h0:(fp r3.1 cU).length=0
 .rw [cZ];rw [if_pos (by grind),bs,show decide ((0:Int) < ((fp r3.1 cU,(0:Int)).1.length:Int))=false by simp_all];simp only [Bool.false_eq_true,if_false,kN,zL,bs]
 .rw [if_neg h0]
  have key:=dA (T:=Int) (β:=Except Bool Unit) (f:=cZ 1200 r3 (fp r3.1 cU,0) ((fp r3.1 cU).map (cS r3.1)) ((List.range ((mD r3.1).length+1)).map (CE r3.1 (fp r3.1 cU)))) (List.range (mC r3.1).toNat) (λ(_:Unit) j=>j) (λs _ _=>s) (λ_ _=>True) (λ_=>some (.ok ()))
   (λn s j hj _=>by
    rw [length_range] at hj;have hck:ck ((j:Int)+1)=some ((j:Int)+1):=cR (by omega) (by omega);have hck2:ck (((mD r3.1).length:Int)+1)=some (((mD r3.1).length:Int)+1):=cR (by omega) (by omega);refine⟨?_,trivial⟩
    rw [cZ,if_pos (by simp_all),bs,show decide ((0:Int) < ((fp r3.1 cU,(0:Int)).1.length:Int))=true from decide_eq_true (by grind),if_pos rfl,show r3.1.2.2.2.2.1=mD r3.1 from rfl,hck2,bs,dB ⟨by omega,Ul (by omega)⟩,bs,
     show Int.toNat (((mD r3.1).length:Int)+1)=(mD r3.1).length+1 by omega,N9 v hl (by omega) (by omega),bs,N7 v h0 (by omega) rfl,kN,EG v.sm (by omega),bs,If v (by omega) (by omega) h0]
    have hx:∀x∈lM r3.1 j (fp r3.1 cU),0≤x/\x≤(mD r3.1).length:=λx hx=>by
     unfold lM at hx;rw [List.mem_filter,List.mem_map] at hx;obtain⟨⟨b,_,rfl⟩,h⟩:=hx;simp_all [of_decide_eq_true,En]
    generalize lM r3.1 j (fp r3.1 cU)=R at *;cases R with
    |nil=>simp only [List.isEmpty_nil,Bool.not_true,Bool.false_eq_true,if_false,not_false_eq_true,if_true,not_true_eq_false,decide_true,bs,kN,hck]
    |cons x l=>
     have hx0:=hx x (mem_cons_self ..);have e1:om 99 (x::l)=om x l:=by show om (pu 99 x) l=_;rw [show pu 99 x=x by unfold pu;omega]
     have e2:oq (-1) (x::l)=oq x l:=by show oq (kK (-1) x) l=_;rw [show kK (-1) x=x by unfold kK;omega]
     simp only [e1,e2,List.isEmpty_cons,Bool.not_false,if_true,not_true_eq_false,if_false,bs,Bool.false_eq_true,kN,hck])
   (λn s _=>by
    rw [length_range,cZ,if_neg (by grind),bs,if_neg (by simp)]) (n:=1200) (s0:=()) (by grind) trivial
  rw [show cZ 1200 r3 (fp r3.1 cU,0) ((fp r3.1 cU).map (cS r3.1)) ((List.range ((mD r3.1).length+1)).map (CE r3.1 (fp r3.1 cU))) 1200 0=_ from key.1,kN,zL,bs]
