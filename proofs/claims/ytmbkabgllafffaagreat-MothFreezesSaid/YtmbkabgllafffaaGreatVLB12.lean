import Derived.Test.YtmbkabgllafffaaGreatVLB11
open Nat
open List hiding mem_of_getElem?
open Array hiding mem_of_getElem? mk
set_option linter.unusedVariables false
set_option linter.unusedSimpArgs false
namespace Go.Proofs.YtmbkabgllafffaaGreat
open K Go Go.Proofs
def HN(b:List Int):Nat:=match b.getLast? with |some x=>x.toNat+1 |none=>0
theorem yM{C:Nat}(hC:C≤5):∀(n:Nat) (b:List Int) (f:Nat),(gY C n b f).length≤6 ^ n
 |0,b,f=>by simp [gY]
 |n+1,b,f=>by
  have fl:∀l:List Nat,(l.flatMap λ(c:Nat)=>gY C n (b++[(c:Int)]) (c+1)).length≤l.length * 6 ^ n:=by
   intro l
   induction l with
   |nil=>simp
   |cons c l ih=>
    rw [List.flatMap_cons,length_append,length_cons,Nat.add_mul];have:=yM hC n (b++[(c:Int)]) (c+1);omega
  have:=fl (List.range' f (C - f));rw [List.length_range'] at this;rw [gY,length_cons,Nat.pow_succ];have h1:(C - f) * 6 ^ n≤5 * 6 ^ n:=mul_le_mul_right _ (by omega);grind
theorem wi{b:List Int}{c:Nat}:HN (b++[(c:Int)])=c+1:=by
 unfold HN;simp_all
theorem E2{k C:Nat}(hC:C≤5)(hk:10≤k):∀(n m0:Nat) (b:List Int),n≤5->C - HN b≤n->HN b≤C->n < m0->b.length+n≤5->(∀x∈b,0≤x/\x < 5)->lO k m0 (C:Int) b=some (gY C n b (HN b))
 |n,0,b,_,_,_,h,_,_=>absurd h (not_lt_zero _)
 |n,m0+1,b,h5,h1,h2,h3,hb,hx=>by
  unfold lO
  have hn:((if(0:Int) < (b.length:Int) then((ck ((b.length:Int) - (1:Int))).bind λx4=>(aG b x4).bind λx5=>(ck (x5+(1:Int))).bind λx6=>some x6) else(some (0:Int))):Option Int)=some ((HN b:Nat):Int):=by
   by_cases h0:b=[]
   .subst h0;rfl
   .have hl:0 < b.length:=List.length_pos_iff.2 h0;have c1:ck ((b.length:Int) - 1)=some (((b.length - 1:Nat):Int)):=by grind [bG]
    have hg:=bT (l:=b) (i:=b.length - 1) (by omega);have hxx:=hx _ (List.getElem_mem (l:=b) (n:=b.length - 1) (by omega));have hla:b.getLast? =some b[b.length - 1]:=by grind
    have c2:ck (b[b.length - 1]+1)=some (b[b.length - 1]+1):=bG (by omega) (by omega);rw [if_pos (by omega),c1,bs,hg,bs,c2,bs];grind [HN]
  rw [hn,bs];cases n with
  |zero=>
   have hf:HN b=C:=by omega
   rw [hf];obtain⟨k,rfl⟩:∃n,k=n+1:=⟨k - 1,by omega⟩;rw [iz,if_neg (Int.lt_irrefl _),bs];rfl
  |succ n=>
   have loop:∀(d x:Nat) (acc:List (List Int)) (aM:Nat),C - x=d->HN b≤x->x≤C->d < aM->acc.length+((List.range' x (C - x)).flatMap λ(c:Nat)=>gY C n (b++[(c:Int)]) (c+1)).length≤100000->
    iz k (C:Int) b (lO k m0) aM (acc,(x:Int))=some (acc++(List.range' x (C - x)).flatMap λ(c:Nat)=>gY C n (b++[(c:Int)]) (c+1)):=by
    intro d
    induction d with
    |zero=>
     intro x acc aM hd hx1 hx2 hfu hl;obtain⟨aM,rfl⟩:∃n,aM=n+1:=⟨aM - 1,by omega⟩;have:x=C:=by omega
     simp_all [iz,if_neg,Int.lt_irrefl,Nat.sub_self]
    |succ d ih=>
     intro x acc aM hd hx1 hx2 hfu hl;obtain⟨aM,rfl⟩:∃n,aM=n+1:=⟨aM - 1,by omega⟩;have e:C - x=(C - (x+1))+1:=by omega
     rw [e,List.range'_succ,List.flatMap_cons,length_append] at hl;have hck:ck ((x:Int)+1)=some (((x+1:Nat):Int)):=by grind [bG]
     have hsub:=E2 hC hk n m0 (b++[(x:Int)]) (by omega) (by rw [wi];omega) (by rw [wi];omega) (by omega) (by simp;omega) (λy hy=>by
      grind)
     rw [wi] at hsub;have e0:([]:List Int)++b=b:=rfl;have hok:bU (aR (acc.length+(gY C n (b++[(x:Int)]) (x+1)).length))=some ():=cz (show acc.length+(gY C n (b++[(x:Int)]) (x+1)).length≤4294967296 by omega);rw [iz,if_pos (show(x:Int) < (C:Int) by omega),cz (by grind [aR]),bs,e0,cz (by grind [aR]),bs,hsub,bs];dsimp only;rw [hok,bs,hck,bs];rw [ih (x+1) _ aM (by omega) (by omega) (by omega) (by omega) (by grind)];rw [e,List.range'_succ,List.flatMap_cons,List.append_assoc]
   have hlen:=yM hC (n+1) b (HN b);rw [gY,length_cons] at hlen;have h6:6 ^ (n+1)≤6 ^ 5:=Nat.pow_le_pow_right (by decide) h5;have h7:(6:Nat) ^ 5=7776:=by decide
   have h1l:([b]:List (List Int)).length=1:=rfl;rw [loop (C - HN b) (HN b) [b] k rfl (Nat.le_refl _) h2 (by omega) (by omega),bs,gY];rfl
theorem IP{k:Nat}{m:ab}(v:Vd m)(hk:10≤k):lO k k m.1 []=some (kF m):=by
 have c1:=v.c1;have c5:=v.c5;have:=E2 (k:=k) (C:=(mC m).toNat) (by omega) hk (mC m).toNat k [] (by omega) (by omega) (zero_le _) (by omega) (by simp;omega) (by simp);rw [show(((mC m).toNat:Nat):Int)=m.1 by grind] at this;exact this
theorem GL{k:Nat}{m:ab}{B:Int->Bool}(v:Vd m){x:aQ}(hg:0≤x.1/\x.1 < mC m/\0≤x.2.1/\x.2.1≤(mD m).length):nX k m (lJ m B) x=some (decide (x.2.2=decide (mS m≤jP m B x.2.1.toNat x.1))):=by
 grind [nX,aG,lJ,nW,qS,bs,nV]
theorem A3{k:Nat}{m:ab}{but:List Int}{B:Int->Bool}(v:Vd m)(hk:50≤k)(hb:but.length≤40):
 dk k m but (lJ m B) k (true,0)=some (B0 m (λi=>decide ((i:Int)∈but)) B):=by
 have g8:=v.g8
 have key:=dL (T:=Bool×Int) (f:=dk k m but (lJ m B)) (mG m) (λ(s:Bool) j=>(s,j)) (λs j x=>s && (decide ((j:Int)∈but) || decide (x.2.2=decide (mS m≤jP m B x.2.1.toNat x.1)))) (λ_ _=>True) (λs=>some s)
  (λn s j hj _=>by
   have hck:ck ((j:Int)+1)=some ((j:Int)+1):=bG (by omega) (by omega);have hg:=v.gl _ (List.getElem_mem hj);have hj':(j:Int) < (m.2.2.2.2.2.length:Int):=Int.ofNat_lt.2 hj;have hget:aG m.2.2.2.2.2 (j:Int)=some (mG m)[j]:=bT hj;refine⟨?_,trivial⟩;simp only [dk,hj',if_true];cases s with
   |false=>simp_all
   |true=>
    simp only [if_true,vi (k:=k) (l:=but) (x:=(j:Int)) (by omega) (by omega),bs,Bool.true_and];cases decide ((j:Int)∈but) with
    |true=>simp_all
    |false=>simp_all [Bool.false_eq_true,if_false,bs,GL,Bool.false_or])
  (λn s _=>by
   unfold dk;simp_all) (n:=k) (s0:=true) (by omega) trivial
 rw [show dk k m but (lJ m B) k (true,0)=_ from key.1]
 have:∀(l:List aQ) (j:Nat) (s:Bool),iW (λs j (x:aQ)=>s && (decide ((j:Int)∈but) || decide (x.2.2=decide (mS m≤jP m B x.2.1.toNat x.1)))) j l s=(s && ((l.zipIdx j).all λg=>decide ((g.2:Int)∈but) || decide (g.1.2.2=decide (mS m≤jP m B g.1.2.1.toNat g.1.1)))):=by
  intro l
  induction l with
  |nil=>simp_all [iW]
  |cons x l ih=>
   grind [iW,zipIdx_cons,Bool.and_assoc]
 rw [this,Bool.true_and]
 rfl
theorem xt{k:Nat}{m:ab}{but:List Int}(v:Vd m)(hk:50≤k)(hb:but.length≤40):je k m but=some (py m λi=>decide ((i:Int)∈but)):=by
 have hlen:=oz v;unfold je;rw [IP v (by omega),bs]
 have key:=dL (T:=List (List Int)×Int) (f:=dE k m but (kF m)) (kF m) (λ(s:List (List Int)) j=>(s,j)) (λs _ b=>if B0 m (λi=>decide ((i:Int)∈but)) (λc=>decide (c∈b)) then s++[b] else s) (λj s=>s.length≤j) (λs=>some s)
  (λn s j hj hs=>by
   have hck:ck ((j:Int)+1)=some ((j:Int)+1):=bG (by omega) (by omega);have hbg:=nu v (List.getElem_mem hj);have hl:=hbg.len ⟨by have:=v.c1;omega,v.c5⟩;refine⟨?_,?_⟩
   .simp only [dE,Int.ofNat_lt,hj,if_true,bT hj,bs,A7 (k:=k) v (by omega) (b:=(kF m)[j]) (by omega) (by omega),A3 (k:=k) v hk hb];cases B0 m (λi=>decide ((i:Int)∈but)) (λc=>decide (c∈(kF m)[j])) with
    |true=>
     simp only [if_true];rw [cz (by grind [aR]),bs,bs,hck,bs]
    |false=>simp_all
   grind)
  (λn s hs=>by
   unfold dE;simp_all) (n:=k) (s0:=[]) (by omega) (by simp)
 rw [show dE k m but (kF m) k ([],0)=_ from key.1,bs]
 have:∀(l:List (List Int)) (j:Nat) (s:List (List Int)),iW (λs _ b=>if B0 m (λi=>decide ((i:Int)∈but)) (λc=>decide (c∈b)) then s++[b] else s) j l s=s++l.filter λb=>B0 m (λi=>decide ((i:Int)∈but)) (λc=>decide (c∈b)):=by
  intro l
  induction l with
  |nil=>simp_all [iW]
  |cons b l ih=>
   grind [iW,B0,decide]
 rw [this];rfl
end Go.Proofs.YtmbkabgllafffaaGreat
set_option linter.unusedVariables false
set_option linter.unusedSimpArgs false
namespace Go.Proofs.YtmbkabgllafffaaGreat
open K Go Go.Proofs
def jH:Nat->Bool:=λ_=>false
theorem VG:(λi=>decide (eM 0 i))=jH:=by
 grind [jH,eM]
theorem Vk:(λi:Nat=>decide ((i:Int)∈([]:List Int)))=jH:=by
 grind [jH]
theorem FH{m:ab}(v:Vd m){but:Nat->Bool}{b:List Int}(h:b∈py m but):Bg (mC m) b:=nu v (List.mem_filter.1 h).1
theorem BZ{m:ab}(v:Vd m){but:Nat->Bool}:(py m but).length≤32:=Nat.le_trans (List.length_filter_le _ _) (oz v)
end Go.Proofs.YtmbkabgllafffaaGreat
set_option linter.unusedVariables false
set_option linter.unusedSimpArgs false
namespace Go.Proofs.YtmbkabgllafffaaGreat
open K Go Go.Proofs
theorem GZ{k:Nat}{m:ab}{cs ds ns:List Int}(hs:Sm m)(hk:1010≤k)(h1:cs.length≤1000)(h2:ds.length≤1000)(h3:ns.length≤1000):
 ky k m cs ds ns=some (if¬(nG m=0) then(none,[],nG m) else if¬(RN m cs ds ns=true) then(none,[],3) else if(py m jH).length=0 then(none,[],9) else(some m,(py m jH).map cj,0)):=by
 unfold ky
 rw [JB hs hk (by simp) h1 h2 h3,bs]
 by_cases hc:nG m=0
 .
  have v:=Vd.of hc;have hb:zZ (mC m) []=0:=Ht.2 ⟨by simp,by simp⟩;by_cases ho:RN m cs ds ns=true
  .simp only [hc,hb,ho,not_true_eq_false,if_false,if_true,vu];rw [Ei v (by omega) ww,bs,VG];grind
  simp_all [not_true_eq_false,not_false_eq_true,if_false,if_true,tg,Bool.false_eq_true,if_pos]
 simp_all [not_false_eq_true,if_true,tg]
theorem DO{k:Nat}{m:ab}{q:Bool}(hs:Sm m)(hk:1010≤k):
 ml k m q=some (if¬(nG m=0) then([],nG m) else if¬(q=true) then([],3) else if(py m jH).length=0 then([],9) else(py m jH,0)):=by
 unfold ml
 rw [Me hs (by omega),bs]
 by_cases hc:nG m=0
 .
  have v:=Vd.of hc;cases q with
  |true=>
   simp only [hc,not_true_eq_false,if_false];rw [xt v (by omega) (by simp),bs,Vk];grind
  |false=>simp_all
 simp_all
def ov(b:List Int)(L:List (List Int)):List Int:=L.foldl (λs x=>if x.length < s.length then x else s) b
theorem BX{b:List Int}:∀{L:List (List Int)},ov b L=b\/ov b L∈L:=by
 intro L
 induction L generalizing b with
 |nil=>exact .inl rfl
 |cons x L ih=>
  show ov (if x.length < b.length then x else b) L=b\/_;split
  .simp_all [ov,if_pos,mem_cons_self,mem_cons_of_mem]
  .rcases ih (b:=b) with h |h
   .grind
   simp_all [ov,if_neg,mem_cons_of_mem]
theorem yD:∀(L:List (List Int)) (j:Nat) (s:List Int),iW (λs _ x=>if x.length < s.length then x else s) j L s=ov s L
 |[],_,_=>rfl
 |x::L,j,s=>by rw [iW,yD L (j+1)];rfl
theorem Ez{k:Nat}{C:Int}{a b:List Int}(hk:10≤k)(hC:0≤C/\C≤5)(ha:Bg C a)(hb:Bg C b):nD k (cj a) (cj b)=some ((a.length:Int) - b.length):=by
 have la:=ha.len hC;have lb:=hb.len hC;unfold nD oV;rw [rL hk hC.2 ha,bs,bs,rL hk hC.2 hb,bs,bs,bG (by omega) (by omega),bs]
theorem Ew{k:Nat}{C:Int}(hk:50≤k)(hC:0≤C/\C≤5){b:List Int}{L:List (List Int)}(hb:Bg C b)(hL:∀x∈L,Bg C x)(hl:L.length≤40):qd k ((b::L).map cj)=some (cj (ov b L)):=by
 unfold qd nR;rw [if_neg (by simp;omega)];have g0:aG ((b::L).map cj) (0:Int)=some (cj b):=rfl;rw [g0,bs]
 have key:=dL (T:=Int×Int) (f:=dQ k ((b::L).map cj)) L (λ(s:List Int) j=>(cj s,j+1)) (λs _ x=>if x.length < s.length then x else s) (λ_ s=>Bg C s) (λs=>some (cj s))
  (λn s j hj hs=>by
   have hck:ck ((j:Int)+1+1)=some ((j:Int)+1+1):=bG (by omega) (by omega);have hx:=hL _ (List.getElem_mem hj)
   have hg:aG ((b::L).map cj) ((j:Int)+1)=some (cj L[j]):=by
    have:((j:Int)+1)=((j+1:Nat):Int):=by omega
    rw [this,aG,if_pos (by omega),Int.toNat_natCast,List.getElem?_map,getElem?_cons_succ,List.getElem?_eq_getElem hj];rfl
   have hlt:(j:Int)+1 < (((b::L).map cj).length:Int):=by simp_all
   refine⟨?_,?_⟩
   .simp only [dQ,hlt,if_true,hg,bs,Ez (k:=k) (by omega) hC hx hs];grind
   grind)
  (λn s hs=>by
   unfold dQ;simp_all) (n:=k) (s0:=b) (by omega) hb
 simp_all [dQ,cj,bs,yD]
end Go.Proofs.YtmbkabgllafffaaGreat
set_option linter.unusedVariables false
set_option linter.unusedSimpArgs false
namespace Go.Proofs.YtmbkabgllafffaaGreat
open K Go Go.Proofs
end Go.Proofs.YtmbkabgllafffaaGreat
set_option linter.unusedVariables false
set_option linter.unusedSimpArgs false
namespace Go.Proofs.YtmbkabgllafffaaGreat
open K Go Go.Proofs
theorem CL{C:Nat}:∀(t:List Int) (n:Nat) (b:List Int) (f:Nat),C - f≤n->(∀x∈t,(f:Int)≤x/\x < C)->t.Pairwise (· < ·)->b++t∈gY C n b f
 |[],0,b,f,_,_,_=>by simp [gY]
 |[],n+1,b,f,_,_,_=>by simp [gY]
 |x::t,0,b,f,h,hx,_=>by grind [mem_cons_self]
 |x::t,n+1,b,f,h,hx,hp=>by
  have h0:=hx x (mem_cons_self ..)
  rw [pairwise_cons] at hp
  rw [gY]
  refine mem_cons_of_mem _ (List.mem_flatMap.2 ⟨x.toNat,by grind,?_⟩)
  have:=CL t n (b++[((x.toNat:Nat):Int)]) (x.toNat+1) (by omega) (λy hy=>⟨by grind,(hx y (mem_cons_of_mem _ hy)).2⟩) hp.2
  grind
theorem KC{m:ab}{b:List Int}(h:Bg (mC m) b):b∈kF m:=by
 have:=CL (C:=(mC m).toNat) b (mC m).toNat [] 0 (by omega) (λx hx=>by have:=h.rng x hx;omega) h.asc;exact this
end Go.Proofs.YtmbkabgllafffaaGreat
set_option linter.unusedVariables false
set_option linter.unusedSimpArgs false
namespace Go.Proofs.YtmbkabgllafffaaGreat
open K Go Go.Proofs
def FB(D:List (List (List Int)))(d:Int)(S:Int->Bool):List (List (List Int)):=D.mapIdx λj r=>r.map λl=>l.filter λn=>decide ((j:Int) < d) || !S n
def frz(m:ab)(d:Int)(S:Int->Bool):ab:=(m.1,m.2.1,m.2.2.1,m.2.2.2.1,FB (mD m) d S,m.2.2.2.2.2)
theorem oY{α β:Type}{f:Nat->α->β}{l:List α}{y:β}(h:y∈l.mapIdx f):∃i x,x∈l/\y=f i x:=by
 grind
theorem J0{m:ab}(v:Vd m){d:Int}{S:Int->Bool}:Vd (frz m d S):=by
 refine⟨v.c1,v.c5,v.w0,v.w3,v.s0,v.s3,v.h1,v.h3,?_,?_,λr hr=>?_,λr hr l hl=>?_,λr hr l hl x hx=>?_,λr hr=>?_,v.g8,λg hg=>?_⟩
 .show 1≤(FB (mD m) d S).length;rw [FB,List.length_mapIdx];exact v.d1
 .show(FB (mD m) d S).length≤6;rw [FB,List.length_mapIdx];exact v.d6
 .obtain⟨i,q,hq,rfl⟩:=oY hr;rw [length_map];exact v.r3 q hq
 .obtain⟨i,q,hq,rfl⟩:=oY hr;obtain⟨l',hl',rfl⟩:=List.mem_map.1 hl;exact Nat.le_trans (List.length_filter_le _ _) (v.l5 q hq l' hl')
 .obtain⟨i,q,hq,rfl⟩:=oY hr;obtain⟨l',hl',rfl⟩:=List.mem_map.1 hl;exact v.x5 q hq l' hl' x (List.mem_filter.1 hx).1
 .obtain⟨i,q,hq,rfl⟩:=oY hr;rw [<-List.filter_flatten];exact(v.nd q hq).filter _
 .have:=v.gl g hg;refine⟨this.1,this.2.1,this.2.2.1,?_⟩;show g.2.1≤((FB (mD m) d S).length:Int);simp_all [FB,List.length_mapIdx]
theorem zL{m:ab}{d:Int}{S:Int->Bool}:(mD (frz m d S)).length=(mD m).length:=by
 show(FB (mD m) d S).length=_;rw [FB,List.length_mapIdx]
theorem G3{m:ab}(v:Vd m){d:Int}{S T:Int->Bool}(h:∀c,0≤c->c < mC m->S c=T c):frz m d S=frz m d T:=by
 unfold frz
 have:FB (mD m) d S=FB (mD m) d T:=by
  unfold FB;refine List.ext_getElem (by simp) λi h1 h2=>?_;rw [List.getElem_mapIdx,List.getElem_mapIdx];refine List.map_congr_left λl hl=>List.filter_congr λx hx=>?_;have:=v.x5 _ (List.getElem_mem (by simp_all)) l hl x hx;simp_all
 rw [this]
theorem ot{α β:Type}{F:Nat->α->β}:∀(l:List α) (i:Nat) (s:List β),iW (λ(s:List β) j x=>s++[F j x]) i l s=s++l.mapIdx λj x=>F (j+i) x
 |[],_,s=>by simp [iW]
 |x::l,i,s=>by
  rw [iW,ot l (i+1),List.mapIdx_cons,List.append_assoc,Nat.zero_add]
  grind
theorem so{p:Int->Bool}:∀(l:List Int) (j:Nat) (s:List Int),iW (λ(s:List Int) _ x=>if p x=true then s++[x] else s) j l s=s++l.filter p
 |[],_,s=>by simp [iW]
 |x::l,j,s=>by
  rw [iW,so l,List.filter_cons]
  grind
theorem Eh{k:Nat}{m:ab}{d S:Int}(v:Vd m)(hk:50≤k)(hS:ko S):jA k m d S=some (some (frz m d (mK S))):=by
 have c5:=v.c5;have d6:=v.d6;unfold jA
 have l3:∀(y:(List (List (List Int)))×Int) (l:List Int),l.length≤5->(∀x∈l,0≤x/\x < mC m)->eF k d S y l k ([],0)=some (l.filter λn=>decide (y.2 < d) || !mK S n):=λy l hl hx=>by
  have key:=dL (T:=(List Int)×Int) (f:=eF k d S y l) l (λ(s:List Int) j=>(s,j)) (λ(s:List Int) _ x=>if(decide (y.2 < d) || !mK S x)=true then s++[x] else s) (λj s=>s.length≤j) (λs=>some s)
   (λn s j hj hs=>by
    have hck:ck ((j:Int)+1)=some ((j:Int)+1):=bG (by omega) (by omega);have hxx:=hx _ (List.getElem_mem hj);have hok:aR (length s+length [l[j]]):=Qp (n:=50) (by omega) (by omega)
    have hh:fa k S l[j]=some (mK S l[j]):=by
     have:=wF (k:=k) hS (i:=l[j].toNat) (by omega);rw [show((l[j].toNat:Nat):Int)=l[j] by omega] at this;exact this
    refine⟨?_,?_⟩
    .rw [eF,if_pos (by omega),bT hj,bs];by_cases h1:y.2 < d
     .simp_all [if_pos,bs,cz]
     .rw [if_neg h1,hh,bs,bs];cases h2:mK S l[j] with
      |true=>grind
      |false=>simp_all [if_pos,cz,bs]
    grind)
   (λn s _=>by rw [eF,if_neg (Int.lt_irrefl _)]) (n:=k) (s0:=[]) (by omega) (Nat.le_refl 0)
  grind [eF,so]
 have l2:∀(y:(List (List (List Int)))×Int) (r:List (List Int)),r.length≤3->(∀l∈r,l.length≤5)->(∀l∈r,∀x∈l,0≤x/\x < mC m)->eG k d S y r k ([],0)=some (r.map λl=>l.filter λn=>decide (y.2 < d) || !mK S n):=λy r hr hl hx=>by
  have key:=dL (T:=(List (List Int))×Int) (f:=eG k d S y r) r (λ(s:List (List Int)) j=>(s,j)) (λ(s:List (List Int)) j l=>s++[(λ(_:Nat) (l:List Int)=>l.filter λn=>decide (y.2 < d) || !mK S n) j l]) (λj s=>s.length=j) (λs=>some s)
   (λn s j hj hs=>by
    have hck:ck ((j:Int)+1)=some ((j:Int)+1):=bG (by omega) (by omega);have hok:∀q:List Int,aR (length s+length [q]):=λq=>Qp (n:=50) (by omega) (by omega);refine⟨?_,by simp [hs]⟩;rw [eG,if_pos (by omega),bT hj,bs,l3 y r[j] (hl _ (List.getElem_mem hj)) (hx _ (List.getElem_mem hj)),bs,cz (hok _),bs,bs,hck,bs])
   (λn s _=>by rw [eG,if_neg (Int.lt_irrefl _)]) (n:=k) (s0:=[]) (by omega) rfl
  rw [show eG k d S y r k ([],0)=_ from key.1,ot,nil_append];congr 1;refine List.ext_getElem (by simp) λi h1 h2=>?_;simp_all
 have key:=dL (T:=(List (List (List Int)))×Int) (f:=fe k m d S) (mD m) (λ(s:List (List (List Int))) j=>(s,j)) (λs j r=>s++[(λ(j:Nat) (r:List (List Int))=>r.map λl=>l.filter λn=>decide ((j:Int) < d) || !mK S n) j r]) (λj s=>s.length=j) (λs=>some s)
  (λn s j hj hs=>by
   have hck:ck ((j:Int)+1)=some ((j:Int)+1):=bG (by omega) (by omega);have hm:=List.getElem_mem hj;have hok:∀q:List (List Int),aR (length s+length [q]):=λq=>Qp (n:=50) (by omega) (by omega);refine⟨?_,by simp [hs]⟩;rw [fe,if_pos (by simp_all),show m.2.2.2.2.1=mD m from rfl,bT hj,bs,l2 (s,(j:Int)) (mD m)[j] (v.r3 _ hm) (v.l5 _ hm) (v.x5 _ hm),bs,cz (hok _),bs,bs,hck,bs])
  (λn s _=>by rw [fe,if_neg (Int.lt_irrefl _)]) (n:=k) (s0:=[]) (by omega) rfl
 rw [show fe k m d S k ([],0)=_ from key.1,ot,nil_append,bs];rfl
theorem DF{k:Nat}{m:ab}{d:Int}{t:List Int}(v:Vd m)(hk:50≤k)(ht:t.length≤40):mm k m d t=some (frz m d λn=>decide (n∈t)):=by
 have c5:=v.c5;have d6:=v.d6;unfold mm
 have l3:∀(y:(List (List (List Int)))×Int) (w:(List (List Int))×Int) (r:List (List Int)) (l:List Int),aG (mD m) y.2=some r->aG r w.2=some l->l.length≤5->er k m d t y w k ([],0)=some (l.filter λn=>decide (y.2 < d) || !decide (n∈t)):=λy w r l hr hw hl=>by
  have hr':aG m.2.2.2.2.1 y.2=some r:=hr
  have key:=dL (T:=(List Int)×Int) (f:=er k m d t y w) l (λ(s:List Int) j=>(s,j)) (λ(s:List Int) _ x=>if(decide (y.2 < d) || !decide (x∈t))=true then s++[x] else s) (λj s=>s.length≤j) (λs=>some s)
   (λn s j hj hs=>by
    have hck:ck ((j:Int)+1)=some ((j:Int)+1):=bG (by omega) (by omega);have hok:aR (length s+length [l[j]]):=Qp (n:=50) (by omega) (by omega);have hh:lN k t l[j]=some (decide (l[j]∈t)):=vi (by omega) (by omega);refine⟨?_,?_⟩
    .rw [er,hr',bs,hw,bs,if_pos (by omega)];simp only [bs,hw,bT hj,hh];by_cases h1:y.2 < d
     .simp_all [if_pos,bs,cz]
     .rw [if_neg h1,bs];by_cases h2:l[j]∈t
      .grind
      simp_all [if_pos,cz,bs]
    grind)
   (λn s _=>by simp_all [er,bs,if_neg,Int.lt_irrefl]) (n:=k) (s0:=[]) (by omega) (Nat.le_refl 0)
  grind [er,so]
 have l2:∀(y:(List (List (List Int)))×Int) (r:List (List Int)),aG (mD m) y.2=some r->r.length≤3->(∀l∈r,l.length≤5)->eu k m d t y k ([],0)=some (r.map λl=>l.filter λn=>decide (y.2 < d) || !decide (n∈t)):=λy r hy hr hl=>by
  have hy':aG m.2.2.2.2.1 y.2=some r:=hy
  have key:=dL (T:=(List (List Int))×Int) (f:=eu k m d t y) r (λ(s:List (List Int)) j=>(s,j)) (λ(s:List (List Int)) j l=>s++[(λ(_:Nat) (l:List Int)=>l.filter λn=>decide (y.2 < d) || !decide (n∈t)) j l]) (λj s=>s.length=j) (λs=>some s)
   (λn s j hj hs=>by
    have hck:ck ((j:Int)+1)=some ((j:Int)+1):=bG (by omega) (by omega);have hok:∀q:List Int,aR (length s+length [q]):=λq=>Qp (n:=50) (by omega) (by omega);simp_all [eu,bs,if_pos,bT,List.getElem_mem,cz])
   (λn s _=>by rw [eu,hy',bs,if_neg (Int.lt_irrefl _)]) (n:=k) (s0:=[]) (by omega) rfl
  rw [show eu k m d t y k ([],0)=_ from key.1,ot,nil_append];congr 1;refine List.ext_getElem (by simp) λi h1 h2=>?_;simp_all
 have key:=dL (T:=(List (List (List Int)))×Int) (f:=eY k m d t) (mD m) (λ(s:List (List (List Int))) j=>(s,j)) (λs j r=>s++[(λ(j:Nat) (r:List (List Int))=>r.map λl=>l.filter λn=>decide ((j:Int) < d) || !decide (n∈t)) j r]) (λj s=>s.length=j) (λs=>some s)
  (λn s j hj hs=>by
   have hck:ck ((j:Int)+1)=some ((j:Int)+1):=bG (by omega) (by omega);have hm:=List.getElem_mem hj;have hok:∀q:List (List Int),aR (length s+length [q]):=λq=>Qp (n:=50) (by omega) (by omega);refine⟨?_,by simp [hs]⟩;rw [eY,if_pos (by simp_all),l2 (s,(j:Int)) (mD m)[j] (bT hj) (v.r3 _ hm) (v.l5 _ hm),bs,cz (hok _),bs,bs,hck,bs])
  (λn s _=>by rw [eY,if_neg (Int.lt_irrefl _)]) (n:=k) (s0:=[]) (by omega) rfl
 rw [show eY k m d t k ([],0)=_ from key.1,ot,nil_append,bs];rfl
def Ir(m:ab)(B:Int->Bool)(n:Nat):Bool:=(List.range (mC m).toNat).any λ(c:Nat)=>decide (jP m B n c < 0) && decide (0≤jP m B (n+1) c)
def rF(m:ab)(B:Int->Bool)(d:Nat):Bool:=(List.range' d ((mD m).length - d)).any λn=>Ir m B n
theorem qP{p:Nat->Bool}{ε:Type}{e:ε}{d N k:Nat}{f:Nat->Int->Option (Except ε Unit)}(hd:d≤N)(hk:N < k)
 (step:∀(n j:Nat),d≤j->j < N->f (n+1) (j:Int)=if p j=true then some (.error e) else f n ((j:Int)+1)) (stop:∀n,f (n+1) (N:Int)=some (.ok ())):f k (d:Int)=some (if(List.range' d (N - d)).any p=true then .error e else .ok ()):=by
 have gen:∀(n j k:Nat),N - j=n->d≤j->j≤N->n < k->f k (j:Int)=some (if(List.range' j n).any p=true then .error e else .ok ()):=by
  intro n
  induction n with
  |zero=>
   intro j k h1 h2 h3 h4;obtain⟨k,rfl⟩:∃q,k=q+1:=⟨k - 1,by omega⟩;grind
  |succ n ih=>
   intro j k h1 h2 h3 h4;obtain⟨k,rfl⟩:∃q,k=q+1:=⟨k - 1,by omega⟩;rw [step k j h2 (by omega),List.range'_succ,any_cons];cases h:p j with
   |true=>simp
   |false=>
    simp only [Bool.false_eq_true,if_false,Bool.false_or];exact ih (j+1) k (by omega) (by omega) (by omega) (by omega)
 grind
theorem SD{F:Nat->Int->Int}{n:Nat}(h:∀c:Int,0≤c->c < 5-> -1≤F n c/\F n c < 1000000):vS (lr (F n)):=by
 refine⟨rfl,λx hx=>?_⟩;simp only [lr,mem_cons,not_mem_nil,or_false] at hx;grind
theorem Ou{m:ab}(v:Vd m){B:Int->Bool}:∀(n:Nat) (c:Int),0≤c-> -1≤HQ m B n c/\HQ m B n c≤3+n:=by
 intro n c h0
 by_cases h1:c < mC m
 .rw [vy v n c h0 h1];exact⟨Ae v.w0,Ad v.w3⟩
 .have w0:=v.w0;have w3:=v.w3
  induction n with
  |zero=>grind [HQ]
  |succ n ih=>
   have:HQ m B (n+1) c=HQ m B n c:=by
    rw [HQ];unfold Qx;omega
   omega
theorem Bv{k:Nat}{m:ab}{b:List Int}{d:Nat}(v:Vd m)(hk:50≤k)(hb:Bg (mC m) b)(hd:d≤(mD m).length):fN k m (cj b) (d:Int)=some (rF m (λc=>decide (c∈b)) d):=by
 have hs:=hb.set v.c5;have c1:=v.c1;have c5:=v.c5;have d6:=v.d6;unfold fN;rw [uv v (by omega) hs.1,bs]
 have hage:∀(n:Nat) (c:Int),n≤(mD m).length->0≤c->c < mC m->zV m (mK (cj b)) n c=jP m (λc=>decide (c∈b)) n c:=λn c hn h0 h1=>by
  grind [FN,uy]
 have hG:∀n,n≤(mD m).length->vS (lr (zV m (mK (cj b)) n)):=λn hn=>by
  refine SD λc h0 h1=>?_;unfold zV;rw [if_pos hn];have:=Ou v (B:=mK (cj b)) n c h0;omega
 have h2:∀(j:Nat),j < (mD m).length->co k m (cr (zV m (mK (cj b)))) (j:Int) k 0=some (if Ir m (λc=>decide (c∈b)) j=true then .error true else .ok ()):=λj hj=>by
  have hck0:ck ((j:Int)+1)=some (((j+1:Nat):Int)):=bG (by omega) (by omega)
  have:=qP (p:=λc=>decide (jP m (λc=>decide (c∈b)) j c < 0) && decide (0≤jP m (λc=>decide (c∈b)) (j+1) c)) (e:=true) (d:=0) (N:=(mC m).toNat) (k:=k) (f:=co k m (cr (zV m (mK (cj b)))) (j:Int)) (by omega) (by omega)
   (λn c _ hc=>by
    have hck:ck ((c:Int)+1)=some ((c:Int)+1):=bG (by omega) (by omega);have hc':(c:Int) < mC m:=by omega
    rw [co,if_pos hc',ut (by omega),bs,oL (by omega) (by omega),bs,hage j c (by omega) (by omega) hc',hck0,bs,ut (by omega),bs,oL (by omega) (by omega),bs,hage (j+1) c (by omega) (by omega) hc'];by_cases h:jP m (λc=>decide (c∈b)) j c < 0
    .rw [if_pos h,bs];by_cases h0:0≤jP m (λc=>decide (c∈b)) (j+1) c
     .have e0:jP m (λc=>decide (c∈b)) (j+1) c=0:=by
       rw [jP] at h0⊢;grind
      simp_all
     grind
    grind)
   (λn=>by rw [co,if_neg (by grind)])
  rw [show co k m (cr (zV m (mK (cj b)))) (j:Int) k 0=_ from this,Nat.sub_zero,<-List.range_eq_range'];rfl
 have:=qP (p:=λn=>Ir m (λc=>decide (c∈b)) n) (e:=true) (d:=d) (N:=(mD m).length) (k:=k) (f:=dh k m (cr (zV m (mK (cj b))))) hd (by omega)
  (λn j hdj hj=>by
   have hck:ck ((j:Int)+1)=some (((j+1:Nat):Int)):=bG (by omega) (by omega);rw [dh,if_pos (by simp_all),hck,bs,ut (by omega),bs,ut (by omega),bs,cz ⟨hG _ (by omega),hG _ (by omega)⟩,bs];by_cases he:lr (zV m (mK (cj b)) (j+1))=lr (zV m (mK (cj b)) j)
   .rw [if_pos he,i9,bs,if_neg]
    .rfl
    .unfold Ir;rw [List.any_eq_true];rintro⟨c,hc,h⟩;rw [List.mem_range] at hc;rw [Bool.and_eq_true,decide_eq_true_iff,decide_eq_true_iff] at h;have g1:=oL (f:=zV m (mK (cj b)) (j+1)) (c:=(c:Int)) (by omega) (by omega);have g2:=oL (f:=zV m (mK (cj b)) j) (c:=(c:Int)) (by omega) (by omega);rw [he,g2] at g1;have:=Option.some.inj g1;rw [hage j c (by omega) (by omega) (by omega),hage (j+1) c (by omega) (by omega) (by omega)] at this;omega
   .rw [if_neg he,h2 j hj];cases Ir m (λc=>decide (c∈b)) j with
    |true=>simp_all [if_pos,km]
    |false=>simp_all [if_neg,i9,bs])
  (λn=>by simp_all [dh,if_neg,mD])
 rw [this];unfold rF;cases(List.range' d ((mD m).length - d)).any λn=>Ir m (λc=>decide (c∈b)) n <;> rfl
theorem IN{k:Nat}{m:ab}{B:Int->Bool}{d:Nat}(v:Vd m)(hk:50≤k)(hd:d≤(mD m).length):pR k (lJ m B) (d:Int)=some (!rF m B d):=by
 have c1:=v.c1;have c5:=v.c5;have d6:=v.d6;unfold pR;have hlen:((lJ m B).length:Int)=(mD m).length+1:=by rw [Hn];rfl
 have hrl:∀n,((nW m B n).length:Int)=mC m:=λn=>IG (by omega)
 have h2:∀(j:Nat),j < (mD m).length->fG k (lJ m B) (j:Int) k 0=some (if Ir m B j=true then .error false else .ok ()):=λj hj=>by
  have hck0:ck ((j:Int)+1)=some (((j+1:Nat):Int)):=bG (by omega) (by omega)
  have:=qP (p:=λc=>decide (jP m B j c < 0) && decide (0≤jP m B (j+1) c)) (e:=false) (d:=0) (N:=(mC m).toNat) (k:=k) (f:=fG k (lJ m B) (j:Int)) (by omega) (by omega)
   (λn c _ hc=>by
    have hck:ck ((c:Int)+1)=some ((c:Int)+1):=bG (by omega) (by omega);have hc':(c:Int) < mC m:=by omega
    rw [fG,qS (by omega),bs,if_pos (by simp_all),bs,nV (by omega) hc',bs];by_cases h:jP m B j c < 0
    .rw [if_pos h,hck0,bs,qS (by omega),bs,nV (by omega) hc',bs,bs];simp_all
    grind)
   (λn=>by rw [fG,qS (by omega),bs,if_neg (by grind)])
  rw [show fG k (lJ m B) (j:Int) k 0=_ from this,Nat.sub_zero,<-List.range_eq_range'];rfl
 have:=qP (p:=λn=>Ir m B n) (e:=false) (d:=d) (N:=(mD m).length) (k:=k) (f:=iy k (lJ m B)) hd (by omega)
  (λn j hdj hj=>by
   have hck:ck ((j:Int)+1)=some ((j:Int)+1):=bG (by omega) (by omega);rw [iy,hck,bs,if_pos (by omega),h2 j hj];cases Ir m B j with
   |true=>simp_all [if_pos,km]
   |false=>simp_all [if_neg,i9,bs])
  (λn=>by
   have hck:ck (((mD m).length:Int)+1)=some (((mD m).length:Int)+1):=bG (by omega) (by omega);simp_all [iy,bs,if_neg])
 rw [this];unfold rF;cases(List.range' d ((mD m).length - d)).any λn=>Ir m B n <;> rfl
end Go.Proofs.YtmbkabgllafffaaGreat
set_option linter.unusedVariables false
set_option linter.unusedSimpArgs false
namespace Go.Proofs.YtmbkabgllafffaaGreat
open K Go Go.Proofs
theorem DZ:((List.range 6).all λC=>(List.range 6).all λn=> !(ble n C) || decide (jD 1200 1200 0 (C:Int) (n:Int)=some ((gY C C [] 0).filter λb=>decide (b.length=n))))=true:=by decide+kernel
theorem VI{p:Nat->Nat->Prop}[∀C n,Decidable (p C n)](h:((List.range 6).all λC=>(List.range 6).all λn=> !(ble n C) || decide (p C n))=true){C n:Nat}(hC:C < 6)(hn:n≤C):p C n:=by
 rw [List.all_eq_true] at h;have h1:=h C (List.mem_range.2 hC);grind [List.all_eq_true,Nat.ble_eq_true_of_le]
theorem GQ{C n:Nat}(hC:C < 6)(hn:n≤C):jD 1200 1200 0 (C:Int) (n:Int)=some ((gY C C [] 0).filter λb=>decide (b.length=n)):=VI (p:=λC n=>jD 1200 1200 0 (C:Int) (n:Int)=some ((gY C C [] 0).filter λb=>decide (b.length=n))) DZ hC hn
theorem zR:∀(l:List (List Int)) (b:List Int),(ov b l).length≤b.length/\∀x∈l,(ov b l).length≤x.length
 |[],b=>⟨Nat.le_refl _,λx hx=>by cases hx⟩
 |x::l,b=>by
  have ih:=zR l (if x.length < b.length then x else b)
  refine⟨Nat.le_trans ih.1 (by grind),λy hy=>?_⟩
  rcases mem_cons.1 hy with rfl |hy
  .
   exact Nat.le_trans ih.1 (by grind)
  .
   exact ih.2 y hy
theorem yG:∀(l:List (List Int)) (b:List Int),(b::l).find? (λy=>decide (y.length=(ov b l).length))=some (ov b l)
 |[],b=>by rw [find?_cons];simp [ov]
 |x::l,b=>by
  have ih:=yG l (if x.length < b.length then x else b)
  have e:ov b (x::l)=ov (if x.length < b.length then x else b) l:=rfl
  have hle:=(zR l (if x.length < b.length then x else b)).1
  rw [e]
  grind
theorem JZ{α:Type}{f:Nat->Option α}{M N:Nat}{x:α}(hM:M < N)(h:f M=some x)(hn:∀n,n < M->f n=none):(List.range N).findSome? f=some x:=by
 have e:List.range N=List.range M++M::List.range' (M+1) (N - M - 1):=by
  rw [List.range_eq_range',List.range_eq_range',<-List.range'_succ,show N - M - 1+1=N - M by omega];have:=List.range'_append (s:=0) (m:=M) (n:=N - M) (step:=1);grind
 grind
def UV(C:Nat)(L:List (List Int)):List (List Int):=(List.range (C+1)).flatMap λn=>L.filter λb=>decide (b.length=n)
theorem BJ{C:Nat}{L:List (List Int)}{p:List Int->Bool}(hL:∀x∈L,x.length≤C):(UV C L).find? p=match L.filter p with
 |[]=>none
 |b::l=>some (ov b l):=by
 unfold UV
 rw [List.find?_flatMap]
 have e:∀n,(L.filter λb=>decide (b.length=n)).find? p=(L.filter p).find? λb=>decide (b.length=n):=λn=>by
  grind
 rw [show(λn=>(L.filter λb=>decide (b.length=n)).find? p)=λn=>(L.filter p).find? λb=>decide (b.length=n) from funext e]
 have hF:∀x∈L.filter p,x.length≤C:=λx hx=>hL x (List.mem_filter.1 hx).1
 generalize L.filter p=F at *
 cases F with
 |nil=>simp_all
 |cons b l=>
  have hle:=zR l b;have hm:(ov b l).length≤C:=Nat.le_trans hle.1 (hF b (mem_cons_self ..));refine JZ (M:=(ov b l).length) (by omega) (yG l b) λn hn=>?_;grind
def iY(m:ab)(d:Nat)(L:List (List Int))(t:List Int):Bool:=L.all λb=> !rF (frz m d λn=>decide (n∈t)) (λc=>decide (c∈b)) d
theorem BW{m:ab}(v:Vd m){d:Nat}{L:List (List Int)}:iY m d L ((List.range (mC m).toNat).map λ(i:Nat)=>(i:Int))=true:=by
 unfold iY;rw [List.all_eq_true];intro b _;rw [Bool.not_eq_true',rF,Bool.eq_false_iff];rw [ne_eq,List.any_eq_true];rintro⟨n,hn,h⟩;rw [List.mem_range'] at hn;obtain⟨i,hi,rfl⟩:=hn;rw [zL] at hi;rw [Ir,List.any_eq_true] at h;obtain⟨c,hc,h⟩:=h;rw [List.mem_range] at hc;rw [Bool.and_eq_true,decide_eq_true_iff,decide_eq_true_iff] at h
 have hb:xP (frz m d λn=>decide (n∈(List.range (mC m).toNat).map λ(i:Nat)=>(i:Int))) (d+1 * i) c=none:=by
  unfold xP;have hlt:d+1 * i < (mD m).length:=by omega
  have e:(mD (frz m d λn=>decide (n∈(List.range (mC m).toNat).map λ(i:Nat)=>(i:Int))))[d+1 * i]?.getD []=((mD m)[d+1 * i]).map λ_=>[]:=by
   show(FB (mD m) d _)[d+1 * i]?.getD []=_;unfold FB;rw [List.getElem?_mapIdx,List.getElem?_eq_getElem hlt];show List.map _ _=_;refine List.map_congr_left λl hl=>?_;rw [List.filter_eq_nil_iff];intro x hx;have:=v.x5 _ (List.getElem_mem hlt) l hl x hx;have hm:x∈(List.range (mC m).toNat).map λ(i:Nat)=>(i:Int):=List.mem_map.2 ⟨x.toNat,by grind,by omega⟩;grind
  rw [e];unfold ux;rw [List.findSome?_eq_none_iff];intro l hl;obtain⟨_,_,rfl⟩:=List.mem_map.1 hl;rfl
 grind [jP]
theorem BP{m:ab}(v:Vd m):((List.range (mC m).toNat).map λ(i:Nat)=>(i:Int))∈kF m:=by
 have c1:=v.c1;refine KC ⟨λx hx=>?_,?_⟩
 .grind
 simp_all [List.pairwise_map,List.pairwise_lt_range]
def nn(m:ab)(d:Int):List Int×Int:=if¬(nG m=0) then([],nG m) else if¬(0≤d/\d≤((mD m).length:Int) - 1) then([],3) else if(py m jH).length=0 then([],9) else
 match (kF m).filter (iY m d.toNat (py m jH)) with
 |[]=>([],0)
 |b::l=>(ov b l,0)
theorem Q9{m:ab}(v:Vd m){b:List Int}(h:Bg (mC m) b):b.length≤(mC m).toNat:=by
 have c1:=v.c1;refine rN (mC m).toNat b (h.asc.imp λh=>by omega) λx hx=>?_;have:=h.rng x hx;omega
def Pj{β:Type}(o:Option β):Except β Unit:=match o with
 |some x=>.error x
 |none=>.ok ()
theorem uN{β:Type}{p:List Int->Bool}{g:List Int->β}:∀(l:List (List Int)) (j:Nat),dM (λ(_:Unit) _ x=>if p x=true then Except.error (g x) else .ok ()) j l ()=Pj ((l.find? p).map g)
 |[],_=>rfl
 |x::l,j=>by
  rw [dM,find?_cons]
  cases h:p x with
  |true=>simp [Pj]
  |false=>simp only [Bool.false_eq_true,if_false];exact uN l (j+1)
theorem MB{m:ab}{d:Nat}{L:List (List Int)}{e:Int}(v:Vd m)(hL:∀b∈L,Bg (mC m) b)(hl:L.length≤32)(hd:d≤(mD m).length):ew 1200 (d:Int) (L,e) m 1200 (true,0)=some (L.all λb=> !rF m (λc=>decide (c∈b)) d):=by
 have c1:=v.c1
 have key:=dL (T:=Bool×Int) (f:=ew 1200 (d:Int) (L,e) m) L (λ(s:Bool) j=>(s,j)) (λ(s:Bool) _ b=>s && !rF m (λc=>decide (c∈b)) d) (λ_ _=>True) (λs=>some s)
  (λn s j hj _=>by
   have hck:ck ((j:Int)+1)=some ((j:Int)+1):=bG (by omega) (by omega);have:=(hL _ (List.getElem_mem hj)).len ⟨by omega,v.c5⟩;refine⟨?_,trivial⟩;rw [ew,if_pos (by simp_all)];cases s with
   |true=>rw [if_pos rfl,bT hj,bs,A7 v (by omega) (by omega) (by omega),bs,IN v (by omega) hd,bs,bs,hck,bs];rfl
   |false=>simp_all)
  (λn s _=>by rw [ew,if_neg (Int.lt_irrefl _)]) (n:=1200) (s0:=true) (by omega) trivial
 rw [show ew 1200 (d:Int) (L,e) m 1200 (true,0)=_ from key.1]
 have:∀(l:List (List Int)) (j:Nat) (s:Bool),iW (λ(s:Bool) _ b=>s && !rF m (λc=>decide (c∈b)) d) j l s=(s && l.all λb=> !rF m (λc=>decide (c∈b)) d):=by
  intro l
  induction l with
  |nil=>simp_all [iW]
  |cons b l ih=>grind [iW,Bool.and_assoc]
 simp_all
theorem MC{m:ab}{d:Nat}{L P:List (List Int)}{e:Int}(v:Vd m)(hL:∀b∈L,Bg (mC m) b)(hl:L.length≤32)(hd:d≤(mD m).length)(hP:P.length≤32)(hPl:∀t∈P,t.length≤5):eA 1200 m (d:Int) (L,e) P 1200 0=some (Pj ((P.find? (iY m d L)).map λx=>(x,(0:Int)))):=by
 have key:=iM (T:=Int) (f:=eA 1200 m (d:Int) (L,e) P) P (λ(_:Unit) j=>j) (λ_ _ x=>if iY m d L x=true then Except.error (x,(0:Int)) else .ok ()) (λ_ _=>True) (λr=>some r)
  (λn s j hj _=>by
   have hck:ck ((j:Int)+1)=some ((j:Int)+1):=bG (by omega) (by omega);have ht:=hPl _ (List.getElem_mem hj);refine⟨?_,λ_ _=>trivial⟩;rw [eA,if_pos (by omega),bT hj,bs,DF v (by omega) (by omega),bs,MB (J0 v) hL hl (by grind [zL]),bs];show K.bE (if iY m d L P[j]=true then _ else _) _ _=_;cases iY m d L P[j] with
   |true=>simp_all [if_pos,bs,km]
   |false=>simp_all [if_neg,i9,bs])
  (λn s _=>by rw [eA,if_neg (Int.lt_irrefl _)]) (n:=1200) (s0:=()) (by omega) trivial
 grind [eA,uN]
theorem wI{β:Type}{h:Nat->Option β}:∀(n i:Nat),dM (λ(_:Unit) (j _:Nat)=>Pj (h j)) i (List.range' i n) ()=Pj ((List.range' i n).findSome? h)
 |0,_=>rfl
 |n+1,i=>by
  rw [List.range'_succ,dM,findSome?_cons]
  cases e:h i with
  |some x=>rfl
  |none=>exact wI n (i+1)
theorem MD{m:ab}{d:Nat}{L:List (List Int)}{e:Int}(v:Vd m)(hL:∀b∈L,Bg (mC m) b)(hl:L.length≤32)(hd:d≤(mD m).length):eB 1200 m (d:Int) (L,e) 1200 0=some (Pj (((UV (mC m).toNat (kF m)).find? (iY m d L)).map λx=>(x,(0:Int)))):=by
 have c1:=v.c1;have c5:=v.c5;obtain⟨h,hh⟩:∃h:Nat->Option (List Int×Int),h=λn=>(((kF m).filter λb=>decide (b.length=n)).find? (iY m d L)).map λx=>(x,(0:Int)):=⟨_,rfl⟩
 have key:=iM (T:=Int) (f:=eB 1200 m (d:Int) (L,e)) (List.range ((mC m).toNat+1)) (λ(_:Unit) j=>j) (λ_ j _=>Pj (h j)) (λ_ _=>True) (λr=>some r)
  (λn s j hj _=>by
   rw [length_range] at hj;have hck:ck ((j:Int)+1)=some ((j:Int)+1):=bG (by omega) (by omega);have hp:=GQ (C:=(mC m).toNat) (n:=j) (by omega) (by omega);rw [show(((mC m).toNat:Nat):Int)=m.1 by grind] at hp;refine⟨?_,λ_ _=>trivial⟩
   rw [eB,if_pos (by grind),hp,bs,show(gY (mC m).toNat (mC m).toNat [] 0)=kF m from rfl,MC v hL hl hd (Nat.le_trans (List.length_filter_le _ _) (oz v)) (λt ht=>(nu v (List.mem_filter.1 ht).1).len ⟨by omega,c5⟩),
    show(((kF m).filter λb=>decide (b.length=j)).find? (iY m d L)).map (λx=>(x,(0:Int)))=h j by rw [hh]]
   grind [Pj,km,i9,bs])
  (λn s _=>by rw [length_range,eB,if_neg (by grind)]) (n:=1200) (s0:=()) (by grind) trivial
 rw [show eB 1200 m (d:Int) (L,e) 1200 0=_ from key,List.range_eq_range',wI];unfold UV;rw [List.find?_flatMap,<-List.range_eq_range'];congr 2;rw [hh];generalize List.range ((mC m).toNat+1)=l
 induction l with
 |nil=>rfl
 |cons x l ih=>
  grind
theorem SQ{m:ab}{d:Int}:RN m [] [d] []=decide (0≤d/\d≤((mD m).length:Int) - 1):=by simp [RN,Au,xf]
theorem DT{m:ab}{d:Int}(hs:Sm m):mr 1200 m d=some (nn m d):=by
 unfold mr nn;have hd:=hs.d;have hck:ck (((mD m).length:Int) - 1)=some (((mD m).length:Int) - 1):=bG (by omega) (by omega);rw [show m.2.2.2.2.1=mD m from rfl,hck,bs,qM,bs,DO hs (by omega),bs];by_cases hc:nG m=0
 .have v:=Vd.of hc;have c1:=v.c1;simp only [hc,not_true_eq_false,if_false];by_cases hn:0≤d/\d≤((mD m).length:Int) - 1
  .simp only [hn,and_self,decide_true,not_true_eq_false,if_false];have hl:=BZ v (but:=jH);have hL:∀x∈py m jH,Bg (mC m) x:=λx h=>FH v h;by_cases h0:(py m jH).length=0
   .simp_all
   .rw [if_neg h0,if_neg h0];obtain⟨d',rfl⟩:∃d':Nat,d=d':=⟨d.toNat,by omega⟩;simp only [not_true_eq_false,if_false,Int.toNat_natCast];rw [MD v hL hl (by omega),BJ (λx hx=>Q9 v (nu v hx))];have hmem:((List.range (mC m).toNat).map λ(i:Nat)=>(i:Int))∈(kF m).filter (iY m d' (py m jH)):=List.mem_filter.2 ⟨BP v,BW v⟩;cases e:(kF m).filter (iY m d' (py m jH)) with
    |nil=>simp_all
    |cons b l=>rfl
  simp_all
 simp_all
theorem Ey{k:Nat}{l:List Int}:oU k l=qd k l:=by kernel_rfl
theorem QL{m:ab}{d:Nat}{L:List (List Int)}(v:Vd m)(hL:∀b∈L,Bg (mC m) b)(hl:L.length≤32)(hd:d≤(mD m).length):c9 1200 (L.map cj) m (d:Int)=some (L.any λb=>rF m (λc=>decide (c∈b)) d):=by
 unfold c9 ip
 have key:=iM (T:=Int) (f:=cP 1200 (L.map cj) m (d:Int)) L (λ(_:Unit) j=>j) (λ_ j b=>if rF m (λc=>decide (c∈b)) d=true then Except.error (j:Int) else .ok ()) (λ_ _=>True) (λr=>some r)
  (λn s j hj _=>by
   have hck:ck ((j:Int)+1)=some ((j:Int)+1):=bG (by omega) (by omega);have hg:aG (L.map cj) (j:Int)=some (cj L[j]):=QM (by omega) (by simp_all);refine⟨?_,λ_ _=>trivial⟩;rw [cP,if_pos (by simp_all),hg,bs,lR,Bv v (by omega) (hL _ (List.getElem_mem hj)) hd,bs,bs];grind)
  (λn s _=>by simp_all [cP,if_neg,length_map]) (n:=1200) (s0:=()) (by omega) trivial
 rw [show cP 1200 (L.map cj) m (d:Int) 1200 0=_ from key,sq];cases e:L.findIdx? λb=>rF m (λc=>decide (c∈b)) d with
 |some i=>
  obtain⟨h1,h2,_⟩:=List.findIdx?_eq_some_iff_getElem.1 e;rw [km,bs];have:(L.any λb=>rF m (λc=>decide (c∈b)) d)=true:=List.any_eq_true.2 ⟨_,List.getElem_mem h1,h2⟩;simp_all
 |none=>
  rw [i9,bs];simp_all
theorem Ej{m:ab}{d:Int}(hs:Sm m):kz 1200 m d=some (nn m d):=by
 unfold kz nn;rw [GZ hs (by omega) (by simp) (by simp) (by simp),bs];by_cases hc:nG m=0
 .have v:=Vd.of hc;have c1:=v.c1;have c5:=v.c5;simp only [hc,SQ,not_true_eq_false,if_false,decide_eq_true_eq];by_cases hn:0≤d/\d≤((mD m).length:Int) - 1
  .simp only [hn,and_self,not_true_eq_false,if_false];have hl:=BZ v (but:=jH);have hL:∀x∈py m jH,Bg (mC m) x:=λx h=>FH v h;by_cases h0:(py m jH).length=0
   .simp_all [if_pos,tg]
   .rw [if_neg h0,if_neg h0];obtain⟨d',rfl⟩:∃d':Nat,d=d':=⟨d.toNat,by omega⟩;simp only [vu,not_true_eq_false,if_false,Int.toNat_natCast];generalize hE:py m jH=L at *;unfold jJ;have hC:m.1=(((mC m).toNat:Nat):Int):=by grind
    have h:=wy (σ:=List Int×Bool) (k:=1200) (Y:=pG (λ(y10:(List Int)) (p12:Int)=>
     (jA 1200 m (d':Int) p12).bind λr14=>
     gW r14 (none) (λq15=>(c9 1200 (L.map cj) q15 (d':Int)).bind λr19=>
     if¬(r19=true) then((bU (aR (length y10+length [p12]))).bind λ_=>
     some (y10++[p12],true)) else(some (y10,true))))) (C:=(mC m).toNat) (by omega) (by omega)
     (λs b=>(if iY m d' L b then s.1++[cj b] else s.1,false)) (λr s=>s.2=false/\s.1.length+r≤1000) (mC m).toNat 1200 [] 0 ([],false) 0 (by omega) (by omega) (by omega) ww (λr s b' hb' hI=>by
      obtain⟨y,q⟩:=s;obtain⟨rfl,hI⟩:q=false/\y.length+(r+1)≤1000:=hI;have hbg:=nu v hb';have hset:=hbg.set c5;have hfz:frz m (d':Int) (mK (cj b'))=frz m (d':Int) λn=>decide (n∈b'):=G3 v λc h0 _=>hset.2 c h0
      have hfine:(L.any λb=>rF (frz m (d':Int) λn=>decide (n∈b')) (λc=>decide (c∈b)) d')= !iY m d' L b':=by
       unfold iY;grind
      unfold pG;simp only [];rw [Eh v (by omega) hset.1,hfz,bs,vu,QL (J0 v) hL hl (by rw [zL];omega),hfine,bs];cases iY m d' L b' with
      |true=>
       simp only [Bool.not_true,Bool.false_eq_true,not_false_eq_true,if_true];grind [cz,aR,bs,cj]
      |false=>
       grind) ⟨rfl,by have:=oz v;grind [kF]⟩
    rw [hC,show dw 1200 _ (((mC m).toNat:Nat):Int) 1200 0 0 ([],false)=_ from h.1,bs,bs,nF (p:=iY m d' L) (h:=cj)];simp only [Bool.false_eq_true,if_false,nil_append];rw [show(gY (mC m).toNat (mC m).toNat [] 0)=kF m from rfl,Ey];have hmem:((List.range (mC m).toNat).map λ(i:Nat)=>(i:Int))∈(kF m).filter (iY m d' L):=List.mem_filter.2 ⟨BP v,BW v⟩;have hB:∀x∈(kF m).filter (iY m d' L),Bg (mC m) x:=λx hx=>nu v (List.mem_filter.1 hx).1;have hBl:((kF m).filter (iY m d' L)).length≤32:=Nat.le_trans (List.length_filter_le _ _) (oz v);generalize (kF m).filter (iY m d' L)=F at *;cases F with
    |nil=>cases hmem
    |cons b l=>
     have hb:=hB b mem_cons_self;have hl':=λx h=>hB x (mem_cons_of_mem _ h);rw [Ew (by omega) ⟨by omega,c5⟩ hb hl' (by grind),bs]
     have hm:Bg (mC m) (ov b l):=by
      grind [BX]
     grind [rL,bs]
  simp_all [not_false_eq_true,if_true,tg,if_pos]
 simp_all [not_false_eq_true,if_true,tg]
theorem BV{m:ab}{d:Int}:(nn m d).1.length≤5:=by
 unfold nn;split
 .simp
 .rename_i hc;have v:=Vd.of (Decidable.not_not.1 hc);have c1:=v.c1;split
  .simp
  .split
   .simp
   .cases e:(kF m).filter (iY m d.toNat (py m jH)) with
    |nil=>simp
    |cons b l=>
     have hB:∀x∈b::l,Bg (mC m) x:=λx hx=>nu v (List.mem_filter.1 (e▸hx)).1
     have hm:Bg (mC m) (ov b l):=by
      grind [BX,mem_cons_self,mem_cons_of_mem]
     exact hm.len ⟨by omega,v.c5⟩
end Go.Proofs.YtmbkabgllafffaaGreat
set_option linter.unusedVariables false
set_option linter.unusedSimpArgs false
namespace Go.Proofs.YtmbkabgllafffaaGreat
open K Go Go.Proofs
theorem BM:qf 1200=some true:=by decide+kernel
theorem W.get{α:Type}{x:Option α}{a:α}(h:W x λy=>y=a):x=some a:=by
 obtain⟨b,e,rfl⟩:=h;exact e
end Go.Proofs.YtmbkabgllafffaaGreat
set_option linter.unusedVariables false
set_option linter.unusedSimpArgs false
namespace Go.Proofs.YtmbkabgllafffaaGreat
open K Go Go.Proofs
theorem TM{α:Type}{a b c:α}{j:Nat}(h:j < 3):∃x∈[a,b,c],aG [a,b,c] (j:Int)=some x:=by
 have:j=0\/j=1\/j=2:=by omega
 rcases this with rfl |rfl |rfl
 .exact⟨a,by simp,rfl⟩
 .exact⟨b,by simp,rfl⟩
 .exact⟨c,by simp,rfl⟩
end Go.Proofs.YtmbkabgllafffaaGreat
set_option linter.unusedVariables false
set_option linter.unusedSimpArgs false
namespace Go.Proofs.YtmbkabgllafffaaGreat
open K Go Go.Proofs
theorem IB{r:List ab}{f:Nat->Int->Option (Except Bool Unit)}{a x y:ab}(h9:r=[a,x,y])(hs:Sm a)(vx:Vd x)(sy:Sm y)
 (step:∀(n j:Nat) (z:ab),j < 3->(j:Int) < (r.length:Int)->aG r (j:Int)=some z->Sm z->f (n+1) (j:Int)=f n ((j:Int)+1)) (stop:∀n:Nat,f (n+1) ((r.length:Nat):Int)=some (.ok ())):f 1200 0=some (.ok ()):=by
 subst h9
 have h0:=step 1199 0 a (by omega) (by simp_all) rfl hs
 have h1:=step 1198 1 x (by omega) (by simp_all) rfl vx.sm
 have h2:=step 1197 2 y (by omega) (by simp_all) rfl sy
 simp_all
