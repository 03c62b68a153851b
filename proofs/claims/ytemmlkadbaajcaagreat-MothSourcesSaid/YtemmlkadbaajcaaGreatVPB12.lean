import Derived.Test.YtemmlkadbaajcaaGreatVPB11
open Nat
open List hiding mem_of_getElem?
open Array hiding mem_of_getElem? mk
set_option linter.unusedVariables false
set_option linter.unusedSimpArgs false
namespace Go.Proofs.YtemmlkadbaajcaaGreat
open K Go Go.Proofs
def Ij(b:List Int):Nat:=match b.getLast? with |some x=>x.toNat+1 |none=>0
theorem zk{C:Nat}(hC:C≤5):∀(n:Nat) (b:List Int) (f:Nat),(jY C n b f).length≤6 ^ n
 |0,b,f=>by simp [jY]
 |n+1,b,f=>by
  have fl:∀l:List Nat,(l.flatMap λ(c:Nat)=>jY C n (b++[(c:Int)]) (c+1)).length≤l.length * 6 ^ n:=by
   intro l
   induction l with
   |nil=>simp
   |cons c l ih=>
    rw [List.flatMap_cons,length_append,length_cons,Nat.add_mul];have:=zk hC n (b++[(c:Int)]) (c+1);omega
  have:=fl (List.range' f (C - f));rw [List.length_range'] at this;rw [jY,length_cons,Nat.pow_succ];have h1:(C - f) * 6 ^ n≤5 * 6 ^ n:=mul_le_mul_right _ (by omega);grind
theorem wy{b:List Int}{c:Nat}:Ij (b++[(c:Int)])=c+1:=by
 unfold Ij;simp_all
theorem Fv{k C:Nat}(hC:C≤5)(hk:10≤k):∀(n m0:Nat) (b:List Int),n≤5->C - Ij b≤n->Ij b≤C->n < m0->b.length+n≤5->(∀x∈b,0≤x/\x < 5)->lT k m0 (C:Int) b=some (jY C n b (Ij b))
 |n,0,b,_,_,_,h,_,_=>absurd h (not_lt_zero _)
 |n,m0+1,b,h5,h1,h2,h3,hb,hx=>by
  unfold lT
  have hn:((if(0:Int) < (b.length:Int) then((ck ((b.length:Int) - (1:Int))).bind λx4=>(aH b x4).bind λx5=>(ck (x5+(1:Int))).bind λx6=>some x6) else(some (0:Int))):Option Int)=some ((Ij b:Nat):Int):=by
   by_cases h0:b=[]
   .subst h0;rfl
   .have hl:0 < b.length:=List.length_pos_iff.2 h0;have c1:ck ((b.length:Int) - 1)=some (((b.length - 1:Nat):Int)):=by grind [bM]
    have hg:=ce (l:=b) (i:=b.length - 1) (by omega);have hxx:=hx _ (List.getElem_mem (l:=b) (n:=b.length - 1) (by omega));have hla:b.getLast? =some b[b.length - 1]:=by grind
    have c2:ck (b[b.length - 1]+1)=some (b[b.length - 1]+1):=bM (by omega) (by omega);rw [if_pos (by omega),c1,bs,hg,bs,c2,bs];grind [Ij]
  rw [hn,bs];cases n with
  |zero=>
   have hf:Ij b=C:=by omega
   rw [hf];obtain⟨k,rfl⟩:∃n,k=n+1:=⟨k - 1,by omega⟩;rw [iI,if_neg (Int.lt_irrefl _),bs];rfl
  |succ n=>
   have loop:∀(d x:Nat) (acc:List (List Int)) (aO:Nat),C - x=d->Ij b≤x->x≤C->d < aO->acc.length+((List.range' x (C - x)).flatMap λ(c:Nat)=>jY C n (b++[(c:Int)]) (c+1)).length≤100000->
    iI k (C:Int) b (lT k m0) aO (acc,(x:Int))=some (acc++(List.range' x (C - x)).flatMap λ(c:Nat)=>jY C n (b++[(c:Int)]) (c+1)):=by
    intro d
    induction d with
    |zero=>
     intro x acc aO hd hx1 hx2 hfu hl;obtain⟨aO,rfl⟩:∃n,aO=n+1:=⟨aO - 1,by omega⟩;have:x=C:=by omega
     simp_all [iI,if_neg,Int.lt_irrefl,Nat.sub_self]
    |succ d ih=>
     intro x acc aO hd hx1 hx2 hfu hl;obtain⟨aO,rfl⟩:∃n,aO=n+1:=⟨aO - 1,by omega⟩;have e:C - x=(C - (x+1))+1:=by omega
     rw [e,List.range'_succ,List.flatMap_cons,length_append] at hl;have hck:ck ((x:Int)+1)=some (((x+1:Nat):Int)):=by grind [bM]
     have hsub:=Fv hC hk n m0 (b++[(x:Int)]) (by omega) (by rw [wy];omega) (by rw [wy];omega) (by omega) (by simp;omega) (λy hy=>by
      grind)
     rw [wy] at hsub;have e0:([]:List Int)++b=b:=rfl;have hok:bV (bb (acc.length+(jY C n (b++[(x:Int)]) (x+1)).length))=some ():=cK (show acc.length+(jY C n (b++[(x:Int)]) (x+1)).length≤4294967296 by omega);rw [iI,if_pos (show(x:Int) < (C:Int) by omega),cK (by grind [bb]),bs,e0,cK (by grind [bb]),bs,hsub,bs];dsimp only;rw [hok,bs,hck,bs];rw [ih (x+1) _ aO (by omega) (by omega) (by omega) (by omega) (by grind)];rw [e,List.range'_succ,List.flatMap_cons,List.append_assoc]
   have hlen:=zk hC (n+1) b (Ij b);rw [jY,length_cons] at hlen;have h6:6 ^ (n+1)≤6 ^ 5:=Nat.pow_le_pow_right (by decide) h5;have h7:(6:Nat) ^ 5=7776:=by decide
   have h1l:([b]:List (List Int)).length=1:=rfl;rw [loop (C - Ij b) (Ij b) [b] k rfl (Nat.le_refl _) h2 (by omega) (by omega),bs,jY];rfl
theorem Jf{k:Nat}{m:ab}(v:Vd m)(hk:10≤k):lT k k m.1 []=some (xi m):=by
 have c1:=v.c1;have c5:=v.c5;have:=Fv (k:=k) (C:=(mC m).toNat) (by omega) hk (mC m).toNat k [] (by omega) (by omega) (zero_le _) (by omega) (by simp;omega) (by simp);rw [show(((mC m).toNat:Nat):Int)=m.1 by grind] at this;exact this
theorem Ha{k:Nat}{m:ab}{B:Int->Bool}(v:Vd m){x:aQ}(hg:0≤x.1/\x.1 < mC m/\0≤x.2.1/\x.2.1≤(mD m).length):oe k m (kx m B) x=some (decide (x.2.2=decide (mS m≤gJ m B x.2.1.toNat x.1))):=by
 grind [oe,aH,kx,pK,qR,bs,mE]
theorem By{k:Nat}{m:ab}{but:List Int}{B:Int->Bool}(v:Vd m)(hk:50≤k)(hb:but.length≤40):
 di k m but (kx m B) k (true,0)=some (CO m (λi=>decide ((i:Int)∈but)) B):=by
 have g8:=v.g8
 have key:=eO (T:=Bool×Int) (f:=di k m but (kx m B)) (mG m) (λ(s:Bool) j=>(s,j)) (λs j x=>s && (decide ((j:Int)∈but) || decide (x.2.2=decide (mS m≤gJ m B x.2.1.toNat x.1)))) (λ_ _=>True) (λs=>some s)
  (λn s j hj _=>by
   have hck:ck ((j:Int)+1)=some ((j:Int)+1):=bM (by omega) (by omega);have hg:=v.gl _ (List.getElem_mem hj);have hj':(j:Int) < (m.2.2.2.2.2.length:Int):=Int.ofNat_lt.2 hj;have hget:aH m.2.2.2.2.2 (j:Int)=some (mG m)[j]:=ce hj;refine⟨?_,trivial⟩;simp only [di,hj',if_true];cases s with
   |false=>simp_all
   |true=>
    simp only [if_true,vo (k:=k) (l:=but) (x:=(j:Int)) (by omega) (by omega),bs,Bool.true_and];cases decide ((j:Int)∈but) with
    |true=>simp_all
    |false=>simp_all [Bool.false_eq_true,if_false,bs,Ha,Bool.false_or])
  (λn s _=>by
   unfold di;simp_all) (n:=k) (s0:=true) (by omega) trivial
 rw [show di k m but (kx m B) k (true,0)=_ from key.1]
 have:∀(l:List aQ) (j:Nat) (s:Bool),io (λs j (x:aQ)=>s && (decide ((j:Int)∈but) || decide (x.2.2=decide (mS m≤gJ m B x.2.1.toNat x.1)))) j l s=(s && ((l.zipIdx j).all λg=>decide ((g.2:Int)∈but) || decide (g.1.2.2=decide (mS m≤gJ m B g.1.2.1.toNat g.1.1)))):=by
  intro l
  induction l with
  |nil=>simp_all [io]
  |cons x l ih=>
   grind [io,zipIdx_cons,Bool.and_assoc]
 rw [this,Bool.true_and]
 rfl
theorem xT{k:Nat}{m:ab}{but:List Int}(v:Vd m)(hk:50≤k)(hb:but.length≤40):jk k m but=some (sq m λi=>decide ((i:Int)∈but)):=by
 have hlen:=xh v;unfold jk;rw [Jf v (by omega),bs]
 have key:=eO (T:=List (List Int)×Int) (f:=dH k m but (xi m)) (xi m) (λ(s:List (List Int)) j=>(s,j)) (λs _ b=>if CO m (λi=>decide ((i:Int)∈but)) (λc=>decide (c∈b)) then s++[b] else s) (λj s=>s.length≤j) (λs=>some s)
  (λn s j hj hs=>by
   have hck:ck ((j:Int)+1)=some ((j:Int)+1):=bM (by omega) (by omega);have hbg:=AB v (List.getElem_mem hj);have hl:=hbg.len ⟨by have:=v.c1;omega,v.c5⟩;refine⟨?_,?_⟩
   .simp only [dH,Int.ofNat_lt,hj,if_true,ce hj,bs,wn (k:=k) v (by omega) (b:=(xi m)[j]) (by omega) (by omega),By (k:=k) v hk hb];cases CO m (λi=>decide ((i:Int)∈but)) (λc=>decide (c∈(xi m)[j])) with
    |true=>
     simp only [if_true];rw [cK (by grind [bb]),bs,bs,hck,bs]
    |false=>simp_all
   grind)
  (λn s hs=>by
   unfold dH;simp_all) (n:=k) (s0:=[]) (by omega) (by simp)
 rw [show dH k m but (xi m) k ([],0)=_ from key.1,bs]
 have:∀(l:List (List Int)) (j:Nat) (s:List (List Int)),io (λs _ b=>if CO m (λi=>decide ((i:Int)∈but)) (λc=>decide (c∈b)) then s++[b] else s) j l s=s++l.filter λb=>CO m (λi=>decide ((i:Int)∈but)) (λc=>decide (c∈b)):=by
  intro l
  induction l with
  |nil=>simp_all [io]
  |cons b l ih=>
   grind [io,CO,decide]
 rw [this];rfl
end Go.Proofs.YtemmlkadbaajcaaGreat
set_option linter.unusedVariables false
set_option linter.unusedSimpArgs false
namespace Go.Proofs.YtemmlkadbaajcaaGreat
open K Go Go.Proofs
def lg:Nat->Bool:=λ_=>false
theorem VU:(λi=>decide (eo 0 i))=lg:=by
 grind [lg,eo]
theorem Vx:(λi:Nat=>decide ((i:Int)∈([]:List Int)))=lg:=by
 grind [lg]
theorem F7{m:ab}(v:Vd m){but:Nat->Bool}{b:List Int}(h:b∈sq m but):Bg (mC m) b:=AB v (List.mem_filter.1 h).1
theorem CN{m:ab}(v:Vd m){but:Nat->Bool}:(sq m but).length≤32:=Nat.le_trans (List.length_filter_le _ _) (xh v)
end Go.Proofs.YtemmlkadbaajcaaGreat
set_option linter.unusedVariables false
set_option linter.unusedSimpArgs false
namespace Go.Proofs.YtemmlkadbaajcaaGreat
open K Go Go.Proofs
theorem Hr{k:Nat}{m:ab}{cs ds ns:List Int}(hs:Sm m)(hk:1010≤k)(h1:cs.length≤1000)(h2:ds.length≤1000)(h3:ns.length≤1000):
 jR k m cs ds ns=some (if¬(lN m=0) then(none,[],lN m) else if¬(PK m cs ds ns=true) then(none,[],3) else if(sq m lg).length=0 then(none,[],9) else(some m,(sq m lg).map er,0)):=by
 unfold jR
 rw [BX hs hk (by simp) h1 h2 h3,bs]
 by_cases hc:lN m=0
 .
  have v:=Vd.of hc;have hb:sF (mC m) []=0:=uK.2 ⟨by simp,by simp⟩;by_cases ho:PK m cs ds ns=true
  .simp only [hc,hb,ho,not_true_eq_false,if_false,if_true,vD];rw [EE v (by omega) ru,bs,VU];grind
  simp_all [not_true_eq_false,not_false_eq_true,if_false,if_true,nH,Bool.false_eq_true,if_pos]
 simp_all [not_false_eq_true,if_true,nH]
theorem wl{k:Nat}{m:ab}{q:Bool}(hs:Sm m)(hk:1010≤k):
 mF k m q=some (if¬(lN m=0) then([],lN m) else if¬(q=true) then([],3) else if(sq m lg).length=0 then([],9) else(sq m lg,0)):=by
 unfold mF
 rw [Ft hs (by omega),bs]
 by_cases hc:lN m=0
 .
  have v:=Vd.of hc;cases q with
  |true=>
   simp only [hc,not_true_eq_false,if_false];rw [xT v (by omega) (by simp),bs,Vx];grind
  |false=>simp_all
 simp_all
end Go.Proofs.YtemmlkadbaajcaaGreat
set_option linter.unusedVariables false
set_option linter.unusedSimpArgs false
namespace Go.Proofs.YtemmlkadbaajcaaGreat
open K Go Go.Proofs
theorem Gg{k:Nat}{m:ab}{b:List Int}(v:Vd m)(hk:10≤k)(hb:Bg (mC m) b):∃F:Nat->Int->Int,mV k m (er b)=some (cr F)/\∀(n:Nat) (c:Int),n≤(mD m).length->0≤c->c < mC m->F n c=gJ m (λc=>decide (c∈b)) n c:=by
 have hs:=hb.set v.c5;refine⟨_,uI v hk hs.1,λn c hn h0 h1=>?_⟩;grind [Gf,uL]
end Go.Proofs.YtemmlkadbaajcaaGreat
set_option linter.unusedVariables false
set_option linter.unusedSimpArgs false
namespace Go.Proofs.YtemmlkadbaajcaaGreat
open K Go Go.Proofs
theorem Fo{α:Type}{p:Prop}[Decidable p]{s:List α}{x:α}{j:Nat}(h:s.length≤j):(if p then s++[x] else s).length≤j+1:=by
 grind
def fG(m:ab)(B:Int->Bool)(c:Int):Int:=match (List.range ((mD m).length+1)).findIdx? λn=>decide (0≤gJ m B n c) with
 |some i=>i
 |none=> -1
theorem Bt{k:Nat}{m:ab}{B:Int->Bool}{c:Int}{f:Nat->Int->Option (Except Int Unit)}(hk:(mD m).length+1 < k)(hl:(mD m).length≤1000)
 (step:∀(n j:Nat),j < (mD m).length+1->f (n+1) (j:Int)=if 0≤gJ m B j c then some (.error (j:Int)) else f n ((j:Int)+1)) (stop:∀n,f (n+1) (((mD m).length:Int)+1)=some (.ok ())):K.bE (f k 0) some (λ_=>some (-1:Int))=some (fG m B c):=by
 have key:=je (T:=Int) (f:=f) (List.range ((mD m).length+1)) (λ(_:Unit) j=>j) (λ_ j x=>if decide (0≤gJ m B x c)=true then Except.error (j:Int) else .ok ()) (λ_ _=>True) (λr=>some r)
  (λn s j hj _=>by
   grind)
  (λn s _=>by simp_all) (n:=k) (s0:=()) (by simp_all) trivial
 rw [show f k 0=_ from key,sj]
 grind [fG,K.bE]
theorem yO{k:Nat}{m:ab}{b:List Int}{c:Int}(v:Vd m)(hk:50≤k)(hb:Bg (mC m) b)(h0:0≤c)(h1:c < mC m):eU k m (er b) c=some (fG m (λc=>decide (c∈b)) c):=by
 unfold eU;obtain⟨F,e,h⟩:=Gg (k:=k) v (by omega) hb;have d6:=v.d6;have c5:=v.c5;have hlen:ck (((mD m).length:Int)+1)=some (((mD m).length:Int)+1):=bM (by omega) (by omega);rw [e,bs,show m.2.2.2.2.1=mD m from rfl,hlen,bs];refine Bt (by omega) (by omega) (λn j hj=>?_) (λn=>?_)
 .have hck:ck ((j:Int)+1)=some ((j:Int)+1):=bM (by omega) (by omega);have hj7:j < 7:=by omega
  rw [eC,if_pos (by omega),wX hj7,bs,sW h0 (by omega),bs,h j c (by omega) h0 h1,hck,bs]
 .rw [eC,if_neg (Int.lt_irrefl _)]
theorem yz{k:Nat}{m:ab}{B:Int->Bool}{c:Int}(v:Vd m)(hk:50≤k)(h0:0≤c)(h1:c < mC m):ma k (kx m B) c=some (fG m B c):=by
 unfold ma;have d6:=v.d6;have hl:((kx m B).length:Int)=(mD m).length+1:=by rw [HS];rfl
 refine Bt (by omega) (by omega) (λn j hj=>?_) (λn=>?_)
 .have hck:ck ((j:Int)+1)=some ((j:Int)+1):=bM (by omega) (by omega);rw [iY,if_pos (by omega),qR (by omega),bs,mE h0 h1,bs,hck,bs]
 simp_all [iY,if_neg]
theorem G8{m:ab}{B:Int->Bool}{c:Int}: -1≤fG m B c/\fG m B c≤(mD m).length:=by
 grind [fG,List.findIdx?_eq_some_iff_findIdx_eq,length_range]
theorem PI{m:ab}{c:Int}:PK m [c] [] []=decide (0≤c/\c < mC m):=by
 simp only [PK,AT,xC,all_cons,List.all_nil,Bool.and_true];grind
end Go.Proofs.YtemmlkadbaajcaaGreat
set_option linter.unusedVariables false
set_option linter.unusedSimpArgs false
namespace Go.Proofs.YtemmlkadbaajcaaGreat
open K Go Go.Proofs
theorem J7{s t:Int}(hs:jx s)(ht:jx t)(h:∀i,eo s i↔eo t i):s=t:=by
 obtain⟨a,ha,rfl⟩:=pZ hs;obtain⟨b,hb,rfl⟩:=pZ ht;congr 1;refine Nat.eq_of_testBit_eq λi=>?_;have:=h i;unfold eo at this;simp_all
def vU(C:Nat)(L:List (List Int)):List Int:=((List.range C).map λ(i:Nat)=>(i:Int)).filter λx=>L.any λb=>decide (x∈b)
theorem zE{C:Nat}{L:List (List Int)}:Bg (C:Int) (vU C L):=by
 refine⟨λx hx=>?_,?_⟩
 .unfold vU at hx;grind
 simp_all [vU,Pairwise.filter,List.pairwise_map,List.pairwise_lt_range]
theorem IW{C:Nat}{L:List (List Int)}{x:Int}(hL:∀b∈L,Bg (C:Int) b):x∈vU C L↔∃b∈L,x∈b:=by
 unfold vU;rw [List.mem_filter,List.mem_map,List.any_eq_true];constructor
 .grind
 .rintro⟨b,hb,h⟩;have:=(hL b hb).rng x h;exact⟨⟨x.toNat,by simp_all,by omega⟩,b,hb,decide_eq_true h⟩
theorem Be{C:Nat}(hC:C≤5):∀(L:List (List Int)) (j:Nat) (s:Int),(∀b∈L,Bg (C:Int) b)->jx s->jx (io (λs _ b=>yT .u8 s (er b)) j L s)/\∀i:Nat,eo (io (λs _ b=>yT .u8 s (er b)) j L s) i↔eo s i\/∃b∈L,(i:Int)∈b
 |[],_,s,_,hs=>⟨hs,λi=>by simp [io]⟩
 |b::L,j,s,hL,hs=>by
  have hb:jx (er b)/\∀i:Nat,eo (er b) i↔eo 0 i\/(i:Int)∈b:=sU (C:=C) (by omega) b 0 ru (hL b (mem_cons_self ..)).rng
  have h1:=Kt hs hb.1
  have h2:=Be hC L (j+1) (yT .u8 s (er b)) (λx h=>hL x (mem_cons_of_mem _ h)) h1.1
  simp_all [io,eo,false_or,mem_cons,exists_eq_or_imp,or_assoc]
def Br(m:ab)(c:Int)(L:List (List Int)):List Int:=(vU (mC m).toNat L).filter λx=>decide (0≤fG m (λy=>decide (y∈[x])) c)
theorem Bg.one{C x:Int}(h0:0≤x)(h1:x < C):Bg C [x]:=⟨λy hy=>by simp_all,pairwise_singleton _ _⟩
theorem wS{p:Int->Bool}:∀(l:List Int) (j:Nat) (s:List Int),io (λ(s:List Int) _ x=>if p x then s++[x] else s) j l s=s++l.filter p
 |[],_,s=>by simp [io]
 |x::l,j,s=>by
  rw [io,wS l,List.filter_cons]
  grind
theorem EG{k:Nat}{m:ab}{L:List (List Int)}{r2:(Option ab)×(List Int)×Int}(v:Vd m)(hk:50≤k)(hL:∀b∈L,Bg (mC m) b)(hl:L.length≤40)(hr:r2.2.1=L.map er):dT k r2 k (0,0)=some (er (vU (mC m).toNat L)):=by
 have c1:=v.c1;have c5:=v.c5
 have key:=eO (T:=Int×Int) (f:=dT k r2) L (λ(s:Int) j=>(s,j)) (λs _ b=>yT .u8 s (er b)) (λ_ _=>True) (λs=>some s)
  (λn s j hj _=>by
   have hck:ck ((j:Int)+1)=some ((j:Int)+1):=bM (by omega) (by omega);have hg:aH r2.2.1 (j:Int)=some (er L[j]):=by simp_all [Ad,Int.toNat_natCast,List.getElem?_map,List.getElem?_eq_getElem]
   simp_all [dT,if_pos,length_map,bs])
  (λn s _=>by simp_all [dT,if_neg,length_map]) (n:=k) (s0:=0) (by omega) trivial
 rw [show dT k r2 k (0,0)=_ from key.1];have hL':∀b∈L,Bg (((mC m).toNat:Nat):Int) b:=λb hb=>by grind
 have h1:=Be (C:=(mC m).toNat) (by omega) L 0 0 hL' ru;have hU:=zE (C:=(mC m).toNat) (L:=L);have h2:=sU (C:=(mC m).toNat) (by omega) (vU (mC m).toNat L) 0 ru hU.rng;congr 1;refine J7 h1.1 h2.1 λi=>?_;have h0:¬eo 0 i:=by grind [eo]
 rw [h1.2 i,show er (vU (mC m).toNat L)=List.foldl xG 0 (vU (mC m).toNat L) from rfl,h2.2 i,IW hL']
theorem EF{k:Nat}{m:ab}{c:Int}{R:List Int}(v:Vd m)(hk:50≤k)(hR:∀x∈R,0≤x/\x < mC m)(hl:R.length≤5)(h0:0≤c)(h1:c < mC m):dS k c m R k ([],0)=some (R.filter λx=>decide (0≤fG m (λy=>decide (y∈[x])) c)):=by
 have c5:=v.c5
 have key:=eO (T:=(List Int)×Int) (f:=dS k c m R) R (λ(s:List Int) j=>(s,j)) (λ(s:List Int) _ x=>if decide (0≤fG m (λy=>decide (y∈[x])) c)=true then s++[x] else s) (λj s=>s.length≤j) (λs=>some s)
  (λn s j hj hs=>by
   have hck:ck ((j:Int)+1)=some ((j:Int)+1):=bM (by omega) (by omega);have hx:=hR _ (List.getElem_mem hj);have hok:bb (length s+length [R[j]]):=Vb (n:=50) (by omega) (by omega);have hw:=(nn (k:=k) (s:=0) (x:=R[j]) ru hx.1 (by omega)).1;refine⟨?_,Fo hs⟩;rw [dS,if_pos (by omega),ce hj,bs,hw,bs,show xG 0 R[j]=er [R[j]] from rfl,yO v (by omega) (Bg.one hx.1 hx.2) h0 h1,bs];by_cases h:0≤fG m (λy=>decide (y∈[R[j]])) c
   .simp_all [if_pos,decide_eq_true,cK,bs]
   grind)
  (λn s _=>by rw [dS,if_neg (Int.lt_irrefl _)]) (n:=k) (s0:=[]) (by omega) (Nat.le_refl 0)
 grind [dS,wS]
theorem Ef{k:Nat}{L:List (List Int)}{e:Int}{y:(List Int)×Int}(hk:50≤k)(hl:L.length≤40)(hL:∀b∈L,b.length≤5):dQ k (L,e) y k (false,0)=some (L.any λb=>decide (y.2∈b)):=by
 have key:=eO (T:=Bool×Int) (f:=dQ k (L,e) y) L (λ(s:Bool) j=>(s,j)) (λ(s:Bool) _ b=>s || decide (y.2∈b)) (λ_ _=>True) (λs=>some s)
  (λn s j hj _=>by
   have hck:ck ((j:Int)+1)=some ((j:Int)+1):=bM (by omega) (by omega);have:=hL _ (List.getElem_mem hj);refine⟨?_,trivial⟩;rw [dQ,if_pos (by simp_all)];cases s with
   |true=>simp_all
   |false=>rw [if_neg (by simp),ce hj,bs,vo (by omega) (by omega),bs,bs,hck,bs];rfl)
  (λn s _=>by rw [dQ,if_neg (Int.lt_irrefl _)]) (n:=k) (s0:=false) (by omega) trivial
 rw [show dQ k (L,e) y k (false,0)=_ from key.1]
 have:∀(l:List (List Int)) (j:Nat) (s:Bool),io (λ(s:Bool) _ b=>s || decide (y.2∈b)) j l s=(s || l.any λb=>decide (y.2∈b)):=by
  intro l
  induction l with
  |nil=>simp_all [io]
  |cons b l ih=>grind [io,Bool.or_assoc]
 simp_all
def Bn(m:ab)(c:Int):List Int×Int:=if¬(lN m=0) then([],lN m) else if¬(0≤c/\c < mC m) then([],3) else if(sq m lg).length=0 then([],9) else(Br m c (sq m lg),0)
theorem wR{p:Int->Bool}:∀(n i j:Nat) (s:List Int),i=j->io (λ(s:List Int) (j _:Nat)=>if p j then s++[(j:Int)] else s) j (List.range' i n) s=s++((List.range' i n).map λ(x:Nat)=>(x:Int)).filter p
 |0,_,_,s,_=>by simp [io]
 |n+1,i,j,s,h=>by
  subst h
  rw [List.range'_succ,io,wR n (i+1) (i+1) _ rfl,map_cons,List.filter_cons]
  grind
theorem MX{k:Nat}{m:ab}{c:Int}(hs:Sm m)(hk:1010≤k):k9 k m c=some (Bn m c):=by
 unfold k9 Bn;by_cases hc:lN m=0
 .have v:=Vd.of hc;have c1:=v.c1;have c5:=v.c5;rw [wO ⟨c1,c5⟩,bs,wl hs hk,bs];simp only [hc,not_true_eq_false,if_false];by_cases hn:0≤c/\c < mC m
  .simp only [hn,and_self,decide_true,not_true_eq_false,if_false];have hl:=CN v (but:=lg);have hL:∀x∈sq m lg,Bg (mC m) x:=λx h=>F7 v h;generalize sq m lg=L at *;by_cases h0:L.length=0
   .simp_all
   .rw [if_neg h0,if_neg h0];simp only [not_true_eq_false,if_false]
    have key:=eO (T:=(List Int)×Int) (f:=eM k m c (L,0)) (List.range (mC m).toNat) (λ(s:List Int) j=>(s,j)) (λ(s:List Int) (j _:Nat)=>if(λ(x:Int)=>decide (0≤fG m (λy=>decide (y∈[x])) c) && L.any λb=>decide (x∈b)) j=true then s++[(j:Int)] else s) (λj s=>s.length≤j) (λs=>some s)
     (λn s j hj hs=>by
      rw [length_range] at hj;have hck:ck ((j:Int)+1)=some ((j:Int)+1):=bM (by omega) (by omega);have hok:bb (length s+length [(j:Int)]):=Vb (n:=50) (by omega) (by omega);refine⟨?_,Fo hs⟩;rw [eM,if_pos (by simp_all),Ef (by omega) (by omega) (λb hb=>(hL b hb).len ⟨by omega,c5⟩),bs];show Option.bind (Option.bind (if(L.any λb=>decide ((j:Int)∈b))=true then _ else _) _) _=_;cases ha:L.any λb=>decide ((j:Int)∈b) with
      |false=>simp only [Bool.false_eq_true,if_false,bs,ha,Bool.and_false,hck]
      |true=>
       rw [if_pos rfl,wn v (by omega) (by grind) (by simp_all),bs,yz v (by omega) hn.1 hn.2,bs,bs];by_cases h:0≤fG m (λy=>decide (y∈[(j:Int)])) c
       .rw [if_pos (decide_eq_true h),cK hok,bs,bs,hck,bs,if_pos (show(decide (0≤fG m (λy=>decide (y∈[(j:Int)])) c) && L.any λb=>decide ((j:Int)∈b))=true by simp_all)]
       grind)
     (λn s _=>by rw [length_range,eM,if_neg (by grind)]) (n:=k) (s0:=[]) (by grind) (Nat.le_refl 0)
    rw [show eM k m c (L,0) k ([],0)=_ from key.1,bs,List.range_eq_range',wR (p:=λ(x:Int)=>decide (0≤fG m (λy=>decide (y∈[x])) c) && L.any λb=>decide (x∈b)) _ 0 0 _ rfl,nil_append];simp_all [Br,vU,List.filter_filter,List.range_eq_range']
  simp_all
 .obtain⟨q,e⟩:=Uh (k:=k) (m:=m) (x:=c);simp_all [bs,wl,if_pos]
theorem NG{k:Nat}{m:ab}{c:Int}(hs:Sm m)(hk:1010≤k):lm k m c=some (Bn m c):=by
 unfold lm Bn;rw [Hr hs hk (by simp) (by simp) (by simp),bs];by_cases hc:lN m=0
 .have v:=Vd.of hc;have c1:=v.c1;have c5:=v.c5;have hop:PK m [c] [] []=decide (0≤c/\c < mC m):=PI;simp only [hc,hop,not_true_eq_false,if_false,decide_eq_true_eq];by_cases hn:0≤c/\c < mC m
  .simp only [hn,and_self,not_true_eq_false,if_false];have hl:=CN v (but:=lg);have hL:∀x∈sq m lg,Bg (mC m) x:=λx h=>F7 v h;generalize sq m lg=L at *;by_cases h0:L.length=0
   .simp_all [if_pos,nH]
   .rw [if_neg h0,if_neg h0];simp only [vD,not_true_eq_false,if_false];have hU:=zE (C:=(mC m).toNat) (L:=L);rw [show(((mC m).toNat:Nat):Int)=mC m by omega] at hU;rw [EG v (by omega) hL (by omega) rfl,bs,D6 (by omega) c5 hU,bs,EF v (by omega) hU.rng (hU.len ⟨by omega,c5⟩) hn.1 hn.2,bs];rfl
  simp_all [not_false_eq_true,if_true,nH,if_pos]
 simp_all [not_false_eq_true,if_true,nH]
theorem IX{m:ab}{c:Int}:(Bn m c).1.length≤5:=by
 unfold Bn;split
 .simp
 .rename_i hc;have v:=Vd.of (Decidable.not_not.1 hc);have c1:=v.c1;have c5:=v.c5;split
  .simp
  .split
   .simp
   .have hU:=zE (C:=(mC m).toNat) (L:=sq m lg);refine Nat.le_trans (List.length_filter_le _ _) (hU.len ⟨by omega,by omega⟩)
end Go.Proofs.YtemmlkadbaajcaaGreat
set_option linter.unusedVariables false
set_option linter.unusedSimpArgs false
namespace Go.Proofs.YtemmlkadbaajcaaGreat
open K Go Go.Proofs
def iE(A:Nat->Int->Int)(c:Int):Nat->Nat
 |0=>0
 |n+1=>if 0≤A n c then iE A c n else n+1
theorem qC{A:Nat->Int->Int}{c:Int}:∀{n:Nat},iE A c n≤n
 |0=>Nat.le_refl 0
 |n+1=>by
  rw [iE]
  split
  .
   exact Nat.le_succ_of_le qC
  omega
theorem qD{A:Nat->Int->Int}{c:Int}:∀{n:Nat},0≤A n c->iE A c n≠0->0≤A (iE A c n) c/\A (iE A c n - 1) c < 0
 |0,_,h=>absurd rfl h
 |n+1,h,h0=>by
  rw [iE] at h0⊢
  split
  .
   rename_i hn
   rw [if_pos hn] at h0
   exact qD hn h0
  simp_all
def nM(m:ab)(A:Nat->Int->Int)(c:Int)(d:Nat):Int:=match xE m d c with
 |some l=>vP m (A d) l
 |none=> -1
def ri(m:ab)(A:Nat->Int->Int):Nat->Int->Nat->List (Int×Nat)
 |0,_,_=>[]
 |f+1,c,n=>if iE A c n=0 then [] else(nM m A c (iE A c n - 1),iE A c n - 1)::ri m A f (nM m A c (iE A c n - 1)) (iE A c n - 1)
structure Sr(m:ab)(B:Int->Bool)(A:Nat->Int->Int):Prop where
 eq:∀(n:Nat) (c:Int),n≤(mD m).length->0≤c->c < mC m->A n c=gJ m B n c
theorem vM{m:ab}{B:Int->Bool}{A:Nat->Int->Int}(v:Vd m)(hA:Sr m B A){c:Int}{d:Nat}(h0:0≤c)(h1:c < mC m)(hd:d < (mD m).length)(ha:A d c < 0)(hb:0≤A (d+1) c):
 ∃l,xE m d c=some l/\0≤nM m A c d/\nM m A c d < mC m/\mW m≤A d (nM m A c d)/\nM m A c d∈l/\A (d+1) c=0:=by
 rw [hA.eq d c (by omega) h0 h1] at ha
 rw [hA.eq (d+1) c (by omega) h0 h1] at hb⊢
 rw [gJ] at hb⊢
 have w0:=v.w0
 cases e:xE m d c with
 |none=>
  grind
 |some l=>
  simp only [e] at hb⊢;have hx:=qm v e;rw [if_neg (by omega)] at hb⊢
  have hany:(l.any λx=>decide (mW m≤gJ m B d x))=true:=by
   grind
  have hany':(l.any λx=>decide (mW m≤A d x))=true:=by
   rw [List.any_eq_true] at hany⊢;obtain⟨x,hxl,hx2⟩:=hany;exact⟨x,hxl,by rw [hA.eq d x (by omega) (hx.2 x hxl).1 (hx.2 x hxl).2];exact hx2⟩
  refine⟨l,rfl,?_⟩;unfold nM;simp only [e];have hge:=(Fg (m:=m) (f:=A d) (λx h=>(hx.2 x h).1)).2 hany';unfold vP at hge⊢;cases hf:(nO l).find? λx=>decide (mW m≤A d x) with
  |none=>simp_all
  |some y=>
   have hy:=List.find?_some hf;have hyl:=pC.1 (List.mem_of_find?_eq_some hf);simp_all
theorem Au{m:ab}{B:Int->Bool}{A:Nat->Int->Int}(v:Vd m)(hA:Sr m B A):∀(f:Nat) (c:Int) (n:Nat),n < f->0≤c->c < mC m->n≤(mD m).length->0≤A n c->∀t∈ri m A f c n,0≤t.1/\t.1 < mC m/\t.2 < n
 |0,_,_,h,_,_,_,_=>absurd h (not_lt_zero _)
 |f+1,c,n,hf,h0,h1,hn,ha=>by
  intro t ht
  rw [ri] at ht
  split at ht
  .
   cases ht
  .
   rename_i hs
   have hle:=qC (A:=A) (c:=c) (n:=n)
   have hat:=qD ha hs
   obtain⟨d,hd⟩:∃d,iE A c n=d+1:=⟨iE A c n - 1,by omega⟩
   rw [hd,Nat.add_sub_cancel] at hat
   rw [hd,Nat.add_sub_cancel] at ht
   obtain⟨l,e,g0,g1,gw,_⟩:=vM v hA (d:=d) h0 h1 (by omega) hat.2 hat.1
   have w0:=v.w0
   rcases mem_cons.1 ht with rfl |ht
   .
    omega
   .
    have:=Au v hA f _ d (by omega) g0 g1 (by omega) (by omega) t ht
    omega
def IR(c:Int)(n:Nat):bC:=(c,(n:Int))
def QG(M:List (bC×bC))(t:bC):List bC->List (bC×bC)
 |[]=>pU M t (-1,0)
 |t'::l=>QG (pU M t t') t' l
theorem Hy{M:List (bC×bC)}{s t v:bC}(h:s≠t):(M.map λp=>if p.1=t then(t,v) else p).find? (λp=>decide (p.1=s))=M.find? λp=>decide (p.1=s):=by
 induction M with
 |nil=>rfl
 |cons p M ih=>
  grind
theorem FN{M:List (bC×bC)}{s t v d:bC}(h:s≠t):jL (pU M t v) s d=jL M s d:=by
 have:(pU M t v).find? (λp=>decide (p.1=s))=M.find? λp=>decide (p.1=s):=by
  unfold pU;by_cases hm:t∈M.map (·.1)
  .rw [if_pos hm,Hy h]
  grind
 simp_all [jL]
theorem zc{t v:bC}:∀{M:List (bC×bC)},t∈M.map (·.1)->(M.map λp=>if p.1=t then(t,v) else p).find? (λp=>decide (p.1=t))=some (t,v)
 |[],h=>by cases h
 |p::M,h=>by
  rw [map_cons,find?_cons]
  by_cases hp:p.1=t
  .
   simp_all
  .
   rw [if_neg hp]
   have e2:decide (p.1=t)=false:=by simp_all
   rw [e2]
   rw [map_cons,mem_cons] at h
   exact zc (h.resolve_left (Ne.symm hp))
theorem FO{M:List (bC×bC)}{t v d:bC}:jL (pU M t v) t d=v:=by
 have:(pU M t v).find? (λp=>decide (p.1=t))=some (t,v):=by
  unfold pU;by_cases hm:t∈M.map (·.1)
  .rw [if_pos hm,zc hm]
  grind
 simp_all [jL]
theorem Jk{s d:bC}:∀{l:List bC} {M:List (bC×bC)} {t:bC},s≠t->(∀x∈l,s≠x)->jL (QG M t l) s d=jL M s d
 |[],M,t,h,_=>FN h
 |t'::l,M,t,h,hl=>by
  rw [QG,Jk (hl t' (mem_cons_self ..)) (λx hx=>hl x (mem_cons_of_mem _ hx)),FN h]
theorem Jl{M:List (bC×bC)}{t d:bC}{l:List bC}(h:∀x∈l,t≠x):jL (QG M t l) t d=l.headD (-1,0):=by
 cases l with
 |nil=>exact FO
 |cons t' l=>
  simp_all [QG,Jk,mem_cons_self,mem_cons_of_mem,FO]
def FT(l:List (Int×Nat)):List bC:=l.map λt=>IR t.1 t.2
theorem zB{m:ab}(v:Vd m){c:Int}{n:Nat}(h0:0≤c)(h1:c < mC m)(hn:n≤(mD m).length):zC (c,(n:Int)):=by
 have:=v.c5;have:=v.d6;exact⟨⟨by omega,by omega⟩,by omega,by omega⟩
theorem xf{k:Nat}{m:ab}{B:Int->Bool}{F:Nat->Int->Int}(v:Vd m)(hA:Sr m B F){y6:Int×Int×(List (bC×bC))}(h0:0≤y6.1)(h1:y6.1 < mC m):∀(n f:Nat),n < f->n≤(mD m).length->dw k (cr F) y6 f (n:Int)=some (iE F y6.1 n:Int)
 |n,0,h,_=>absurd h (not_lt_zero _)
 |0,f+1,_,_=>by
  rw [dw,if_neg (by decide),bs,if_neg (by decide)];rfl
 |n+1,f+1,h,hn=>by
  have d6:=v.d6
  have c5:=v.c5
  have hck:ck (((n+1:Nat):Int) - 1)=some (n:Int):=by grind [bM]
  rw [dw,if_pos (by omega),hck,bs,wX (by omega),bs,sW h0 (by omega),bs,bs,iE]
  by_cases ha:0≤F n y6.1
  .
   rw [if_pos (decide_eq_true ha),bs,if_pos ha]
   exact xf v hA h0 h1 n f (by omega) (by omega)
  grind
theorem xg{k:Nat}{m:ab}{B:Int->Bool}{F:Nat->Int->Int}(v:Vd m)(hk:50≤k)(hA:Sr m B F):∀(f f':Nat) (c:Int) (n:Nat) (M:List (bC×bC)),n < f->f≤f'->n≤(mD m).length->0≤c->c < mC m->0≤F n c->
 dy k m (cr F) f' (c,(n:Int),M)=some (QG M (IR c n) (FT (ri m F f c n)))
 |0,_,_,_,_,h,_,_,_,_,_=>absurd h (not_lt_zero _)
 |f+1,0,_,_,_,_,h,_,_,_,_=>by omega
 |f+1,f'+1,c,n,M,hf,hf',hn,h0,h1,ha=>by
  have d6:=v.d6
  have c5:=v.c5
  have hle:=qC (A:=F) (c:=c) (n:=n)
  rw [dy,show dw k (cr F) (c,(n:Int),M) k (c,(n:Int),M).2.1=some (iE F c n:Int) from xf v hA h0 h1 n k (by omega) hn,bs,cK (zB v h0 h1 hn),bs,ri]
  by_cases hs:iE F c n=0
  .
   rw [if_pos (by omega),if_pos hs,lA];rfl
  .
   have hat:=qD ha hs
   obtain⟨d,hd⟩:∃d,iE F c n=d+1:=⟨iE F c n - 1,by omega⟩
   rw [hd,Nat.add_sub_cancel] at hat
   obtain⟨l,e,g0,g1,gw,_⟩:=vM v hA (d:=d) h0 h1 (by omega) hat.2 hat.1
   have w0:=v.w0
   have hck:ck (((d+1:Nat):Int) - 1)=some (d:Int):=by grind [bM]
   have ht:dr k m (l9 (F d)) c (d:Int)=some (nM m F c d):=by
    grind [vK,nM]
   rw [if_neg (by omega),if_neg hs,hd,hck,bs,wX (by omega),bs,bs,ht,bs,bs,bs,jX,Nat.add_sub_cancel];rw [show dy k m (cr F) f' _=_ from xg v hk hA f f' (nM m F c d) d (pU M (c,(n:Int)) (nM m F c d,(d:Int))) (by omega) (by omega) (by omega) g0 g1 (by omega)];rfl
theorem yZ{k:Nat}{m:ab}(v:Vd m):∀(l:List (Int×Nat)) (c:Int) (n f:Nat) (M R:List (bC×bC)) (out:List Int),l.length < f->out.length+l.length≤100->0≤c->c < mC m->n≤(mD m).length->(∀t∈l,0≤t.1/\t.1 < mC m/\t.2 < n)->(l.map (·.2)).Pairwise (· > ·)->
 (∀s d,s=IR c n\/s∈FT l->jL R s d=jL (QG M (IR c n) (FT l)) s d)->f7 k R f (c,(n:Int),out)=some (out++l.map (·.1))
 |l,c,n,0,_,_,_,h,_,_,_,_,_,_,_=>absurd h (not_lt_zero _)
 |[],c,n,f+1,M,R,out,hf,ho,h0,h1,hn,ht,hp,hR=>by
  have e:jL R (c,(n:Int)) (0,0)=(-1,0):=by
   rw [hR (c,(n:Int)) (0,0) (.inl rfl)];exact Jl (by intro x hx;cases hx)
  have hg:=cK (zB v h0 h1 hn);simp_all [f7,bs,not_true_eq_false,if_false,map_nil,append_nil]
 |t::l,c,n,f+1,M,R,out,hf,ho,h0,h1,hn,ht,hp,hR=>by
  have ht0:=ht t (mem_cons_self ..)
  have hne:∀x∈FT (t::l),IR c n≠x:=λx hx=>by
   obtain⟨y,hy,rfl⟩:=List.mem_map.1 hx;have:=(ht y hy).2.2;intro h;have:(n:Int)=(y.2:Int):=congrArg Prod.snd h;omega
  have e:jL R (c,(n:Int)) (0,0)=IR t.1 t.2:=by
   rw [hR (c,(n:Int)) (0,0) (.inl rfl)];exact Jl hne
  have hok:bb (length out+length [(IR t.1 t.2).1]):=Vb (n:=100) (by omega) (by omega);have hg:=cK (zB v h0 h1 hn);have hn':¬(IR t.1 t.2=(-1,0)):=λh=>by have:t.1= -1:=congrArg Prod.fst h;omega
  simp only [f7,hg,bs,e,hn',not_false_eq_true,if_true,cK hok];rw [map_cons,pairwise_cons] at hp
  have:=yZ (k:=k) v l t.1 t.2 f (pU M (IR c n) (IR t.1 t.2)) R (out++[t.1]) (by simp_all) (by grind) ht0.1 ht0.2.1 (by omega)
   (λy hy=>⟨(ht y (mem_cons_of_mem _ hy)).1,(ht y (mem_cons_of_mem _ hy)).2.1,hp.1 _ (List.mem_map_of_mem hy)⟩) hp.2 (λs d hs=>hR s d (.inr (by
    rcases hs with rfl |hs
    .exact mem_cons_self ..
    .exact mem_cons_of_mem _ hs)))
  simp_all [f7,IR]
theorem As{m:ab}{B:Int->Bool}{A:Nat->Int->Int}(v:Vd m)(hA:Sr m B A):∀(f:Nat) (c:Int) (n:Nat),n < f->0≤c->c < mC m->n≤(mD m).length->0≤A n c->((ri m A f c n).map (·.2)).Pairwise (· > ·)/\(ri m A f c n).length≤n
 |0,_,_,h,_,_,_,_=>absurd h (not_lt_zero _)
 |f+1,c,n,hf,h0,h1,hn,ha=>by
  rw [ri]
  split
  .
   simp_all
  .
   rename_i hs
   have hle:=qC (A:=A) (c:=c) (n:=n)
   have hat:=qD ha hs
   obtain⟨d,hd⟩:∃d,iE A c n=d+1:=⟨iE A c n - 1,by omega⟩
   rw [hd,Nat.add_sub_cancel] at hat⊢
   obtain⟨l,e,g0,g1,gw,_⟩:=vM v hA (d:=d) h0 h1 (by omega) hat.2 hat.1
   have w0:=v.w0
   have ih:=As v hA f (nM m A c d) d (by omega) g0 g1 (by omega) (by omega)
   refine⟨?_,by grind⟩
   rw [map_cons,pairwise_cons]
   refine⟨λx hx=>?_,ih.1⟩
   obtain⟨y,hy,rfl⟩:=List.mem_map.1 hx
   exact(Au v hA f _ d (by omega) g0 g1 (by omega) (by omega) y hy).2.2
theorem I9{k:Nat}:∀(d:Nat) (a l b:List Int) (f:Nat),l.length≤d->d < f->a.length=b.length->a.length+l.length+b.length≤100->c7 k f (a++l++b,(a.length:Int),(a.length:Int)+l.length - 1)=some (a++l.reverse++b)
 |_,_,_,_,0,_,h,_,_=>absurd h (not_lt_zero _)
 |d,a,[],b,f+1,_,_,_,_=>by
  rw [c7,if_neg (by grind)];rfl
 |d,a,[x],b,f+1,_,_,_,_=>by
  simp_all [c7,if_neg]
 |0,a,x::y::l,b,f+1,h,_,_,_=>by simp at h
 |d+1,a,x::y::l,b,f+1,h,hf,hab,hc=>by
  obtain⟨l',z,e⟩:∃l' z,y::l=l'++[z]:=⟨(y::l).dropLast,(y::l).getLast (by simp),(List.dropLast_concat_getLast (by simp)).symm⟩
  rw [e] at h hc⊢
  simp only [length_cons,length_append,length_nil] at h hc
  have hi:(a.length:Int)+((x::(l'++[z])).length:Nat) - 1=((a.length+1+l'.length:Nat):Int):=by grind
  have hl:a++x::(l'++[z])++b=a++(x::(l'++([z]++b))):=by simp
  rw [hi,hl]
  have e1:aH (a++(x::(l'++([z]++b)))) (a.length:Int)=some x:=Ad (by omega) (by simp_all)
  have e2:aH (a++(x::(l'++([z]++b)))) ((a.length+1+l'.length:Nat):Int)=some z:=Ad (by omega) (by
   rw [Int.toNat_natCast,List.getElem?_append_right (by omega),show a.length+1+l'.length - a.length=l'.length+1 by omega,getElem?_cons_succ,List.getElem?_append_right (Nat.le_refl _),Nat.sub_self];rfl)
  have s1:List.set (a++(x::(l'++([z]++b)))) a.length z=a++(z::(l'++([z]++b))):=by simp_all
  have e3:aH (a++(z::(l'++([z]++b)))) ((a.length+1+l'.length:Nat):Int)=some z:=Ad (by omega) (by
   rw [Int.toNat_natCast,List.getElem?_append_right (by omega),show a.length+1+l'.length - a.length=l'.length+1 by omega,getElem?_cons_succ,List.getElem?_append_right (Nat.le_refl _),Nat.sub_self];rfl)
  have s2:List.set (a++(z::(l'++([z]++b)))) (a.length+1+l'.length) x=a++(z::(l'++([x]++b))):=by
   grind
  have c1:ck ((a.length:Int)+1)=some ((a.length:Int)+1):=bM (by omega) (by omega);have c2:ck (((a.length+1+l'.length:Nat):Int) - 1)=some (((a.length+1+l'.length:Nat):Int) - 1):=bM (by omega) (by omega);rw [c7,if_pos (by grind)];simp only [e1,e2,bs,Int.toNat_natCast,s1,e3,c1,c2,s2];have:=I9 (k:=k) d (a++[z]) l' (x::b) f (by omega) (by omega) (by simp;omega) (by grind);simp_all
theorem D9{k:Nat}{l:List Int}(hk:200≤k)(hl:l.length≤90):ij k l=some l.reverse:=by
 unfold ij;have hck:ck ((l.length:Int) - 1)=some ((l.length:Int) - 1):=bM (by omega) (by omega);have:=I9 (k:=k) l.length [] l [] k (Nat.le_refl _) (by omega) rfl (by simp;omega);simp_all
def ql(m:ab)(b:List Int)(c:Int):List Int×Int:=if¬(lN m=0) then([],lN m) else if¬(sF (mC m) b=0) then([],sF (mC m) b) else if¬(0≤c/\c < mC m) then([],3) else
 if fG m (λy=>decide (y∈b)) c < 0 then([],11) else((c::(ri m (gJ m λy=>decide (y∈b)) 10 c (fG m (λy=>decide (y∈b)) c).toNat).map (·.1)).reverse,0)
theorem vQ{A A':Nat->Int->Int}{c:Int}:∀{n:Nat},(∀i,i < n->A i c=A' i c)->iE A c n=iE A' c n
 |0,_=>rfl
 |n+1,h=>by rw [iE,iE,h n (lt_succ_self n),vQ λi hi=>h i (lt_succ_of_lt hi)]
theorem DZ{m:ab}(v:Vd m){A A':Nat->Int->Int}{c:Int}{d:Nat}(h:∀x,0≤x->x < mC m->A d x=A' d x):nM m A c d=nM m A' c d:=by
 unfold nM;split
 .rename_i l e;have hb:=qm v e;unfold vP;congr 1
  have:∀s:List Int,(∀x∈s,x∈l)->s.find? (λx=>decide (mW m≤A d x))=s.find? λx=>decide (mW m≤A' d x):=by
   intro s hs
   induction s with
   |nil=>rfl
   |cons x s ih=>
    grind
  simp_all [pC]
 .rfl
theorem xd{m:ab}{B:Int->Bool}{A:Nat->Int->Int}(v:Vd m)(hA:Sr m B A):∀(f:Nat) (c:Int) (n:Nat),n < f->0≤c->c < mC m->n≤(mD m).length->0≤A n c->ri m A f c n=ri m (gJ m B) f c n
 |0,_,_,h,_,_,_,_=>absurd h (not_lt_zero _)
 |f+1,c,n,hf,h0,h1,hn,ha=>by
  have e1:iE A c n=iE (gJ m B) c n:=vQ λi hi=>hA.eq i c (by omega) h0 h1
  rw [ri,ri,<-e1]
  split
  .
   rfl
  .
   rename_i hs
   have hle:=qC (A:=A) (c:=c) (n:=n)
   have hat:=qD ha hs
   obtain⟨d,hd⟩:∃d,iE A c n=d+1:=⟨iE A c n - 1,by omega⟩
   rw [hd,Nat.add_sub_cancel] at hat⊢
   obtain⟨l,e,g0,g1,gw,_⟩:=vM v hA (d:=d) h0 h1 (by omega) hat.2 hat.1
   have w0:=v.w0
   have e2:nM m A c d=nM m (gJ m B) c d:=DZ v λx g0 g1=>hA.eq d x (by omega) g0 g1
   rw [<-e2,xd v hA f _ d (by omega) g0 g1 (by omega) (by omega)]
theorem tR{m:ab}{B:Int->Bool}{c:Int}(h:¬fG m B c < 0):∃n:Nat,fG m B c=n/\n≤(mD m).length/\0≤gJ m B n c:=by
 have hle:=G8 (m:=m) (B:=B) (c:=c);unfold fG at h⊢;cases e:(List.range ((mD m).length+1)).findIdx? λn=>decide (0≤gJ m B n c) with
 |none=>simp_all
 |some i=>
  obtain⟨h1,h2,_⟩:=List.findIdx?_eq_some_iff_getElem.1 e;grind
theorem Ht{k:Nat}{m:ab}{b:List Int}{c:Int}(hs:Sm m)(hk:1010≤k)(hb:b.length≤1000):mh k m b c=some (ql m b c):=by
 unfold mh ql;rw [BX hs hk hb (by simp) (by simp) (by simp),bs];by_cases hc:lN m=0
 .have v:=Vd.of hc;have c1:=v.c1;have c5:=v.c5;have d6:=v.d6;by_cases hg:sF (mC m) b=0
  .have hB:=uK.1 hg;simp only [hc,hg,not_true_eq_false,if_false,show PK m [c] [] []=decide (0≤c/\c < mC m) from PI,decide_eq_true_eq];by_cases hn:0≤c/\c < mC m
   .simp only [hn,and_self,if_true,vD,not_true_eq_false,if_false];rw [yO v (by omega) hB hn.1 hn.2,bs];by_cases hx:fG m (λy=>decide (y∈b)) c < 0
    .simp_all
    .rw [if_neg hx,if_neg hx];obtain⟨n,en,hnl,ha⟩:=tR hx;rw [en];obtain⟨F,eF,hF⟩:=Gg (k:=k) v (by omega) hB;have hA:Sr m (λy=>decide (y∈b)) F:=⟨hF⟩;have ha':0≤F n c:=by simp_all
     have hbk:=xg (k:=k) v (by omega) hA 10 k c n [] (by omega) (by omega) hnl hn.1 hn.2 ha';unfold km;rw [eF,bs,show dy k m (cr F) k ((c,(n:Int)).1,(c,(n:Int)).2,[])=_ from hbk,bs,Int.toNat_natCast];have hck:=Au v hA 10 c n (by omega) hn.1 hn.2 hnl ha';have hpw:=As v hA 10 c n (by omega) hn.1 hn.2 hnl ha'
     rw [yZ v (ri m F 10 c n) c n k [] _ [c] (by omega) (by grind) hn.1 hn.2 hnl hck hpw.1 (λs d _=>rfl),bs,
      D9 (by omega) (by grind),bs,xd v hA 10 c n (by omega) hn.1 hn.2 hnl ha']
     rfl
   .simp only [hn,not_false_eq_true,if_true,if_false,nH];simp_all
  simp_all [not_true_eq_false,not_false_eq_true,if_true,if_false,nH]
 simp_all [not_false_eq_true,if_true,nH]
theorem yD{k:Nat}{m:ab}{B:Int->Bool}(v:Vd m){y:Int×Int×(List Int)}(h0:0≤y.1)(h1:y.1 < mC m):∀(n f:Nat),n < f->n≤(mD m).length->fR k (kx m B) y f (n:Int)=some (iE (gJ m B) y.1 n:Int)
 |n,0,h,_=>absurd h (not_lt_zero _)
 |0,f+1,_,_=>by
  rw [fR,if_neg (by decide),bs,if_neg (by decide)];rfl
 |n+1,f+1,h,hn=>by
  have d6:=v.d6
  have hck:ck (((n+1:Nat):Int) - 1)=some (n:Int):=by grind [bM]
  rw [fR,if_pos (by omega),hck,bs,qR (by omega),bs,mE h0 h1,bs,bs,iE]
  by_cases ha:0≤gJ m B n y.1
  .
   rw [if_pos (decide_eq_true ha),bs,if_pos ha]
   exact yD v h0 h1 n f (by omega) (by omega)
  grind
def DF(m:ab)(f:Int->Int)(s x:Int):Int:=if mW m≤f x/\(s < 0\/x < s) then x else s
theorem Hg{k:Nat}{m:ab}{B:Int->Bool}{d:Nat}{r:(List Int)×Bool}(v:Vd m)(hk:50≤k)(hd:d≤(mD m).length)(hr:r.1.length≤2)(hx:∀x∈r.1,0≤x/\x < mC m):
 eY k m (kx m B) ((d+1:Nat):Int) r k (-1,0)=some (r.1.foldl (DF m (gJ m B d)) (-1)):=by
 have d6:=v.d6
 have hck0:ck (((d+1:Nat):Int) - 1)=some (d:Int):=by grind [bM]
 have key:=eO (T:=Int×Int) (f:=eY k m (kx m B) ((d+1:Nat):Int) r) r.1 (λ(s:Int) j=>(s,j)) (λs _ x=>DF m (gJ m B d) s x) (λ_ _=>True) (λs=>some s)
  (λn s j hj _=>by
   have hck:ck ((j:Int)+1)=some ((j:Int)+1):=bM (by omega) (by omega);have hxx:=hx _ (List.getElem_mem hj);refine⟨?_,trivial⟩;rw [eY,if_pos (by omega),hck0,bs,qR (by omega),bs,ce hj,bs,mE hxx.1 hxx.2,bs];show Option.bind (Option.bind (if mW m≤gJ m B d r.1[j] then if s < 0 then some true else some (decide (r.1[j] < s)) else some false) λx29=>if x29=true then some r.1[j] else some s) _=_;unfold DF;by_cases h1:mW m≤gJ m B d r.1[j]
   .by_cases h2:s < 0
    .simp_all
    .by_cases h3:r.1[j] < s
     .simp_all
     simp_all [if_pos,if_neg,bs]
   .rw [if_neg h1,bs,if_neg (by simp),bs,hck,bs,if_neg (λh=>h1 h.1)])
  (λn s _=>by rw [eY,if_neg (Int.lt_irrefl _)]) (n:=k) (s0:= -1) (by omega) trivial
 rw [show eY k m (kx m B) ((d+1:Nat):Int) r k (-1,0)=_ from key.1]
 congr 1
 have:∀(l:List Int) (j:Nat) (s:Int),io (λs _ x=>DF m (gJ m B d) s x) j l s=l.foldl (DF m (gJ m B d)) s:=by
  intro l
  induction l with
  |nil=>intro j s;rfl
  |cons x l ih=>intro j s;exact ih (j+1) _
 simp_all
theorem RD{m:ab}{f:Int->Int}{l:List Int}(hl:l.length≤2)(hx:∀x∈l,0≤x):l.foldl (DF m f) (-1)=vP m f l:=by
 unfold vP;match l,hl with
 |[],_=>rfl
 |[x],_=>
  show DF m f (-1) x=_;unfold DF nO;grind
 |[x,y],_=>
  have h0:=hx x (by simp);have h1:=hx y (by simp);have es:nO [x,y]=if y < x then [y,x] else [x,y]:=rfl;rw [es];show DF m f (DF m f (-1) x) y=_;by_cases a:mW m≤f x
  .have e:DF m f (-1) x=x:=by unfold DF;omega
   rw [e];unfold DF;grind
  .have e:DF m f (-1) x= -1:=by unfold DF;omega
   rw [e];unfold DF;grind
theorem yE{k:Nat}{m:ab}{B:Int->Bool}(v:Vd m)(hk:50≤k):∀(f f':Nat) (c:Int) (n:Nat) (out:List Int),n < f->f≤f'->n≤(mD m).length->0≤c->c < mC m->0≤gJ m B n c->out.length+n≤100->
 ia k m (kx m B) f' (c,(n:Int),out)=some (((ri m (gJ m B) f c n).map (·.1)).reverse++out,0)
 |0,_,_,_,_,h,_,_,_,_,_,_=>absurd h (not_lt_zero _)
 |f+1,0,_,_,_,_,h,_,_,_,_,_=>by omega
 |f+1,f'+1,c,n,out,hf,hf',hn,h0,h1,ha,ho=>by
  have d6:=v.d6
  have c5:=v.c5
  have hle:=qC (A:=gJ m B) (c:=c) (n:=n)
  rw [ia,show fR k (kx m B) (c,(n:Int),out) k (c,(n:Int),out).2.1=some (iE (gJ m B) c n:Int) from yD v h0 h1 n k (by omega) hn,bs,ri]
  by_cases hs:iE (gJ m B) c n=0
  .
   simp_all [if_pos,lA]
  .
   have hat:=qD ha hs
   obtain⟨d,hd⟩:∃d,iE (gJ m B) c n=d+1:=⟨iE (gJ m B) c n - 1,by omega⟩
   rw [hd,Nat.add_sub_cancel] at hat
   obtain⟨l,e,g0,g1,gw,_⟩:=vM v (A:=gJ m B) ⟨λ_ _ _ _ _=>rfl⟩ (d:=d) h0 h1 (by omega) hat.2 hat.1
   have w0:=v.w0
   have hb:=qm v e
   have hck:ck (((d+1:Nat):Int) - 1)=some (d:Int):=by grind [bM]
   have hbe:=vq (k:=k) v (by omega) (show d < (mD m).length by omega) (c:=c)
   rw [e] at hbe
   have h3:=Hg (k:=k) (B:=B) (d:=d) (r:=(l,true)) v (by omega) (by omega) hb.1 hb.2
   rw [show((l,true):List Int×Bool).1=l from rfl,RD hb.1 λx hx=>(hb.2 x hx).1] at h3
   have et:nM m (gJ m B) c d=vP m (gJ m B d) l:=by simp_all [nM]
   have hok:bb (length [vP m (gJ m B d) l]+length out):=W4 (by grind)
   rw [if_neg (by omega),if_neg hs,hd,hck,bs,hbe,bs,h3,bs,bs,cK hok,bs,jX,Nat.add_sub_cancel,<-et]
   rw [show ia k m (kx m B) f' _=_ from yE v hk f f' (nM m (gJ m B) c d) d ([nM m (gJ m B) c d]++out) (by omega) (by omega) (by omega) g0 g1 (by omega) (by grind)]
   simp
theorem Hh{k:Nat}{m:ab}{b:List Int}{c:Int}(hs:Sm m)(hk:1010≤k)(hb:b.length≤1000):og k m b c=some (ql m b c):=by
 unfold og ql;rw [Ft hs (by omega),bs];by_cases hc:lN m=0
 .have v:=Vd.of hc;have c1:=v.c1;have c5:=v.c5;have d6:=v.d6;rw [if_neg (λh=>h hc),if_neg (λh=>h hc),MU ⟨c1,c5⟩ (by omega) hb,bs];by_cases hg:sF (mC m) b=0
  .have hB:=uK.1 hg;rw [if_neg (λh=>h hg),if_neg (λh=>h hg),wO ⟨c1,c5⟩,bs];by_cases hn:0≤c/\c < mC m
   .rw [if_neg (λh=>h (decide_eq_true hn)),if_neg (λh=>h hn),wn v (by omega) (by omega) hb,bs,yz v (by omega) hn.1 hn.2,bs];by_cases hx:fG m (λy=>decide (y∈b)) c < 0
    .simp_all
    .rw [if_neg hx,if_neg hx];grind [tR,Int.toNat_natCast,yE,length_cons,length_nil]
   simp_all
  simp_all
 simp_all
theorem EU{m:ab}{b:List Int}{c:Int}:(ql m b c).1.length≤20:=by
 unfold ql;split
 .simp
 .rename_i hc;have v:=Vd.of (Decidable.not_not.1 hc);have d6:=v.d6;split
  .simp
  .split
   .simp
   .rename_i hn;have hn:=Decidable.not_not.1 hn;split
    .simp
    .rename_i hx;obtain⟨n,en,hnl,ha⟩:=tR hx;have:=(As v (A:=gJ m λy=>decide (y∈b)) (B:=λy=>decide (y∈b)) ⟨λ_ _ _ _ _=>rfl⟩ 10 c n (by omega) hn.1 hn.2 hnl ha).2;grind
end Go.Proofs.YtemmlkadbaajcaaGreat
set_option linter.unusedVariables false
set_option linter.unusedSimpArgs false
namespace Go.Proofs.YtemmlkadbaajcaaGreat
open K Go Go.Proofs
theorem CC:qd 1200=some true:=by decide+kernel
theorem W.get{α:Type}{x:Option α}{a:α}(h:W x λy=>y=a):x=some a:=by
 obtain⟨b,e,rfl⟩:=h;exact e
end Go.Proofs.YtemmlkadbaajcaaGreat
set_option linter.unusedVariables false
set_option linter.unusedSimpArgs false
namespace Go.Proofs.YtemmlkadbaajcaaGreat
open K Go Go.Proofs
theorem PQ{α:Type}{a b c:α}{j:Nat}(h:j < 3):∃x∈[a,b,c],aH [a,b,c] (j:Int)=some x:=by
 have:j=0\/j=1\/j=2:=by omega
 rcases this with rfl |rfl |rfl
 .exact⟨a,by simp,rfl⟩
 .exact⟨b,by simp,rfl⟩
 .exact⟨c,by simp,rfl⟩
end Go.Proofs.YtemmlkadbaajcaaGreat
set_option linter.unusedVariables false
set_option linter.unusedSimpArgs false
namespace Go.Proofs.YtemmlkadbaajcaaGreat
open K Go Go.Proofs
theorem I2{r:List ab}{f:Nat->Int->Option (Except Bool Unit)}{a x y:ab}(h9:r=[a,x,y])(hs:Sm a)(vx:Vd x)(sy:Sm y)
 (step:∀(n j:Nat) (z:ab),j < 3->(j:Int) < (r.length:Int)->aH r (j:Int)=some z->Sm z->f (n+1) (j:Int)=f n ((j:Int)+1)) (stop:∀n:Nat,f (n+1) ((r.length:Nat):Int)=some (.ok ())):f 1200 0=some (.ok ()):=by
 subst h9
 have h0:=step 1199 0 a (by omega) (by simp_all) rfl hs
 have h1:=step 1198 1 x (by omega) (by simp_all) rfl vx.sm
 have h2:=step 1197 2 y (by omega) (by simp_all) rfl sy
 simp_all
