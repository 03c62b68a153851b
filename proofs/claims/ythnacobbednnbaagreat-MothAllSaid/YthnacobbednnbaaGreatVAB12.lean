import Derived.Test.YthnacobbednnbaaGreatVAB11
open Nat
open List hiding mem_of_getElem?
open Array hiding mem_of_getElem? mk
set_option linter.unusedVariables false
set_option linter.unusedSimpArgs false
namespace Go.Proofs.YthnacobbednnbaaGreat
open K Go Go.Proofs
def eC:Nat->Bool:=λ_=>false
theorem Qp:(λi=>decide (dR 0 i))=eC:=by
 funext i;simp [eC,dR]
theorem RP:(λi:Nat=>decide ((i:Int)∈([]:List Int)))=eC:=by
 funext i;simp [eC]
theorem tI{m:ae}(v:Vd m){but:Nat->Bool}{b:List Int}(h:b∈mJ m but):Bg (mC m) b:=ye v (List.mem_filter.1 h).1
theorem qX{m:ae}(v:Vd m){but:Nat->Bool}:(mJ m but).length≤32:=Nat.le_trans (List.length_filter_le _ _) (uT v)
theorem HM{k:Nat}{C:Int}(hC:C≤5)(hk:50≤k){L:List (List Int)}(hL:∀b∈L,Bg C b)(hl:L.length≤40):dJ k (L.map bT) k ([],0)=some L:=by
 have key:=iW (T:=List (List Int)×Int) (f:=dJ k (L.map bT)) L (λ(s:List (List Int)) j=>(s,j)) (λs _ b=>s++[b]) (λj s=>s=L.take j) (λs=>some s)
  (λn s j hj hs=>by
   have hck:ck ((j:Int)+1)=some ((j:Int)+1):=dj (by omega) (by omega);have hls:s.length=j:=by rw [hs,length_take];omega
   have hg:aM (L.map bT) (j:Int)=some (bT L[j]):=by rw [aM,if_pos (by omega),Int.toNat_natCast,List.getElem?_map,List.getElem?_eq_getElem hj];rfl
   have hj':(j:Int) < ((L.map bT).length:Int):=by rw [length_map];omega
   have hok:cJ (bP (length s+length [L[j]]))=some ():=dA (by simp [bP];omega);refine⟨?_,?_⟩
   .simp only [dJ,hj',if_true,hg,bs,mT (k:=k) (by omega) hC (hL _ (List.getElem_mem hj)),hok,hck]
   .rw [hs,take_add_one,List.getElem?_eq_getElem hj];rfl)
  (λn s hs=>by
   unfold dJ;rw [if_neg (by rw [length_map];exact Int.lt_irrefl _)]) (n:=k) (s0:=[]) (by omega) (by simp)
 rw [show dJ k (L.map bT) k ([],0)=_ from key.1,key.2,take_length]
theorem Bv{k:Nat}{m:ae}(hs:Sm m)(hk:1010≤k):jj k m=some (if¬(jR m=0) then([],jR m) else(mJ m eC,0)):=by
 unfold jj;rw [ut hs hk (by simp) (by simp) (by simp) (by simp),bs];by_cases hc:jR m=0
 .have v:=Vd.of hc;have hb:sN (mC m) []=0:=pe.2 ⟨by simp,by simp⟩;have ho:NW m [] [] []=true:=rfl;simp only [hc,hb,ho,not_true_eq_false,if_false,if_true,rj];rw [uv v (by omega) ux,bs,Qp,HM v.c5 (by omega) (λb h=>tI v h) (by have:=qX v (but:=eC);omega),bs]
 .simp only [hc,not_false_eq_true,if_true,nk]
end Go.Proofs.YthnacobbednnbaaGreat
set_option linter.unusedVariables false
set_option linter.unusedSimpArgs false
namespace Go.Proofs.YthnacobbednnbaaGreat
open K Go Go.Proofs
theorem EA{k:Nat}{m:ae}{cs ds ns:List Int}(hs:Sm m)(hk:1010≤k)(h1:cs.length≤1000)(h2:ds.length≤1000)(h3:ns.length≤1000):
 iD k m cs ds ns=some (if¬(jR m=0) then(none,[],jR m) else if¬(NW m cs ds ns=true) then(none,[],3) else if(mJ m eC).length=0 then(none,[],9) else(some m,(mJ m eC).map bT,0)):=by
 unfold iD
 rw [ut hs hk (by simp) h1 h2 h3,bs]
 by_cases hc:jR m=0
 .
  have v:=Vd.of hc;have hb:sN (mC m) []=0:=pe.2 ⟨by simp,by simp⟩;by_cases ho:NW m cs ds ns=true
  .simp only [hc,hb,ho,not_true_eq_false,if_false,if_true,rj];rw [uv v (by omega) ux,bs,Qp];by_cases hl:(mJ m eC).length=0
   .rw [if_pos (by rw [length_map];omega),if_pos hl]
   .rw [if_neg (by rw [length_map];omega),if_neg hl]
  .simp only [hc,hb,ho,not_true_eq_false,not_false_eq_true,if_false,if_true,nk,Bool.false_eq_true];rw [if_pos (by decide)]
 .
  simp only [hc,not_false_eq_true,if_true,nk]
def nI(b:List Int)(L:List (List Int)):List Int:=L.foldl (λs x=>if x.length < s.length then x else s) b
theorem zG{b:List Int}:∀{L:List (List Int)},nI b L=b\/nI b L∈L:=by
 intro L
 induction L generalizing b with
 |nil=>exact .inl rfl
 |cons x L ih=>
  show nI (if x.length < b.length then x else b) L=b\/_;split
  .rcases ih (b:=x) with h |h
   .right;show nI (if x.length < b.length then x else b) L∈_;rw [if_pos ‹_›,h];exact mem_cons_self
   .right;show nI (if x.length < b.length then x else b) L∈_;rw [if_pos ‹_›];exact mem_cons_of_mem _ h
  .rcases ih (b:=b) with h |h
   .exact .inl h
   .right;show nI (if x.length < b.length then x else b) L∈_;rw [if_neg ‹_›];exact mem_cons_of_mem _ h
theorem sC:∀(L:List (List Int)) (j:Nat) (s:List Int),uJ (λs _ x=>if x.length < s.length then x else s) j L s=nI s L
 |[],_,_=>rfl
 |x::L,j,s=>by rw [uJ,sC L (j+1)];rfl
theorem BK{k:Nat}{C:Int}{a b:List Int}(hk:10≤k)(hC:0≤C/\C≤5)(ha:Bg C a)(hb:Bg C b):hP k (bT a) (bT b)=some ((a.length:Int) - b.length):=by
 have la:=ha.len hC;have lb:=hb.len hC;unfold hP iR;rw [mT hk hC.2 ha,bs,bs,mT hk hC.2 hb,bs,bs,dj (by omega) (by omega),bs]
theorem BJ{k:Nat}{C:Int}(hk:50≤k)(hC:0≤C/\C≤5){b:List Int}{L:List (List Int)}(hb:Bg C b)(hL:∀x∈L,Bg C x)(hl:L.length≤40):jL k ((b::L).map bT)=some (bT (nI b L)):=by
 unfold jL gG;rw [if_neg (by simp;omega)];have g0:aM ((b::L).map bT) (0:Int)=some (bT b):=rfl;rw [g0,bs]
 have key:=iW (T:=Int×Int) (f:=cH k ((b::L).map bT)) L (λ(s:List Int) j=>(bT s,j+1)) (λs _ x=>if x.length < s.length then x else s) (λ_ s=>Bg C s) (λs=>some (bT s))
  (λn s j hj hs=>by
   have hck:ck ((j:Int)+1+1)=some ((j:Int)+1+1):=dj (by omega) (by omega);have hx:=hL _ (List.getElem_mem hj)
   have hg:aM ((b::L).map bT) ((j:Int)+1)=some (bT L[j]):=by
    have:((j:Int)+1)=((j+1:Nat):Int):=by omega
    rw [this,aM,if_pos (by omega),Int.toNat_natCast,List.getElem?_map,getElem?_cons_succ,List.getElem?_eq_getElem hj];rfl
   have hlt:(j:Int)+1 < (((b::L).map bT).length:Int):=by rw [length_map,length_cons];omega
   refine⟨?_,?_⟩
   .simp only [cH,hlt,if_true,hg,bs,BK (k:=k) (by omega) hC hx hs];by_cases h:L[j].length < s.length
    .rw [if_pos (by omega),bs,hck,bs,if_pos h]
    .rw [if_neg (by omega),bs,hck,bs,if_neg h]
   .split
    .exact hx
    .exact hs)
  (λn s hs=>by
   unfold cH;rw [if_neg (by rw [length_map,length_cons];show¬((L.length:Int)+1 < ((L.length+1:Nat):Int));omega)]) (n:=k) (s0:=b) (by omega) hb
 rw [show cH k ((b::L).map bT) k (bT b,1)=_ from key.1,bs,bs,sC]
def oY(m:ae):List Int×Int:=if¬(jR m=0) then([],jR m) else match mJ m eC with
 |[]=>([],9)
 |b::L=>(nI b L,0)
theorem Bt{k:Nat}{m:ae}(hs:Sm m)(hk:1010≤k):lm k m=some (oY m):=by
 unfold lm oY;rw [EA hs hk (by simp) (by simp) (by simp),bs];by_cases hc:jR m=0
 .have v:=Vd.of hc;have c1:=v.c1;have ho:NW m [] [] []=true:=rfl;simp only [hc,ho,not_true_eq_false,if_false];have hL:∀x∈mJ m eC,Bg (mC m) x:=λx h=>tI v h;have hlen:=qX v (but:=eC);generalize mJ m eC=E at *;cases E with
  |nil=>simp only [length_nil,if_true,nk];rw [if_pos (by decide)]
  |cons b L=>
   rw [if_neg (by simp)];simp only [rj,not_true_eq_false,if_false];have hb:=hL b mem_cons_self;have hL':=λx h=>hL x (mem_cons_of_mem _ h);rw [BJ (by omega) ⟨by omega,v.c5⟩ hb hL' (by simp at hlen;omega),bs]
   have hm:Bg (mC m) (nI b L):=by
    rcases zG (b:=b) (L:=L) with h |h
    .rw [h];exact hb
    .exact hL' _ h
   rw [mT (by omega) v.c5 hm,bs]
 .simp only [hc,not_false_eq_true,if_true,nk]
end Go.Proofs.YthnacobbednnbaaGreat
set_option linter.unusedVariables false
set_option linter.unusedSimpArgs false
namespace Go.Proofs.YthnacobbednnbaaGreat
open K Go Go.Proofs
theorem zy:oq 1200=some true:=by decide+kernel
theorem W.get{α:Type}{x:Option α}{a:α}(h:W x λy=>y=a):x=some a:=by
 obtain⟨b,e,rfl⟩:=h;exact e
theorem Br{k:Nat}{m:ae}{b:List Int}(v:Vd m)(h:Bg (mC m) b)(hk:1010≤k):iw k m b=some (lx m λc=>decide (c∈b),0):=by
 have c1:=v.c1;have:=h.len ⟨by omega,v.c5⟩;rw [Bq v.sm hk (by omega),if_neg (λhn=>hn v.chk),if_neg (λhn=>hn (pe.2 h))]
end Go.Proofs.YthnacobbednnbaaGreat
set_option linter.unusedVariables false
set_option linter.unusedSimpArgs false
namespace Go.Proofs.YthnacobbednnbaaGreat
open K Go Go.Proofs
end Go.Proofs.YthnacobbednnbaaGreat
set_option linter.unusedVariables false
set_option linter.unusedSimpArgs false
namespace Go.Proofs.YthnacobbednnbaaGreat
open K Go Go.Proofs
theorem EG{k:Nat}{m:ae}(hk:1010≤k):ek k (if¬(jR m=0) then(([]:List (List Int)),jR m) else(mJ m eC,0)).1 (if¬(jR m=0) then(([]:List (List Int)),jR m) else(mJ m eC,0)).1=some true:=by
 by_cases hc:jR m=0
 .have v:=Vd.of hc;have hl:=qX v (but:=eC);have c1:=v.c1;rw [if_neg (λhn=>hn hc)];refine nV (by show(mJ m eC).length < k;omega) (by show(mJ m eC).length≤1000000;omega) λx hx=>?_;have:=(tI v hx).len ⟨by omega,v.c5⟩;omega
 .rw [if_pos hc];exact nV (by simp;omega) (by simp) (by simp)
theorem zF{m:ae}:(oY m).1.length≤5:=by
 unfold oY;split
 .simp
 .rename_i hc;have v:=Vd.of (Decidable.not_not.1 hc);have c1:=v.c1;have hL:∀x∈mJ m eC,Bg (mC m) x:=λx h=>tI v h;generalize mJ m eC=E at *;cases E with
  |nil=>simp
  |cons b L=>
   have:Bg (mC m) (nI b L):=by
    rcases zG (b:=b) (L:=L) with h |h
    .rw [h];exact hL b mem_cons_self
    .exact hL _ (mem_cons_of_mem _ h)
   exact this.len ⟨by omega,v.c5⟩
