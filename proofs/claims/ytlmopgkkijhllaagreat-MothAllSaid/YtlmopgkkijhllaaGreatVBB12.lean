import Derived.Test.YtlmopgkkijhllaaGreatVBB11
set_option linter.unusedVariables false
set_option linter.unusedSimpArgs false
namespace Go.Proofs.YtlmopgkkijhllaaGreat
open K Go Go.Proofs
def eu:Nat→Bool:=fun _=>false
theorem Qs:(fun i=>decide (dO 0 i))=eu:=by
 funext i;simp [eu,dO]
theorem RS:(fun i:Nat=>decide ((i:Int)∈([]:List Int)))=eu:=by
 funext i;simp [eu]
theorem tR{m:ag}(v:Vd m){but:Nat→Bool}{b:List Int}(h:b∈mJ m but):Bg (mC m) b:=yk v (List.mem_filter.1 h).1
theorem rp{m:ag}(v:Vd m){but:Nat→Bool}:(mJ m but).length≤32:=Nat.le_trans (List.length_filter_le _ _) (vb v)
theorem H2{k:Nat}{C:Int}(hC:C≤5)(hk:50≤k){L:List (List Int)}(hL:∀b∈L,Bg C b)(hl:L.length≤40):dE k (L.map bO) k ([],0)=some L:=by
 have key:=i8 (T:=List (List Int)×Int) (f:=dE k (L.map bO)) L (fun(s:List (List Int)) j=>(s,j)) (fun s _ b=>s++[b]) (fun j s=>s=L.take j) (fun s=>some s)
  (fun n s j hj hs=>by
   have hck:ck ((j:Int)+1)=some ((j:Int)+1):=c8 (by omega) (by omega);have hls:s.length=j:=by rw [hs,List.length_take];omega
   have hg:aO (L.map bO) (j:Int)=some (bO L[j]):=by rw [aO,if_pos (by omega),Int.toNat_natCast,List.getElem?_map,List.getElem?_eq_getElem hj];rfl
   have hj':(j:Int) < ((L.map bO).length:Int):=by rw [List.length_map];omega
   have hok:cF (bK (List.length s+List.length [L[j]]))=some ():=du (by simp [bK];omega);refine⟨?_,?_⟩
   ·simp only [dE,hj',if_true,hg,bs,mX (k:=k) (by omega) hC (hL _ (List.getElem_mem hj)),hok,hck]
   ·rw [hs,List.take_add_one,List.getElem?_eq_getElem hj];rfl)
  (fun n s hs=>by
   unfold dE;rw [if_neg (by rw [List.length_map];exact Int.lt_irrefl _)]) (n:=k) (s0:=[]) (by omega) (by simp)
 rw [show dE k (L.map bO) k ([],0)=_ from key.1,key.2,List.take_length]
theorem BG{k:Nat}{m:ag}(hs:Sm m)(hk:1010≤k):jo k m=some (if¬(jX m=0) then([],jX m) else(mJ m eu,0)):=by
 unfold jo;rw [uF hs hk (by simp) (by simp) (by simp) (by simp),bs];by_cases hc:jX m=0
 ·have v:=Vd.of hc;have hb:sU (mC m) []=0:=pn.2 ⟨by simp,by simp⟩;have ho:NZ m [] [] []=true:=rfl;simp only [hc,hb,ho,not_true_eq_false,if_false,if_true,rA];rw [uH v (by omega) uJ,bs,Qs,H2 v.c5 (by omega) (fun b h=>tR v h) (by have:=rp v (but:=eu);omega),bs]
 ·simp only [hc,not_false_eq_true,if_true,nq]
end Go.Proofs.YtlmopgkkijhllaaGreat
set_option linter.unusedVariables false
set_option linter.unusedSimpArgs false
namespace Go.Proofs.YtlmopgkkijhllaaGreat
open K Go Go.Proofs
theorem EK{k:Nat}{m:ag}{cs ds ns:List Int}(hs:Sm m)(hk:1010≤k)(h1:cs.length≤1000)(h2:ds.length≤1000)(h3:ns.length≤1000):
 iG k m cs ds ns=some (if¬(jX m=0) then(none,[],jX m) else if¬(NZ m cs ds ns=true) then(none,[],3) else if(mJ m eu).length=0 then(none,[],9) else(some m,(mJ m eu).map bO,0)):=by
 unfold iG
 rw [uF hs hk (by simp) h1 h2 h3,bs]
 by_cases hc:jX m=0
 ·
  have v:=Vd.of hc;have hb:sU (mC m) []=0:=pn.2 ⟨by simp,by simp⟩;by_cases ho:NZ m cs ds ns=true
  ·simp only [hc,hb,ho,not_true_eq_false,if_false,if_true,rA];rw [uH v (by omega) uJ,bs,Qs];by_cases hl:(mJ m eu).length=0
   ·rw [if_pos (by rw [List.length_map];omega),if_pos hl]
   ·rw [if_neg (by rw [List.length_map];omega),if_neg hl]
  ·simp only [hc,hb,ho,not_true_eq_false,not_false_eq_true,if_false,if_true,nq,Bool.false_eq_true];rw [if_pos (by decide)]
 ·
  simp only [hc,not_false_eq_true,if_true,nq]
def nM(b:List Int)(L:List (List Int)):List Int:=L.foldl (fun s x=>if x.length < s.length then x else s) b
theorem zM{b:List Int}:∀{L:List (List Int)},nM b L=b∨nM b L∈L:=by
 intro L
 induction L generalizing b with
 |nil=>exact .inl rfl
 |cons x L ih=>
  show nM (if x.length < b.length then x else b) L=b∨_;split
  ·rcases ih (b:=x) with h |h
   ·right;show nM (if x.length < b.length then x else b) L∈_;rw [if_pos ‹_›,h];exact List.mem_cons_self
   ·right;show nM (if x.length < b.length then x else b) L∈_;rw [if_pos ‹_›];exact List.mem_cons_of_mem _ h
  ·rcases ih (b:=b) with h |h
   ·exact .inl h
   ·right;show nM (if x.length < b.length then x else b) L∈_;rw [if_neg ‹_›];exact List.mem_cons_of_mem _ h
theorem sJ:∀(L:List (List Int)) (j:Nat) (s:List Int),uU (fun s _ x=>if x.length < s.length then x else s) j L s=nM s L
 |[],_,_=>rfl
 |x::L,j,s=>by rw [uU,sJ L (j+1)];rfl
theorem BU{k:Nat}{C:Int}{a b:List Int}(hk:10≤k)(hC:0≤C∧C≤5)(ha:Bg C a)(hb:Bg C b):ib k (bO a) (bO b)=some ((a.length:Int) - b.length):=by
 have la:=ha.len hC;have lb:=hb.len hC;unfold ib iV;rw [mX hk hC.2 ha,bs,bs,mX hk hC.2 hb,bs,bs,c8 (by omega) (by omega),bs]
theorem BS{k:Nat}{C:Int}(hk:50≤k)(hC:0≤C∧C≤5){b:List Int}{L:List (List Int)}(hb:Bg C b)(hL:∀x∈L,Bg C x)(hl:L.length≤40):jQ k ((b::L).map bO)=some (bO (nM b L)):=by
 unfold jQ gI;rw [if_neg (by simp;omega)];have g0:aO ((b::L).map bO) (0:Int)=some (bO b):=rfl;rw [g0,bs]
 have key:=i8 (T:=Int×Int) (f:=cD k ((b::L).map bO)) L (fun(s:List Int) j=>(bO s,j+1)) (fun s _ x=>if x.length < s.length then x else s) (fun _ s=>Bg C s) (fun s=>some (bO s))
  (fun n s j hj hs=>by
   have hck:ck ((j:Int)+1+1)=some ((j:Int)+1+1):=c8 (by omega) (by omega);have hx:=hL _ (List.getElem_mem hj)
   have hg:aO ((b::L).map bO) ((j:Int)+1)=some (bO L[j]):=by
    have:((j:Int)+1)=((j+1:Nat):Int):=by omega
    rw [this,aO,if_pos (by omega),Int.toNat_natCast,List.getElem?_map,List.getElem?_cons_succ,List.getElem?_eq_getElem hj];rfl
   have hlt:(j:Int)+1 < (((b::L).map bO).length:Int):=by rw [List.length_map,List.length_cons];omega
   refine⟨?_,?_⟩
   ·simp only [cD,hlt,if_true,hg,bs,BU (k:=k) (by omega) hC hx hs];by_cases h:L[j].length < s.length
    ·rw [if_pos (by omega),bs,hck,bs,if_pos h]
    ·rw [if_neg (by omega),bs,hck,bs,if_neg h]
   ·split
    ·exact hx
    ·exact hs)
  (fun n s hs=>by
   unfold cD;rw [if_neg (by rw [List.length_map,List.length_cons];show¬((L.length:Int)+1 < ((L.length+1:Nat):Int));omega)]) (n:=k) (s0:=b) (by omega) hb
 rw [show cD k ((b::L).map bO) k (bO b,1)=_ from key.1,bs,bs,sJ]
def o8(m:ag):List Int×Int:=if¬(jX m=0) then([],jX m) else match mJ m eu with
 |[]=>([],9)
 |b::L=>(nM b L,0)
theorem BF{k:Nat}{m:ag}(hs:Sm m)(hk:1010≤k):lm k m=some (o8 m):=by
 unfold lm o8;rw [EK hs hk (by simp) (by simp) (by simp),bs];by_cases hc:jX m=0
 ·have v:=Vd.of hc;have c1:=v.c1;have ho:NZ m [] [] []=true:=rfl;simp only [hc,ho,not_true_eq_false,if_false];have hL:∀x∈mJ m eu,Bg (mC m) x:=fun x h=>tR v h;have hlen:=rp v (but:=eu);generalize mJ m eu=E at *;cases E with
  |nil=>simp only [List.length_nil,if_true,nq];rw [if_pos (by decide)]
  |cons b L=>
   rw [if_neg (by simp)];simp only [rA,not_true_eq_false,if_false];have hb:=hL b List.mem_cons_self;have hL':=fun x h=>hL x (List.mem_cons_of_mem _ h);rw [BS (by omega) ⟨by omega,v.c5⟩ hb hL' (by simp at hlen;omega),bs]
   have hm:Bg (mC m) (nM b L):=by
    rcases zM (b:=b) (L:=L) with h |h
    ·rw [h];exact hb
    ·exact hL' _ h
   rw [mX (by omega) v.c5 hm,bs]
 ·simp only [hc,not_false_eq_true,if_true,nq]
end Go.Proofs.YtlmopgkkijhllaaGreat
set_option linter.unusedVariables false
set_option linter.unusedSimpArgs false
namespace Go.Proofs.YtlmopgkkijhllaaGreat
open K Go Go.Proofs
theorem zE:ox 1200=some true:=by decide+kernel
theorem W.get{α:Type}{x:Option α}{a:α}(h:W x fun y=>y=a):x=some a:=by
 obtain⟨b,e,rfl⟩:=h;exact e
theorem BE{k:Nat}{m:ag}{b:List Int}(v:Vd m)(h:Bg (mC m) b)(hk:1010≤k):iz k m b=some (lx m fun c=>decide (c∈b),0):=by
 have c1:=v.c1;have:=h.len ⟨by omega,v.c5⟩;rw [BD v.sm hk (by omega),if_neg (fun hn=>hn v.chk),if_neg (fun hn=>hn (pn.2 h))]
end Go.Proofs.YtlmopgkkijhllaaGreat
set_option linter.unusedVariables false
set_option linter.unusedSimpArgs false
namespace Go.Proofs.YtlmopgkkijhllaaGreat
open K Go Go.Proofs
end Go.Proofs.YtlmopgkkijhllaaGreat
set_option linter.unusedVariables false
set_option linter.unusedSimpArgs false
namespace Go.Proofs.YtlmopgkkijhllaaGreat
open K Go Go.Proofs
theorem EQ{k:Nat}{m:ag}(hk:1010≤k):ee k (if¬(jX m=0) then(([]:List (List Int)),jX m) else(mJ m eu,0)).1 (if¬(jX m=0) then(([]:List (List Int)),jX m) else(mJ m eu,0)).1=some true:=by
 by_cases hc:jX m=0
 ·have v:=Vd.of hc;have hl:=rp v (but:=eu);have c1:=v.c1;rw [if_neg (fun hn=>hn hc)];refine nZ (by show(mJ m eu).length < k;omega) (by show(mJ m eu).length≤1000000;omega) fun x hx=>?_;have:=(tR v hx).len ⟨by omega,v.c5⟩;omega
 ·rw [if_pos hc];exact nZ (by simp;omega) (by simp) (by simp)
theorem zL{m:ag}:(o8 m).1.length≤5:=by
 unfold o8;split
 ·simp
 ·rename_i hc;have v:=Vd.of (Decidable.not_not.1 hc);have c1:=v.c1;have hL:∀x∈mJ m eu,Bg (mC m) x:=fun x h=>tR v h;generalize mJ m eu=E at *;cases E with
  |nil=>simp
  |cons b L=>
   have:Bg (mC m) (nM b L):=by
    rcases zM (b:=b) (L:=L) with h |h
    ·rw [h];exact hL b List.mem_cons_self
    ·exact hL _ (List.mem_cons_of_mem _ h)
   exact this.len ⟨by omega,v.c5⟩
