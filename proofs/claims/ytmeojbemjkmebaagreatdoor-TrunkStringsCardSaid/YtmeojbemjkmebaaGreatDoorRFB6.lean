import Derived.Test.YtmeojbemjkmebaaGreatDoorRFB5
import Derived.Laws.Strings
import Derived.Laws.Strings2
import Derived.Laws.Strings3
import Derived.Laws.DeepStrings4
import Derived.Laws.RangeString
import Derived.Laws.BytesString
set_option linter.unusedSimpArgs false
set_option linter.unusedVariables false
namespace Go.Proofs.YtmeojbemjkmebaaGreatDoor
namespace K
open Go
theorem Lt{R X L:List D}:((R++X)++L).Perm ((L++R)++X):=by rw [List.append_assoc L];exact List.perm_append_comm
theorem Df{S:FS}{w:World}{T:TypeId}{z:Value×(Nat→Value)}{ls:List (List Int)}{v:Value}(h:(A.eq z.1).holds S w v)(hl:∀d∈dB T z ls,d.holds S w∧∀b,d.foot=some b→S b):(A.rep (.slice (.slice (.int .i64))) ls).holds S w v:=by
 have h:v=z.1:=h;rw [h];exact Ht hl
theorem MX:∀d∈([]:List D),d.flat=true:=fun d hd=>by simp at hd
theorem HV{d0:D}(h:d0.flat=true):∀d∈[d0],d.flat=true:=fun d hd=>by
 simp only [List.mem_cons,List.not_mem_nil,or_false] at hd
 subst hd;exact h
theorem xw{c:Cx}{ops:Array Oper}{o:Oper}{l:List Oper}{Q:Exit→Act→VW→Prop}{Γ:Ga}{R0 R1 X:List D}{T:TypeId}{z:Value×(Nat→Value)}{ls:List (List Int)}{r:A}{N N':List (Operand×A)}{d:Nat}(hg:o.guard=none)(hd:o.dst=some d)(hdN:Nat.blt d c.N=true)
 (ht:bD c.M o N' R0 (fun _:Unit=>(r,R1))) (hN:∀S w a,(∀d∈dB T z ls,d.holds S w∧∀b,d.foot=some b→S b)→bB S w a N→bB S w a N') (hf:r.flat=true) (hf1:∀d∈R1,d.flat=true) (hh:f7 Γ N)
 (h:JO c ops l Q ((d,r)::Γ) ((R1++X)++dB T z ls)):JO c ops (o::l) Q Γ ((R0++X)++dB T z ls):=
 bZ (eu Lt) (bG (Δ:=dB T z ls++R0) (F:=X) (fun _ _ _=>ay hg _) hd hdN (IB ht hN fun _=>⟨hf,hf1⟩) hh fun _=>bZ (eu Lt.symm) h)
end K
end Go.Proofs.YtmeojbemjkmebaaGreatDoor
set_option linter.unusedVariables false
namespace Go.Proofs.YtmeojbemjkmebaaGreatDoor
namespace K
open Go
section
variable {c:Cx}{Γ:Ga}{u:Ty}{v:Value}{T:TypeId}{F:List D}
theorem E8{l:List (Ty.slice u).den}:SE c Γ (.sl v T (.slice u) l::F) Γ (.sl v T (.alt (.slice u)) (List.map Sum.inl l)::F):=fun a w h=>
 h.swap (d:=.sl v T (.slice u) l) (d':=.sl v T (.alt (.slice u)) (List.map Sum.inl l)) (fun _=>Iff.rfl) fun S hs=>by
  rcases hs with⟨h1,rfl⟩ |⟨b,cap,cc,rfl,q1,q1',q2,q3,q4⟩
  ·
   exact .inl ⟨h1,rfl⟩
  ·
   refine .inr ⟨b,cap,cc,by rw [List.length_map],by rw [List.length_map];exact q1,q1',q2,q3,?_⟩
   rw [List.length_map]
   exact zq (f:=Sum.inl) (R':=rd S w (.alt (.slice u))) (fun x cs hx=>⟨hx,aL (.slice u) hx⟩) q4
theorem E9{nm:Value}{Tu:TypeId}{d:List u.den}{l:List (Ty.slice u).den}{i:Nat}:
 SE c Γ (.sl nm Tu u d:: .sl v T (.alt (.slice u)) (List.set (List.map Sum.inl l) i (.inr nm))::F) Γ (.sl v T (.slice u) (List.set l i d)::F):=fun a w h=>by
 obtain⟨h1,h2,S,h3,h4,h5,h6,h7⟩:=sq h
 obtain⟨xs,e1,e2⟩:=h7
 have e3:xs=[nm]:=by
  have l1:=aL (.slice u) e1;match xs,l1 with
  |[x],_=>simp [mk] at e2;rw [e2]
 subst e3
 have hd:(D.sl v T (.slice u) (List.set l i d)).holds S w:=by
  rcases h5.holds _ (List.mem_cons_self ..) with⟨g1,g2⟩ |⟨b,cap,cc,rfl,q1,q1',q2,q3,q4⟩
  ·refine .inl ⟨g1,?_⟩;cases l with
   |nil=>rfl
   |cons x l=>cases i <;> cases g2
  ·have hlen:(List.set (List.map (Sum.inl (β:=Value)) l) i (.inr nm)).length=(List.set l i d).length:=by simp
   refine .inr ⟨b,cap,cc,by rw [hlen],by rw [←hlen];exact q1,q1',q2,q3,?_⟩;rw [hlen] at q4;refine zr (R:=rd S w (.slice u)) (R':=rd S w (.alt (.slice u))) (f:=Sum.inl) (fun x cs hx=>hx.1) (fun cs hx=>?_) q4;obtain⟨rfl,_⟩:=hx;exact e1
 have hp:=List.pairwise_cons.1 h5.apart
 refine⟨h1,h2,S,h3,fun x ⟨e,he,hb⟩=>?_,h5.re ⟨fun e he=>?_,fun x ⟨e,he,hb⟩=>?_,List.pairwise_cons.2 ⟨fun e he=>hp.1 e he,hp.2⟩⟩ (fun x ⟨e,he,hb⟩=>by
  rcases List.mem_cons.1 he with rfl |he
  ·exact⟨_,List.mem_cons_self ..,hb⟩
  ·exact⟨e,List.mem_cons_of_mem _ he,hb⟩) (fun _ h=>.inl h),h6⟩
 ·
  rcases List.mem_cons.1 he with rfl |he
  ·exact h4 x ⟨_,List.mem_cons_self ..,hb⟩
  ·exact h4 x ⟨e,List.mem_cons_of_mem _ he,hb⟩
 ·
  rcases List.mem_cons.1 he with rfl |he
  ·exact hd
  ·exact h5.holds e (List.mem_cons_of_mem _ he)
 ·
  rcases List.mem_cons.1 he with rfl |he
  ·exact h5.own x ⟨_,List.mem_cons_self ..,hb⟩
  ·exact h5.own x ⟨e,List.mem_cons_of_mem _ he,hb⟩
theorem IE{c:Cx}{ops:Array Oper}{l:List Oper}{Q:Exit→Act→VW→Prop}{Γ:Ga}{pre:List D}{T:TypeId}{z:Value×(Nat→Value)}{ls:List (List Int)}
 (h:bu z.1=true→JO c ops l Q Γ (pre++dB T z ls)):JO c ops l Q Γ (pre++dB T z ls):=by
 refine bZ (eu (Δ':=.sl z.1 T .val (dH z.2 0 ls)::(pre++jS z.2 0 ls)) List.perm_middle) ?_
 refine fg fun hv=>?_
 have hp:(D.sl z.1 T .val (dH z.2 0 ls)::(pre++jS z.2 0 ls)).Perm (pre++dB T z ls):=List.perm_middle.symm
 exact bZ (eu hp) (h hv)
theorem KZ{P:Program}{M:Md P}{o:Oper}{N:List (Operand×A)}{Δ Δ':List D}{r r':A}(h:bD M o N Δ (fun _:Unit=>(r,Δ')))(hr:∀S w v,r.holds S w v→r'.holds S w v):bD M o N Δ (fun _:Unit=>(r',Δ')):=
 ⟨h.1,fun ro S w a next Q hd hn hO k=>h.2 ro S w a next Q hd hn hO fun x S' v' u h1 h2 h3 h4=>k x S' v' u h1 (hr _ _ _ h2) h3 h4⟩
theorem vr{P:Program}{M:Md P}{o:Oper}{x:Operand}{T:TypeId}{v nm:Value}{TE:TypeId}{u:Ty}{l:List (Ty.alt (.slice u)).den}{k i:Nat}(ho:o.op= .load T x)(ht:dG P T 1 false)
 (hk:k=i * (Ty.slice u).cells) (hl:l[i]? =some (.inr nm)):bD M o [(x,.eq (qC v k))] [.sl v TE (.alt (.slice u)) l] (fun _:Unit=>(.eq nm,[.sl v TE (.alt (.slice u)) l])):=
 KZ (dE (t:=.alt (.slice u)) (off:=0) (z:=Sum.inr nm) (u:=.alt (.slice u)) ho ht (fun _=>rfl) hk hl rfl) fun S w a h=>by
  obtain⟨xs,e1,e2⟩:=h
  obtain⟨rfl,_⟩:=e1
  exact(by simpa [mk] using e2:a=nm)
theorem so{α β:Type}{l:List α}{i:Int}{x:α}(e:aX l i=some x)(nm:β):aX (List.set (List.map Sum.inl l) (Int.toNat i) (.inr nm)) i=some (.inr nm):=by
 obtain⟨h1,h2,h3⟩:=co e;simp_all [aX]
end
end K
end Go.Proofs.YtmeojbemjkmebaaGreatDoor
set_option linter.unusedVariables false
namespace Go.Proofs.YtmeojbemjkmebaaGreatDoor
namespace K
open Go
section
variable {c:Cx}{P:Program}{M:Md P}{o:Oper}{N N':List (Operand×A)}{Δ:List D}{T1 T2:TypeId}{t1 t2:Ty}{l1:List t1.den}{l2:List t2.den}{d:Int}{S:FS}{w:World}{v a b:Value}
end
end K
end Go.Proofs.YtmeojbemjkmebaaGreatDoor
set_option linter.unusedVariables false
namespace Go.Proofs.YtmeojbemjkmebaaGreatDoor
namespace K
open Go
@[reducible] def TA{α β:Type}(x:α×β):α×(β ⊕ Value):=(x.1,.inl x.2)
section
variable {c:Cx}{Γ:Ga}{u r:Ty}{v:Value}{T:TypeId}{F:List D}
end
end K
end Go.Proofs.YtmeojbemjkmebaaGreatDoor
set_option linter.unusedVariables false
set_option linter.unusedSimpArgs false
namespace Go.Proofs.YtmeojbemjkmebaaGreatDoor
namespace K
open Go
def dq:Value→ByteArray
 | .string s=>s
 |_=>⟨#[]⟩
theorem pm{v:Value}(h:bW v=true):∃s,v= .string s:=by
 cases v with
 |string s=>exact⟨s,rfl⟩
 |_=>cases h
theorem hH{v:Value}(h:bW v=true):bu v=true:=by
 obtain⟨s,rfl⟩:=pm h;rfl
theorem nz{v:Value}(h:bW v=true):v= .string (dq v):=by
 cases v with
 |string s=>rfl
 |_=>cases h
section
variable {P:Program}{M:Md P}{o:Oper}{x y z:Operand}{T T':TypeId}{v u:Value}
theorem pU{c:Call}(ho:o.op= .call c)(hc:c={ callee:=.builtin .len,args:= #[x],argTypes:= #[T] })(hT:P.underlying T=some .string)(hv:bW v=true):
 bD M o [(x,.eq v)] [] (fun _:Unit=>(.eq (.int .i64 ((dq v).size:Int)),[])):=
 .val0 fun S w a h=>by
  have e:a.eval x= .string (dq v):=(show a.eval x=v from h.1).trans (nz hv)
  exact⟨.int .i64 ((dq v).size:Int),by simp [execOp,ho,hc,resolve,invoke,builtin,e,Builtin.len_,run_underlying hT,goInt],rfl⟩
def zj(v:Value)(i:Int):Option Int:=if bW v=true∧0≤i∧i < ((dq v).size:Int) then some (((dq v).get! i.toNat).toNat:Int) else none
theorem pV{k:IntKind}{i q:Int}(ho:o.op= .index T x y)(hT:P.underlying T=some .string)(hq:zj v i=some q):
 bD M o [(x,.eq v),(y,.eq (.int k i))] [] (fun _:Unit=>(.eq (.int .u8 q),[])):=
 .val0 fun S w a hN=>by
  unfold zj at hq
  split at hq
  ·
   rename_i h
   obtain⟨h1,h2,h3⟩:=h
   obtain rfl:=Option.some.inj hq
   have e1:a.eval x= .string (dq v):=(show a.eval x=v from hN.1).trans (nz h1)
   have e2:a.eval y= .int k i:=hN.2.1
   have hlt:i.toNat < (dq v).size:=by omega
   have eb:(dq v)[i.toNat]? =some ((dq v).get! i.toNat):=by
    rw [ByteArray.getElem?_lt' _ _ hlt];congr 1;simp [ByteArray.get!,getElem!_pos,hlt];rfl
   have hr:(Instr.index T (.string (dq v)) (.int k i)).run P w= .ok (.int .u8 ((dq v).get! i.toNat).toNat) w:=by
    unfold Instr.index;simp only [asIntOf,Sem.run_bind,Sem.run_pure,Result.andThen_ok,run_underlying hT,if_pos h2,eb]
   exact⟨_,by simp only [execOp,ho,e1,e2,Sem.run_bind,hr,Result.andThen_ok,Sem.run_pure],rfl⟩
  ·cases hq
def iO(v:Value)(i j:Int):Value:=.string ((dq v).extract i.toNat j.toNat)
theorem Ew{k k':IntKind}{i j:Int}(ho:o.op= .slice T x (some y) (some z) none)(hT:P.underlying T=some .string)(h:bW v=true∧0≤i∧i≤j∧j≤((dq v).size:Int)):
 bD M o [(x,.eq v),(y,.eq (.int k i)),(z,.eq (.int k' j))] [] (fun _:Unit=>(.eq (iO v i j),[])):=
 .val0 fun S w a hN=>by
  have e1:a.eval x= .string (dq v):=(show a.eval x=v from hN.1).trans (nz h.1)
  have e2:a.eval y= .int k i:=hN.2.1
  have e3:a.eval z= .int k' j:=hN.2.2.1
  have hr:=run_slice_string (P:=P) (w:=w) T (dq v) k k' i j hT h.2.1 h.2.2.1 h.2.2.2
  exact⟨_,by simp only [execOp,ho,Option.map_some,Option.map_none,e1,e2,e3,Sem.run_bind,run_sliceAt_string w T _ _ _ _ hT,hr,Result.andThen_ok,Sem.run_pure];rfl,rfl⟩
theorem oU{k:IntKind}{j:Int}(ho:o.op= .slice T x none (some z) none)(hT:P.underlying T=some .string)(h:bW v=true∧0≤j∧j≤((dq v).size:Int)):
 bD M o [(x,.eq v),(z,.eq (.int k j))] [] (fun _:Unit=>(.eq (iO v 0 j),[])):=
 .val0 fun S w a hN=>by
  have e1:a.eval x= .string (dq v):=(show a.eval x=v from hN.1).trans (nz h.1)
  have e3:a.eval z= .int k j:=hN.2.1
  have hr:=run_slice_string_to_if (P:=P) (w:=w) T (dq v) k j hT
  rw [if_pos ⟨h.2.1,h.2.2⟩] at hr
  exact⟨_,by simp only [execOp,ho,Option.map_some,Option.map_none,e1,e3,Sem.run_bind,run_sliceAt_string w T _ _ _ _ hT,hr,Result.andThen_ok,Sem.run_pure];rfl,rfl⟩
theorem oS{k:IntKind}{i:Int}(ho:o.op= .slice T x (some y) none none)(hT:P.underlying T=some .string)(h:bW v=true∧0≤i∧i≤((dq v).size:Int)):
 bD M o [(x,.eq v),(y,.eq (.int k i))] [] (fun _:Unit=>(.eq (iO v i ((dq v).size:Int)),[])):=
 .val0 fun S w a hN=>by
  have e1:a.eval x= .string (dq v):=(show a.eval x=v from hN.1).trans (nz h.1)
  have e2:a.eval y= .int k i:=hN.2.1
  have hr:=run_slice_string_from_if (P:=P) (w:=w) T (dq v) k i hT
  rw [if_pos ⟨h.2.1,h.2.2⟩] at hr
  exact⟨_,by simp only [execOp,ho,Option.map_some,Option.map_none,e1,e2,Sem.run_bind,run_sliceAt_string w T _ _ _ _ hT,hr,Result.andThen_ok,Sem.run_pure];rfl,rfl⟩
def gg(u v:Value):Value:=.string (dq u++dq v)
theorem mE(ho:o.op= .binOp .add T x y T')(h:bW u=true∧bW v=true∧((dq u).size+(dq v).size:Int)≤9223372036854775807):
 bD M o [(x,.eq u),(y,.eq v)] [] (fun _:Unit=>(.eq (gg u v),[])):=by
 obtain⟨h1,h2,h3⟩:=h
 obtain⟨a,rfl⟩:=pm h1
 obtain⟨b,rfl⟩:=pm h2
 have h3:(a.size+b.size:Int)≤9223372036854775807:=h3
 have hs:¬(((a.size+b.size:Nat):Int) > IntKind.i64.max):=by
  show¬(((a.size+b.size:Nat):Int) > 9223372036854775807);omega
 refine g7 ho fun w=>?_
 simp only [eqGuard,binOp,Op.stringOp,if_neg hs]
 rfl
def F8(u v:Value):Bool:=(dq u).toList == (dq v).toList
theorem Jj(ho:o.op= .binOp .neq T x y T')(h:bW u=true∧bW v=true):bD M o [(x,.eq u),(y,.eq v)] [] (fun _:Unit=>(.eq (.bool (!F8 u v)),[])):=by
 obtain⟨a,rfl⟩:=pm h.1;obtain⟨b,rfl⟩:=pm h.2;exact g7 ho fun w=>by simp [eqGuard,binOp,Op.stringOp,F8,dq]
theorem Ey(ho:o.op= .range T x)(hT:P.underlying T=some .string)(hv:bW v=true):bD M o [(x,.eq v)] [] (fun z:Nat=>(.eq (.pointer (some ⟨z,0,none⟩)),[.raw z (.stringIter (dq v) 0)])):=by
 refine g8 ⟨by simp only [nd, *],fun S w a next hd hN _ k=>?_⟩ (fun _ _ a _ _=>gV (by simp only [qo, *]) a.eval) (fun d hd=>by first |(simp at hd;done) |(simp at hd;subst hd;trivial));have e:a.eval x= .string (dq v):=(show a.eval x=v from hN.1).trans (nz hv)
 have hr:(execOp a.eval o).run P w= .ok (.value (.pointer (some ⟨w.heap.size,0,none⟩))) (w.alloc (.stringIter (dq v) 0)):=by
  simp only [execOp,ho,e,Sem.run_bind,run_range_string w T _ hT,Result.andThen_ok,Sem.run_pure];rfl
 rw [hr];refine k w.heap.size S _ _ (fa hd _) rfl (dT (heap_alloc_new w _) ?_) ?_
 ·intro b hb;simp only [D.foot,Option.some.injEq] at hb;subst hb;exact⟨fun h=>by have:=hd _ h;omega,by simp⟩
 ·intro b hb;have:b=w.heap.size:=by simpa [D.foot,eq_comm] using dw.1 hb
  exact .inr (by omega)
theorem uT{w:World}{r:Nat}{s:ByteArray}{p:Nat}(h:w.heap[r]? =some (.stringIter s p)):(getObj r).run P w= .ok (.stringIter s p) w:=by simp [getObj,Sem.run,h]
theorem GG{r p:Nat}{s:ByteArray}(ho:o.op= .next x true)(h:p < s.size):
 bD M o [(x,.eq (.pointer (some ⟨r,0,none⟩)))] [.raw r (.stringIter s p)] (fun _:Unit=>(.tup (.pair (.eq (.bool true)) (.pair (.eq (.int .i64 (p:Int))) (.pair (.eq (.int .i32 ((Utf8.decode s p).1:Int))) .any))),[.raw r (.stringIter s (p+(Utf8.decode s p).2))])):=by
 refine g8 ⟨by simp only [nd, *],fun S w a next hd hN hO k=>?_⟩ (fun _ _ a _ _=>gV (by simp only [qo, *]) a.eval) (fun d hd=>by rw [List.mem_singleton.1 hd];rfl)
 have e:a.eval x= .pointer (some ⟨r,0,none⟩):=hN.1
 have h1:w.heap[r]? =some (.stringIter s p):=hO.holds _ (List.mem_singleton.2 rfl)
 have hb:=hO.own r ⟨_,List.mem_singleton.2 rfl,rfl⟩
 have hn:(Instr.next (.pointer (some ⟨r,0,none⟩)) true o.type).run P w= .ok (.tuple #[.bool true,.int .i64 (p:Int),.int .i32 ((Utf8.decode s p).1:Int)]) (w.putObj r (.stringIter s (p+(Utf8.decode s p).2))):=by
  simp only [Instr.next,Sem.run_bind,uT h1,Result.andThen_ok,h,if_true];simp [setObj,Sem.run,h1,goInt,World.putObj]
 have hrun:(execOp a.eval o).run P w= .ok (.value (.tuple #[.bool true,.int .i64 (p:Int),.int .i32 ((Utf8.decode s p).1:Int)])) (w.putObj r (.stringIter s (p+(Utf8.decode s p).2))):=by
  simp only [execOp,ho,e,Sem.run_bind,hn,Result.andThen_ok,Sem.run_pure]
 rw [hrun]
 refine k () S _ _ (rK hd ⟨_,List.mem_singleton.2 rfl,rfl⟩ _) ⟨[_,_,_],rfl,_,_,rfl,rfl,_,_,rfl,rfl,_,_,rfl,rfl,rfl⟩ (dT (Bv hb.2) fun b h=>?_) (fun b ⟨d,hd',e'⟩=>.inl ⟨_,List.mem_singleton.2 rfl,by rw [List.mem_singleton.1 hd'] at e';exact e'⟩)
 simp only [D.foot,Option.some.injEq] at h
 subst h
 exact⟨hb.1,by rw [rT];exact hb.2⟩
theorem Ez{r p:Nat}{s:ByteArray}(ho:o.op= .next x true)(h:¬p < s.size):
 bD M o [(x,.eq (.pointer (some ⟨r,0,none⟩)))] [.raw r (.stringIter s p)] (fun _:Unit=>(.tup (.pair (.eq (.bool false)) .any),[.raw r (.stringIter s p)])):=by
 refine g8 ⟨by simp only [nd, *],fun S w a next hd hN hO k=>?_⟩ (fun _ _ a _ _=>gV (by simp only [qo, *]) a.eval) (fun d hd=>by rw [List.mem_singleton.1 hd];rfl)
 have e:a.eval x= .pointer (some ⟨r,0,none⟩):=hN.1
 have h1:w.heap[r]? =some (.stringIter s p):=hO.holds _ (List.mem_singleton.2 rfl)
 have hn:(Instr.next (.pointer (some ⟨r,0,none⟩)) true o.type).run P w= .ok (.tuple #[.bool false]) w:=by
  simp only [Instr.next,Sem.run_bind,uT h1,Result.andThen_ok,h,if_false,Sem.run_pure]
 have hrun:(execOp a.eval o).run P w= .ok (.value (.tuple #[.bool false])) w:=by
  simp only [execOp,ho,e,Sem.run_bind,hn,Result.andThen_ok,Sem.run_pure]
 rw [hrun]
 exact k () S w _ (iS.refl hd) ⟨[_],rfl,_,_,rfl,rfl,rfl⟩ hO (fun b hb=>.inl hb)
theorem zC{vs:Nat→Value}{ls:List (List Int)}{j:Nat}{e TE:TypeId}{c:Call}(ho:o.op= .call c)(hc:c={ callee:=.builtin .len,args:= #[x],argTypes:= #[T] })(hT:P.underlying T=some (.slice e)):
 bD M o [(x,.eq v)] [.sl v TE .val (dH vs j ls)] (fun _:Unit=>(.eq (.int .i64 (ls.length:Int)),[.sl v TE .val (dH vs j ls)])):=by
 have h:=cO (M:=M) (t:=.val) (v:=v) (TE:=TE) (l:=dH vs j ls) ho hc hT
 rw [f8] at h
 exact h
theorem zP{α β:Type}{f:α→β→Sem (ForInStep β)}(h:∀x y,Ns P (f x y)):∀{l:List α} {b:β},Ns P (forIn l b f)
 |[],b=>by rw [List.forIn_nil];exact bp
 |x::l,b=>by
  rw [List.forIn_cons]
  refine ai (h x b) fun s=>?_
  cases s with
  |done y=>exact bp
  |yield y=>exact zP h
theorem zV{a:Option Addr}{n c:Nat}:Ns P (Conv.bytesToString (.slice a n c)):=by
 cases a with
 |none=>exact bp
 |some a=>
  unfold Conv.bytesToString;refine ai nX fun cs=>?_;refine ai ?_ fun _=>bp;obtain⟨l⟩:=cs;simp only [List.forIn_toArray];refine zP fun x y=>?_;cases x with
  |int k n=>cases k <;> first |exact bp |exact zI
  |_=>exact zI
def fE(l:List Int):Value:=.string (l.foldl (fun r n=>r.push (UInt8.ofNat n.toNat)) ByteArray.empty)
theorem Gn{S:FS}{w:World}:∀{l:List Int} {cs:List Value},cG (rd S w (.int .u8)) l cs→cs=l.map (Value.int .u8)
 |[],_,h=>h
 |u::l,_,⟨c1,c2,h1,h2,h3⟩=>by
  have h2:c1=[.int .u8 u]:=h2
  have:=Gn h3
  subst h1 h2 this
  rfl
theorem qR{l:List Int}{e:TypeId}(ho:o.op= .convert T T' x)(hs:P.underlying T=some (.slice e))(he:P.underlying e=some (.int .u8))(hd:P.underlying T'=some .string):
 bD M o [(x,.rep (.slice (.int .u8)) l)] [] (fun _:Unit=>(.eq (fE l),[])):=
 bD.val0 (hns:=fun S w a h=>by
  obtain⟨b,cap,e1,_⟩:=nj h.1
  unfold execOp
  rw [ho]
  show Ns P (do pure (.value (←convert T T' (a.eval x))):Sem Next)
  rw [e1]
  refine i9 ?_
  unfold convert
  exact cg hs (cg hd (cg he zV))) fun S w a hN=>by
  obtain⟨b,cap,e1,hr⟩:=nj hN.1
  refine⟨fE l,?_,rfl⟩
  have hc:(convert T T' (.slice b l.length cap)).run P w= .ok (fE l) w:=by
   rw [run_convert_bytes_string w T T' e b l.length cap hs he hd];rcases hr with⟨a0,cap0,h1,rfl⟩ |⟨b0,off,cap0,c,T0,fz,h1,hle,hS,hb,hr⟩
   ·simp only [List.cons.injEq,Value.slice.injEq,and_true] at h1;obtain⟨rfl,h2,rfl⟩:=h1;cases b with
    |none=>rfl
    |some b=>
     have:=run_bytesToString (P:=P) w b 0 cap [] (by simp [loadCells,loadCellsFrom]);exact this
   ·simp only [List.cons.injEq,Value.slice.injEq,and_true] at h1;obtain⟨rfl,_,rfl⟩:=h1;have hl:=fN (fun _ _ h=>aL (.int .u8) h) hr;have hcs:=Gn hr
    have hrun:(loadCells ⟨b0,off,none⟩ l.length).run P w= .ok (l.map (Value.int .u8)).toArray w:=by
     by_cases h0:l=[]
     ·subst h0;simp [loadCells,loadCellsFrom]
     ·have hpos:0 < l.length:=List.length_pos_iff.2 h0;have hl2:((c.toList.drop off).take (l.length * Ty.cells (.int .u8))).length=l.length * Ty.cells (.int .u8):=hl;simp only [Ty.cells,Nat.mul_one,List.length_take,List.length_drop,Array.length_toList] at hl2;rw [loadCells,rO P w b0 c T0 fz hb off l.length 0 #[] (by omega)];rw [Nat.add_zero,←hcs];simp [Ty.cells]
    exact run_bytesToString (P:=P) w ⟨b0,off,none⟩ l.length _ l hrun
  simp only [execOp,ho,e1,Sem.run_bind,hc,Result.andThen_ok,Sem.run_pure]
end
end K
end Go.Proofs.YtmeojbemjkmebaaGreatDoor
