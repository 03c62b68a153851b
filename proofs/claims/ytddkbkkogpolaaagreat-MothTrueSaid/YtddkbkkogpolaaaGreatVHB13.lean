import Derived.Test.YtddkbkkogpolaaaGreatVHB12
open Nat
open List hiding mem_of_getElem?
open Array hiding mem_of_getElem? mk
set_option linter.unusedVariables false
set_option linter.unusedSimpArgs false
namespace Go.Proofs.YtddkbkkogpolaaaGreat
open K Go Go.Proofs
theorem Fb{k:Nat}{m:ae}(v:Vd m)(hk:1010≤k):iG k m=some (eP m cN,0):=by
 rw [Cm v.sm hk,v.chk];rfl
end Go.Proofs.YtddkbkkogpolaaaGreat
set_option linter.unusedVariables false
set_option linter.unusedSimpArgs false
namespace Go.Proofs.YtddkbkkogpolaaaGreat
open K Go Go.Proofs
def Gj(m:ae)(L:List (List Int))(n:Nat):List Int:=(List.range (mC m).toNat).map λ(c:Nat)=>nO (rO m n c 0 L) L.length
theorem Hh{m:ae}(v:Vd m){n:Nat}(hn:n≤(mD m).length):xA m n=if(eP m cN).length=0 then([],9) else(Gj m (eP m cN) n,0):=by
 unfold xA;rw [if_neg (λh=>h v.chk),if_neg (λh=>h ⟨by omega,by omega⟩),Int.toNat_natCast];rfl
end Go.Proofs.YtddkbkkogpolaaaGreat
set_option linter.unusedVariables false
set_option linter.unusedSimpArgs false
namespace Go.Proofs.YtddkbkkogpolaaaGreat
open K Go Go.Proofs
theorem Jf{k:Nat}{L:List (List Int)}{b:List Int}(hk:L.length < k)(hl:L.length≤1000)(hL:∀x∈L,x.length < k/\x.length≤1000):m9 k L b=some (decide (b∈L)):=by
 unfold m9
 have key:=me (T:=Int) (f:=fh k L b) L (λ(_:Unit) j=>j) (λ_ _ x=>if decide (x=b)=true then Except.error true else .ok ()) (λ_ _=>True) (λr=>some r)
  (λn s j hj _=>by
   have hck:ck ((j:Int)+1)=some ((j:Int)+1):=dw (by omega) (by omega);have hx:=hL _ (List.getElem_mem hj);refine⟨?_,λ_ _=>trivial⟩;rw [fh,if_pos (by omega),eN hj,bs,zx hx.1 (by omega),bs];grind)
  (λn s _=>by rw [fh,if_neg (Int.lt_irrefl _)]) (n:=k) (s0:=()) (by omega) trivial
 rw [show fh k L b k 0=_ from key]
 have gen:∀(l:List (List Int)) (j:Nat),eD (λ(_:Unit) _ x=>if decide (x=b)=true then Except.error true else .ok ()) j l ()=if b∈l then .error true else .ok ():=by
  intro l
  induction l with
  |nil=>intro j;rw [if_neg (by simp)];rfl
  |cons x l ih=>
   intro j;rw [eD];grind
 rw [gen];by_cases h:b∈L
 .rw [if_pos h,oU,decide_eq_true h]
 .rw [if_neg h,mt,decide_eq_false h]
