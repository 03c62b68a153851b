import Derived.Test.YtcnpijmfgfnpiaaGreatDoorXXB12
set_option linter.unusedVariables false
set_option linter.unusedSimpArgs false
namespace Go.Proofs.YtcnpijmfgfnpiaaGreatDoor
open K Go Go.Proofs
def KY:List Int→List Int→Bool
 |x::a,y::b=>if x=y then KY a b else decide (x < y)
 |[],_::_=>true
 |_,[]=>false
def JL:List (List Int)→List (List Int)→Bool
 |x::a,y::b=>if x=y then JL a b else KY x y
 |_,_=>false
section
variable {k:Nat}
def RH(t:aV)(l:List (List (List Int))):Option (List (List Int)×Nat×Nat)→Prop
 |none=>l=[]
 |some (f,n,c)=>f∈l∧n=di t f∧(∀x∈l,n≤di t x)∧c=(l.countP fun q=>decide (di t q=n))∧0 < c
def Qu(t:aV)(S:List (List (List Int)))(l:List (List (List Int))):Option (List (List Int)×Nat×Nat)→Prop
 |none=>True
 |some (f,n,_)=>∀x∈l,di t x=n→JL x f=false
theorem sS{t:aV}{a b:Int}(h:Ar t a b)(ha:a≤8)(hb:b≤8)(hk:50≤k)(hk1:k≤1000000):jW k t∧tV k t:=
 ⟨⟨hk1,by have:=h.things;omega,fun x hx=>by have:=h.item x hx;omega,by have:=h.trunks;omega⟩,⟨hk,hk1,by have:=h.things;omega,fun x hx=>by have:=h.item x hx;omega⟩⟩
theorem qK.same{t:aV}{S l:List (List (List Int))}(hS:S.Pairwise fun a b=>JL a b=true∧JL b a=false)(hl:l.Perm S){b:Option (List (List Int)×Nat)}(hb:qK (di t) S b){s:Option (List (List Int)×Nat×Nat)}(hs:RH t l s)(he:Qu t S l s):
 (b=none∧s=none)∨∃q n c,b=some (q,n)∧s=some (q,n,c)∧c=(S.countP fun x=>decide (di t x=n))∧0 < c:=by
 cases b with
 |none=>
  have hb:S=[]:=hb;subst hb;have:l=[]:=hl.eq_nil;subst this;cases s with
  |none=>exact .inl ⟨rfl,rfl⟩
  |some s=>obtain⟨f,n,c⟩:=s;exact absurd hs.1 (by simp)
 |some b=>
  obtain⟨q,n⟩:=b;obtain⟨h1,h2,p,r,h3,h4⟩:=hb;have hqS:q∈S:=by rw [h3];simp
  cases s with
  |none=>
   have hs:l=[]:=hs;subst hs;have:=hl.symm.eq_nil;rw [this] at hqS;cases hqS
  |some s=>
   obtain⟨f,n',c⟩:=s;obtain⟨g1,g2,g3,g4,g5⟩:=hs;have hfS:f∈S:=hl.mem_iff.1 g1;have hql:q∈l:=hl.mem_iff.2 hqS;have e1:=h2 f hfS;have e2:=g3 q hql;have en:n'=n:=by omega
   subst en
   have hfq:f=q:=by
    rw [h3] at hfS;rcases List.mem_append.1 hfS with h |h
    ·have:=h4 f h;omega
    ·rcases List.mem_cons.1 h with h |h
     ·exact h
     ·have hp:=hS;rw [h3] at hp;have:=(List.pairwise_append.1 hp).2.1;have:=((List.pairwise_cons.1 this).1 f h).1;have h5:=he q hql h1.symm;rw [this] at h5;cases h5
   subst hfq;exact .inr ⟨f,n',c,rfl,rfl,by rw [g4,hl.countP_eq],g5⟩
end
end Go.Proofs.YtcnpijmfgfnpiaaGreatDoor
