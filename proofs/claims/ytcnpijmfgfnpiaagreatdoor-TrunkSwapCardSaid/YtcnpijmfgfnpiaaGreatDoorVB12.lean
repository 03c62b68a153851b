import Derived.Test.YtcnpijmfgfnpiaaGreatDoorVB11
set_option linter.unusedVariables false
set_option linter.unusedSimpArgs false
namespace Go.Proofs.YtcnpijmfgfnpiaaGreatDoor
open K Go Go.Proofs
def yQ(q:List (List Int))(tr i:Nat):List (List Int):=q.set tr (q[tr]?.getD []++[(i:Int)])
def L8(q x:List (List Int)):Prop:=x.length=q.length∧∀i:Nat,∃s,x[i]?.getD []=q[i]?.getD []++s
theorem L8.refl{q:List (List Int)}:L8 q q:=⟨rfl,fun i=>⟨[],by simp⟩⟩
theorem L8.trans{a b c:List (List Int)}(h:L8 a b)(h':L8 b c):L8 a c:=⟨h'.1.trans h.1,fun i=>by
 obtain⟨s,e⟩:=h.2 i
 obtain⟨s',e'⟩:=h'.2 i
 exact⟨s++s',by rw [e',e,List.append_assoc]⟩⟩
theorem Jr{q:List (List Int)}{tr i:Nat}(h:tr < q.length){j:Nat}:(yQ q tr i)[j]?.getD []=if j=tr then q[tr]?.getD []++[(i:Int)] else q[j]?.getD []:=by
 unfold yQ;rw [List.getElem?_set];by_cases e:tr=j
 ·subst e;simp [h]
 ·rw [if_neg e,if_neg (fun h=>e h.symm)]
theorem Q4{q:List (List Int)}{tr i:Nat}(h:tr < q.length):L8 q (yQ q tr i):=⟨by unfold yQ;rw [List.length_set],fun j=>by
 rw [Jr h]
 by_cases e:j=tr
 ·
  subst e;exact⟨[(i:Int)],by rw [if_pos rfl]⟩
 ·
  exact⟨[],by rw [if_neg e];simp⟩⟩
section
variable {k:Nat}{σ:Type}
theorem FP{q:List (List Int)}{tr i:Nat}(h:tr < q.length):(yQ q tr i).flatten.Perm (q.flatten++[(i:Int)]):=by
 unfold yQ
 induction q generalizing tr with
 |nil=>simp at h
 |cons l q ih=>
  cases tr with
  |zero=>
   simp only [List.set_cons_zero,List.getElem?_cons_zero,Option.getD_some,List.flatten_cons,List.append_assoc];exact(List.Perm.refl l).append List.perm_append_comm
  |succ tr=>
   simp only [List.set_cons_succ,List.getElem?_cons_succ,List.flatten_cons,List.append_assoc];exact(List.Perm.refl l).append (ih (by simpa using h))
structure Mk(t:bf)(q:List (List Int)):Prop where
 len:q.length=t.2.2.length
 met:vC t.2.1.length q.flatten
theorem RY{t:bf}{q:List (List Int)}(h:Mk t q){tr i:Nat}(ht:tr < q.length)(hi:i < t.2.1.length)(hn:(i:Int)∉q.flatten):Mk t (yQ q tr i):=by
 have hp:=FP (i:=i) ht;refine⟨by unfold yQ;rw [List.length_set,h.len],hp.nodup_iff.2 ?_,fun x hx=>?_⟩
 ·rw [List.nodup_append];exact⟨h.met.nd,by simp,fun a ha b hb=>by rw [List.mem_singleton] at hb;subst hb;exact fun e=>hn (e▸ha)⟩
 ·rcases List.mem_append.1 (hp.mem_iff.1 hx) with hx |hx
  ·exact h.met.rng x hx
  ·rw [List.mem_singleton] at hx;omega
end
theorem At.of{k:Nat}{t:bf}(h:yu k t)(hs:i7 k t)(ht:jX t=0){q:List (List Int)}(hq:iJ t q):At k t q:=⟨hs,h,hq.chk ht⟩
def dT(t:bf)(q:List (List Int)):Nat:=iW t t.1.toNat 0 q
def j0{α:Type}(f:α→Nat)(b:Option (α×Nat))(o:α):Option (α×Nat):=match b with
 |none=>some (o,f o)
 |some (x,n)=>if f o < n then some (o,f o) else some (x,n)
def yr{α:Type}(f:α→Nat)(l:List α):Option (α×Nat)→Prop
 |none=>l=[]
 |some (x,n)=>n=f x∧(∀y∈l,n≤f y)∧∃p s,l=p++x::s∧∀y∈p,n < f y
theorem Ae{α:Type}{f:α→Nat}:∀(l pre:List α) (b:Option (α×Nat)),yr f pre b→yr f (pre++l) (l.foldl (j0 f) b)
 |[],pre,b,h=>by simpa using h
 |o::l,pre,b,h=>by
  have h1:yr f (pre++[o]) (j0 f b o):=by
   cases b with
   |none=>
    have h:pre=[]:=h;subst h;exact⟨rfl,fun y hy=>by simp only [List.nil_append,List.mem_singleton] at hy;subst hy;exact Nat.le_refl _,[],[],rfl,by simp⟩
   |some b=>
    obtain⟨x,n⟩:=b;obtain⟨h1,h2,p,s,h3,h4⟩:=h;unfold j0;dsimp only;by_cases c:f o < n
    ·rw [if_pos c];refine⟨rfl,fun y hy=>?_,pre,[],rfl,fun y hy=>Nat.lt_of_lt_of_le c (h2 y hy)⟩;rcases List.mem_append.1 hy with hy |hy
     ·exact Nat.le_of_lt (Nat.lt_of_lt_of_le c (h2 y hy))
     ·rw [List.mem_singleton] at hy;subst hy;exact Nat.le_refl _
    ·rw [if_neg c];refine⟨h1,fun y hy=>?_,p,s++[o],by rw [h3];simp,h4⟩;rcases List.mem_append.1 hy with hy |hy
     ·exact h2 y hy
     ·rw [List.mem_singleton] at hy;subst hy;omega
  have:=Ae l (pre++[o]) _ h1;rwa [List.append_assoc] at this
theorem KW{α:Type}{f:α→Nat}(l:List α):yr f l (l.foldl (j0 f) none):=by
 have:=Ae (f:=f) l [] none rfl;simpa using this
section
variable {k:Nat}
theorem Hj{t:bf}(h:yu k t)(hs:i7 k t)(ht:jX t=0){q:List (List Int)}(hq:iJ t q):ct k t (fR q)=some (dT t q:Int):=by
 have hA:=At.of h hs ht hq;have h6:=hq.g.days;unfold ct;rw [dc (Hl hq.fit),bs,xW hA hq (by omega),bs,Int.sub_zero];rfl
end
end Go.Proofs.YtcnpijmfgfnpiaaGreatDoor
