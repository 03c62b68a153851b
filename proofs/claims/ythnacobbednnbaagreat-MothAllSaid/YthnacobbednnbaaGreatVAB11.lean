import Derived.Test.YthnacobbednnbaaGreatVAF2
open Nat
open List hiding mem_of_getElem?
open Array hiding mem_of_getElem? mk
set_option linter.unusedVariables false
set_option linter.unusedSimpArgs false
namespace Go.Proofs.YthnacobbednnbaaGreat
open K Go Go.Proofs
def W{α:Type}(x:Option α)(Q:α->Prop):Prop:=∃a,x=some a/\Q a
namespace W
variable {α β ε:Type}{Q:β->Prop}
theorem ret{a:β}(h:Q a):W (some a) Q:=⟨a,rfl,h⟩
theorem mono{x:Option β}{R:β->Prop}(h:W x R)(hq:∀a,R a->Q a):W x Q:=let ⟨a,e,r⟩:=h;⟨a,e,hq a r⟩
theorem bind{x:Option α}{f:α->Option β}{R:α->Prop}(h:W x R)(hf:∀a,R a->W (f a) Q):W (x.bind f) Q:=by
 obtain⟨a,rfl,r⟩:=h;exact hf a r
theorem ck{n:Int}{f:Int->Option β}(h1: -9223372036854775808≤n)(h2:n≤9223372036854775807)(hf:W (f n) Q):W ((K.ck n).bind f) Q:=by
 rw [K.ck,if_pos ⟨h1,h2⟩];exact hf
theorem chk{p:Prop}[Decidable p]{f:Unit->Option β}(h:p)(hf:W (f ()) Q):W ((cJ p).bind f) Q:=by
 rw [cJ,if_pos h];exact hf
theorem at_{l:List α}{i:Int}{f:α->Option β}(h0:0≤i)(h1:i < l.length)(hf:∀x,l[i.toNat]? =some x->W (f x) Q):W ((aM l i).bind f) Q:=by
 have:i.toNat < l.length:=by omega
 rw [aM,if_pos h0,List.getElem?_eq_getElem this];exact hf _ (List.getElem?_eq_getElem this)
theorem ite{p:Prop}[Decidable p]{a b:Option β}(h1:p->W a Q)(h2:¬p->W b Q):W (if p then a else b) Q:=by
 split
 .exact h1 ‹_›
 .exact h2 ‹_›
theorem iteB{p:Prop}[Decidable p]{a b:Option α}{f:α->Option β}(h1:p->W (a.bind f) Q)(h2:¬p->W (b.bind f) Q):W ((if p then a else b).bind f) Q:=by
 split
 .exact h1 ‹_›
 .exact h2 ‹_›
theorem bEE{x:Option (Except ε α)}{g:ε->Option β}{f:α->Option β}{R:Except ε α->Prop}(h:W x R)(hg:∀e,R (.error e)->W (g e) Q)(hf:∀a,R (.ok a)->W (f a) Q):W (K.bE x g f) Q:=by
 obtain⟨a,rfl,r⟩:=h;cases a with
 |error e=>exact hg e r
 |ok a=>exact hf a r
theorem loop{T:Type}{f:Nat->T->Option β}(I:Nat->T->Prop)(step:∀aF m y,I m y->(∀m' y',m' < m->I m' y'->W (f aF y') Q)->W (f (aF+1) y) Q):∀m aF y,m < aF->I m y->W (f aF y) Q:=by
 intro m
 induction m using Nat.strongRecOn with
 |_ m ih=>
  intro aF y hm hI;cases aF with
  |zero=>omega
  |succ aF=>exact step aF m y hI λm' y' h hI'=>ih m' h aF y' (by omega) hI'
end W
theorem wrap_u64(n:Int):0≤IntKind.u64.wrap n/\IntKind.u64.wrap n < 18446744073709551616:=by
 have h1:=Int.emod_nonneg n (show(18446744073709551616:Int)≠0 by decide);have h2:=Int.emod_lt_of_pos n (show(0:Int) < 18446744073709551616 by decide)
 have e:IntKind.u64.wrap n=n % 18446744073709551616:=by
  simp [IntKind.wrap,IntKind.signed,IntKind.bits]
 rw [e];exact⟨h1,h2⟩
theorem yw{n:Int}(h0:0≤n)(h1:n < 18446744073709551616):IntKind.u64.wrap n=n:=by
 have e:IntKind.u64.wrap n=n % 18446744073709551616:=by
  simp [IntKind.wrap,IntKind.signed,IntKind.bits]
 rw [e];exact Int.emod_eq_of_lt h0 h1
def Lo(l:bU)(m:Int):Prop:=0≤l.2.1/\l.2.1≤m
theorem Ko{k:Nat}{l:bU}{m:Int}(h:Lo l m)(hm:m≤1000000000):W (ia k l) λr=>0≤r.1/\r.1 < 72057594037927936/\Lo r.2 (m+1):=by
 obtain⟨h0,h1⟩:=h;unfold ia
 have fin:∀x:Int,W ((K.ck (l.2.1+1)).bind λx4=>some (gg .u64 (qf .u64 (IntKind.u64.wrap ((qf .u64 x (gg .u64 x (29:Int))) * (2685821657736338717:Int))) (gg .u64 (IntKind.u64.wrap ((qf .u64 x (gg .u64 x (29:Int))) * (2685821657736338717:Int))) (32:Int))) (8:Int),(l.1,x4,x)))
  λr=>0≤r.1/\r.1 < 72057594037927936/\Lo r.2 (m+1):=λx=>by
  refine W.ck (by omega) (by omega) (W.ret ?_)
  generalize IntKind.u64.wrap ((qf .u64 x (gg .u64 x (29:Int))) * (2685821657736338717:Int))=y
  have hx:0≤qf .u64 y (gg .u64 y 32)/\qf .u64 y (gg .u64 y 32) < 18446744073709551616:=wrap_u64 _
  have e:gg .u64 (qf .u64 y (gg .u64 y 32)) 8=(qf .u64 y (gg .u64 y 32)) / 256:=by
   unfold gg;rw [Int.fdiv_eq_ediv_of_nonneg _ (by decide)];rfl
  refine⟨?_,?_,?_,?_⟩
  .
   show 0≤gg .u64 (qf .u64 y (gg .u64 y 32)) 8;rw [e];omega
  .
   show gg .u64 (qf .u64 y (gg .u64 y 32)) 8 < _;rw [e];omega
  .
   show 0≤l.2.1+1;omega
  .
   show l.2.1+1≤m+1;omega
 refine W.iteB (λhlt=>?_) (λ_=>fin _);cases hg:aM l.1 l.2.1 with
 |some v=>exact fin _
 |none=>
  exfalso;have:l.2.1.toNat < l.1.length:=by omega
  rw [aM,if_pos h0,List.getElem?_eq_getElem this] at hg;cases hg
theorem jw{k:Nat}{l:bU}{m n:Int}(h:Lo l m)(hm:m≤1000000000)(hn:n≤1000000000):W (co k l n) λr=>0≤r.1/\(0≤n->r.1≤n)/\Lo r.2 (m+1):=by
 unfold co;refine W.ite (λh1=>W.ret ⟨Int.le_refl 0,λh=>h,h.1,by show l.2.1≤m+1;have:=h.2;omega⟩) (λh1=>?_);refine W.bind (Ko h hm) λr hr=>?_;refine W.ck (by omega) (by omega) ?_;have e:IntKind.u64.wrap (n+1)=n+1:=yw (by omega) (by omega);refine W.chk (by rw [e];omega) ?_;rw [e];have h2:Int.tmod r.1 (n+1)=r.1 % (n+1):=Int.tmod_eq_emod_of_nonneg hr.1;have h3:=Int.emod_nonneg r.1 (show n+1≠0 by omega);have h4:=Int.emod_lt_of_pos r.1 (show 0 < n+1 by omega);rw [h2];refine W.ck (by omega) (by omega) (W.ret ⟨h3,λ_=>by show r.1 % (n+1)≤n;omega,hr.2.2⟩)
theorem C7{k:Nat}{l:bU}{m a b:Int}(h:Lo l m)(hm:m≤1000000000)(ha:0≤a)(hab:a≤b)(hb:b≤1000000):W (fD k l a b) λr=>a≤r.1/\r.1≤b/\Lo r.2 (m+1):=by
 unfold fD;refine W.ck (by omega) (by omega) (W.bind (jw h hm (by omega)) λr hr=>?_);have:=hr.2.1 (by omega);refine W.ck (by omega) (by omega) (W.ret ⟨by show a≤a+r.1;omega,by show a+r.1≤b;omega,hr.2.2⟩)
theorem xk{k:Nat}{l:bU}{m a:Int}(h:Lo l m)(hm:m≤1000000000)(ha:0≤a)(hb:a≤1000000):W (fa k l a) λr=>Lo r.2 (m+1):=by
 unfold fa;exact W.ck (by omega) (by omega) (W.bind (jw h hm (by omega)) λr hr=>W.ret hr.2.2)
theorem GZ{k:Nat}{l:bU}{m:Int}{some_:List Int}(h:Lo l m)(hm:m≤1000000000)(h0:0 < some_.length)(h1:some_.length≤1000000):W (gz k l some_) λr=>r.1∈some_/\Lo r.2 (m+1):=by
 unfold gz;refine W.ck (by omega) (by omega) (W.bind (jw h hm (by omega)) λr hr=>?_);have:=hr.2.1 (by omega);refine W.at_ hr.1 (by omega) λx hx=>W.ret ⟨List.mem_of_getElem? hx,hr.2.2⟩
theorem dX{α:Type}{l:List α}{i:Nat}(h:i < l.length):aM l (i:Int)=some l[i]:=by
 rw [aM,if_pos (by omega)];exact List.getElem?_eq_getElem h
section
variable {α β γ ε σ T:Type}
theorem bs{a:α}{f:α->Option β}:(some a).bind f=f a:=by cases h:f a <;> simp [h]
theorem dj{n:Int}(h1: -9223372036854775808≤n)(h2:n≤9223372036854775807):K.ck n=some n:=by rw [K.ck,if_pos ⟨h1,h2⟩]
theorem dA{p:Prop}[Decidable p](h:p):cJ p=some ():=by rw [cJ,if_pos h]
theorem xJ{l:List α}{i:Int}(h0:0≤i)(h:i.toNat < l.length):aM l i=some l[i.toNat]:=by rw [aM,if_pos h0];exact List.getElem?_eq_getElem h
theorem ma{a:α}{g:ε->Option β}{f:α->Option β}:K.bE (some (.ok a)) g f=f a:=by cases h:f a <;> simp [K.bE,h]
theorem pq{e:ε}{g:ε->Option β}{f:α->Option β}:K.bE (some (.error e)) g f=g e:=by cases h:g e <;> simp [K.bE,h]
theorem rj{q:α}{a:β}{b:α->β}:fP (some q) a b=b q:=by unfold fP;exact Eq.refl _
theorem nk{a:β}{b:α->β}:fP none a b=a:=by unfold fP;exact Eq.refl _
theorem Ud{n:Nat}(h:n≤4294967296):bP n:=h
def uJ(g:σ->Nat->α->σ):Nat->List α->σ->σ
 |_,[],s=>s
 |j,x::l,s=>uJ g (j+1) l (g s j x)
theorem iW(l:List α)(mk:σ->Int->T)(g:σ->Nat->α->σ)(P:Nat->σ->Prop){f:Nat->T->Option β}(fin:σ->Option β)
 (step:∀n s (j:Nat) (h:j < l.length),P j s->f (n+1) (mk s j)=f n (mk (g s j l[j]) ((j:Int)+1))/\P (j+1) (g s j l[j]))
 (stop:∀n s,P l.length s->f (n+1) (mk s l.length)=fin s) {s0:σ} {n:Nat} (hn:l.length < n) (h0:P 0 s0):f n (mk s0 0)=fin (uJ g 0 l s0)/\P l.length (uJ g 0 l s0):=by
 have key:∀(m:List α) (pre:List α) (n:Nat) (s:σ),l=pre++m->m.length < n->P pre.length s->f n (mk s pre.length)=fin (uJ g pre.length m s)/\P l.length (uJ g pre.length m s):=by
  intro m
  induction m with
  |nil=>
   intro pre n s e hn hp;obtain⟨n,rfl⟩:∃n',n=n'+1:=⟨n - 1,by omega⟩;have:l.length=pre.length:=by rw [e];simp
   rw [<-this] at hp⊢;exact⟨stop n s hp,hp⟩
  |cons x m ih=>
   intro pre n s e hn hp;simp only [length_cons] at hn;obtain⟨n,rfl⟩:∃n',n=n'+1:=⟨n - 1,by omega⟩;have hl:pre.length < l.length:=by rw [e];simp
   have hx:l[pre.length]=x:=by simp [e]
   obtain⟨h1,h2⟩:=step n s pre.length hl hp;rw [hx] at h1 h2;have:=ih (pre++[x]) n (g s pre.length x) (by rw [e];simp) (by omega) (by rw [length_append];exact h2);rw [length_append] at this;simp only [length_cons,length_nil,Nat.zero_add] at this;rw [h1];exact this
 have:=key l [] n s0 rfl hn h0
 exact this
def eo(g:σ->Nat->α->Except ε σ):Nat->List α->σ->Except ε σ
 |_,[],s=>.ok s
 |j,x::l,s=>match g s j x with
  | .error e=>.error e
  | .ok s'=>eo g (j+1) l s'
theorem wC(l:List α)(mk:σ->Int->T)(g:σ->Nat->α->Except ε σ)(P:Nat->σ->Prop){f:Nat->T->Option β}(fin:Except ε σ->Option β)
 (step:∀n s (j:Nat) (h:j < l.length),P j s->(∃e,g s j l[j]= .error e/\f (n+1) (mk s j)=fin (.error e))\/(∃s',g s j l[j]= .ok s'/\f (n+1) (mk s j)=f n (mk s' ((j:Int)+1))/\P (j+1) s'))
 (stop:∀n s,P l.length s->f (n+1) (mk s l.length)=fin (.ok s)) {s0:σ} {n:Nat} (hn:l.length < n) (h0:P 0 s0):f n (mk s0 0)=fin (eo g 0 l s0):=by
 have key:∀(m:List α) (pre:List α) (n:Nat) (s:σ),l=pre++m->m.length < n->P pre.length s->f n (mk s pre.length)=fin (eo g pre.length m s):=by
  intro m
  induction m with
  |nil=>
   intro pre n s e hn hp;obtain⟨n,rfl⟩:∃n',n=n'+1:=⟨n - 1,by omega⟩;have:l.length=pre.length:=by rw [e];simp
   rw [<-this] at hp⊢;exact stop n s hp
  |cons x m ih=>
   intro pre n s e hn hp;simp only [length_cons] at hn;obtain⟨n,rfl⟩:∃n',n=n'+1:=⟨n - 1,by omega⟩;have hl:pre.length < l.length:=by rw [e];simp
   have hx:l[pre.length]=x:=by simp [e]
   rcases step n s pre.length hl hp with⟨e',h1,h2⟩ |⟨s',h1,h2,h3⟩
   .rw [hx] at h1;rw [h2,eo,h1]
   .rw [hx] at h1;have:=ih (pre++[x]) n s' (by rw [e];simp) (by omega) (by rw [length_append];exact h3);rw [length_append] at this;simp only [length_cons,length_nil,Nat.zero_add] at this;rw [h2,eo,h1];exact this
 exact key l [] n s0 rfl hn h0
end
section
variable {α β ε σ T:Type}
theorem lV(l:List α)(mk:σ->Int->T)(g:σ->Nat->α->Except ε σ)(P:Nat->σ->Prop){f:Nat->T->Option β}(fin:Except ε σ->Option β)
 (step:∀n s (j:Nat) (h:j < l.length),P j s->(f (n+1) (mk s j)=match g s j l[j] with | .error e=>fin (.error e) | .ok s'=>f n (mk s' ((j:Int)+1)))/\∀s',g s j l[j]= .ok s'->P (j+1) s')
 (stop:∀n s,P l.length s->f (n+1) (mk s l.length)=fin (.ok s)) {s0:σ} {n:Nat} (hn:l.length < n) (h0:P 0 s0):f n (mk s0 0)=fin (eo g 0 l s0):=
 wC l mk g P fin (λn s j h hp=>by
  obtain⟨h1,h2⟩:=step n s j h hp
  cases e:g s j l[j] with
  |error e'=>left;rw [e] at h1;exact⟨e',rfl,h1⟩
  |ok s'=>right;rw [e] at h1;exact⟨s',rfl,h1,h2 s' e⟩) stop hn h0
end
theorem uK{α:Type}(p:α->Bool):∀(l:List α) (j:Nat),eo (λ(_:Unit) j x=>if p x then Except.error (j:Int) else .ok ()) j l ()=match l.findIdx? p with |some i=>.error ((i+j:Nat):Int) |none=>.ok ()
 |[],j=>by simp [eo]
 |x::l,j=>by
  rw [eo,findIdx?_cons]
  by_cases h:p x=true
  .
   simp [h]
  .
   simp only [h,if_false,Bool.false_eq_true]
   rw [uK p l (j+1)]
   cases l.findIdx? p with
   |none=>rfl
   |some i=>simp only [Option.map_some];congr 2;omega
theorem QW{k:Nat}{l:List Int}{x:Int}(hk:l.length < k)(hl:l.length≤1000000):W (uF k l x) λr=>(0≤r↔x∈l):=by
 unfold uF
 have key:=W.loop (f:=kN k l x) (Q:=λr=>match r with | .error e=>0≤e/\x∈l | .ok _=>x∉l)
  (λm y=>0≤y/\y≤l.length/\m=l.length - y.toNat/\∀j:Nat,(j:Int) < y->l[j]? ≠some x) (λaF m y hI ih=>by
   obtain⟨h0,h1,hm,hj⟩:=hI;unfold kN;refine W.ite (λhlt=>W.at_ h0 hlt λv hv=>W.ite (λe=>W.ret ⟨h0,?_⟩) (λe=>W.ck (by omega) (by omega) (ih (m - 1) _ (by omega) ⟨by omega,by omega,by omega,λj hjy=>?_⟩))) (λhge=>W.ret ?_)
   .rw [<-e];exact List.mem_of_getElem? hv
   .by_cases hjy':(j:Int) < y
    .exact hj j hjy'
    .have:j=y.toNat:=by omega
     subst this;rw [hv];exact λh=>e (Option.some.inj h)
   .intro hx;obtain⟨j,hj'⟩:=List.mem_iff_getElem?.1 hx
    have:j < l.length:=by
     rcases Nat.lt_or_ge j l.length with h |h
     .exact h
     .rw [List.getElem?_eq_none h] at hj';cases hj'
    exact hj j (by omega) hj')
 refine W.bEE (key l.length k 0 hk ⟨Int.le_refl 0,by omega,by simp,λj hj=>by omega⟩) (λe he=>W.ret ⟨λ_=>he.2,λ_=>he.1⟩) (λ_ ho=>W.ret ⟨λh=>by omega,λh=>absurd h ho⟩)
theorem sW{k:Nat}{a b:List Int}(h:a.length < k)(hk:a.length≤1000000):eY k a b=some (decide (a=b)):=by
 unfold eY;by_cases hl:a.length=b.length
 .rw [if_neg (by simp [hl])]
  have key:=wC (f:=dx k a b) a (λ(_:Unit) j=>j) (λ_ j x=>if x=b[j]?.getD 0 then .ok () else Except.error false) (λ_ _=>True) (λr=>some r)
   (λn s j hj _=>by
    have hjb:j < b.length:=by omega
    have hb:b[j]?.getD 0=b[j]:=by simp [List.getElem?_eq_getElem hjb]
    have hck:ck ((j:Int)+1)=some ((j:Int)+1):=dj (by omega) (by omega);rw [hb];simp only [dx,Int.ofNat_lt,hj,if_true,dX hj,dX hjb,bs];by_cases e:a[j]=b[j] <;> simp [e,hck])
   (λn s _=>by simp [dx]) (n:=k) (s0:=()) h trivial
  rw [show dx k a b k 0=_ from key]
  have:∀(a:List Int) (j:Nat),a.length+j=b.length->eo (λ(_:Unit) j x=>if x=b[j]?.getD 0 then .ok () else Except.error false) j a ()=if a=b.drop j then .ok () else .error false:=by
   intro a
   induction a with
   |nil=>
    intro j hj;have:b.drop j=[]:=drop_eq_nil_of_le (by simp only [length_nil] at hj;omega);rw [this];simp [eo]
   |cons x a ih=>
    intro j hj;simp only [length_cons] at hj;have hjb:j < b.length:=by omega
    have hd:b.drop j=b[j]::b.drop (j+1):=drop_eq_getElem_cons hjb;have hb:b[j]?.getD 0=b[j]:=by simp [List.getElem?_eq_getElem hjb]
    rw [eo,hb,hd];by_cases e:x=b[j]
    .have h2:(x::a=b[j]::b.drop (j+1))=(a=b.drop (j+1)):=propext ⟨λh=>(List.cons.inj h).2,λh=>by rw [h,e]⟩;rw [if_pos e];simp only [h2];exact ih (j+1) (by omega)
    .have h2:¬(x::a=b[j]::b.drop (j+1)):=λh=>e (List.cons.inj h).1;rw [if_neg e];simp only [h2,if_false]
  rw [this a 0 (by omega),drop_zero];by_cases e:a=b
  .rw [if_pos e,ma,decide_eq_true e]
  .rw [if_neg e,pq,decide_eq_false e]
 .rw [if_pos (by omega),decide_eq_false (λe=>hl (by rw [e]))]
def jt(s:Int):Prop:=0≤s/\s < 256
def dR(s:Int)(i:Nat):Prop:=s.toNat.testBit i=true
instance (s:Int) (i:Nat):Decidable (dR s i):=by unfold dR;infer_instance
theorem tp{x:Nat}(h:x < 256):IntKind.u8.wrap (x:Int)=x:=by
 have e:IntKind.u8.wrap (x:Int)=(x:Int) % 256:=by simp [IntKind.wrap,IntKind.signed,IntKind.bits]
 rw [e];omega
theorem uw{s:Int}(h:jt s):∃n:Nat,n < 256/\s=n:=⟨s.toNat,by have:=h.1;have:=h.2;omega,by have:=h.1;omega⟩
theorem A5{n:Nat}(h:n < 256):(BitVec.ofInt IntKind.u8.bits (n:Int)).toNat=n:=by
 show(BitVec.ofInt 8 (n:Int)).toNat=n;rw [BitVec.ofInt_natCast,BitVec.toNat_ofNat];exact mod_eq_of_lt h
theorem HI{n m:Nat}(hn:n < 256)(hm:m < 256):n |||m < 256:=or_lt_two_pow (n:=8) hn hm
theorem Ky{n m:Nat}(hn:n < 256):n &&& m < 256:=Nat.lt_of_le_of_lt and_le_left hn
theorem Oh{a b:Int}(ha:jt a)(hb:jt b):jt (C6 .u8 a b)/\∀i,dR (C6 .u8 a b) i↔dR a i\/dR b i:=by
 obtain⟨n,hn,rfl⟩:=uw ha;obtain⟨m,hm,rfl⟩:=uw hb
 have e:C6 .u8 (n:Int) (m:Int)=((n |||m:Nat):Int):=by
  unfold C6;rw [BitVec.toNat_or,A5 hn,A5 hm];exact tp (HI hn hm)
 rw [e];refine⟨⟨by omega,by have:=HI hn hm;omega⟩,λi=>?_⟩;simp [dR,testBit_or]
theorem NX{x:Int}(h0:0≤x)(h8:x < 8):jt (ou .u8 1 x)/\∀i:Nat,dR (ou .u8 1 x) i↔(i:Int)=x:=by
 obtain⟨n,rfl⟩:=Int.eq_ofNat_of_zero_le h0;have hn:n < 8:=by omega
 have e:ou .u8 1 (n:Int)=((2 ^ n:Nat):Int):=by
  unfold ou
  have h1:min (Int.toNat (n:Int)) IntKind.u8.bits=n:=by
   show min n 8=n;omega
  rw [h1,Int.one_mul];have h2:2 ^ n < 256:=Nat.pow_lt_pow_right (by decide) hn;have h3:((2:Int) ^ n)=((2 ^ n:Nat):Int):=by simp
  rw [h3];exact tp h2
 rw [e];have h9:2 ^ n < 256:=Nat.pow_lt_pow_right (by decide) hn;refine⟨⟨Int.natCast_nonneg _,Int.ofNat_lt.2 h9⟩,λi=>?_⟩;simp only [dR,Int.toNat_natCast,testBit_two_pow,decide_eq_true_eq];omega
theorem xH{k:Nat}{s:Int}(hs:jt s){i:Nat}(hi:i < 8):eR k s (i:Int)=some (decide (dR s i)):=by
 obtain⟨n,hn,rfl⟩:=uw hs;unfold eR;rw [cJ,if_pos (by omega)];show some _=some _;congr 1
 have e1:gg .u8 (n:Int) (i:Int)=((n >>> i:Nat):Int):=by
  unfold gg
  have h1:min (Int.toNat (i:Int)) IntKind.u8.bits=i:=by
   show min i 8=i;omega
  have h3:((2:Int) ^ i)=((2 ^ i:Nat):Int):=by simp
  rw [h1,h3,Int.fdiv_eq_ediv_of_nonneg _ (Int.natCast_nonneg _),Nat.shiftRight_eq_div_pow];rfl
 have hlt:n >>> i < 256:=Nat.lt_of_le_of_lt (by rw [Nat.shiftRight_eq_div_pow];exact div_le_self _ _) hn
 have e2:qg .u8 ((n >>> i:Nat):Int) 1=(((n >>> i) &&& 1:Nat):Int):=by
  unfold qg;have h1:(BitVec.ofInt IntKind.u8.bits 1).toNat=1:=rfl;rw [BitVec.toNat_and,A5 hlt,h1];exact tp (Ky hlt)
 rw [e1,e2]
 have e3:(((n >>> i) &&& 1:Nat):Int)=1↔dR (n:Int) i:=by
  rw [dR,Int.toNat_natCast,testBit];have h5:(n >>> i) &&& 1=1 &&& (n >>> i):=Nat.and_comm _ _;rw [h5];have h4:1 &&& (n >>> i) < 2:=Nat.lt_of_le_of_lt and_le_left (by decide);simp only [bne_iff_ne,ne_eq];omega
 exact decide_eq_decide.2 e3
end Go.Proofs.YthnacobbednnbaaGreat
set_option linter.unusedVariables false
set_option linter.unusedSimpArgs false
namespace Go.Proofs.YthnacobbednnbaaGreat
open K Go Go.Proofs
abbrev mC(m:ae):Int:=m.1
abbrev mW(m:ae):Int:=m.2.1
abbrev mS(m:ae):Int:=m.2.2.1
abbrev mH(m:ae):Int:=m.2.2.2.1
abbrev mD(m:ae):List (List (List Int)):=m.2.2.2.2.1
abbrev mG(m:ae):List bz:=m.2.2.2.2.2
def zX(l:List Int)(c:Int):Option (List Int):=(l.findIdx? λy=>decide (c=y)).map λi=>(if 0 < i then [l[i-1]?.getD 0] else [])++(l[i+1]?).toList
def zY(d:List (List Int))(c:Int):Option (List Int):=d.findSome? λl=>zX l c
def Du(m:ae)(d:Nat)(c:Int):Option (List Int):=zY ((mD m)[d]?.getD []) c
def po(m:ae)(c:Int):Nat->Nat
 |0=>if(Du m 0 c).isSome then 0 else 1
 |d+1=>if(Du m (d+1) c).isSome then 0 else po m c d+1
def mg(m:ae)(B:Int->Bool):Nat->Int->Int
 |0,c=>if B c then mW m else -1
 |d+1,c=>match Du m d c with
  |none=>if mH m≤(po m c d:Int) then -1 else mg m B d c
  |some l=>if 0≤mg m B d c then mg m B d c+1 else if l.any λx=>decide (mW m≤mg m B d x) then 0 else -1
theorem Iw{m:ae}{B:Int->Bool}(hw:0≤mW m):∀{d:Nat} {c:Int}, -1≤mg m B d c
 |0,c=>by unfold mg;split <;> omega
 |d+1,c=>by
  have:=Iw (B:=B) hw (d:=d) (c:=c)
  unfold mg
  split
  .
   split <;> omega
  .
   split
   .
    omega
   .
    split <;> omega
theorem Iu{m:ae}{B:Int->Bool}(hw:mW m≤3):∀{d:Nat} {c:Int},mg m B d c≤3+d
 |0,c=>by unfold mg;split <;> omega
 |d+1,c=>by
  have:=Iu (B:=B) hw (d:=d) (c:=c)
  unfold mg
  split
  .
   split <;> omega
  .
   split
   .
    omega
   .
    split <;> omega
theorem HN{k:Nat}{l:List Int}{x:Int}(hk:l.length < k)(hl:l.length≤1000000):fZ k l x=some (match l.findIdx? (λy=>decide (x=y)) with |some i=>(i:Int) |none=> -1):=by
 unfold fZ
 have key:=lV (f:=c7 k l x) l (λ(_:Unit) j=>j) (λ_ j y=>if decide (x=y)=true then Except.error (j:Int) else .ok ()) (λ_ _=>True) (λr=>some r)
  (λn s j hj _=>by
   have hck:ck ((j:Int)+1)=some ((j:Int)+1):=dj (by omega) (by omega);refine⟨?_,λ_ _=>trivial⟩;simp only [c7,Int.ofNat_lt,hj,if_true,dX hj,bs,decide_eq_true_eq];by_cases e:x=l[j] <;> simp [e,hck])
  (λn s _=>by simp [c7]) (n:=k) (s0:=()) hk trivial
 rw [show c7 k l x k 0=_ from key,uK (λy=>decide (x=y)) l 0];cases l.findIdx? (λy=>decide (x=y)) with
 |none=>rw [ma]
 |some i=>rw [pq];simp
def mR:List Int->List Int
 |[a,b]=>if b < a then [b,a] else [a,b]
 |l=>l
theorem qE{l:List Int}{x:Int}:x∈mR l↔x∈l:=by
 unfold mR;split
 .split
  .simp [Or.comm]
  .exact Iff.rfl
 .exact Iff.rfl
theorem JF{k:Nat}{l:List Int}(hk:10≤k)(hl:l.length≤2):fH k l=some (mR l):=by
 obtain⟨k,rfl⟩:∃n,k=n+4:=⟨k - 4,by omega⟩;have e0:o9 (k+4) (IntKind.u64.wrap (0:Int))=some 0:=by kernel_rfl
 have e1:o9 (k+4) (IntKind.u64.wrap (1:Int))=some 1:=by kernel_rfl
 have e2:o9 (k+4) (IntKind.u64.wrap (2:Int))=some 2:=by kernel_rfl
 have c0:ck ((0:Int) - 0)=some 0:=rfl;have c1:ck ((1:Int) - 0)=some 1:=rfl;have c2:ck ((2:Int) - 0)=some 2:=rfl;have d1:ck ((0:Int)+1)=some 1:=rfl;have d2:ck ((1:Int)+1)=some 2:=rfl;have d3:ck ((1:Int) - 1)=some 0:=rfl;match l,hl with
 |[],_=>
  simp only [fH,length_nil,Int.ofNat_zero,e0,bs,cR,cx,bR,bb,mR,c0,d1];rfl
 |[a],_=>
  have:(([a]:List Int).length:Int)=1:=rfl;simp only [fH,this,e1,bs,cR,cx,bR,bb,mR,c1,d1];rfl
 |[a,b],_=>
  have:(([a,b]:List Int).length:Int)=2:=rfl;have g0:aM [a,b] (0:Int)=some a:=rfl;have g1:aM [a,b] (1:Int)=some b:=rfl;have hn:∀x:Int,kO (k+4) x=some false:=λx=>by simp [kO]
  have hl:∀x y:Int,oz (k+4) x y=some (decide (x < y)):=λx y=>by simp [oz,hn]
  simp only [fH,this,e2,bs,cR,cx,bR,bb,ba,c2,d1,d2,d3,g0,g1,hl];by_cases h:b < a
  .simp [h,mR,ba,bs,aM]
  .simp [h,mR,ba,bs]
end Go.Proofs.YthnacobbednnbaaGreat
set_option linter.unusedVariables false
set_option linter.unusedSimpArgs false
namespace Go.Proofs.YthnacobbednnbaaGreat
open K Go Go.Proofs
structure Vd(m:ae):Prop where
 c1:1≤mC m
 c5:mC m≤5
 w0:0≤mW m
 w3:mW m≤3
 s0:0≤mS m
 s3:mS m≤3
 h1:1≤mH m
 h3:mH m≤3
 d1:1≤(mD m).length
 d6:(mD m).length≤6
 r3:∀r∈mD m,r.length≤3
 l5:∀r∈mD m,∀l∈r,l.length≤5
 x5:∀r∈mD m,∀l∈r,∀x∈l,0≤x/\x < mC m
 nd:∀r∈mD m,r.flatten.Nodup
 g8:(mG m).length≤8
 gl:∀g∈mG m,0≤g.1/\g.1 < mC m/\0≤g.2.1/\g.2.1≤(mD m).length
theorem zW{l:List Int}{c:Int}{s:List Int}(h:zX l c=some s):s.length≤2/\∀x∈s,x∈l:=by
 unfold zX at h;cases e:l.findIdx? (λy=>decide (c=y)) with
 |none=>rw [e] at h;cases h
 |some i=>
  rw [e] at h;obtain rfl:=Option.some.inj h;have hi:i < l.length:=(List.findIdx?_eq_some_iff_getElem.1 e).1;refine⟨?_,λx hx=>?_⟩
  .rw [length_append];have:(l[i+1]?).toList.length≤1:=by cases l[i+1]? <;> simp
   split <;> simp <;> omega
  .rcases List.mem_append.1 hx with h |h
   .split at h
    .rw [List.getElem?_eq_getElem (by omega)] at h;obtain rfl:=List.mem_singleton.1 h;exact List.getElem_mem _
    .cases h
   .exact List.mem_of_getElem? (Option.mem_toList.1 h)
theorem Io{d:List (List Int)}{c:Int}{s:List Int}(h:zY d c=some s):∃l∈d,zX l c=some s:=by
 unfold zY at h;exact List.exists_of_findSome?_eq_some h
theorem uS{m:ae}(v:Vd m){d:Nat}{c:Int}{s:List Int}(h:Du m d c=some s):s.length≤2/\∀x∈s,0≤x/\x < mC m:=by
 obtain⟨l,hl,h2⟩:=Io h;cases e:(mD m)[d]? with
 |none=>rw [e] at hl;cases hl
 |some r=>
  rw [e] at hl;have h3:=zW h2;exact⟨h3.1,λx hx=>v.x5 r (List.mem_of_getElem? e) l hl x (h3.2 x hx)⟩
def O8(m:ae)(c:Int)(d:Nat):Int ⊕ List Int:=match Du m d c with
 |some s=>.inr (mR s)
 |none=>.inl (po m c d)
theorem yW{k:Nat}{c:Int}{r:List (List Int)}(hk:10≤k)(hr:r.length≤3)(hl:∀l∈r,l.length≤5):
 cE k c r k 0=some (match zY r c with |some s=>.error (.inr (mR s)) |none=>.ok ()):=by
 have key:=lV (f:=cE k c r) r (λ(_:Unit) j=>j) (λ_ _ l=>match zX l c with |some s=>Except.error (Sum.inr (mR s):Int ⊕ List Int) |none=>.ok ()) (λ_ _=>True) (λx=>some x)
  (λn s j hj _=>by
   refine⟨?_,λ_ _=>trivial⟩;have h5:=hl _ (List.getElem_mem hj);have hck:ck ((j:Int)+1)=some ((j:Int)+1):=dj (by omega) (by omega);simp only [cE,Int.ofNat_lt,hj,if_true,dX hj,bs];rw [HN (by omega) (by omega),bs];generalize r[j]=l at *;have hb:zX l c=(l.findIdx? λy=>decide (c=y)).map λi=>(if 0 < i then [l[i-1]?.getD 0] else [])++(l[i+1]?).toList:=rfl;cases e:l.findIdx? (λy=>decide (c=y)) with
   |none=>
    rw [e] at hb;simp only [Option.map_none] at hb;rw [hb];simp [hck,bs]
   |some i=>
    rw [e] at hb;simp only [Option.map_some] at hb;have hi:i < l.length:=(List.findIdx?_eq_some_iff_getElem.1 e).1;rw [hb];have hlen:=(zW hb).1;have c1:ck ((i:Int) - 1)=some ((i:Int) - 1):=dj (by omega) (by omega);have c2:ck ((i:Int)+1)=some ((i:Int)+1):=dj (by omega) (by omega);have ok0:cJ (bP (length ([]:List Int)+length [l[i-1]?.getD 0]))=some ():=dA (by simp [bP]);simp only [show(0:Int)≤(i:Int) from Int.natCast_nonneg _,if_true,c1,c2,bs]
    have e1:(if(0:Int) < (i:Int) then((aM l ((i:Int) - 1)).bind λx11=>(cJ (bP (length ([]:List Int)+length [x11]))).bind λ_=>some (([]:List Int)++[x11])) else some ([]:List Int))=some (if 0 < i then [l[i-1]?.getD 0] else []):=by
     by_cases h0:0 < i
     .have g:aM l ((i:Int) - 1)=some (l[i-1]?.getD 0):=by
       have:((i:Int) - 1)=((i - 1:Nat):Int):=by omega
       rw [this,dX (by omega),List.getElem?_eq_getElem (by omega:i - 1 < l.length)];rfl
      rw [if_pos (by omega),if_pos h0,g,bs,ok0,bs];rfl
     .rw [if_neg (by omega),if_neg h0]
    rw [e1,bs];generalize (if 0 < i then [l[i-1]?.getD 0] else [])=p at *
    have e2:(if(i:Int)+1 < (l.length:Int) then((aM l ((i:Int)+1)).bind λx18=>(cJ (bP (length p+length [x18]))).bind λ_=>some (p++[x18])) else some p)=some (p++(l[i+1]?).toList):=by
     by_cases h1:i+1 < l.length
     .have g:aM l ((i:Int)+1)=some l[i+1]:=by
       have:((i:Int)+1)=((i+1:Nat):Int):=by omega
       rw [this,dX h1]
      rw [if_pos (by omega),g,bs,List.getElem?_eq_getElem h1];rw [List.getElem?_eq_getElem h1] at hlen;rw [dA (by rw [length_append] at hlen;simp at hlen;simp [bP];omega),bs];rfl
     .rw [if_neg (by omega),List.getElem?_eq_none (by omega)];simp
    rw [e2,bs,JF (by omega) hlen,bs])
  (λn s _=>by simp [cE]) (n:=k) (s0:=()) (by omega) trivial
 rw [show cE k c r k 0=_ from key]
 congr 1
 have:∀(r:List (List Int)) (j:Nat),eo (λ(_:Unit) _ l=>match zX l c with |some s=>Except.error (Sum.inr (mR s):Int ⊕ List Int) |none=>.ok ()) j r ()=match zY r c with |some s=>.error (.inr (mR s)) |none=>.ok ():=by
  intro r
  induction r with
  |nil=>intro j;rfl
  |cons l r ih=>
   intro j;rw [eo];unfold zY;rw [findSome?_cons];cases zX l c with
   |none=>exact ih (j+1)
   |some s=>rfl
 exact this r 0
theorem Dq{m:ae}{c:Int}:∀{d:Nat},po m c d≤d+1
 |0=>by unfold po;split <;> omega
 |d+1=>by have:=Dq (m:=m) (c:=c) (d:=d);unfold po;split <;> omega
theorem ua{k:Nat}{m:ae}{c:Int}(v:Vd m)(hk:10≤k):∀(d m0:Nat),d < m0->d < (mD m).length->dV k m0 m c (d:Int)=some (O8 m c d)
 |d,0,h,_=>absurd h (not_lt_zero _)
 |d,m0+1,h,hd=>by
  have hm:=List.getElem_mem hd
  unfold dV
  rw [dX hd,bs,yW hk (v.r3 _ hm) (v.l5 _ hm)]
  have hbes:Du m d c=zY (mD m)[d] c:=by unfold Du;rw [List.getElem?_eq_getElem hd];rfl
  cases e:zY (mD m)[d] c with
  |some s=>
   rw [pq]
   unfold O8
   rw [hbes,e]
  |none=>
   rw [ma]
   unfold O8
   rw [hbes,e]
   match d,hd,h with
   |0,hd,h=>
    rw [hbes.symm] at e
    simp [po,e]
   |d+1,hd,h=>
    have h6:=v.d6
    have c1:ck (((d+1:Nat):Int) - 1)=some (d:Int):=by rw [dj (by omega) (by omega)];congr 1;omega
    have ih:=ua v hk d m0 (by omega) (by omega) (c:=c)
    rw [if_pos (by omega),c1,bs,ih,bs]
    rw [hbes.symm] at e
    have hcold:po m c (d+1)=po m c d+1:=by rw [po,e];rfl
    have hle:=Dq (m:=m) (c:=c) (d:=d)
    unfold O8
    cases e2:Du m d c with
    |some s=>
     simp only [JP]
     have:po m c d=0:=by cases d <;> simp [po,e2]
     simp [hcold,this]
    |none=>
     have c2:ck ((1:Int)+(po m c d:Int))=some ((1:Int)+(po m c d:Int)):=dj (by omega) (by omega)
     simp only [JP,PQ,c2,bs,if_true,hcold]
     congr 2
     omega
end Go.Proofs.YthnacobbednnbaaGreat
set_option linter.unusedVariables false
set_option linter.unusedSimpArgs false
namespace Go.Proofs.YthnacobbednnbaaGreat
open K Go Go.Proofs
def ky(f:Int->Int):List Int:=[f 0,f 1,f 2,f 3,f 4]
def upd(f:Int->Int)(c v:Int):Int->Int:=λx=>if x=c then v else f x
theorem TU{c:Int}(h0:0≤c)(h:c < 5):c=0\/c=1\/c=2\/c=3\/c=4:=by omega
theorem xf{f:Int->Int}{c:Int}(h0:0≤c)(h:c < 5):aM (ky f) c=some (f c):=by
 rcases TU h0 h with rfl |rfl |rfl |rfl |rfl <;> rfl
theorem CL{f:Int->Int}{c v:Int}(h0:0≤c)(h:c < 5):List.set (ky f) (Int.toNat c) v=ky (upd f c v):=by
 rcases TU h0 h with rfl |rfl |rfl |rfl |rfl <;> rfl
theorem mz{f g:Int->Int}(h:∀c,0≤c->c < 5->f c=g c):ky f=ky g:=by
 unfold ky;rw [h 0 (by decide) (by decide),h 1 (by decide) (by decide),h 2 (by decide) (by decide),h 3 (by decide) (by decide),h 4 (by decide) (by decide)]
def PN(m:ae)(f:Int->Int)(d:Nat)(c:Int):Int:=match Du m d c with
 |none=>if mH m≤(po m c d:Int) then -1 else f c
 |some l=>if 0≤f c then f c+1 else if l.any λx=>decide (mW m≤f x) then 0 else -1
def O9(m:ae)(f:Int->Int)(d:Nat):Int->Int:=λc=>if 0≤c/\c < mC m then PN m f d c else f c
theorem vu{k:Nat}{m:ae}{f:Int->Int}(hw:0≤mW m){s:List Int}(hs:s.length < k)(hs2:s.length≤1000)(hx:∀x∈s,0≤x/\x < 5):
 bS k m (ky f) s k 0=some (match s.find? (λx=>decide (mW m≤f x)) with |some x=>.error x |none=>.ok ()):=by
 have key:=lV (f:=bS k m (ky f) s) s (λ(_:Unit) j=>j) (λ_ _ x=>if decide (mW m≤f x)=true then Except.error x else .ok ()) (λ_ _=>True) (λx=>some x)
  (λn _ j hj _=>by
   refine⟨?_,λ_ _=>trivial⟩;have h5:=hx _ (List.getElem_mem hj);have hck:ck ((j:Int)+1)=some ((j:Int)+1):=dj (by omega) (by omega);have him:sw (0:Int) m.2.1=mW m:=by show sw 0 (mW m)=mW m;unfold sw;split <;> omega
   simp only [bS,Int.ofNat_lt,hj,if_true,dX hj,bs,dA h5,xf h5.1 h5.2,him,hck,decide_eq_true_eq];by_cases e:mW m≤f s[j] <;> simp [e])
  (λn s _=>by simp [bS]) (n:=k) (s0:=()) hs trivial
 rw [show bS k m (ky f) s k 0=_ from key]
 congr 1
 have:∀(s:List Int) (j:Nat),eo (λ(_:Unit) _ x=>if decide (mW m≤f x)=true then Except.error x else .ok ()) j s ()=match s.find? (λx=>decide (mW m≤f x)) with |some x=>.error x |none=>.ok ():=by
  intro s
  induction s with
  |nil=>intro j;rfl
  |cons x s ih=>
   intro j;rw [eo,find?_cons];cases h:decide (mW m≤f x) with
   |true=>simp
   |false=>simp only [Bool.false_eq_true,if_false];exact ih (j+1)
 exact this s 0
theorem yO{s:List Int}:(mR s).length=s.length:=by
 unfold mR;split
 .split <;> rfl
 .rfl
def Js(m:ae)(f:Int->Int)(l:List Int):Int:=((mR l).find? λx=>decide (mW m≤f x)).getD (-1)
theorem AO{k:Nat}{m:ae}{f:Int->Int}{c:Int}{d:Nat}(v:Vd m)(hk:10≤k)(hd:d < (mD m).length){l:List Int}(h:Du m d c=some l):
 dp k m (ky f) c (d:Int)=some (Js m f l):=by
 have h6:=v.d6
 have c5:=v.c5
 have hb:=uS v h
 unfold dp
 rw [ua v hk d k (by omega) hd,bs]
 unfold O8
 rw [h]
 have e1:Il (Sum.inr (mR l):Int ⊕ List Int) (λn=>io k n) (λl=>il k l)=some (mR l):=rfl
 rw [e1,bs,vu v.w0 (by rw [yO];omega) (by rw [yO];omega) λx hx=>by have:=hb.2 x (qE.1 hx);omega]
 unfold Js
 cases(mR l).find? λx=>decide (mW m≤f x) with
 |none=>rw [ma];rfl
 |some x=>rw [pq];rfl
theorem Jr{m:ae}{f:Int->Int}{l:List Int}(hx:∀x∈l,0≤x):0≤Js m f l↔(l.any λx=>decide (mW m≤f x))=true:=by
 unfold Js;rw [List.any_eq_true];cases e:(mR l).find? λx=>decide (mW m≤f x) with
 |none=>
  simp only [Option.getD_none];have:=List.find?_eq_none.1 e;constructor
  .intro h;omega
  .rintro⟨x,hx,h⟩;exact absurd h (this x (qE.2 hx))
 |some x=>
  have h1:=List.mem_of_find?_eq_some e;have h2:=List.find?_some e;exact⟨λ_=>⟨x,qE.1 h1,h2⟩,λ_=>hx x (qE.1 h1)⟩
theorem Hz{k:Nat}{m:ae}{f:Int->Int}{d:Nat}(v:Vd m)(hk:10≤k)(hd:d < (mD m).length)(hf:∀c,0≤c->c < mC m-> -1≤f c/\f c≤1000):
 gy k m (ky f) (d:Int)=some (ky (O9 m f d)):=by
 have c5:=v.c5
 have c1:=v.c1
 have h6:=v.d6
 unfold gy
 have key:=iW (T:=List Int×Int) (f:=cj k m (ky f) (d:Int)) (List.range (mC m).toNat) (λ(g:Int->Int) j=>(ky g,j)) (λg j _=>upd g (j:Int) (PN m f d (j:Int))) (λj g=>g=λc=>if 0≤c/\c < (j:Int) then PN m f d c else f c) (λg=>some (ky g))
  (λn g j hj hg=>by
   rw [length_range] at hj;have j0:(0:Int)≤(j:Int):=Int.natCast_nonneg _;have j1:(j:Int) < mC m:=by omega
   have j5:(j:Int) < 5:=by omega
   have hck:ck ((j:Int)+1)=some ((j:Int)+1):=dj (by omega) (by omega);have hp:cJ ((0:Int)≤(j:Int)/\(j:Int) < 5)=some ():=dA ⟨j0,j5⟩;have hgj:g (j:Int)=f (j:Int):=by rw [hg];simp
   have hfj:=hf _ j0 j1;refine⟨?_,?_⟩
   .have hm1:(m.1:Int)=mC m:=rfl;have hm2:m.2.2.2.1=mH m:=rfl;simp only [cj,hm1,hm2,j1,if_true,ua v hk d k (by omega) hd,bs,hp,xf j0 j5,hck,CL j0 j5];unfold O8 PN;cases e:Du m d (j:Int) with
    |none=>
     simp only [JP,PQ,if_true];by_cases hh:mH m≤(po m (j:Int) d:Int)
     .simp only [hh,if_true,bs]
     .simp only [hh,if_false,bs];refine congrArg (λr=>cj k m (ky f) (d:Int) n (r,(j:Int)+1)) (mz λc _ _=>?_);unfold upd;split
      .rename_i e;rw [e,hgj]
      .rfl
    |some l=>
     have hb:=uS v e;simp only [JP,Bool.false_eq_true,if_false,not_false_eq_true,if_true];by_cases h0:0≤f (j:Int)
     .have hck2:ck (f (j:Int)+1)=some (f (j:Int)+1):=dj (by omega) (by omega);simp only [h0,if_true,hck2,bs]
     .simp only [h0,if_false,AO v hk hd e,bs];have ht:=Jr (m:=m) (f:=f) (l:=l) λx hx=>(hb.2 x hx).1;by_cases hany:(l.any λx=>decide (mW m≤f x))=true
      .rw [if_pos (ht.2 hany),bs,if_pos hany]
      .rw [if_neg λh=>hany (ht.1 h),bs,if_neg hany];refine congrArg (λr=>cj k m (ky f) (d:Int) n (r,(j:Int)+1)) (mz λc _ _=>?_);unfold upd;split
       .rename_i e;rw [e,hgj];omega
       .rfl
   .rw [hg];funext c;unfold upd;by_cases e:c=(j:Int)
    .subst e;simp [j0];intro h;omega
    .simp only [e,if_false];by_cases h:0≤c/\c < (j:Int)
     .rw [if_pos h,if_pos (by omega)]
     .rw [if_neg h,if_neg (by omega)])
  (λn g hg=>by
   rw [length_range];have:((mC m).toNat:Int)=mC m:=by omega
   rw [this];unfold cj;rw [if_neg (by show¬(mC m < mC m);omega)]) (n:=k) (s0:=f) (by rw [length_range];omega) (by funext c;simp;intro h;omega)
 rw [show cj k m (ky f) (d:Int) k (ky f,0)=_ from key.1,bs]
 congr 1
 refine mz λc _ _=>?_
 rw [key.2,length_range]
 unfold O9
 have:((mC m).toNat:Int)=mC m:=by omega
 rw [this]
end Go.Proofs.YthnacobbednnbaaGreat
set_option linter.unusedVariables false
set_option linter.unusedSimpArgs false
namespace Go.Proofs.YthnacobbednnbaaGreat
open K Go Go.Proofs
def cr(F:Nat->Int->Int):List (List Int):=[ky (F 0),ky (F 1),ky (F 2),ky (F 3),ky (F 4),ky (F 5),ky (F 6)]
def AK(F:Nat->Int->Int)(n:Nat)(f:Int->Int):Nat->Int->Int:=λi=>if i=n then f else F i
theorem TS{n:Nat}(h:n < 7):n=0\/n=1\/n=2\/n=3\/n=4\/n=5\/n=6:=by omega
theorem BN{F:Nat->Int->Int}{n:Nat}(h:n < 7):aM (cr F) (n:Int)=some (ky (F n)):=by
 rcases TS h with rfl |rfl |rfl |rfl |rfl |rfl |rfl <;> rfl
theorem OF{F:Nat->Int->Int}{n:Nat}{f:Int->Int}(h:n < 7):List.set (cr F) n (ky f)=cr (AK F n f):=by
 rcases TS h with rfl |rfl |rfl |rfl |rfl |rfl |rfl <;> rfl
def OK(m:ae)(B:Int->Bool):Nat->Int->Int
 |0=>λc=>if B c then mW m else -1
 |n+1=>O9 m (OK m B n) n
theorem yg{m:ae}(v:Vd m){B:Int->Bool}:∀(n:Nat) (c:Int),0≤c->c < mC m->OK m B n c=mg m B n c
 |0,c,_,_=>rfl
 |n+1,c,h0,h1=>by
  have ih:=yg v (B:=B) n
  show O9 m (OK m B n) n c=mg m B (n+1) c
  unfold O9
  rw [if_pos ⟨h0,h1⟩]
  unfold PN mg
  cases e:Du m n c with
  |none=>simp only [];rw [ih c h0 h1]
  |some l=>
   have hb:=(uS v e).2
   have:(l.any λx=>decide (mW m≤OK m B n x))=l.any λx=>decide (mW m≤mg m B n x):=by
    rw [Bool.eq_iff_iff];simp only [List.any_eq_true,decide_eq_true_eq];constructor
    .rintro⟨x,hx,h⟩;exact⟨x,hx,by rw [<-ih x (hb x hx).1 (hb x hx).2];exact h⟩
    .rintro⟨x,hx,h⟩;exact⟨x,hx,by rw [ih x (hb x hx).1 (hb x hx).2];exact h⟩
   simp only [];rw [ih c h0 h1,this]
def Ft(m:ae)(B:Int->Bool):Nat->Int->Int:=λn=>if n≤(mD m).length then OK m B n else λ_=>0
def l9(S:Int):Int->Bool:=λc=>decide (dR S c.toNat)
theorem Gn{k:Nat}{m:ae}{S:Int}(hk:10≤k)(hS:jt S):eN k m S=some (ky λc=>if l9 S c then mW m else -1):=by
 unfold eN
 have key:=iW (T:=List Int×Int) (f:=cD k m S) (List.range 5) (λ(g:Int->Int) j=>(ky g,j)) (λg j _=>upd g (j:Int) (if l9 S (j:Int) then mW m else -1)) (λj g=>∀c,0≤c->c < (j:Int)->g c=if l9 S c then mW m else -1) (λg=>some (ky g))
  (λn g j hj hg=>by
   rw [length_range] at hj;have j0:(0:Int)≤(j:Int):=Int.natCast_nonneg _;have j5:(j:Int) < 5:=by omega
   have hck:ck ((j:Int)+1)=some ((j:Int)+1):=dj (by omega) (by omega);have hp:cJ ((0:Int)≤(j:Int)/\(j:Int) < 5)=some ():=dA ⟨j0,j5⟩;have hp':cJ ((0:Int)≤(j:Int)/\True)=some ():=dA ⟨j0,trivial⟩;refine⟨?_,?_⟩
   .simp only [cD,j5,if_true,hp,hp',bs,xH (k:=k) hS (by omega:j < 8),hck,CL j0 j5];have hin:l9 S (j:Int)=decide (dR S j):=by unfold l9;rw [Int.toNat_natCast]
    rw [hin];cases hh:decide (dR S j) with
    |true=>
     simp only [if_true,bs];refine congrArg (λr=>cD k m S n (r,(j:Int)+1)) (mz λc _ _=>?_);unfold upd;split <;> rfl
    |false=>simp only [Bool.false_eq_true,if_false,bs]
   .intro c hc0 hc1;unfold upd;by_cases e:c=(j:Int)
    .rw [if_pos e,e]
    .rw [if_neg e];exact hg c hc0 (by omega))
  (λn g hg=>by
   rw [length_range];unfold cD;rw [if_neg (show¬(((5:Nat):Int) < 5) by decide)]) (n:=k) (s0:=λ_=>0) (by rw [length_range];omega) (λc h0 h1=>by omega)
 have e0:([(0:Int),(0:Int),(0:Int),(0:Int),(0:Int)]:List Int)=ky λ_=>0:=rfl;rw [e0,show cD k m S k (ky λ_=>0,0)=_ from key.1,bs];refine congrArg some (mz λc h0 h5=>?_);have:=key.2;rw [length_range] at this;exact this c h0 h5
theorem sL{k:Nat}{m:ae}{S:Int}(v:Vd m)(hk:10≤k)(hS:jt S):lI k m S=some (cr (Ft m (l9 S))):=by
 have d6:=v.d6;have d1:=v.d1;have w0:=v.w0;have w3:=v.w3;unfold lI ji;have hm:cJ (0≤S/\S < 256)=some ():=dA hS;have hp0:cJ ((0:Int)≤0/\(0:Int) < 7)=some ():=dA ⟨by omega,by omega⟩;rw [hm,bs,Gn hk hS,bs,hp0,bs]
 have key:=iW (T:=List (List Int)×Int) (f:=bL k m) (mD m) (λ(F:Nat->Int->Int) j=>(cr F,j)) (λF j _=>AK F (j+1) (O9 m (F j) j)) (λj F=>F=λn=>if n≤j then OK m (l9 S) n else λ_=>0) (λF=>some (cr F))
  (λn F j hj hF=>by
   have j0:(0:Int)≤(j:Int):=Int.natCast_nonneg _;have hck:ck ((j:Int)+1)=some ((j:Int)+1):=dj (by omega) (by omega);have hp:cJ ((0:Int)≤(j:Int)/\(j:Int) < 7)=some ():=dA ⟨j0,by omega⟩;have hp2:cJ ((0:Int)≤(j:Int)+1/\(j:Int)+1 < 7)=some ():=dA ⟨by omega,by omega⟩;have hFj:F j=OK m (l9 S) j:=by rw [hF];simp
   have hj':(j:Int) < (m.2.2.2.2.1.length:Int):=Int.ofNat_lt.2 hj
   have hnx:=Hz (k:=k) (f:=F j) v hk hj (λc h0 h1=>by
    rw [hFj,yg v j c h0 h1];have:=Iw (B:=l9 S) w0 (d:=j) (c:=c);have:=Iu (B:=l9 S) w3 (d:=j) (c:=c);omega)
   refine⟨?_,?_⟩
   .simp only [bL,hj',if_true,hck,hp,bs,BN (F:=F) (show j < 7 by omega),hnx,hp2];have e:Int.toNat ((j:Int)+1)=j+1:=by omega
    rw [e,OF (by omega)]
   .rw [hF];funext i;unfold AK;by_cases e:i=j+1
    .subst e;simp only [if_true,Nat.le_refl];rfl
    .simp only [e,if_false];by_cases h:i≤j
     .rw [if_pos h,if_pos (by omega)]
     .rw [if_neg h,if_neg (by omega)])
  (λn F hF=>by
   unfold bL;rw [if_neg (by show¬((m.2.2.2.2.1.length:Int) < _);exact Int.lt_irrefl _)]) (n:=k) (s0:=AK (λ_ _=>0) 0 (λc=>if l9 S c then mW m else -1)) (by omega) (by
   funext n;unfold AK;by_cases e:n=0
   .subst e;rfl
   .rw [if_neg e,if_neg (by omega)])
 have e0:List.set sJ (Int.toNat 0) (ky λc=>if l9 S c then mW m else -1)=cr (AK (λ_ _=>0) 0 (λc=>if l9 S c then mW m else -1)):=rfl;rw [e0,show bL k m k (cr (AK (λ_ _=>0) 0 (λc=>if l9 S c then mW m else -1)),0)=_ from key.1,bs];rw [key.2];rfl
theorem Dp{m:ae}(v:Vd m){B:Int->Bool}{n:Nat}{c:Int}(hn:n≤(mD m).length)(h0:0≤c)(h1:c < mC m):Ft m B n c=mg m B n c:=by
 unfold Ft;rw [if_pos hn,yg v n c h0 h1]
end Go.Proofs.YthnacobbednnbaaGreat
set_option linter.unusedVariables false
set_option linter.unusedSimpArgs false
namespace Go.Proofs.YthnacobbednnbaaGreat
open K Go Go.Proofs
def wk{σ:Type}(bad:σ->Int->Option Int)(add:σ->Int->σ):List Int->σ->Except Int σ
 |[],s=>.ok s
 |x::l,s=>match bad s x with
  |some e=>.error e
  |none=>wk bad add l (add s x)
theorem wX{σ:Type}{bad:σ->Int->Option Int}{add:σ->Int->σ}:∀(l:List Int) (j:Nat) (s:σ),eo (λs _ x=>match bad s x with |some e=>Except.error e |none=>.ok (add s x)) j l s=wk bad add l s
 |[],j,s=>rfl
 |x::l,j,s=>by
  rw [eo,wk]
  cases bad s x with
  |some e=>rfl
  |none=>exact wX l (j+1) (add s x)
theorem vQ{σ:Type}{bad:σ->Int->Option Int}{add:σ->Int->σ}:∀(a b:List Int) (s:σ),wk bad add (a++b) s=match wk bad add a s with | .error e=>.error e | .ok s'=>wk bad add b s'
 |[],b,s=>rfl
 |x::a,b,s=>by
  rw [cons_append,wk,wk]
  cases bad s x with
  |some e=>rfl
  |none=>exact vQ a b (add s x)
theorem Cm{σ:Type}{bad:σ->Int->Option Int}{add:σ->Int->σ}:∀(r:List (List Int)) (j:Nat) (s:σ),eo (λs _ l=>wk bad add l s) j r s=wk bad add r.flatten s
 |[],j,s=>rfl
 |l::r,j,s=>by
  rw [eo,flatten_cons,vQ]
  cases wk bad add l s with
  |error e=>rfl
  |ok s'=>exact Cm r (j+1) s'
theorem FT{σ τ:Type}{b1:σ->Int->Option Int}{a1:σ->Int->σ}{b2:τ->Int->Option Int}{a2:τ->Int->τ}(R:σ->τ->Prop)(hb:∀s t x,R s t->b1 s x=b2 t x)(ha:∀s t x,R s t->b1 s x=none->R (a1 s x) (a2 t x)):
 ∀(l:List Int) (s:σ) (t:τ),R s t->(∃e,wk b1 a1 l s= .error e/\wk b2 a2 l t= .error e)\/∃s' t',wk b1 a1 l s= .ok s'/\wk b2 a2 l t= .ok t'/\R s' t'
 |[],s,t,h=>.inr ⟨s,t,rfl,rfl,h⟩
 |x::l,s,t,h=>by
  rw [wk,wk,<-hb s t x h]
  cases e:b1 s x with
  |some c=>exact .inl ⟨c,rfl,rfl⟩
  |none=>exact FT R hb ha l _ _ (ha s t x h e)
theorem AD{σ:Type}{bad:σ->Int->Option Int}{add:σ->Int->σ}(P:σ->Prop)(hs:∀s x,P s->bad s x=none->P (add s x)):∀(l:List Int) (s s':σ),P s->wk bad add l s= .ok s'->P s'
 |[],s,s',h,e=>by cases e;exact h
 |x::l,s,s',h,e=>by
  rw [wk] at e
  cases hb:bad s x with
  |some c=>rw [hb] at e;cases e
  |none=>rw [hb] at e;exact AD P hs l _ s' (hs s x h hb) e
theorem kK{k:Nat}{a b c:Int}:dD k a b c=some (decide (b≤a/\a≤c)):=by
 unfold dD;by_cases h:b≤a <;> simp [h]
theorem Rt{n:Int}(h:1≤n/\n≤5):ck (n - 1)=some (n - 1):=dj (by omega) (by omega)
def Az(C:Int)(s x:Int):Option Int:=if¬(0≤x/\x < C) then some 3 else if dR s x.toNat then some 4 else none
def vk(s x:Int):Int:=C6 .u8 s (ou .u8 1 x)
def Ax(C:Int)(s:List Int)(x:Int):Option Int:=if¬(0≤x/\x < C) then some 3 else if x∈s then some 4 else none
def Dz(s:List Int)(x:Int):List Int:=s++[x]
theorem ux:jt 0:=⟨by decide,by decide⟩
theorem MV{C s x:Int}(h:Az C s x=none):0≤x/\x < C:=by
 unfold Az at h;split at h
 .cases h
 .rename_i h';exact Decidable.not_not.1 h'
theorem mP{k:Nat}{s x:Int}(hs:jt s)(h0:0≤x)(h8:x < 8):fN k s x=some (vk s x)/\jt (vk s x)/\∀i:Nat,dR (vk s x) i↔dR s i\/(i:Int)=x:=by
 have h1:=NX h0 h8;have h2:=Oh hs h1.1;refine⟨?_,h2.1,λi=>?_⟩
 .unfold fN;rw [dA h0,bs];rfl
 .show dR (C6 .u8 s (ou .u8 1 x)) i↔_;rw [h2.2 i,h1.2 i]
theorem zZ{C s x:Int}(hC:C≤5)(hs:jt s)(h:Az C s x=none):jt (vk s x):=by
 have:=MV h;exact(mP (k:=0) hs this.1 (by omega)).2.1
def ri(C:Int)(r:List (List Int)):Int:=if 3 < r.length then 6 else match wk (Ax C) Dz r.flatten [] with | .error e=>e | .ok _=>0
theorem EM{k:Nat}{m:ae}(hC:1≤mC m/\mC m≤5){l:List Int}(hk:l.length < k)(hl:l.length≤1000){s:Int}(hs:jt s):
 cV k m l k (s,0)=some (wk (Az (mC m)) vk l s):=by
 have key:=lV (T:=Int×Int) (f:=cV k m l) l (λ(s:Int) j=>(s,j)) (λs _ x=>match Az (mC m) s x with |some e=>Except.error e |none=>.ok (vk s x)) (λ_ s=>jt s) (λr=>some r)
  (λn s j hj hs=>by
   have hck:ck ((j:Int)+1)=some ((j:Int)+1):=dj (by omega) (by omega);have hc:ck (m.1 - 1)=some (m.1 - 1):=Rt hC;refine⟨?_,λs' e=>?_⟩
   .simp only [cV,Int.ofNat_lt,hj,if_true,dX hj,bs,hc,kK];generalize l[j]=x;by_cases h:0≤x/\x < mC m
    .have h':0≤x/\x≤m.1 - 1:=⟨h.1,by have:x < m.1:=h.2;omega⟩;have hh:=xH (k:=k) hs (i:=x.toNat) (by omega);have ex:((x.toNat:Nat):Int)=x:=by omega
     rw [ex] at hh;simp only [h',and_self,decide_true,not_true_eq_false,if_false,hh,bs];have eb:Az (mC m) s x=if dR s x.toNat then some 4 else none:=by unfold Az;rw [if_neg (λhn=>hn h)]
     rw [eb];by_cases h2:dR s x.toNat
     .simp only [h2,decide_true,if_true]
     .simp only [h2,decide_false,Bool.false_eq_true,if_false,(mP (k:=k) hs h.1 (by omega)).1,bs,hck]
    .have h':¬(0≤x/\x≤m.1 - 1):=λhh=>h ⟨hh.1,by show x < m.1;omega⟩;have eb:Az (mC m) s x=some 3:=by unfold Az;rw [if_pos h]
     rw [eb];simp only [h',decide_false,Bool.false_eq_true,not_false_eq_true,if_true]
   .cases e2:Az (mC m) s l[j] with
    |some c=>rw [e2] at e;cases e
    |none=>rw [e2] at e;cases e;exact zZ hC.2 hs e2)
  (λn s _=>by simp [cV]) (n:=k) (s0:=s) hk hs
 rw [show cV k m l k (s,0)=_ from key,wX]
theorem EN{k:Nat}{m:ae}(hC:1≤mC m/\mC m≤5){r:List (List Int)}(hk:r.length < k)(hr:r.length≤1000)(hl:∀l∈r,l.length < k/\l.length≤1000):
 cX k m r k (0,0)=some (match wk (Az (mC m)) vk r.flatten 0 with | .error e=>.error e | .ok _=>.ok ()):=by
 have key:=lV (T:=Int×Int) (f:=cX k m r) r (λ(s:Int) j=>(s,j)) (λs _ l=>wk (Az (mC m)) vk l s) (λ_ s=>jt s) (λx=>some (match x with | .error e=>Except.error e | .ok _=>.ok ()))
  (λn s j hj hs=>by
   have hck:ck ((j:Int)+1)=some ((j:Int)+1):=dj (by omega) (by omega);have hlj:=hl _ (List.getElem_mem hj);refine⟨?_,λs' e=>AD jt (λs x=>zZ hC.2) _ _ _ hs e⟩;simp only [cX,Int.ofNat_lt,hj,if_true,dX hj,bs,EM hC hlj.1 hlj.2 hs];cases wk (Az (mC m)) vk r[j] s with
   |error e=>rw [pq]
   |ok s'=>rw [ma,hck,bs])
  (λn s _=>by simp [cX]) (n:=k) (s0:=0) hk ux
 rw [show cX k m r k (0,0)=_ from key,Cm]
theorem K4{C:Int}(hC:C≤5)(l:List Int):(∃e,wk (Az C) vk l 0= .error e/\wk (Ax C) Dz l []= .error e)\/∃s t,wk (Az C) vk l 0= .ok s/\wk (Ax C) Dz l []= .ok t/\(jt s/\∀i:Nat,dR s i↔(i:Int)∈t):=by
 refine FT (λs t=>jt s/\∀i:Nat,dR s i↔(i:Int)∈t) (λs t x h=>?_) (λs t x h hb=>?_) l 0 [] ⟨ux,λi=>by simp [dR]⟩
 .unfold Az Ax;by_cases hx:0≤x/\x < C
  .have e:((x.toNat:Nat):Int)=x:=by omega
   have:=h.2 x.toNat;rw [e] at this;simp only [hx,and_self,not_true_eq_false,if_false,this]
  .rw [if_pos hx,if_pos hx]
 .have hx:=MV hb;have hw:=mP (k:=0) h.1 hx.1 (by omega);refine⟨hw.2.1,λi=>?_⟩;rw [hw.2.2 i,h.2 i];unfold Dz;simp
theorem Ku{k:Nat}{m:ae}(hC:1≤mC m/\mC m≤5){r:List (List Int)}(hk:1000 < k)(hr:r.length≤1000)(hl:∀l∈r,l.length≤1000):iQ k m r=some (ri (mC m) r):=by
 unfold iQ ri;by_cases h3:3 < r.length
 .rw [if_pos (by omega),if_pos h3]
 .rw [if_neg (by omega),if_neg h3,EN hC (by omega) hr λl hh=>⟨by have:=hl l hh;omega,hl l hh⟩];rcases K4 hC.2 r.flatten with⟨e,h1,h2⟩ |⟨s,t,h1,h2,_⟩
  .rw [h1,h2];exact pq
  .rw [h1,h2];exact ma
end Go.Proofs.YthnacobbednnbaaGreat
set_option linter.unusedVariables false
set_option linter.unusedSimpArgs false
namespace Go.Proofs.YthnacobbednnbaaGreat
open K Go Go.Proofs
theorem rO:∀(n:Nat) (l:List Int),l.Nodup->(∀x∈l,0≤x/\x < (n:Int))->l.length≤n
 |0,l,_,h=>by
  cases l with
  |nil=>simp
  |cons x l=>have:=h x (by simp);omega
 |n+1,l,hn,h=>by
  have h1:=rO n (l.erase (n:Int)) (hn.erase _) (λx hx=>by
   have h2:=(Nodup.mem_erase_iff hn).1 hx
   have:=h x h2.2
   have:=h2.1
   omega)
  have:l.length≤(l.erase (n:Int)).length+1:=by rw [length_erase];split <;> omega
  omega
theorem QV{C:Int}{s:List Int}{x:Int}(h:Ax C s x=none):(0≤x/\x < C)/\x∉s:=by
 unfold Ax at h;split at h
 .cases h
 .rename_i h';split at h
  .cases h
  .rename_i h2;exact⟨Decidable.not_not.1 h',h2⟩
def Mt(C:Int)(s:List Int):Prop:=s.Nodup/\∀x∈s,0≤x/\x < C
theorem Mt.add{C:Int}{s:List Int}{x:Int}(h:Mt C s)(hb:Ax C s x=none):Mt C (Dz s x):=by
 have:=QV hb;refine⟨?_,λy hy=>?_⟩
 .unfold Dz;rw [nodup_append];exact⟨h.1,by simp,λa ha b hb e=>by rw [List.mem_singleton.1 hb] at e;exact this.2 (e▸ha)⟩
 .rcases List.mem_append.1 hy with hy |hy
  .exact h.2 y hy
  .rw [List.mem_singleton.1 hy];exact this.1
theorem Mt.len{C:Int}{s:List Int}(hC:0≤C/\C≤5)(h:Mt C s):s.length≤5:=by
 have:=rO C.toNat s h.1 λx hx=>⟨(h.2 x hx).1,by have:=(h.2 x hx).2;omega⟩;omega
theorem FU{C:Int}:∀{l s t:List Int},wk (Ax C) Dz l s= .ok t->t=s++l
 |[],s,t,e=>by cases e;simp
 |x::l,s,t,e=>by
  rw [wk] at e
  cases hb:Ax C s x with
  |some c=>rw [hb] at e;cases e
  |none=>
   rw [hb] at e
   have:=FU e
   rw [this]
   simp [Dz]
theorem CB{C:Int}:∀{l s:List Int},(s++l).Nodup->(∀x∈l,0≤x/\x < C)->wk (Ax C) Dz l s= .ok (s++l)
 |[],s,_,_=>by simp [wk]
 |x::l,s,hn,hr=>by
  have hx:x∉s:=by
   intro h;rw [nodup_append] at hn;exact hn.2.2 x h x (mem_cons_self) rfl
  have hb:Ax C s x=none:=by
   unfold Ax;rw [if_neg (λh=>h (hr x mem_cons_self)),if_neg hx]
  rw [wk,hb];simp only [];rw [CB (s:=Dz s x) (by unfold Dz;simpa using hn) λy hy=>hr y (mem_cons_of_mem _ hy)];unfold Dz;simp
theorem wH{C:Int}{r:List (List Int)}:ri C r=0↔r.length≤3/\r.flatten.Nodup/\∀x∈r.flatten,0≤x/\x < C:=by
 unfold ri;constructor
 .intro h;split at h
  .cases h
  .cases e:wk (Ax C) Dz r.flatten [] with
   |ok t=>
    have h1:=AD (Mt C) (λs x=>Mt.add) _ _ _ ⟨nodup_nil,λx hx=>by cases hx⟩ e;have h2:=FU e;rw [nil_append] at h2;subst h2;exact⟨by omega,h1.1,h1.2⟩
   |error c=>
    rw [e] at h;exfalso
    have:∀(l s:List Int),wk (Ax C) Dz l s≠.error 0:=by
     intro l
     induction l with
     |nil=>intro s h;cases h
     |cons x l ih=>
      intro s h;rw [wk] at h;cases hb:Ax C s x with
      |some c=>
       rw [hb] at h;obtain rfl:c=0:=by injection h
       unfold Ax at hb;split at hb
       .cases hb
       .split at hb <;> cases hb
      |none=>rw [hb] at h;exact ih _ h
    exact this _ _ (by rw [e,show c=0 from h])
 .rintro⟨h1,h2,h3⟩;rw [if_neg (by omega),CB (by simpa using h2) h3]
def Fq(m:ae)(g:bz):Int:=if(0≤g.1/\g.1 < mC m)/\0≤g.2.1/\g.2.1≤(mD m).length then 0 else 3
theorem Of{k:Nat}{m:ae}(hC:1≤mC m/\mC m≤5){g:bz}:fW k m g=some (Fq m g):=by
 have hc:ck (m.1 - 1)=some (m.1 - 1):=Rt hC;unfold fW Fq;have e:decide (0≤g.1/\g.1≤m.1 - 1)=decide (0≤g.1/\g.1 < mC m):=decide_eq_decide.2 ⟨λh=>⟨h.1,by show g.1 < m.1;omega⟩,λh=>⟨h.1,by have:g.1 < m.1:=h.2;omega⟩⟩;rw [hc,bs,kK,bs,e];by_cases h1:0≤g.1/\g.1 < mC m
 .by_cases h2:0≤g.2.1/\g.2.1≤(mD m).length <;> simp [h1,h2,kK]
 .simp [h1]
def jq{α:Type}(f:α->Int)(l:List α):Int:=((l.map f).find? λe=>decide (e≠0)).getD 0
theorem sB{α:Type}(f:α->Int):∀(l:List α) (j:Nat),eo (λ(_:Unit) _ x=>if¬(f x=0) then Except.error (f x) else .ok ()) j l ()=if jq f l=0 then .ok () else .error (jq f l)
 |[],j=>by simp [eo,jq]
 |x::l,j=>by
  rw [eo]
  by_cases h:f x=0
  .
   have:jq f (x::l)=jq f l:=by simp [jq,h]
   rw [this]
   simp only [h,not_true_eq_false,if_false]
   exact sB f l (j+1)
  .
   have:jq f (x::l)=f x:=by simp [jq,h]
   rw [this]
   simp [h]
theorem oW{α:Type}{f:α->Int}{l:List α}:jq f l=0↔∀x∈l,f x=0:=by
 induction l with
 |nil=>simp [jq]
 |cons x l ih=>
  by_cases h:f x=0
  .have:jq f (x::l)=jq f l:=by simp [jq,h]
   rw [this,ih];simp [h]
  .have:jq f (x::l)=f x:=by simp [jq,h]
   rw [this];simp [h]
structure Sm(m:ae):Prop where
 d:(mD m).length≤1000
 r:∀r∈mD m,r.length≤1000/\∀l∈r,l.length≤1000
 g:(mG m).length≤1000
def jR(m:ae):Int:=
 if¬((1≤mC m/\mC m≤5)/\(0≤mW m/\mW m≤3)/\(0≤mS m/\mS m≤3)/\1≤mH m/\mH m≤3) then 1
 else if(mD m).length=0 then 7 else if 6 < (mD m).length then 6 else if¬(jq (ri (mC m)) (mD m)=0) then jq (ri (mC m)) (mD m)
 else if 8 < (mG m).length then 6 else jq (Fq m) (mG m)
theorem Kv{k:Nat}{m:ae}(hs:Sm m)(hk:1000 < k):mE k m=some (jR m):=by
 unfold mE jR;simp only [kK,bs];by_cases h1:1≤mC m/\mC m≤5
 .by_cases h2:0≤mW m/\mW m≤3
  .by_cases h3:0≤mS m/\mS m≤3
   .by_cases h4:1≤mH m/\mH m≤3
    .have e1:(1≤m.1/\m.1≤5)=True:=eq_true h1;have e2:(0≤m.2.1/\m.2.1≤3)=True:=eq_true h2;have e3:(0≤m.2.2.1/\m.2.2.1≤3)=True:=eq_true h3;have e4:(1≤m.2.2.2.1/\m.2.2.2.1≤3)=True:=eq_true h4;simp only [e1,e2,e3,e4,decide_true,not_true_eq_false,if_false,Bool.not_true,Bool.false_eq_true,bs,and_self,h1,h2,h3,h4];by_cases h5:(mD m).length=0
     .rw [if_pos (show((m.2.2.2.2.1.length:Int) < 1) by have:m.2.2.2.2.1.length=0:=h5;omega),if_pos h5]
     .rw [if_neg (show¬((m.2.2.2.2.1.length:Int) < 1) by have:m.2.2.2.2.1.length≠0:=h5;omega),if_neg h5];by_cases h6:6 < (mD m).length
      .rw [if_pos (show((6:Int) < (m.2.2.2.2.1.length:Int)) by have:6 < m.2.2.2.2.1.length:=h6;omega),if_pos h6]
      .rw [if_neg (show¬((6:Int) < (m.2.2.2.2.1.length:Int)) by have:¬6 < m.2.2.2.2.1.length:=h6;omega),if_neg h6]
       have key:=lV (f:=eW k m) (mD m) (λ(_:Unit) j=>j) (λ_ _ x=>if¬(ri (mC m) x=0) then Except.error (ri (mC m) x) else .ok ()) (λ_ _=>True) (λr=>some r)
        (λn s j hj _=>by
         have hck:ck ((j:Int)+1)=some ((j:Int)+1):=dj (by omega) (by omega);have hr:=hs.r _ (List.getElem_mem hj);refine⟨?_,λ_ _=>trivial⟩;have hj':(j:Int) < (m.2.2.2.2.1.length:Int):=Int.ofNat_lt.2 hj;have hg:aM m.2.2.2.2.1 (j:Int)=some (mD m)[j]:=dX hj;simp only [eW,hj',if_true,hg,bs,Ku h1 hk hr.1 hr.2];by_cases e:ri (mC m) (mD m)[j]=0 <;> simp [e,hck])
        (λn s _=>by
         unfold eW;rw [if_neg (Int.lt_irrefl _)]) (n:=k) (s0:=()) (by have:=hs.d;omega) trivial
       rw [show eW k m k 0=_ from key,sB];by_cases h7:jq (ri (mC m)) (mD m)=0
       .rw [if_pos h7,ma,show(if¬(jq (ri (mC m)) (mD m)=0) then jq (ri (mC m)) (mD m) else if 8 < (mG m).length then 6 else jq (Fq m) (mG m))=(if 8 < (mG m).length then 6 else jq (Fq m) (mG m)) from if_neg (λhn=>hn h7)];by_cases h8:8 < (mG m).length
        .rw [if_pos (show((8:Int) < (m.2.2.2.2.2.length:Int)) by have:8 < m.2.2.2.2.2.length:=h8;omega),if_pos h8]
        .rw [if_neg (show¬((8:Int) < (m.2.2.2.2.2.length:Int)) by have:¬8 < m.2.2.2.2.2.length:=h8;omega),if_neg h8]
         have key:=lV (f:=eV k m) (mG m) (λ(_:Unit) j=>j) (λ_ _ x=>if¬(Fq m x=0) then Except.error (Fq m x) else .ok ()) (λ_ _=>True) (λr=>some r)
          (λn s j hj _=>by
           have hck:ck ((j:Int)+1)=some ((j:Int)+1):=dj (by omega) (by omega);refine⟨?_,λ_ _=>trivial⟩;have hj':(j:Int) < (m.2.2.2.2.2.length:Int):=Int.ofNat_lt.2 hj;have hg:aM m.2.2.2.2.2 (j:Int)=some (mG m)[j]:=dX hj;simp only [eV,hj',if_true,hg,bs,Of h1];by_cases e:Fq m (mG m)[j]=0 <;> simp [e,hck])
          (λn s _=>by
           unfold eV;rw [if_neg (Int.lt_irrefl _)]) (n:=k) (s0:=()) (by have:=hs.g;omega) trivial
         rw [show eV k m k 0=_ from key,sB];by_cases h9:jq (Fq m) (mG m)=0
         .rw [if_pos h9,ma,h9]
         .rw [if_neg h9,pq]
       .rw [if_neg h7,pq,if_pos h7]
    .have e1:(1≤m.1/\m.1≤5)=True:=eq_true h1;have e2:(0≤m.2.1/\m.2.1≤3)=True:=eq_true h2;have e3:(0≤m.2.2.1/\m.2.2.1≤3)=True:=eq_true h3;have e4:(1≤m.2.2.2.1/\m.2.2.2.1≤3)=False:=eq_false h4;refine Eq.trans ?_ (congrArg some (if_pos λhh=>h4 hh.2.2.2).symm);simp [e1,e2,e3,e4]
   .have e1:(1≤m.1/\m.1≤5)=True:=eq_true h1;have e2:(0≤m.2.1/\m.2.1≤3)=True:=eq_true h2;have e3:(0≤m.2.2.1/\m.2.2.1≤3)=False:=eq_false h3;refine Eq.trans ?_ (congrArg some (if_pos λhh=>h3 hh.2.2.1).symm);simp [e1,e2,e3]
  .have e1:(1≤m.1/\m.1≤5)=True:=eq_true h1;have e2:(0≤m.2.1/\m.2.1≤3)=False:=eq_false h2;refine Eq.trans ?_ (congrArg some (if_pos λhh=>h2 hh.2.1).symm);simp [e1,e2]
 .have e1:(1≤m.1/\m.1≤5)=False:=eq_false h1;refine Eq.trans ?_ (congrArg some (if_pos λhh=>h1 hh.1).symm);simp [e1]
end Go.Proofs.YthnacobbednnbaaGreat
set_option linter.unusedVariables false
set_option linter.unusedSimpArgs false
namespace Go.Proofs.YthnacobbednnbaaGreat
open K Go Go.Proofs
theorem um{r:List (List Int)}{l:List Int}(h:r.flatten.Nodup)(hl:l∈r):l.Nodup:=by
 obtain⟨s,t,rfl⟩:=List.append_of_mem hl;rw [List.flatten_append,flatten_cons,nodup_append] at h;have:=h.2.1;rw [nodup_append] at this;exact this.1
theorem Ji{σ:Type}{bad:σ->Int->Option Int}{add:σ->Int->σ}{x:Int}{l:List Int}{s:σ}{e:Int}(h:bad s x=some e):wk bad add (x::l) s= .error e:=by rw [wk,h]
theorem Jf{σ:Type}{bad:σ->Int->Option Int}{add:σ->Int->σ}{x:Int}{l:List Int}{s:σ}(h:bad s x=none):wk bad add (x::l) s=wk bad add l (add s x):=by rw [wk,h]
theorem Vd.of{m:ae}(h:jR m=0):Vd m:=by
 unfold jR at h;by_cases h1:(1≤mC m/\mC m≤5)/\(0≤mW m/\mW m≤3)/\(0≤mS m/\mS m≤3)/\1≤mH m/\mH m≤3
 .rw [if_neg (λhn=>hn h1)] at h;by_cases h2:(mD m).length=0
  .rw [if_pos h2] at h;cases h
  .rw [if_neg h2] at h;by_cases h3:6 < (mD m).length
   .rw [if_pos h3] at h;cases h
   .rw [if_neg h3] at h;by_cases h4:jq (ri (mC m)) (mD m)=0
    .rw [if_neg (λhn=>hn h4)] at h;by_cases h5:8 < (mG m).length
     .rw [if_pos h5] at h;cases h
     .rw [if_neg h5] at h;have hd:=λr hr=>wH.1 (oW.1 h4 r hr);have hx:∀r∈mD m,∀l∈r,∀x∈l,0≤x/\x < mC m:=λr hr l hl x hx=>(hd r hr).2.2 x (List.mem_flatten.2 ⟨l,hl,hx⟩)
      exact⟨h1.1.1,h1.1.2,h1.2.1.1,h1.2.1.2,h1.2.2.1.1,h1.2.2.1.2,h1.2.2.2.1,h1.2.2.2.2,by omega,by omega,λr hr=>(hd r hr).1,λr hr l hl=>by
       have hn:l.Nodup:=um (hd r hr).2.1 hl;have:=rO (mC m).toNat l hn λx hxx=>by have:=hx r hr l hl x hxx;omega
       omega,hx,λr hr=>(hd r hr).2.1,by omega,λg hg=>by
        have:=oW.1 h g hg;unfold Fq at this;split at this
        .rename_i hh;exact⟨hh.1.1,hh.1.2,hh.2.1,hh.2.2⟩
        .cases this⟩
    .rw [if_pos h4] at h;exact absurd h h4
 .rw [if_pos h1] at h;cases h
theorem Vd.chk{m:ae}(v:Vd m):jR m=0:=by
 unfold jR;have h1:(1≤mC m/\mC m≤5)/\(0≤mW m/\mW m≤3)/\(0≤mS m/\mS m≤3)/\1≤mH m/\mH m≤3:=⟨⟨v.c1,v.c5⟩,⟨v.w0,v.w3⟩,⟨v.s0,v.s3⟩,v.h1,v.h3⟩
 have h4:jq (ri (mC m)) (mD m)=0:=oW.2 λr hr=>wH.2 ⟨v.r3 r hr,v.nd r hr,λx hx=>by
  obtain⟨l,hl,hx⟩:=List.mem_flatten.1 hx;exact v.x5 r hr l hl x hx⟩
 have h9:jq (Fq m) (mG m)=0:=oW.2 λg hg=>by
  have:=v.gl g hg;unfold Fq;rw [if_pos ⟨⟨this.1,this.2.1⟩,this.2.2⟩]
 have d1:=v.d1;have d6:=v.d6;have g8:=v.g8;rw [if_neg (λhn=>hn h1),if_neg (by omega),if_neg (by omega),if_neg (λhn=>hn h4),if_neg (by omega),h9]
theorem Vd.sm{m:ae}(v:Vd m):Sm m:=⟨by have:=v.d6;omega,λr hr=>⟨by have:=v.r3 r hr;omega,λl hl=>by have:=v.l5 r hr l hl;omega⟩,by have:=v.g8;omega⟩
def vh(C:Int)(p:Option Int)(x:Int):Option Int:=if¬(0≤x/\x < C) then some 3 else if p.any (λy=>decide (x≤y)) then some 5 else none
def Lp(C:Int)(p:Option Int×Int)(x:Int):Option Int:=vh C p.1 x
def Pl(p:Option Int×Int)(x:Int):Option Int×Int:=(some x,vk p.2 x)
def LA(p:Option Int)(x:Int):Option Int:=some x
def sN(C:Int)(b:List Int):Int:=match wk (vh C) LA b none with | .error e=>e | .ok _=>0
def bT(b:List Int):Int:=b.foldl vk 0
theorem MX{C:Int}{p:Option Int}{x:Int}(h:vh C p x=none):(0≤x/\x < C)/\p.any (λy=>decide (x≤y))=false:=by
 unfold vh at h;split at h
 .cases h
 .rename_i h';split at h
  .cases h
  .rename_i h2;exact⟨Decidable.not_not.1 h',by simpa using h2⟩
theorem Dv{C:Int}:∀(b:List Int) (p:Option Int) (s:Int),(∃e,wk (Lp C) Pl b (p,s)= .error e/\wk (vh C) LA b p= .error e)\/∃q,wk (Lp C) Pl b (p,s)= .ok (q,b.foldl vk s)/\wk (vh C) LA b p= .ok q
 |[],p,s=>.inr ⟨p,rfl,rfl⟩
 |x::b,p,s=>by
  cases e:vh C p x with
  |some c=>exact .inl ⟨c,Ji e,Ji e⟩
  |none=>
   rw [Jf (bad:=Lp C) (s:=(p,s)) (x:=x) e,Jf e]
   exact Dv (C:=C) b (some x) (vk s x)
theorem zl{k:Nat}{m:ae}(hC:1≤mC m/\mC m≤5){b:List Int}(hk:b.length < k)(hb:b.length≤1000):
 eS k m b k (0,0)=some (if sN (mC m) b=0 then .ok (bT b) else .error (none,0,sN (mC m) b)):=by
 have key:=lV (T:=Int×Int) (f:=eS k m b) b (λ(s:Option Int×Int) j=>(s.2,j)) (λs _ x=>match Lp (mC m) s x with |some e=>Except.error e |none=>.ok (Pl s x)) (λj s=>jt s.2/\s.1=if j=0 then none else b[j-1]?) (λr=>some (match r with | .error e=>Except.error (none,0,e) | .ok s=>.ok s.2))
  (λn s j hj hs=>by
   have hck:ck ((j:Int)+1)=some ((j:Int)+1):=dj (by omega) (by omega);have hc:ck (m.1 - 1)=some (m.1 - 1):=Rt hC;refine⟨?_,λs' e=>?_⟩
   .simp only [eS,Int.ofNat_lt,hj,if_true,dX hj,bs,hc,kK];generalize b[j]=x;rw [show Lp (mC m) s x=vh (mC m) s.1 x from rfl];by_cases h:0≤x/\x < mC m
    .have h':0≤x/\x≤m.1 - 1:=⟨h.1,by have:x < m.1:=h.2;omega⟩;have eb:vh (mC m) s.1 x=if s.1.any (λy=>decide (x≤y)) then some 5 else none:=by unfold vh;rw [if_neg (λhn=>hn h)]
     have ep:(if(0:Int) < (j:Int) then((ck ((j:Int) - 1)).bind λx12=>(aM b x12).bind λx13=>some (decide (x≤x13))) else some false)=some (s.1.any λy=>decide (x≤y)):=by
      rw [hs.2];by_cases h0:j=0
      .subst h0;simp
      .have c1:ck ((j:Int) - 1)=some ((j - 1:Nat):Int):=by rw [dj (by omega) (by omega),show((j:Int) - 1)=((j - 1:Nat):Int) by omega]
       rw [if_pos (by omega),c1,bs,dX (by omega),bs,if_neg h0,List.getElem?_eq_getElem (by omega)];rfl
     rw [eb];simp only [h',and_self,decide_true,not_true_eq_false,if_false,bs];rw [ep,bs];cases s.1.any λy=>decide (x≤y) with
     |true=>simp only [if_true]
     |false=>
      simp only [Bool.false_eq_true,if_false,(mP (k:=k) hs.1 h.1 (by omega)).1,bs,hck];rfl
    .have h':¬(0≤x/\x≤m.1 - 1):=λhh=>h ⟨hh.1,by show x < m.1;omega⟩;have eb:vh (mC m) s.1 x=some 3:=by unfold vh;rw [if_pos h]
     rw [eb];simp only [h',decide_false,Bool.false_eq_true,not_false_eq_true,if_true,bs]
   .cases e2:Lp (mC m) s b[j] with
    |some c=>rw [e2] at e;cases e
    |none=>
     rw [e2] at e;cases e;have hx:=MX e2;exact⟨(mP (k:=0) hs.1 hx.1.1 (by omega)).2.1,by show some b[j]=if j+1=0 then none else b[j+1 - 1]?;rw [if_neg (by omega)];simp [List.getElem?_eq_getElem hj]⟩)
  (λn s _=>by simp [eS]) (n:=k) (s0:=(none,0)) hk ⟨ux,rfl⟩
 rw [show eS k m b k (0,0)=_ from key]
 have e1:eo (λ(s:Option Int×Int) _ x=>match Lp (mC m) s x with |some e=>Except.error e |none=>.ok (Pl s x)) 0 b (none,0)=wk (Lp (mC m)) Pl b (none,0):=wX (bad:=Lp (mC m)) (add:=Pl) b 0 (none,0)
 rw [e1]
 unfold sN
 have z:∀(l:List Int) (p:Option Int),wk (vh (mC m)) LA l p≠.error 0:=by
  intro l
  induction l with
  |nil=>intro p h;cases h
  |cons x l ih=>
   intro p h;rw [wk] at h;cases hb:vh (mC m) p x with
   |some c=>
    rw [hb] at h;obtain rfl:c=0:=by injection h
    unfold vh at hb;split at hb
    .cases hb
    .split at hb <;> cases hb
   |none=>rw [hb] at h;exact ih _ h
 rcases Dv (C:=mC m) b none 0 with⟨e,h1,h2⟩ |⟨q,h1,h2⟩
 .
  rw [h1,h2];simp only [];rw [if_neg (λh0=>z b none (by rw [h2,h0]))]
 .
  rw [h1,h2];rfl
end Go.Proofs.YthnacobbednnbaaGreat
set_option linter.unusedVariables false
set_option linter.unusedSimpArgs false
namespace Go.Proofs.YthnacobbednnbaaGreat
open K Go Go.Proofs
theorem yQ{C:Int}(hC:C≤5):∀(b:List Int) (s:Int),jt s->(∀x∈b,0≤x/\x < C)->jt (b.foldl vk s)/\∀i:Nat,dR (b.foldl vk s) i↔dR s i\/(i:Int)∈b
 |[],s,hs,_=>⟨hs,λi=>by simp⟩
 |x::b,s,hs,hb=>by
  have hx:=hb x mem_cons_self
  have hw:=mP (k:=0) hs hx.1 (by omega)
  have:=yQ hC b (vk s x) hw.2.1 λy hy=>hb y (mem_cons_of_mem _ hy)
  refine⟨this.1,λi=>?_⟩
  show dR (b.foldl vk (vk s x)) i↔_
  rw [this.2 i,hw.2.2 i,mem_cons,or_assoc]
structure Bg(C:Int)(b:List Int):Prop where
 rng:∀x∈b,0≤x/\x < C
 asc:b.Pairwise (· < ·)
theorem AG{C:Int}:∀{b:List Int} {p:Option Int},(∃q,wk (vh C) LA b p= .ok q)↔(∀x∈b,0≤x/\x < C)/\b.Pairwise (· < ·)/\∀y,p=some y->∀x∈b.head?,y < x
 |[],p=>by simp [wk]
 |x::b,p=>by
  cases e:vh C p x with
  |some c=>
   rw [Ji e]
   constructor
   .
    rintro⟨q,h⟩;cases h
   .
    rintro⟨h1,h2,h3⟩
    exfalso
    unfold vh at e
    rw [if_neg (λhn=>hn (h1 x mem_cons_self))] at e
    cases p with
    |none=>cases e
    |some y=>
     have:=h3 y rfl x (by simp)
     rw [if_neg (by simp;omega)] at e
     cases e
  |none=>
   have hx:=MX e
   rw [Jf e,AG (b:=b) (p:=LA p x)]
   constructor
   .
    rintro⟨h1,h2,h3⟩
    refine⟨λy hy=>?_,?_,λy hy z hz=>?_⟩
    .
     rcases mem_cons.1 hy with rfl |hy
     .
      exact hx.1
     .
      exact h1 y hy
    .
     rw [pairwise_cons]
     refine⟨λy hy=>?_,h2⟩
     cases b with
     |nil=>cases hy
     |cons z b=>
      have hz:=h3 x rfl z (by simp)
      rcases mem_cons.1 hy with rfl |hy
      .
       exact hz
      .
       have:=(pairwise_cons.1 h2).1 y hy;omega
    .
     have e2:=hx.2
     rw [hy] at e2
     simp at e2
     simp at hz
     omega
   .
    rintro⟨h1,h2,h3⟩
    rw [pairwise_cons] at h2
    refine⟨λy hy=>h1 y (mem_cons_of_mem _ hy),h2.2,λy hy z hz=>?_⟩
    obtain rfl:x=y:=by simpa [LA] using hy
    exact h2.1 z (mem_of_mem_head? hz)
theorem Dw{C:Int}:∀{l:List Int} {p:Option Int},wk (vh C) LA l p≠.error 0
 |[],p,h=>by cases h
 |x::l,p,h=>by
  cases hb:vh C p x with
  |some c=>
   rw [Ji hb] at h
   obtain rfl:c=0:=by injection h
   unfold vh at hb
   split at hb
   .
    cases hb
   .
    split at hb <;> cases hb
  |none=>rw [Jf hb] at h;exact Dw h
theorem pe{C:Int}{b:List Int}:sN C b=0↔Bg C b:=by
 unfold sN;constructor
 .intro h;cases e:wk (vh C) LA b none with
  |error c=>rw [e] at h;exact absurd (by rw [e,show c=0 from h]) (Dw (C:=C) (l:=b) (p:=none))
  |ok q=>have:=AG.1 ⟨q,e⟩;exact⟨this.1,this.2.1⟩
 .rintro⟨h1,h2⟩;obtain⟨q,e⟩:=(AG (p:=none)).2 ⟨h1,h2,λy hy=>by cases hy⟩;rw [e]
theorem Bg.set{C:Int}(hC:C≤5){b:List Int}(h:Bg C b):jt (bT b)/\∀c:Int,0≤c->l9 (bT b) c=decide (c∈b):=by
 have:=yQ hC b 0 ux h.rng;refine⟨this.1,λc hc=>?_⟩;unfold l9;have e:((c.toNat:Nat):Int)=c:=by omega
 have h2:=this.2 c.toNat;rw [e] at h2;refine decide_eq_decide.2 ?_;show dR (b.foldl vk 0) c.toNat↔_;rw [h2];simp [dR]
def uA(m:ae)(i:Nat):Int:=match i with |0=>mC m - 1 |1=>((mD m).length:Int) - 1 |_=>(mD m).length
def xG(n:Int)(l:List Int):Bool:=l.all λx=>decide (0≤x/\x≤n)
theorem pM{k:Nat}{m:ae}(v:Vd m){i:Nat}(hi:i < 3){l:List Int}(hk:l.length < k)(hl:l.length≤1000):
 du k m (i:Int) l k 0=some (if xG (uA m i) l then .ok () else .error (none,0,3)):=by
 have c1:=v.c1
 have c5:=v.c5
 have d6:=v.d6
 have d1:=v.d1
 have key:=lV (T:=Int) (f:=du k m (i:Int) l) l (λ(_:Unit) j=>j) (λ_ _ x=>if 0≤x/\x≤uA m i then .ok () else Except.error ((none,0,3):Option ae×Int×Int)) (λ_ _=>True) (λr=>some r)
  (λn s j hj _=>by
   have hck:ck ((j:Int)+1)=some ((j:Int)+1):=dj (by omega) (by omega);have hc:ck (m.1 - 1)=some (mC m - 1):=Rt ⟨c1,c5⟩;have hd:ck ((m.2.2.2.2.1.length:Int) - 1)=some (((mD m).length:Int) - 1):=dj (by show _≤((mD m).length:Int) - 1;omega) (by show((mD m).length:Int) - 1≤_;omega)
   have hg:aM [mC m - 1,((mD m).length:Int) - 1,((mD m).length:Int)] (i:Int)=some (uA m i):=by
    have:i=0\/i=1\/i=2:=by omega
    rcases this with rfl |rfl |rfl <;> rfl
   refine⟨?_,λ_ _=>trivial⟩;simp only [du,Int.ofNat_lt,hj,if_true,dX hj,bs,hc,hd];rw [show aM [mC m - 1,((mD m).length:Int) - 1,(m.2.2.2.2.1.length:Int)] (i:Int)=some (uA m i) from hg,bs,kK,bs];by_cases h:0≤l[j]/\l[j]≤uA m i
   .rw [if_pos h];simp only [h,and_self,decide_true,not_true_eq_false,if_false,hck,bs]
   .rw [if_neg h];simp only [h,decide_false,Bool.false_eq_true,not_false_eq_true,if_true])
  (λn s _=>by simp [du]) (n:=k) (s0:=()) hk trivial
 rw [show du k m (i:Int) l k 0=_ from key]
 congr 1
 have:∀(l:List Int) (j:Nat),eo (λ(_:Unit) _ x=>if 0≤x/\x≤uA m i then .ok () else Except.error ((none,0,3):Option ae×Int×Int)) j l ()=if xG (uA m i) l then .ok () else .error (none,0,3):=by
  intro l
  induction l with
  |nil=>intro j;rfl
  |cons x l ih=>
   intro j;rw [eo];by_cases h:0≤x/\x≤uA m i
   .rw [if_pos h];have:xG (uA m i) (x::l)=xG (uA m i) l:=by simp only [xG,all_cons,h,and_self,decide_true,Bool.true_and]
    rw [this];exact ih (j+1)
   .rw [if_neg h];have:xG (uA m i) (x::l)=false:=by simp only [xG,all_cons,h,decide_false,Bool.false_and]
    rw [this];rfl
 exact this l 0
theorem yE{k:Nat}{m:ae}(v:Vd m)(hk:10≤k):∀n:Nat,n≤32->vP k m n=some ()
 |0,_=>rfl
 |n+1,h=>by
  have e:IntKind.u8.wrap (n:Int)=(n:Int):=tp (by omega)
  unfold vP
  rw [yE v hk n (by omega),bs,e,sL v hk ⟨by omega,by omega⟩,bs]
theorem Jm{k:Nat}{m:ae}(v:Vd m)(hk:10≤k):eD k m=some ():=by
 have c1:=v.c1;have c5:=v.c5;unfold eD
 have hc:m.1=1\/m.1=2\/m.1=3\/m.1=4\/m.1=5:=by
  have h1:1≤m.1:=c1;have h2:m.1≤5:=c5;omega
 have e:0≤ou .i64 1 m.1/\ou .i64 1 m.1≤32:=by
  rcases hc with h |h |h |h |h <;> rw [h] <;> decide
 rw [if_pos ⟨by rcases hc with h |h |h |h |h <;> omega,by omega⟩];exact yE v hk _ (by omega)
def NW(m:ae)(cs ds ns:List Int):Bool:=xG (uA m 0) cs && xG (uA m 1) ds && xG (uA m 2) ns
theorem ut{k:Nat}{m:ae}{b cs ds ns:List Int}(hs:Sm m)(hk:1010≤k)(hb:b.length≤1000)(h1:cs.length≤1000)(h2:ds.length≤1000)(h3:ns.length≤1000):
 jI k m b cs ds ns=some (if¬(jR m=0) then(none,0,jR m) else if¬(sN (mC m) b=0) then(none,0,sN (mC m) b) else if NW m cs ds ns then(some m,bT b,0) else(none,0,3)):=by
 unfold jI
 rw [Kv hs (by omega),bs]
 by_cases hc:jR m=0
 .
  have v:=Vd.of hc;rw [if_neg (λhn=>hn hc),if_neg (λhn=>hn hc),zl ⟨v.c1,v.c5⟩ (by omega) hb];by_cases hg:sN (mC m) b=0
  .rw [if_pos hg,ma,if_neg (λhn=>hn hg)];obtain⟨n,rfl⟩:∃n,k=n+4:=⟨k - 4,by omega⟩;have e0:=pM v (k:=n+4) (i:=0) (by omega) (l:=cs) (by omega) h1;have e1:=pM v (k:=n+4) (i:=1) (by omega) (l:=ds) (by omega) h2;have e2:=pM v (k:=n+4) (i:=2) (by omega) (l:=ns) (by omega) h3;have g0:aM [cs,ds,ns] (0:Int)=some cs:=rfl;have g1:aM [cs,ds,ns] (1:Int)=some ds:=rfl;have g2:aM [cs,ds,ns] (2:Int)=some ns:=rfl;have k0:ck ((0:Int)+1)=some 1:=rfl;have k1:ck ((1:Int)+1)=some 2:=rfl;have k2:ck ((2:Int)+1)=some 3:=rfl;have ln:(([cs,ds,ns]:List (List Int)).length:Int)=3:=rfl
   have s0:cP (n+4) m cs ds ns (n+4) 0=if xG (uA m 0) cs then cP (n+4) m cs ds ns (n+3) 1 else some (.error (none,0,3)):=by
    rw [cP,ln,if_pos (by decide),g0,bs,show du (n+4) m 0 cs (n+4) 0=_ from e0];cases xG (uA m 0) cs with
    |true=>simp only [if_true];rw [ma,k0,bs]
    |false=>simp only [Bool.false_eq_true,if_false];rw [pq]
   have s1:cP (n+4) m cs ds ns (n+3) 1=if xG (uA m 1) ds then cP (n+4) m cs ds ns (n+2) 2 else some (.error (none,0,3)):=by
    rw [cP,ln,if_pos (by decide),g1,bs,show du (n+4) m 1 ds (n+4) 0=_ from e1];cases xG (uA m 1) ds with
    |true=>simp only [if_true];rw [ma,k1,bs]
    |false=>simp only [Bool.false_eq_true,if_false];rw [pq]
   have s2:cP (n+4) m cs ds ns (n+2) 2=if xG (uA m 2) ns then cP (n+4) m cs ds ns (n+1) 3 else some (.error (none,0,3)):=by
    rw [cP,ln,if_pos (by decide),g2,bs,show du (n+4) m 2 ns (n+4) 0=_ from e2];cases xG (uA m 2) ns with
    |true=>simp only [if_true];rw [ma,k2,bs]
    |false=>simp only [Bool.false_eq_true,if_false];rw [pq]
   have s3:cP (n+4) m cs ds ns (n+1) 3=some (.ok ()):=by
    rw [cP,ln,if_neg (by decide)]
   rw [s0,s1,s2,s3];unfold NW
   have fin:((iO (n+4) m).bind λr32=>fP r32 none (λq33=>(eD (n+4) q33).bind λr35=>some (some q33,bT b,(0:Int))))=some (some m,bT b,0):=by
    unfold iO;rw [bs,rj,Jm v (by omega),bs]
   cases xG (uA m 0) cs with
   |false=>simp only [Bool.false_eq_true,if_false,Bool.false_and];rw [pq]
   |true=>
    cases xG (uA m 1) ds with
    |false=>simp only [if_true,Bool.false_eq_true,if_false,Bool.true_and,Bool.false_and];rw [pq]
    |true=>
     cases xG (uA m 2) ns with
     |false=>simp only [if_true,Bool.false_eq_true,if_false,Bool.true_and,Bool.and_false];rw [pq]
     |true=>simp only [if_true,Bool.true_and];rw [ma];exact fin
  .rw [if_neg hg,pq,if_pos hg]
 .
  rw [if_pos hc,if_pos hc]
end Go.Proofs.YthnacobbednnbaaGreat
set_option linter.unusedVariables false
set_option linter.unusedSimpArgs false
namespace Go.Proofs.YthnacobbednnbaaGreat
open K Go Go.Proofs
def nE(m:ae)(B:Int->Bool)(n:Nat):List Int:=(List.range (mC m).toNat).map λ(c:Nat)=>mg m B n (c:Int)
def lx(m:ae)(B:Int->Bool):List (List Int):=(List.range ((mD m).length+1)).map (nE m B)
theorem GE{m:ae}{B:Int->Bool}{n:Nat}{c:Int}(h0:0≤c)(h1:c < mC m):aM (nE m B n) c=some (mg m B n c):=by
 unfold nE;rw [aM,if_pos h0,List.getElem?_map,List.getElem?_range (by omega)];show some (mg m B n ((c.toNat:Nat):Int))=_;rw [show((c.toNat:Nat):Int)=c by omega]
theorem wI{m:ae}{B:Int->Bool}{n:Nat}(h:n≤(mD m).length):aM (lx m B) (n:Int)=some (nE m B n):=by
 unfold lx;rw [aM,if_pos (by omega),List.getElem?_map,Int.toNat_natCast,List.getElem?_range (by omega)];rfl
theorem Gg{f:Int->Int}{C:Int}(h0:0≤C)(h5:C≤5):List.take C.toNat (ky f)=(List.range C.toNat).map λ(c:Nat)=>f (c:Int):=by
 have:C=0\/C=1\/C=2\/C=3\/C=4\/C=5:=by omega
 rcases this with rfl |rfl |rfl |rfl |rfl |rfl <;> rfl
theorem Bq{k:Nat}{m:ae}{b:List Int}(hs:Sm m)(hk:1010≤k)(hb:b.length≤1000):
 iw k m b=some (if¬(jR m=0) then([],jR m) else if¬(sN (mC m) b=0) then([],sN (mC m) b) else(lx m λc=>decide (c∈b),0)):=by
 unfold iw
 rw [ut hs hk hb (by simp) (by simp) (by simp),bs]
 by_cases hc:jR m=0
 .
  have v:=Vd.of hc;by_cases hg:sN (mC m) b=0
  .have hB:=(pe.1 hg).set v.c5;have ho:NW m [] [] []=true:=rfl;have c1:=v.c1;have c5:=v.c5;have d6:=v.d6;simp only [hc,hg,ho,not_true_eq_false,if_false,if_true,rj];rw [sL v (by omega) hB.1,bs]
   have hd:ck ((m.2.2.2.2.1.length:Int)+1)=some (((mD m).length+1:Nat):Int):=by
    rw [dj (by show _≤((mD m).length:Int)+1;omega) (by show((mD m).length:Int)+1≤_;omega)];rfl
   rw [hd,bs]
   have key:=iW (T:=List (List Int)×Int) (f:=eh k m (cr (Ft m (l9 (bT b)))) (((mD m).length+1:Nat):Int)) (List.range ((mD m).length+1)) (λ(s:List (List Int)) j=>(s,j)) (λs j _=>s++[nE m (l9 (bT b)) j]) (λj s=>s=(List.range j).map (nE m (l9 (bT b)))) (λs=>some s)
    (λn s j hj hs=>by
     rw [length_range] at hj;have hck:ck ((j:Int)+1)=some ((j:Int)+1):=dj (by omega) (by omega);have hjlt:(j:Int) < (((mD m).length+1:Nat):Int):=by omega
     have hp:cJ (0≤m.1/\m.1≤5)=some ():=dA ⟨by show 0≤mC m;omega,c5⟩
     have ht:List.take (Int.toNat m.1) (ky (Ft m (l9 (bT b)) j))=nE m (l9 (bT b)) j:=by
      rw [Gg (by show 0≤mC m;omega) c5];unfold nE;refine List.map_congr_left λc hc=>?_;have:=List.mem_range.1 hc;exact Dp v (by omega) (by omega) (by show _ < mC m;omega)
     have hl:(nE m (l9 (bT b)) j).length≤5:=by unfold nE;rw [length_map,length_range];omega
     have hsl:s.length=j:=by rw [hs,length_map,length_range]
     have hcl:g9 k (nE m (l9 (bT b)) j)=some (nE m (l9 (bT b)) j):=by
      unfold g9;rw [dA (by show _≤_;omega),bs]
     have hok:cJ (bP (length s+length [nE m (l9 (bT b)) j]))=some ():=dA (by simp [bP];omega);refine⟨?_,?_⟩
     .simp only [eh,hjlt,if_true,BN (F:=Ft m (l9 (bT b))) (show j < 7 by omega),bs,hp,ht,hcl,hok,hck]
     .rw [hs,List.range_succ,List.map_append];rfl)
    (λn s hs=>by
     rw [length_range];unfold eh;rw [if_neg (Int.lt_irrefl _)]) (n:=k) (s0:=[]) (by rw [length_range];omega) rfl
   rw [show eh k m (cr (Ft m (l9 (bT b)))) (((mD m).length+1:Nat):Int) k ([],0)=_ from key.1,bs,key.2,length_range]
   have hcs:(List.range ((mD m).length+1)).map (nE m (l9 (bT b)))=lx m λc=>decide (c∈b):=by
    unfold lx;refine List.map_congr_left λn hn=>?_;unfold nE;refine List.map_congr_left λc hc=>?_
    have hage:∀(n:Nat) (c:Int),0≤c->c < mC m->mg m (l9 (bT b)) n c=mg m (λc=>decide (c∈b)) n c:=by
     intro n
     induction n with
     |zero=>intro c h0 h1;unfold mg;rw [hB.2 c h0]
     |succ n ih=>
      intro c h0 h1;unfold mg;cases e:Du m n c with
      |none=>simp only [];rw [ih c h0 h1]
      |some l=>
       have hb:=(uS v e).2
       have:(l.any λx=>decide (mW m≤mg m (l9 (bT b)) n x))=l.any λx=>decide (mW m≤mg m (λc=>decide (c∈b)) n x):=by
        rw [Bool.eq_iff_iff];simp only [List.any_eq_true,decide_eq_true_eq];constructor
        .rintro⟨x,hx,h⟩;exact⟨x,hx,by rw [<-ih x (hb x hx).1 (hb x hx).2];exact h⟩
        .rintro⟨x,hx,h⟩;exact⟨x,hx,by rw [ih x (hb x hx).1 (hb x hx).2];exact h⟩
       simp only [];rw [ih c h0 h1,this]
    have:=List.mem_range.1 hc;exact hage n c (by omega) (by omega)
   rw [hcs]
  .simp only [hc,hg,not_true_eq_false,not_false_eq_true,if_false,if_true,nk]
 .
  simp only [hc,not_false_eq_true,if_true,nk]
end Go.Proofs.YthnacobbednnbaaGreat
set_option linter.unusedVariables false
set_option linter.unusedSimpArgs false
namespace Go.Proofs.YthnacobbednnbaaGreat
open K Go Go.Proofs
theorem Lo.mono{l:bU}{m n:Int}(h:Lo l m)(hn:m≤n):Lo l n:=⟨h.1,Int.le_trans h.2 hn⟩
theorem Uc{α:Type}{l:List α}{x:α}{n:Nat}(h:l.length≤n)(hn:n≤1000000):bP (length l+length [x]):=by
 show length l+length [x]≤4294967296;simp only [length_cons,length_nil];omega
theorem Bo{k:Nat}(hk:50≤k){l:bU}{m:Int}{n:Nat}(hl:Lo l m)(hm:0≤m/\m≤1000)(hn:n≤8):W (gA k l (n:Int)) λr=>Lo r.2 (m+10)/\r.1.length=n/\(∀x∈r.1,0≤x/\x < (n:Int))/\r.1.Nodup:=by
 unfold gA;refine W.bind (R:=λr=>Lo (r.2.1,r.2.2.1,r.2.2.2) (m+10)/\r.1.length=n/\(∀x∈r.1,0≤x/\x < (n:Int))/\r.1.Nodup) ?_ λr h=>W.ret h
 refine W.loop (f:=dU k (n:Int)) (λq y=>∃j:Nat,y.2.2.2.2=(j:Int)/\j≤n/\q=n - j/\Lo (y.1,y.2.1,y.2.2.1) (m+j)/\y.2.2.2.1.length=j/\(∀x∈y.2.2.2.1,0≤x/\x < (j:Int))/\y.2.2.2.1.Nodup) ?_ n k _ (by omega)
  ⟨0,rfl,by omega,by omega,by simpa using hl,rfl,by simp,by simp⟩
 rintro aF q ⟨nums,d,s,o,y⟩ ⟨j,hj,hle,hq,hlo,hlen,hx,hnd⟩ ih;simp only at hj hlo hlen hx hnd;subst hj;unfold dU;dsimp only;refine W.ite (λhlt=>?_) (λhge=>W.ret ⟨hlo.mono (by omega),by show o.length=n;omega,λx hx'=>by have:=hx x hx';omega,hnd⟩);obtain⟨r5,e5,a5,b5,c5⟩:=jw (k:=k) (n:=(j:Int)) hlo (by omega) (by omega);have b5:=b5 (by omega);have ho:(o++[(j:Int)]).length=j+1:=by simp [hlen]
 have hr5:r5.1.toNat < (o++[(j:Int)]).length:=by omega
 have hjl:j < (o++[(j:Int)]).length:=by omega
 have hgj:(o++[(j:Int)])[j]=(j:Int):=by
  rw [List.getElem_append_right (by omega)];simp [hlen]
 rw [e5,bs,dA (Uc (n:=8) (by omega) (by omega)),bs,xJ a5 hr5,bs,dX (by omega),bs];have hgs:aM (List.set (o++[(j:Int)]) (Int.toNat (j:Int)) (o++[(j:Int)])[r5.1.toNat]) r5.1=some ((List.set (o++[(j:Int)]) (Int.toNat (j:Int)) (o++[(j:Int)])[r5.1.toNat])[r5.1.toNat]'(by rw [length_set];exact hr5)):=xJ a5 (by rw [length_set];exact hr5);rw [hgs,bs,dj (by omega) (by omega),bs]
 have hp:(List.set (List.set (o++[(j:Int)]) (Int.toNat (j:Int)) (o++[(j:Int)])[r5.1.toNat]) (Int.toNat r5.1) (j:Int)).Perm (o++[(j:Int)]):=by
  have:= @set_set_perm Int (o++[(j:Int)]) j r5.1.toNat hjl hr5;rw [hgj] at this;exact this
 refine ih (q - 1) (_,_,_,_,(j:Int)+1) (by omega) ⟨j+1,by show(j:Int)+1=((j+1:Nat):Int);omega,by omega,by omega,c5.mono (by omega),by simp [hlen],λx hx'=>?_,hp.nodup_iff.2 ?_⟩
 .rcases List.mem_append.1 (hp.mem_iff.1 hx') with h |h
  .have:=hx x h;omega
  .rw [List.mem_singleton] at h;omega
 .rw [nodup_append];exact⟨hnd,by simp,λa ha b hb=>by rw [List.mem_singleton] at hb;subst hb;have:=hx a ha;omega⟩
theorem H6{out:List (List Int)}{i:Nat}{x:Int}(h:i < out.length):(out.set i (out[i]++[x])).flatten.Perm (out.flatten++[x]):=by
 have e1:out=out.take i++out[i]::out.drop (i+1):=by rw [<-drop_eq_getElem_cons h,take_append_drop]
 have e2:out.set i (out[i]++[x])=out.take i++(out[i]++[x])::out.drop (i+1):=set_eq_take_append_cons_drop.trans (if_pos h);rw [e2]
 have e3:out.flatten=(out.take i).flatten++(out[i]++(out.drop (i+1)).flatten):=by
  conv=>lhs;rw [e1]
  rw [List.flatten_append,flatten_cons]
 rw [e3,List.flatten_append,flatten_cons]
 have:((out.take i).flatten++((out[i]++[x])++(out.drop (i+1)).flatten)).Perm ((out.take i).flatten++(out[i]++((out.drop (i+1)).flatten++[x]))):=by
  refine List.Perm.append_left _ ?_;rw [List.append_assoc];exact List.Perm.append_left _ (perm_append_comm)
 refine this.trans ?_;simp
structure Rl(C:Int)(r:List (List Int)):Prop where
 r3:r.length≤3
 x5:∀l∈r,∀x∈l,0≤x/\x < C
 nd:r.flatten.Nodup
theorem Rl.l5{C:Int}(hC:0≤C/\C≤5){r:List (List Int)}(h:Rl C r):∀l∈r,l.length≤5:=λl hl=>by
 have:=rO C.toNat l (um h.nd hl) λx hx=>by have:=h.x5 l hl x hx;omega
 omega
theorem GM{k:Nat}(hk:50≤k){l:bU}{m:Int}{n:Nat}(hl:Lo l m)(hm:0≤m/\m≤900)(hn:n≤5):
 W (jM k l (n:Int)) λr=>Lo r.2 (m+30)/\Rl (n:Int) r.1:=by
 unfold jM
 refine W.bind (C7 (l:=(l.1,l.2.1,l.2.2)) hl (by omega) (by omega) (by omega) (by omega)) λr1 h1=>?_
 refine W.chk ⟨by omega,by show _≤_;omega⟩ ?_
 refine W.bind (Bo hk (l:=(r1.2.1,r1.2.2.1,r1.2.2.2)) (m:=m+1) (n:=n) h1.2.2 (by omega) (by omega)) λr4 h4=>?_
 obtain⟨lo4,len4,rng4,nd4⟩:=h4
 refine W.bind (R:=λx=>Lo (x.1,x.2.1,x.2.2.1) (m+30)/\Rl (n:Int) x.2.2.2) ?_ λx hx=>W.ret hx
 refine W.loop (f:=fo k r4) (λq y=>∃j:Nat,y.2.2.2.1=(j:Int)/\j≤n/\q=n - j/\Lo (y.1,y.2.1,y.2.2.1) (m+11+2 * j)/\y.2.2.2.2.length=r1.1.toNat/\(∀x∈y.2.2.2.2.flatten,x∈r4.1.take j)/\y.2.2.2.2.flatten.Nodup) ?_ n k _ (by omega)
  ⟨0,rfl,by omega,by omega,lo4.mono (by omega),by simp,by simp,by simp⟩
 rintro aF q ⟨nums,d,s,y,out⟩ ⟨j,hj,hle,hq,hlo,hlen,hx,hnd⟩ ih
 simp only at hj hlo hlen hx hnd
 subst hj
 unfold fo
 dsimp only
 refine W.ite (λhlt=>?_) (λhge=>W.ret ⟨hlo.mono (by omega),by show out.length≤3;omega,λl hl x hxx=>rng4 x (mem_of_mem_take (hx x (List.mem_flatten.2 ⟨l,hl,hxx⟩))),hnd⟩)
 have hj:j < r4.1.length:=by omega
 have hsub:∀x∈r4.1.take j,x∈r4.1.take (j+1):=λx hh=>by rw [take_add_one];exact List.mem_append_left _ hh
 refine W.bind (R:=λx=>Lo (x.1,x.2.1,x.2.2.1) (m+11+2 * j+2)/\x.2.2.2.length=r1.1.toNat/\(∀z∈x.2.2.2.flatten,z∈r4.1.take (j+1))/\x.2.2.2.flatten.Nodup) ?_ λx9 h9=>?_
 .
  refine W.bind (xk (l:=(nums,d,s)) hlo (by omega) (by omega) (by omega)) λr11 h11=>?_;refine W.ite (λ_=>W.ret ⟨h11.mono (by omega),hlen,λz hz=>hsub z (hx z hz),hnd⟩) (λ_=>?_);refine W.ck (by omega) (by omega) ?_;refine W.bind (jw (l:=(r11.2.1,r11.2.2.1,r11.2.2.2)) h11 (by omega) (by omega)) λr13 h13=>?_;have b13:=h13.2.1 (by omega);have hi:r13.1.toNat < out.length:=by omega
  rw [xJ h13.1 hi,bs,dX hj,bs]
  have hxj:r4.1[j]∉out.flatten:=λhin=>by
   have:=hx _ hin;obtain⟨i,hi',e⟩:=List.getElem_of_mem this;rw [length_take] at hi';rw [getElem_take] at e;have:=(getElem_inj nd4).1 e;omega
  have hlen2:(out[r13.1.toNat]).length≤5:=by
   have:=rO n _ (um hnd (List.getElem_mem hi)) λx hxx=>rng4 x (mem_of_mem_take (hx x (List.mem_flatten.2 ⟨_,List.getElem_mem hi,hxx⟩)));omega
  rw [dA (by simp [bP];omega),bs];have hp:=H6 (x:=r4.1[j]) hi;refine W.ret ⟨h13.2.2.mono (by omega),by show(List.set _ _ _).length=_;rw [length_set];exact hlen,λz hz=>?_,hp.nodup_iff.2 ?_⟩
  .rcases List.mem_append.1 (hp.mem_iff.1 hz) with h |h
   .exact hsub z (hx z h)
   .rw [List.mem_singleton.1 h,take_add_one,List.getElem?_eq_getElem hj];exact List.mem_append_right _ (by simp)
  .rw [nodup_append];exact⟨hnd,by simp,λa ha b hb e=>by rw [List.mem_singleton.1 hb] at e;exact hxj (e▸ha)⟩
 .
  refine W.ck (by omega) (by omega) ?_;exact ih (q - 1) (_,_,_,(j:Int)+1,_) (by omega) ⟨j+1,by show(j:Int)+1=((j+1:Nat):Int);omega,by omega,by omega,h9.1.mono (by omega),h9.2⟩
end Go.Proofs.YthnacobbednnbaaGreat
set_option linter.unusedVariables false
set_option linter.unusedSimpArgs false
namespace Go.Proofs.YthnacobbednnbaaGreat
open K Go Go.Proofs
theorem LI{c w s h:Int}{ds:List (List (List Int))}(hc:1≤c/\c≤5)(hw:0≤w/\w≤3)(hs:0≤s/\s≤3)(hh:1≤h/\h≤3)(d1:1≤ds.length)(d6:ds.length≤6)(hr:∀r∈ds,Rl c r):Vd (c,w,s,h,ds,[]):=
 ⟨hc.1,hc.2,hw.1,hw.2,hs.1,hs.2,hh.1,hh.2,d1,d6,λr h=>(hr r h).r3,λr h=>(hr r h).l5 ⟨by omega,hc.2⟩,λr h=>(hr r h).x5,λr h=>(hr r h).nd,by simp [mG],λg hg=>by cases hg⟩
theorem BP{k:Nat}{l:List Int}(h:l.length≤1000000):iV k l=some l:=by
 unfold iV;rw [dA (Ud (by simp only [length_nil];omega)),bs];rfl
theorem zQ{k:Nat}{l:List (List Int)}(hk:l.length < k)(h1:l.length≤1000000)(h2:∀x∈l,x.length≤1000000):ic k l=some l:=by
 unfold ic
 have key:=iW (T:=List (List Int)×Int) (f:=di k l) l (λ(s:List (List Int)) j=>(s,j)) (λs j x=>s++[x]) (λj s=>s=l.take j) (λs=>some s)
  (λn s j hj hs=>by
   have hck:ck ((j:Int)+1)=some ((j:Int)+1):=dj (by omega) (by omega);have hl:s.length=j:=by rw [hs,length_take];omega
   have hok:cJ (bP (length s+length [l[j]]))=some ():=dA (by simp [bP];omega);refine⟨?_,?_⟩
   .simp only [di,Int.ofNat_lt,hj,if_true,dX hj,bs,BP (h2 _ (List.getElem_mem hj)),hok,hck]
   .rw [hs,take_add_one,List.getElem?_eq_getElem hj];rfl)
  (λn s hs=>by
   unfold di;rw [if_neg (Int.lt_irrefl _)]) (n:=k) (s0:=[]) hk (by simp)
 rw [show di k l k ([],0)=_ from key.1,bs,key.2,take_length]
theorem Bn{k:Nat}(hk:50≤k){l:bU}{m:Int}{cs ds:Int}(hl:Lo l m)(hm:0≤m/\m≤400)(hc:1≤cs/\cs≤5)(hd:1≤ds/\ds≤6):
 W (jN k l cs ds) λr=>Lo r.2 (m+250)/\Vd r.1/\mG r.1=[]/\mC r.1≤cs/\((mD r.1).length:Int)≤ds:=by
 unfold jN
 refine W.bind (C7 (l:=(l.1,l.2.1,l.2.2)) hl (by omega) (by omega) (by omega) (by omega)) λr2 h2=>?_
 refine W.bind (jw (l:=(r2.2.1,r2.2.2.1,r2.2.2.2)) h2.2.2 (by omega) (by omega)) λr3 h3=>?_
 have b3:=h3.2.1 (by omega)
 refine W.bind (GZ (l:=(r3.2.1,r3.2.2.1,r3.2.2.2)) h3.2.2 (by omega) (by simp) (by simp)) λr4 h4=>?_
 refine W.bind (jw (l:=(r4.2.1,r4.2.2.1,r4.2.2.2)) h4.2 (by omega) (by omega)) λr5 h5=>?_
 have b5:=h5.2.1 (by omega)
 refine W.bind (GZ (l:=(r5.2.1,r5.2.2.1,r5.2.2.2)) h5.2.2 (by omega) (by simp) (by simp)) λr6 h6=>?_
 refine W.bind (C7 (l:=(r6.2.1,r6.2.2.1,r6.2.2.2)) h6.2 (by omega) (by omega) (by omega) (by omega)) λr7 h7=>?_
 refine W.bind (GZ (l:=(r7.2.1,r7.2.2.1,r7.2.2.2)) h7.2.2 (by omega) (by simp) (by simp)) λr8 h8=>?_
 have w4:0≤r4.1/\r4.1≤3:=by
  have:=h4.1;simp only [mem_cons,not_mem_nil,or_false] at this;omega
 have w6:0≤r6.1/\r6.1≤3:=by
  have:=h6.1;simp only [mem_cons,not_mem_nil,or_false] at this;omega
 have w8:1≤r8.1/\r8.1≤3:=by
  have:=h8.1;simp only [mem_cons,not_mem_nil,or_false] at this;omega
 have lo8:=h8.2
 refine W.bind (R:=λx=>Lo (x.2.1,x.2.2.1,x.2.2.2) (m+250)/\(1≤x.1.length/\(x.1.length:Int)≤ds)/\∀r∈x.1,Rl r2.1 r) ?_ λx hx=>W.ret ⟨hx.1,LI (by omega) w4 w6 w8 (by omega) (by omega) hx.2.2,rfl,h2.2.1,hx.2.1.2⟩
 refine W.bind (C7 (l:=(r8.2.1,r8.2.2.1,r8.2.2.2)) lo8 (by omega) (by omega) (by omega) (by omega)) λr12 h12=>?_
 refine W.loop (f:=fp k r2) (λq y=>∃j:Nat,y.2.2.2.1.length=j/\y.2.2.2.2=r12.1 - j/\(j:Int)≤r12.1/\q=r12.1.toNat - j/\Lo (y.1,y.2.1,y.2.2.1) (m+10+33 * j)/\∀r∈y.2.2.2.1,Rl r2.1 r) ?_ r12.1.toNat k _ (by omega)
  ⟨0,rfl,by simp,by omega,by omega,h12.2.2.mono (by omega),by simp⟩
 rintro aF q ⟨nums,d,s,out,y⟩ ⟨j,hj,hy,hle,hq,hlo,hr⟩ ih
 simp only at hj hy hlo hr
 subst hy
 unfold fp
 dsimp only
 refine W.ite (λhlt=>?_) (λhge=>W.ret ⟨hlo.mono (by omega),⟨by show 1≤out.length;omega,by show(out.length:Int)≤ds;omega⟩,hr⟩)
 refine W.bind (R:=λx=>Lo (x.1,x.2.1,x.2.2.1) (m+10+33 * j+33)/\x.2.2.2.length=j+1/\∀r∈x.2.2.2,Rl r2.1 r) ?_ λx15 h15=>?_
 .
  refine W.bind (R:=λx=>Lo (x.1,x.2.1,x.2.2.1) (m+10+33 * j+1)/\(x.2.2.2=true->0 < out.length)) ?_ λx17 h17=>?_
  .refine W.ite (λh0=>?_) (λh0=>W.ret ⟨hlo.mono (by omega),λh=>by cases h⟩);exact W.bind (xk (l:=(nums,d,s)) hlo (by omega) (by omega) (by omega)) λr19 h19=>W.ret ⟨h19,λ_=>by omega⟩
  .refine W.ite (λht=>?_) (λht=>?_)
   .have h0:=h17.2 ht;refine W.ck (by omega) (by omega) ?_;have hi:((out.length:Int) - 1)=((out.length - 1:Nat):Int):=by omega
    have hlt':out.length - 1 < out.length:=by omega
    rw [hi,dX hlt',bs];have hrl:=hr _ (List.getElem_mem hlt');have hl5:=hrl.l5 (by omega);have hr3:=hrl.r3;rw [zQ (by omega) (by omega) (λx hx=>by have:=hl5 x hx;omega),bs,dA (by simp [bP];omega),bs];refine W.ret ⟨h17.1.mono (by omega),by simp [hj],λr hrr=>?_⟩;rcases List.mem_append.1 hrr with h |h
    .exact hr r h
    .rw [List.mem_singleton.1 h];exact hrl
   .have hc2:((r2.1.toNat:Nat):Int)=r2.1:=by omega
    have:=GM hk (l:=(x17.1,x17.2.1,x17.2.2.1)) (m:=m+10+33 * j+1) (n:=r2.1.toNat) h17.1 (by omega) (by omega);rw [hc2] at this;refine W.bind this λr26 h26=>?_;rw [dA (by simp [bP];omega),bs];refine W.ret ⟨h26.1.mono (by omega),by simp [hj],λr hrr=>?_⟩;rcases List.mem_append.1 hrr with h |h
    .exact hr r h
    .rw [List.mem_singleton.1 h];exact h26.2
 .
  refine W.ck (by omega) (by omega) ?_;exact ih (q - 1) (_,_,_,_,_) (by omega) ⟨j+1,h15.2.1,by show r12.1 - j - 1=r12.1 - ((j+1:Nat):Int);omega,by omega,by omega,h15.1.mono (by omega),h15.2.2⟩
theorem Bg.len{C:Int}(hC:0≤C/\C≤5){b:List Int}(h:Bg C b):b.length≤5:=by
 have:=rO C.toNat b (h.asc.imp λhab e=>by omega) λx hx=>by have:=h.rng x hx;omega
 omega
theorem GA{m:ae}{B:Int->Bool}{n:Nat}(h:0≤mC m):((nE m B n).length:Int)=mC m:=by
 unfold nE;rw [length_map,length_range];omega
theorem mK{m:ae}{B:Int->Bool}:(lx m B).length=(mD m).length+1:=by
 unfold lx;rw [length_map,length_range]
theorem BS{α ε:Type}:∀(l:List α) (j:Nat),eo (λ(_:Unit) _ _=>(.ok ():Except ε Unit)) j l ()= .ok ()
 |[],_=>rfl
 |_::l,j=>BS l (j+1)
theorem FY{k:Nat}{m:ae}{B:Int->Bool}(v:Vd m)(hk:10≤k):mF k m (lx m B)=some true:=by
 have c1:=v.c1;have d6:=v.d6;unfold mF;have hd:ck ((m.2.2.2.2.1.length:Int)+1)=some (((mD m).length:Int)+1):=dj (by show _≤((mD m).length:Int)+1;omega) (by show((mD m).length:Int)+1≤_;omega);rw [hd,bs,if_neg (λhn=>hn (by rw [mK];omega))]
 have key:=lV (T:=Int) (f:=eX k m (lx m B)) (lx m B) (λ(_:Unit) j=>j) (λ_ _ _=>(.ok ():Except Bool Unit)) (λ_ _=>True) (λr=>some r)
  (λn s j hj _=>by
   have hck:ck ((j:Int)+1)=some ((j:Int)+1):=dj (by rw [mK] at hj;omega) (by rw [mK] at hj;omega);refine⟨?_,λ_ _=>trivial⟩;have hj2:j≤(mD m).length:=by rw [mK] at hj;omega
   simp only [eX,Int.ofNat_lt,hj,if_true,wI hj2,bs,hck];rw [if_neg (λhn=>hn (GA (by omega)))])
  (λn s _=>by simp [eX]) (n:=k) (s0:=()) (by rw [mK];omega) trivial
 rw [show eX k m (lx m B) k 0=_ from key];rw [BS,ma]
end Go.Proofs.YthnacobbednnbaaGreat
set_option linter.unusedVariables false
set_option linter.unusedSimpArgs false
namespace Go.Proofs.YthnacobbednnbaaGreat
open K Go Go.Proofs
end Go.Proofs.YthnacobbednnbaaGreat
set_option linter.unusedVariables false
set_option linter.unusedSimpArgs false
namespace Go.Proofs.YthnacobbednnbaaGreat
open K Go Go.Proofs
theorem nV{k:Nat}{l:List (List Int)}(hk:l.length < k)(hl:l.length≤1000000)(hx:∀x∈l,x.length < k/\x.length≤1000000):ek k l l=some true:=by
 unfold ek;rw [if_neg (λhn=>hn rfl)]
 have key:=lV (T:=Int) (f:=dh k l l) l (λ(_:Unit) j=>j) (λ_ _ _=>(.ok ():Except Bool Unit)) (λ_ _=>True) (λr=>some r)
  (λn s j hj _=>by
   have hck:ck ((j:Int)+1)=some ((j:Int)+1):=dj (by omega) (by omega);have h5:=hx _ (List.getElem_mem hj);refine⟨?_,λ_ _=>trivial⟩;simp only [dh,Int.ofNat_lt,hj,if_true,dX hj,bs,sW h5.1 h5.2,decide_true,not_true_eq_false,if_false,hck])
  (λn s _=>by simp [dh]) (n:=k) (s0:=()) hk trivial
 rw [show dh k l l k 0=_ from key,BS,ma]
theorem zA{k:Nat}{l:bU}{m:Int}{x:xY}(hl:Lo l m)(hm:0≤m/\m≤900)(hc:1≤x.1/\x.1≤5)(hd:x.2.2.2.2.1.length≤6):
 W (ib k l x) λr=>Lo r.2 (m+3)/\(0≤r.1.1/\r.1.1 < x.1)/\0≤r.1.2.1/\r.1.2.1≤(x.2.2.2.2.1.length:Int):=by
 unfold ib
 refine W.ck (by omega) (by omega) ?_
 refine W.bind (jw (l:=(l.1,l.2.1,l.2.2)) hl (by omega) (by omega)) λr4 h4=>?_
 refine W.bind (jw (l:=(r4.2.1,r4.2.2.1,r4.2.2.2)) h4.2.2 (by omega) (by omega)) λr5 h5=>?_
 refine W.bind (xk (l:=(r5.2.1,r5.2.2.1,r5.2.2.2)) h5.2.2 (by omega) (by omega) (by omega)) λr6 h6=>?_
 have b4:=h4.2.1 (by omega)
 have b5:=h5.2.1 (by omega)
 exact W.ret ⟨h6.mono (by omega),⟨h4.1,by show r4.1 < x.1;omega⟩,h5.1,b5⟩
theorem Vd.with{m:ae}(v:Vd m){gs:List bz}(h8:gs.length≤8)(hg:∀g∈gs,0≤g.1/\g.1 < mC m/\0≤g.2.1/\g.2.1≤(mD m).length):Vd (m.1,m.2.1,m.2.2.1,m.2.2.2.1,m.2.2.2.2.1,gs):=
 ⟨v.c1,v.c5,v.w0,v.w3,v.s0,v.s3,v.h1,v.h3,v.d1,v.d6,v.r3,v.l5,v.x5,v.nd,h8,hg⟩
theorem xI{k:Nat}(hk:50≤k){l:bU}{m:Int}{cs ds:Int}(hl:Lo l m)(hm:0≤m/\m≤400)(hc:1≤cs/\cs≤5)(hd:1≤ds/\ds≤6):
 W (f5 k l cs ds) λr=>Lo r.2 (m+270)/\Vd r.1/\(mG r.1).length≤4/\mC r.1≤cs/\((mD r.1).length:Int)≤ds:=by
 unfold f5
 refine W.bind (Bn hk (l:=(l.1,l.2.1,l.2.2)) hl hm hc hd) λr2 h2=>?_
 obtain⟨lo2,v,hg,hcs,hds⟩:=h2
 have c1:=v.c1
 have c5:=v.c5
 have d6:=v.d6
 refine W.bind (R:=λx=>Lo (x.2.1,x.2.2.1,x.2.2.2) (m+270)/\x.1.length≤4/\∀g∈x.1,0≤g.1/\g.1 < mC r2.1/\0≤g.2.1/\g.2.1≤(mD r2.1).length) ?_ λx hx=>W.ret ⟨hx.1,v.with (by omega) hx.2.2,hx.2.1,hcs,hds⟩
 refine W.bind (jw (l:=(r2.2.1,r2.2.2.1,r2.2.2.2)) lo2 (by omega) (by omega)) λr6 h6=>?_
 have b6:=h6.2.1 (by omega)
 refine W.loop (f:=eB k r2) (λq y=>∃j:Nat,y.2.2.2.1.length=j/\y.2.2.2.2=r6.1 - j/\(j:Int)≤r6.1/\q=r6.1.toNat - j/\Lo (y.1,y.2.1,y.2.2.1) (m+251+3 * j)/\∀g∈y.2.2.2.1,0≤g.1/\g.1 < mC r2.1/\0≤g.2.1/\g.2.1≤(mD r2.1).length) ?_ r6.1.toNat k _ (by omega)
  ⟨0,rfl,by simp,by omega,by omega,h6.2.2.mono (by omega),by simp⟩
 rintro aF q ⟨nums,d,s,out,y⟩ ⟨j,hj,hy,hle,hq,hlo,hr⟩ ih
 simp only at hj hy hlo hr
 subst hy
 unfold eB
 dsimp only
 refine W.ite (λhlt=>?_) (λhge=>W.ret ⟨hlo.mono (by omega),by show out.length≤4;omega,hr⟩)
 refine W.bind (zA (l:=(nums,d,s)) (x:=(r2.1.1,r2.1.2.1,r2.1.2.2.1,r2.1.2.2.2.1,r2.1.2.2.2.2.1,())) hlo (by omega) ⟨c1,c5⟩ d6) λr9 h9=>?_
 rw [dA (by simp [bP];omega),bs]
 refine W.ck (by omega) (by omega) ?_
 refine ih (q - 1) (_,_,_,_,_) (by omega) ⟨j+1,by simp [hj],by show r6.1 - j - 1=r6.1 - ((j+1:Nat):Int);omega,by omega,by omega,h9.1.mono (by omega),λg hgg=>?_⟩
 rcases List.mem_append.1 hgg with h |h
 .
  exact hr g h
 .
  rw [List.mem_singleton.1 h];exact⟨h9.2.1.1,h9.2.1.2,h9.2.2⟩
theorem Sm.with{m:ae}(h:Sm m){gs:List bz}(hg:gs.length≤1000):Sm (m.1,m.2.1,m.2.2.1,m.2.2.2.1,m.2.2.2.2.1,gs):=⟨h.d,h.r,hg⟩
end Go.Proofs.YthnacobbednnbaaGreat
set_option linter.unusedVariables false
set_option linter.unusedSimpArgs false
namespace Go.Proofs.YthnacobbednnbaaGreat
open K Go Go.Proofs
def iI(C:Nat):Nat->List Int->Nat->List (List Int)
 |0,b,_=>[b]
 |n+1,b,f=>b::(List.range' f (C - f)).flatMap λ(c:Nat)=>iI C n (b++[(c:Int)]) (c+1)
theorem t4{b:List Int}{c:Int}:bT (b++[c])=vk (bT b) c:=by
 unfold bT;rw [List.foldl_append];rfl
theorem zw{σ:Type}{k:Nat}{Y:σ->Int->Option (σ×Bool)}{C:Nat}(hC:C≤5)(hk:10≤k)(g:σ->List Int->σ)(vo:Nat->σ->Prop):
 ∀(n m0:Nat) (b:List Int) (f:Nat) (s:σ) (r:Nat),C - f≤n->f≤C->n < m0->jt (bT b)->(∀r s,∀b'∈iI C n b f,vo (r+1) s->Y s (bT b')=some (g s b',true)/\vo r (g s b'))->vo ((iI C n b f).length+r) s->
  dn k Y (C:Int) m0 (bT b) (f:Int) s=some (true,(iI C n b f).foldl g s)/\vo r ((iI C n b f).foldl g s)
 |n,0,b,f,s,r,_,_,h,_,_,_=>absurd h (not_lt_zero _)
 |0,m0+1,b,f,s,r,h1,h2,_,hm,hY,hI=>by
  have hf:f=C:=by omega
  subst hf
  unfold dn
  obtain⟨k,rfl⟩:∃n,k=n+1:=⟨k - 1,by omega⟩
  have hI:vo (r+1) s:=by rw [Nat.add_comm];exact hI
  have:=hY r s b (by simp [iI]) hI
  rw [this.1,bs,if_neg (by simp)]
  rw [de,if_neg (Int.lt_irrefl _),ma]
  exact⟨rfl,this.2⟩
 |n+1,m0+1,b,f,s,r,h1,h2,h3,hm,hY,hI=>by
  unfold dn
  have hlen:(iI C (n+1) b f).length=((List.range' f (C - f)).flatMap λ(c:Nat)=>iI C n (b++[(c:Int)]) (c+1)).length+1:=by rw [iI,length_cons]
  rw [hlen] at hI
  have h0:=hY (((List.range' f (C - f)).flatMap λ(c:Nat)=>iI C n (b++[(c:Int)]) (c+1)).length+r) s b (by simp [iI]) (by rw [Nat.add_right_comm] at hI;exact hI)
  rw [h0.1,bs,if_neg (by simp)]
  have loop:∀(d x:Nat) (s:σ) (aF:Nat) (r:Nat),C - x=d->f≤x->x≤C->d < aF->vo (((List.range' x (C - x)).flatMap λ(c:Nat)=>iI C n (b++[(c:Int)]) (c+1)).length+r) s->
   de k (bT b) (C:Int) (dn k Y (C:Int) m0) aF ((x:Int),s)=some (.ok (((List.range' x (C - x)).flatMap λ(c:Nat)=>iI C n (b++[(c:Int)]) (c+1)).foldl g s))/\vo r (((List.range' x (C - x)).flatMap λ(c:Nat)=>iI C n (b++[(c:Int)]) (c+1)).foldl g s):=by
   intro d
   induction d with
   |zero=>
    intro x s aF r hd hx hx2 hfu hI;obtain⟨aF,rfl⟩:∃n,aF=n+1:=⟨aF - 1,by omega⟩;have:x=C:=by omega
    subst this;rw [Nat.sub_self] at hI⊢;rw [de,if_neg (Int.lt_irrefl _)];exact⟨rfl,by simpa using hI⟩
   |succ d ih=>
    intro x s aF r hd hx hx2 hfu hI;obtain⟨aF,rfl⟩:∃n,aF=n+1:=⟨aF - 1,by omega⟩;have hw:=mP (k:=k) hm (show(0:Int)≤(x:Int) by omega) (show(x:Int) < 8 by omega);have hck:ck ((x:Int)+1)=some (((x+1:Nat):Int)):=by rw [dj (by omega) (by omega)];rfl
    have e:C - x=(C - (x+1))+1:=by omega
    rw [e,List.range'_succ,List.flatMap_cons,length_append,Nat.add_assoc] at hI
    have hsub:=zw hC hk g vo n m0 (b++[(x:Int)]) (x+1) s _ (by omega) (by omega) (by omega) (by rw [t4];exact hw.2.1) (λr s b' hb'=>hY r s b' (by
     rw [iI];refine mem_cons_of_mem _ (List.mem_flatMap.2 ⟨x,?_,hb'⟩);rw [List.mem_range'_1];omega)) hI
    rw [t4] at hsub;have hih:=ih (x+1) _ aF r (by omega) (by omega) (by omega) (by omega) hsub.2;rw [de,if_pos (show(x:Int) < (C:Int) by omega),hw.1,bs,hck,bs,hsub.1,bs,if_neg (by simp),bs,hih.1];rw [e,List.range'_succ,List.flatMap_cons,List.foldl_append];exact⟨rfl,hih.2⟩
  have hl:=loop (C - f) f _ k r rfl (Nat.le_refl _) h2 (by omega) h0.2;rw [hl.1,ma];exact⟨rfl,hl.2⟩
def xW(m:ae)(but:Nat->Bool)(B:Int->Bool):Bool:=(mG m).zipIdx.all λg=>but g.2 || decide (g.1.2.2=decide (mS m≤mg m B g.1.2.1.toNat g.1.1))
theorem sD{α ε:Type}{p:Nat->α->Bool}{e:ε}:∀(l:List α) (j:Nat),eo (λ(_:Unit) j x=>if p j x=true then .ok () else Except.error e) j l ()=if((l.zipIdx j).all λg=>p g.2 g.1)=true then .ok () else .error e
 |[],j=>rfl
 |x::l,j=>by
  rw [eo,zipIdx_cons,all_cons]
  cases h:p j x with
  |true=>simp only [if_true,Bool.true_and];exact sD l (j+1)
  |false=>simp
theorem zH{k:Nat}{m:ae}{S a2:Int}(v:Vd m)(hk:10≤k)(hS:jt S)(ha:jt a2):cZ k m S a2=some (xW m (λi=>decide (dR a2 i)) (l9 S)):=by
 have g8:=v.g8;have d6:=v.d6;unfold cZ f9;rw [sL v hk hS,bs]
 have key:=lV (T:=Int) (f:=cu k m a2 (cr (Ft m (l9 S)))) (mG m) (λ(_:Unit) j=>j) (λ_ j x=>if(decide (dR a2 j) || decide (x.2.2=decide (mS m≤mg m (l9 S) x.2.1.toNat x.1)))=true then .ok () else Except.error ()) (λ_ _=>True) (λr=>some (match r with | .error _=>false | .ok _=>true))
  (λn s j hj _=>by
   have hck:ck ((j:Int)+1)=some ((j:Int)+1):=dj (by omega) (by omega);have hg:=v.gl _ (List.getElem_mem hj);have hj':(j:Int) < (m.2.2.2.2.2.length:Int):=Int.ofNat_lt.2 hj;have hget:aM m.2.2.2.2.2 (j:Int)=some (mG m)[j]:=dX hj;generalize (mG m)[j]=x at *;have c5:=v.c5;have e2:x.2.1=((x.2.1.toNat:Nat):Int):=by omega
   have hrow:aM (cr (Ft m (l9 S))) x.2.1=some (ky (Ft m (l9 S) x.2.1.toNat)):=by
    rw [e2,BN (by omega),Int.toNat_natCast]
   have hval:aM (ky (Ft m (l9 S) x.2.1.toNat)) x.1=some (mg m (l9 S) x.2.1.toNat x.1):=by
    rw [xf hg.1 (by omega),Dp v (by omega) hg.1 hg.2.1]
   refine⟨?_,λ_ _=>trivial⟩;have hm1:m.2.2.1=mS m:=rfl;simp only [cu,hj',if_true,hget,bs,xH (k:=k) ha (i:=j) (by omega),hrow,hval,hm1];cases hh:decide (dR a2 j) with
   |true=>simp only [not_true_eq_false,if_false,bs,Bool.false_eq_true,hck,Bool.true_or,if_true]
   |false=>
    simp only [Bool.false_eq_true,not_false_eq_true,if_true,bs,Bool.false_or];by_cases e:(decide (mS m≤mg m (l9 S) x.2.1.toNat x.1))=x.2.2
    .rw [if_neg (by simp [e]),hck,bs,if_pos (by simp [e])]
    .rw [if_pos (by simp [e]),if_neg (by simp;exact λh=>e h.symm)])
  (λn s _=>by
   unfold cu;rw [if_neg (Int.lt_irrefl _)]) (n:=k) (s0:=()) (by omega) trivial
 rw [show cu k m a2 (cr (Ft m (l9 S))) k 0=_ from key,sD (p:=λj (x:bz)=>decide (dR a2 j) || decide (x.2.2=decide (mS m≤mg m (l9 S) x.2.1.toNat x.1)))];unfold xW;cases((mG m).zipIdx 0).all λg=>decide (dR a2 g.2) || decide (g.1.2.2=decide (mS m≤mg m (l9 S) g.1.2.1.toNat g.1.1)) with
 |true=>rfl
 |false=>rfl
end Go.Proofs.YthnacobbednnbaaGreat
set_option linter.unusedVariables false
set_option linter.unusedSimpArgs false
namespace Go.Proofs.YthnacobbednnbaaGreat
open K Go Go.Proofs
theorem wN{m:ae}(v:Vd m){A B:Int->Bool}(h:∀c,0≤c->c < mC m->A c=B c):∀(n:Nat) (c:Int),0≤c->c < mC m->mg m A n c=mg m B n c
 |0,c,h0,h1=>by unfold mg;rw [h c h0 h1]
 |n+1,c,h0,h1=>by
  have ih:=wN v h n
  unfold mg
  cases e:Du m n c with
  |none=>simp only [];rw [ih c h0 h1]
  |some l=>
   have hb:=(uS v e).2
   have:(l.any λx=>decide (mW m≤mg m A n x))=l.any λx=>decide (mW m≤mg m B n x):=by
    rw [Bool.eq_iff_iff];simp only [List.any_eq_true,decide_eq_true_eq];constructor
    .rintro⟨x,hx,h⟩;exact⟨x,hx,by rw [<-ih x (hb x hx).1 (hb x hx).2];exact h⟩
    .rintro⟨x,hx,h⟩;exact⟨x,hx,by rw [ih x (hb x hx).1 (hb x hx).2];exact h⟩
   simp only [];rw [ih c h0 h1,this]
theorem BU{α:Type}{l:List α}{p q:α->Bool}(h:∀x∈l,p x=q x):l.all p=l.all q:=by
 induction l with
 |nil=>rfl
 |cons x l ih=>rw [all_cons,all_cons,h x mem_cons_self,ih λy hy=>h y (mem_cons_of_mem _ hy)]
theorem EH{m:ae}(v:Vd m){but:Nat->Bool}{A B:Int->Bool}(h:∀c,0≤c->c < mC m->A c=B c):xW m but A=xW m but B:=by
 unfold xW;refine BU λg hg=>?_;obtain⟨x,i⟩:=g;have hx:=v.gl x (List.fst_mem_of_mem_zipIdx hg);show(but i || decide (x.2.2=decide (mS m≤mg m A x.2.1.toNat x.1)))=(but i || decide (x.2.2=decide (mS m≤mg m B x.2.1.toNat x.1)));rw [wN v h _ _ hx.1 hx.2.1]
def uU(m:ae):List (List Int):=iI (mC m).toNat (mC m).toNat [] 0
theorem Dx{C:Nat}:∀(n:Nat) (b:List Int) (f:Nat),Bg (C:Int) b->(∀x∈b,x < (f:Int))->∀b'∈iI C n b f,Bg (C:Int) b'
 |0,b,f,h,_,b',hb=>by
  rw [iI,List.mem_singleton] at hb
  rw [hb];exact h
 |n+1,b,f,h,hf,b',hb=>by
  rw [iI,mem_cons] at hb
  rcases hb with rfl |hb
  .
   exact h
  .
   obtain⟨c,hc,hb⟩:=List.mem_flatMap.1 hb
   rw [List.mem_range'_1] at hc
   refine Dx n (b++[(c:Int)]) (c+1) ⟨λx hx=>?_,?_⟩ (λx hx=>?_) b' hb
   .
    rcases List.mem_append.1 hx with hx |hx
    .
     exact h.rng x hx
    .
     rw [List.mem_singleton.1 hx];omega
   .
    rw [pairwise_append]
    exact⟨h.asc,by simp,λa ha x hx=>by rw [List.mem_singleton.1 hx];have:=hf a ha;omega⟩
   .
    rcases List.mem_append.1 hx with hx |hx
    .
     have:=hf x hx;omega
    .
     rw [List.mem_singleton.1 hx];omega
theorem ye{m:ae}(v:Vd m){b:List Int}(h:b∈uU m):Bg (mC m) b:=by
 have c1:=v.c1;have:=Dx (C:=(mC m).toNat) (mC m).toNat [] 0 ⟨by simp,by simp⟩ (by simp) b h;rwa [show(((mC m).toNat:Nat):Int)=mC m by omega] at this
theorem uT{m:ae}(v:Vd m):(uU m).length≤32:=by
 have c1:=v.c1;have c5:=v.c5;have:(mC m).toNat=1\/(mC m).toNat=2\/(mC m).toNat=3\/(mC m).toNat=4\/(mC m).toNat=5:=by omega
 unfold uU;rcases this with h |h |h |h |h <;> rw [h] <;> decide
def mJ(m:ae)(but:Nat->Bool):List (List Int):=(uU m).filter λb=>xW m but λc=>decide (c∈b)
theorem pB{α β:Type}{p:α->Bool}{h:α->β}:∀(l:List α) (s:List β),l.foldl (λ(s:List β×Bool) b=>(if p b then s.1++[h b] else s.1,false)) (s,false)=(s++(l.filter p).map h,false)
 |[],s=>by simp
 |x::l,s=>by
  rw [foldl_cons,pB l]
  cases e:p x with
  |true=>simp [e]
  |false=>simp [e]
theorem uv{k:Nat}{m:ae}{a2:Int}(v:Vd m)(hk:50≤k)(ha:jt a2):eA k m a2=some ((mJ m λi=>decide (dR a2 i)).map bT):=by
 have c1:=v.c1;have c5:=v.c5;unfold eA jK;have hC:m.1=(((mC m).toNat:Nat):Int):=by show mC m=_;omega
 have h:=zw (σ:=List Int×Bool) (k:=k) (Y:=qC (λ(y5:(List Int)) (p7:Int)=>(cZ k m p7 a2).bind λr9=>if r9=true then((cJ (bP (length y5+length [p7]))).bind λ_=>some (y5++[p7],true)) else(some (y5,true)))) (C:=(mC m).toNat) (by omega) (by omega)
  (λs b=>(if xW m (λi=>decide (dR a2 i)) (λc=>decide (c∈b)) then s.1++[bT b] else s.1,false)) (λr s=>s.2=false/\s.1.length+r≤1000) (mC m).toNat k [] 0 ([],false) 0 (by omega) (by omega) (by omega) ux (λr s b' hb' hI=>by
   obtain⟨y,q⟩:=s;obtain⟨rfl,hI⟩:q=false/\y.length+(r+1)≤1000:=hI;have hbg:=ye v hb';have hset:=hbg.set c5;have hex:xW m (λi=>decide (dR a2 i)) (l9 (bT b'))=xW m (λi=>decide (dR a2 i)) (λc=>decide (c∈b')):=EH v λc h0 _=>hset.2 c h0;unfold qC;simp only [];rw [zH v (by omega) hset.1 ha,hex,bs];cases xW m (λi=>decide (dR a2 i)) (λc=>decide (c∈b')) with
   |true=>
    simp only [if_true];rw [dA (by simp [bP];omega),bs,bs];exact⟨by first |rfl |trivial,by first |rfl |trivial,by show(y++[bT b']).length+r≤1000;simp;omega⟩
   |false=>
    simp only [Bool.false_eq_true,if_false];rw [bs];exact⟨by first |rfl |trivial,by first |rfl |trivial,by show y.length+r≤1000;omega⟩) ⟨rfl,by have:=uT v;unfold uU at this;simp;omega⟩
 rw [hC,show dn k (qC (λ(y5:(List Int)) (p7:Int)=>(cZ k m p7 a2).bind λr9=>if r9=true then((cJ (bP (length y5+length [p7]))).bind λ_=>some (y5++[p7],true)) else(some (y5,true)))) (((mC m).toNat:Nat):Int) k 0 0 ([],false)=_ from h.1,bs,bs];rw [pB (p:=λb=>xW m (λi=>decide (dR a2 i)) λc=>decide (c∈b)) (h:=bT)];simp only [Bool.false_eq_true,if_false,nil_append];rfl
theorem Ip:∀{a b:List Int},a.Pairwise (· < ·)->b.Pairwise (· < ·)->(∀x,x∈a↔x∈b)->a=b
 |[],[],_,_,_=>rfl
 |[],y::b,_,_,h=>absurd ((h y).2 mem_cons_self) (by simp)
 |x::a,[],_,_,h=>absurd ((h x).1 mem_cons_self) (by simp)
 |x::a,y::b,ha,hb,h=>by
  rw [pairwise_cons] at ha hb
  have e:x=y:=by
   rcases mem_cons.1 ((h x).1 mem_cons_self) with e |hx
   .exact e
   .rcases mem_cons.1 ((h y).2 mem_cons_self) with e |hy
    .exact e.symm
    .have h1:=hb.1 x hx;have h2:=ha.1 y hy;omega
  subst e;rw [Ip ha.2 hb.2 λz=>?_];have:=h z;simp only [mem_cons] at this;constructor
  .intro hz;rcases this.1 (.inr hz) with rfl |h'
   .exact absurd (ha.1 z hz) (Int.lt_irrefl _)
   .exact h'
  .intro hz;rcases this.2 (.inr hz) with rfl |h'
   .exact absurd (hb.1 z hz) (Int.lt_irrefl _)
   .exact h'
theorem mT{k:Nat}{C:Int}{b:List Int}(hk:10≤k)(hC:C≤5)(h:Bg C b):d5 k (bT b)=some b:=by
 have hset:=h.set hC;unfold d5
 have key:=iW (T:=List Int×Int) (f:=dr k (bT b)) (List.range 5) (λ(s:List Int) j=>(s,j)) (λs j _=>if decide (dR (bT b) j) then s++[(j:Int)] else s) (λj s=>s.length≤j/\s.Pairwise (· < ·)/\∀x,x∈s↔x∈b/\x < (j:Int)) (λs=>some s)
  (λn s j hj hs=>by
   rw [length_range] at hj;have hck:ck ((j:Int)+1)=some ((j:Int)+1):=dj (by omega) (by omega);have hj5:(j:Int) < 5:=by omega
   have hin:=hset.2 (j:Int) (by omega);unfold l9 at hin;rw [Int.toNat_natCast] at hin;refine⟨?_,?_⟩
   .simp only [dr,hj5,if_true,xH (k:=k) hset.1 (by omega:j < 8),bs];cases decide (dR (bT b) j) with
    |true=>
     simp only [if_true];rw [dA (by simp [bP];omega),bs,bs,hck,bs]
    |false=>simp only [Bool.false_eq_true,if_false,bs,hck]
   .rw [hin];by_cases hb:(j:Int)∈b
    .rw [decide_eq_true hb];simp only [if_true];refine⟨by simp;omega,?_,λx=>?_⟩
     .rw [pairwise_append];exact⟨hs.2.1,by simp,λa ha x hx=>by rw [List.mem_singleton.1 hx];exact((hs.2.2 a).1 ha).2⟩
     .rw [List.mem_append,hs.2.2 x,List.mem_singleton];constructor
      .rintro(⟨h1,h2⟩ |rfl)
       .exact⟨h1,by omega⟩
       .exact⟨hb,by omega⟩
      .rintro⟨h1,h2⟩;by_cases e:x=(j:Int)
       .exact .inr e
       .exact .inl ⟨h1,by omega⟩
    .rw [decide_eq_false hb];simp only [Bool.false_eq_true,if_false];refine⟨by omega,hs.2.1,λx=>?_⟩;rw [hs.2.2 x];constructor
     .rintro⟨h1,h2⟩;exact⟨h1,by omega⟩
     .rintro⟨h1,h2⟩;by_cases e:x=(j:Int)
      .subst e;exact absurd h1 hb
      .exact⟨h1,by omega⟩)
  (λn s hs=>by
   rw [length_range];unfold dr;rw [if_neg (show¬(((5:Nat):Int) < 5) by decide)]) (n:=k) (s0:=[]) (by rw [length_range];omega) ⟨by simp,by simp,λx=>by simp;intro hx;exact(h.rng x hx).1⟩
 rw [show dr k (bT b) k ([],0)=_ from key.1,bs];have:=key.2;rw [length_range] at this;exact congrArg some (Ip this.2.1 h.asc λx=>by rw [this.2.2 x];exact⟨λhh=>hh.1,λhh=>⟨hh,by have:=h.rng x hh;omega⟩⟩)
end Go.Proofs.YthnacobbednnbaaGreat
set_option linter.unusedVariables false
set_option linter.unusedSimpArgs false
namespace Go.Proofs.YthnacobbednnbaaGreat
open K Go Go.Proofs
def Fo(b:List Int):Nat:=match b.getLast? with |some x=>x.toNat+1 |none=>0
theorem wM{C:Nat}(hC:C≤5):∀(n:Nat) (b:List Int) (f:Nat),(iI C n b f).length≤6 ^ n
 |0,b,f=>by simp [iI]
 |n+1,b,f=>by
  have fl:∀l:List Nat,(l.flatMap λ(c:Nat)=>iI C n (b++[(c:Int)]) (c+1)).length≤l.length * 6 ^ n:=by
   intro l
   induction l with
   |nil=>simp
   |cons c l ih=>
    rw [List.flatMap_cons,length_append,length_cons,Nat.add_mul];have:=wM hC n (b++[(c:Int)]) (c+1);omega
  have:=fl (List.range' f (C - f));rw [List.length_range'] at this;rw [iI,length_cons,Nat.pow_succ];have h1:(C - f) * 6 ^ n≤5 * 6 ^ n:=mul_le_mul_right _ (by omega);have h2:1≤6 ^ n:=Nat.one_le_pow _ _ (by decide);omega
theorem uh{b:List Int}{c:Nat}:Fo (b++[(c:Int)])=c+1:=by
 unfold Fo;rw [List.getLast?_append];simp
theorem CM{k C:Nat}(hC:C≤5)(hk:10≤k):∀(n m0:Nat) (b:List Int),n≤5->C - Fo b≤n->Fo b≤C->n < m0->b.length+n≤5->(∀x∈b,0≤x/\x < 5)->kz k m0 (C:Int) b=some (iI C n b (Fo b))
 |n,0,b,_,_,_,h,_,_=>absurd h (not_lt_zero _)
 |n,m0+1,b,h5,h1,h2,h3,hb,hx=>by
  unfold kz
  have hn:((if(0:Int) < (b.length:Int) then((ck ((b.length:Int) - (1:Int))).bind λx4=>(aM b x4).bind λx5=>(ck (x5+(1:Int))).bind λx6=>some x6) else(some (0:Int))):Option Int)=some ((Fo b:Nat):Int):=by
   by_cases h0:b=[]
   .subst h0;rfl
   .have hl:0 < b.length:=List.length_pos_iff.2 h0;have c1:ck ((b.length:Int) - 1)=some (((b.length - 1:Nat):Int)):=by rw [dj (by omega) (by omega),show((b.length:Int) - 1)=((b.length - 1:Nat):Int) by omega]
    have hg:=dX (l:=b) (i:=b.length - 1) (by omega);have hxx:=hx _ (List.getElem_mem (l:=b) (n:=b.length - 1) (by omega));have hla:b.getLast? =some b[b.length - 1]:=by rw [List.getLast?_eq_getElem?,List.getElem?_eq_getElem (by omega)]
    have c2:ck (b[b.length - 1]+1)=some (b[b.length - 1]+1):=dj (by omega) (by omega);rw [if_pos (by omega),c1,bs,hg,bs,c2,bs];unfold Fo;rw [hla];show some (b[b.length - 1]+1)=some (((b[b.length - 1].toNat+1:Nat)):Int);congr 1;omega
  rw [hn,bs];cases n with
  |zero=>
   have hf:Fo b=C:=by omega
   rw [hf];obtain⟨k,rfl⟩:∃n,k=n+1:=⟨k - 1,by omega⟩;rw [gk,if_neg (Int.lt_irrefl _),bs];rfl
  |succ n=>
   have loop:∀(d x:Nat) (acc:List (List Int)) (aF:Nat),C - x=d->Fo b≤x->x≤C->d < aF->acc.length+((List.range' x (C - x)).flatMap λ(c:Nat)=>iI C n (b++[(c:Int)]) (c+1)).length≤100000->
    gk k (C:Int) b (kz k m0) aF (acc,(x:Int))=some (acc++(List.range' x (C - x)).flatMap λ(c:Nat)=>iI C n (b++[(c:Int)]) (c+1)):=by
    intro d
    induction d with
    |zero=>
     intro x acc aF hd hx1 hx2 hfu hl;obtain⟨aF,rfl⟩:∃n,aF=n+1:=⟨aF - 1,by omega⟩;have:x=C:=by omega
     subst this;rw [gk,if_neg (Int.lt_irrefl _),Nat.sub_self];simp
    |succ d ih=>
     intro x acc aF hd hx1 hx2 hfu hl;obtain⟨aF,rfl⟩:∃n,aF=n+1:=⟨aF - 1,by omega⟩;have e:C - x=(C - (x+1))+1:=by omega
     rw [e,List.range'_succ,List.flatMap_cons,length_append] at hl;have hck:ck ((x:Int)+1)=some (((x+1:Nat):Int)):=by rw [dj (by omega) (by omega)];rfl
     have hsub:=CM hC hk n m0 (b++[(x:Int)]) (by omega) (by rw [uh];omega) (by rw [uh];omega) (by omega) (by simp;omega) (λy hy=>by
      rcases List.mem_append.1 hy with h |h
      .exact hx y h
      .rw [List.mem_singleton.1 h];omega)
     rw [uh] at hsub;have e0:([]:List Int)++b=b:=rfl;have hok:cJ (bP (acc.length+(iI C n (b++[(x:Int)]) (x+1)).length))=some ():=dA (show acc.length+(iI C n (b++[(x:Int)]) (x+1)).length≤4294967296 by omega);rw [gk,if_pos (show(x:Int) < (C:Int) by omega),dA (by simp [bP];omega),bs,e0,dA (by simp [bP];omega),bs,hsub,bs];dsimp only;rw [hok,bs,hck,bs];rw [ih (x+1) _ aF (by omega) (by omega) (by omega) (by omega) (by rw [length_append];omega)];rw [e,List.range'_succ,List.flatMap_cons,List.append_assoc]
   have hlen:=wM hC (n+1) b (Fo b);rw [iI,length_cons] at hlen;have h6:6 ^ (n+1)≤6 ^ 5:=Nat.pow_le_pow_right (by decide) h5;have h7:(6:Nat) ^ 5=7776:=by decide
   have h1l:([b]:List (List Int)).length=1:=rfl;rw [loop (C - Fo b) (Fo b) [b] k rfl (Nat.le_refl _) h2 (by omega) (by omega),bs,iI];rfl
theorem GL{k:Nat}{m:ae}(v:Vd m)(hk:10≤k):kz k k m.1 []=some (uU m):=by
 have c1:=v.c1;have c5:=v.c5;have:=CM (k:=k) (C:=(mC m).toNat) (by omega) hk (mC m).toNat k [] (by omega) (by show _ - 0≤_;omega) (zero_le _) (by omega) (by simp;omega) (by simp);rw [show(((mC m).toNat:Nat):Int)=m.1 by show _=mC m;omega] at this;exact this
