import Derived.Test.YthnacobbednnbaaGreatVDF2
open Nat
open List hiding mem_of_getElem?
open Array hiding mem_of_getElem? mk
set_option linter.unusedVariables false
set_option linter.unusedSimpArgs false
namespace Go.Proofs.YthnacobbednnbaaGreat
open K Go Go.Proofs
def W{α:Type}(x:Option α)(Q:α->Prop):Prop:=∃a,x=some a/\Q a
namespace W
variable {α β ε:Type}{Q:β->Prop}
theorem ret{a:β}(h:Q a):W (some a) Q:=⟨a,rfl,h⟩
theorem mono{x:Option β}{R:β->Prop}(h:W x R)(hq:∀a,R a->Q a):W x Q:=let ⟨a,e,r⟩:=h;⟨a,e,hq a r⟩
theorem bind{x:Option α}{f:α->Option β}{R:α->Prop}(h:W x R)(hf:∀a,R a->W (f a) Q):W (x.bind f) Q:=by
 obtain⟨a,rfl,r⟩:=h;exact hf a r
theorem ck{n:Int}{f:Int->Option β}(h1: -9223372036854775808≤n)(h2:n≤9223372036854775807)(hf:W (f n) Q):W ((K.ck n).bind f) Q:=by
 rw [K.ck,if_pos ⟨h1,h2⟩];exact hf
theorem chk{p:Prop}[Decidable p]{f:Unit->Option β}(h:p)(hf:W (f ()) Q):W ((bR p).bind f) Q:=by
 rw [bR,if_pos h];exact hf
theorem at_{l:List α}{i:Int}{f:α->Option β}(h0:0≤i)(h1:i < l.length)(hf:∀x,l[i.toNat]? =some x->W (f x) Q):W ((aH l i).bind f) Q:=by
 have:i.toNat < l.length:=by omega
 rw [aH,if_pos h0,List.getElem?_eq_getElem this];exact hf _ (List.getElem?_eq_getElem this)
theorem ite{p:Prop}[Decidable p]{a b:Option β}(h1:p->W a Q)(h2:¬p->W b Q):W (if p then a else b) Q:=by
 split
 .exact h1 ‹_›
 .exact h2 ‹_›
theorem iteB{p:Prop}[Decidable p]{a b:Option α}{f:α->Option β}(h1:p->W (a.bind f) Q)(h2:¬p->W (b.bind f) Q):W ((if p then a else b).bind f) Q:=by
 split
 .exact h1 ‹_›
 .exact h2 ‹_›
theorem bEE{x:Option (Except ε α)}{g:ε->Option β}{f:α->Option β}{R:Except ε α->Prop}(h:W x R)(hg:∀e,R (.error e)->W (g e) Q)(hf:∀a,R (.ok a)->W (f a) Q):W (K.bE x g f) Q:=by
 obtain⟨a,rfl,r⟩:=h;cases a with
 |error e=>exact hg e r
 |ok a=>exact hf a r
theorem loop{T:Type}{f:Nat->T->Option β}(I:Nat->T->Prop)(step:∀aL m y,I m y->(∀m' y',m' < m->I m' y'->W (f aL y') Q)->W (f (aL+1) y) Q):∀m aL y,m < aL->I m y->W (f aL y) Q:=by
 intro m
 induction m using Nat.strongRecOn with
 |_ m ih=>
  intro aL y hm hI;cases aL with
  |zero=>omega
  |succ aL=>exact step aL m y hI λm' y' h hI'=>ih m' h aL y' (by omega) hI'
end W
theorem wrap_u64(n:Int):0≤IntKind.u64.wrap n/\IntKind.u64.wrap n < 18446744073709551616:=by
 have h1:=Int.emod_nonneg n (show(18446744073709551616:Int)≠0 by decide);have h2:=Int.emod_lt_of_pos n (show(0:Int) < 18446744073709551616 by decide)
 have e:IntKind.u64.wrap n=n % 18446744073709551616:=by
  simp [IntKind.wrap,IntKind.signed,IntKind.bits]
 rw [e];exact⟨h1,h2⟩
theorem Ac{n:Int}(h0:0≤n)(h1:n < 18446744073709551616):IntKind.u64.wrap n=n:=by
 have e:IntKind.u64.wrap n=n % 18446744073709551616:=by
  simp [IntKind.wrap,IntKind.signed,IntKind.bits]
 rw [e];exact Int.emod_eq_of_lt h0 h1
def Lo(l:bQ)(m:Int):Prop:=0≤l.2.1/\l.2.1≤m
theorem LW{k:Nat}{l:bQ}{m:Int}(h:Lo l m)(hm:m≤1000000000):W (iU k l) λr=>0≤r.1/\r.1 < 72057594037927936/\Lo r.2 (m+1):=by
 obtain⟨h0,h1⟩:=h;unfold iU
 have fin:∀x:Int,W ((K.ck (l.2.1+1)).bind λx4=>some (ii .u64 (rM .u64 (IntKind.u64.wrap ((rM .u64 x (ii .u64 x (29:Int))) * (2685821657736338717:Int))) (ii .u64 (IntKind.u64.wrap ((rM .u64 x (ii .u64 x (29:Int))) * (2685821657736338717:Int))) (32:Int))) (8:Int),(l.1,x4,x)))
  λr=>0≤r.1/\r.1 < 72057594037927936/\Lo r.2 (m+1):=λx=>by
  refine W.ck (by omega) (by omega) (W.ret ?_)
  generalize IntKind.u64.wrap ((rM .u64 x (ii .u64 x (29:Int))) * (2685821657736338717:Int))=y
  have hx:0≤rM .u64 y (ii .u64 y 32)/\rM .u64 y (ii .u64 y 32) < 18446744073709551616:=wrap_u64 _
  have e:ii .u64 (rM .u64 y (ii .u64 y 32)) 8=(rM .u64 y (ii .u64 y 32)) / 256:=by
   unfold ii;rw [Int.fdiv_eq_ediv_of_nonneg _ (by decide)];rfl
  refine⟨?_,?_,?_,?_⟩
  .
   show 0≤ii .u64 (rM .u64 y (ii .u64 y 32)) 8;rw [e];omega
  .
   show ii .u64 (rM .u64 y (ii .u64 y 32)) 8 < _;rw [e];omega
  .
   show 0≤l.2.1+1;omega
  .
   show l.2.1+1≤m+1;omega
 refine W.iteB (λhlt=>?_) (λ_=>fin _);cases hg:aH l.1 l.2.1 with
 |some v=>exact fin _
 |none=>
  exfalso;have:l.2.1.toNat < l.1.length:=by omega
  rw [aH,if_pos h0,List.getElem?_eq_getElem this] at hg;cases hg
theorem kx{k:Nat}{l:bQ}{m n:Int}(h:Lo l m)(hm:m≤1000000000)(hn:n≤1000000000):W (cG k l n) λr=>0≤r.1/\(0≤n->r.1≤n)/\Lo r.2 (m+1):=by
 unfold cG;refine W.ite (λh1=>W.ret ⟨Int.le_refl 0,λh=>h,h.1,by show l.2.1≤m+1;have:=h.2;omega⟩) (λh1=>?_);refine W.bind (LW h hm) λr hr=>?_;refine W.ck (by omega) (by omega) ?_;have e:IntKind.u64.wrap (n+1)=n+1:=Ac (by omega) (by omega);refine W.chk (by rw [e];omega) ?_;rw [e];have h2:Int.tmod r.1 (n+1)=r.1 % (n+1):=Int.tmod_eq_emod_of_nonneg hr.1;have h3:=Int.emod_nonneg r.1 (show n+1≠0 by omega);have h4:=Int.emod_lt_of_pos r.1 (show 0 < n+1 by omega);rw [h2];refine W.ck (by omega) (by omega) (W.ret ⟨h3,λ_=>by show r.1 % (n+1)≤n;omega,hr.2.2⟩)
theorem ER{k:Nat}{l:bQ}{m a b:Int}(h:Lo l m)(hm:m≤1000000000)(ha:0≤a)(hab:a≤b)(hb:b≤1000000):W (gd k l a b) λr=>a≤r.1/\r.1≤b/\Lo r.2 (m+1):=by
 unfold gd;refine W.ck (by omega) (by omega) (W.bind (kx h hm (by omega)) λr hr=>?_);have:=hr.2.1 (by omega);refine W.ck (by omega) (by omega) (W.ret ⟨by show a≤a+r.1;omega,by show a+r.1≤b;omega,hr.2.2⟩)
theorem yX{k:Nat}{l:bQ}{m a:Int}(h:Lo l m)(hm:m≤1000000000)(ha:0≤a)(hb:a≤1000000):W (fJ k l a) λr=>Lo r.2 (m+1):=by
 unfold fJ;exact W.ck (by omega) (by omega) (W.bind (kx h hm (by omega)) λr hr=>W.ret hr.2.2)
theorem It{k:Nat}{l:bQ}{m:Int}{some_:List Int}(h:Lo l m)(hm:m≤1000000000)(h0:0 < some_.length)(h1:some_.length≤1000000):W (iy k l some_) λr=>r.1∈some_/\Lo r.2 (m+1):=by
 unfold iy;refine W.ck (by omega) (by omega) (W.bind (kx h hm (by omega)) λr hr=>?_);have:=hr.2.1 (by omega);refine W.at_ hr.1 (by omega) λx hx=>W.ret ⟨List.mem_of_getElem? hx,hr.2.2⟩
theorem cj{α:Type}{l:List α}{i:Nat}(h:i < l.length):aH l (i:Int)=some l[i]:=by
 rw [aH,if_pos (by omega)];exact List.getElem?_eq_getElem h
section
variable {α β γ ε σ T:Type}
theorem bs{a:α}{f:α->Option β}:(some a).bind f=f a:=by cases h:f a <;> simp [h]
theorem cy{n:Int}(h1: -9223372036854775808≤n)(h2:n≤9223372036854775807):K.ck n=some n:=by rw [K.ck,if_pos ⟨h1,h2⟩]
theorem dh{p:Prop}[Decidable p](h:p):bR p=some ():=by rw [bR,if_pos h]
theorem zq{l:List α}{i:Int}(h0:0≤i)(h:i.toNat < l.length):aH l i=some l[i.toNat]:=by rw [aH,if_pos h0];exact List.getElem?_eq_getElem h
theorem kl{a:α}{g:ε->Option β}{f:α->Option β}:K.bE (some (.ok a)) g f=f a:=by cases h:f a <;> simp [K.bE,h]
theorem mF{e:ε}{g:ε->Option β}{f:α->Option β}:K.bE (some (.error e)) g f=g e:=by cases h:g e <;> simp [K.bE,h]
theorem u7{q:α}{a:β}{b:α->β}:gy (some q) a b=b q:=by unfold gy;exact Eq.refl _
theorem sY{a:β}{b:α->β}:gy none a b=a:=by unfold gy;exact Eq.refl _
theorem Wa{n:Nat}(h:n≤4294967296):be n:=h
def nU(g:σ->Nat->α->σ):Nat->List α->σ->σ
 |_,[],s=>s
 |j,x::l,s=>nU g (j+1) l (g s j x)
theorem eU(l:List α)(mk:σ->Int->T)(g:σ->Nat->α->σ)(P:Nat->σ->Prop){f:Nat->T->Option β}(fin:σ->Option β)
 (step:∀n s (j:Nat) (h:j < l.length),P j s->f (n+1) (mk s j)=f n (mk (g s j l[j]) ((j:Int)+1))/\P (j+1) (g s j l[j]))
 (stop:∀n s,P l.length s->f (n+1) (mk s l.length)=fin s) {s0:σ} {n:Nat} (hn:l.length < n) (h0:P 0 s0):f n (mk s0 0)=fin (nU g 0 l s0)/\P l.length (nU g 0 l s0):=by
 have key:∀(m:List α) (pre:List α) (n:Nat) (s:σ),l=pre++m->m.length < n->P pre.length s->f n (mk s pre.length)=fin (nU g pre.length m s)/\P l.length (nU g pre.length m s):=by
  intro m
  induction m with
  |nil=>
   intro pre n s e hn hp;obtain⟨n,rfl⟩:∃n',n=n'+1:=⟨n - 1,by omega⟩;have:l.length=pre.length:=by rw [e];simp
   rw [<-this] at hp⊢;exact⟨stop n s hp,hp⟩
  |cons x m ih=>
   intro pre n s e hn hp;simp only [length_cons] at hn;obtain⟨n,rfl⟩:∃n',n=n'+1:=⟨n - 1,by omega⟩;have hl:pre.length < l.length:=by rw [e];simp
   have hx:l[pre.length]=x:=by simp [e]
   obtain⟨h1,h2⟩:=step n s pre.length hl hp;rw [hx] at h1 h2;have:=ih (pre++[x]) n (g s pre.length x) (by rw [e];simp) (by omega) (by rw [length_append];exact h2);rw [length_append] at this;simp only [length_cons,length_nil,Nat.zero_add] at this;rw [h1];exact this
 have:=key l [] n s0 rfl hn h0
 exact this
def dW(g:σ->Nat->α->Except ε σ):Nat->List α->σ->Except ε σ
 |_,[],s=>.ok s
 |j,x::l,s=>match g s j x with
  | .error e=>.error e
  | .ok s'=>dW g (j+1) l s'
theorem yi(l:List α)(mk:σ->Int->T)(g:σ->Nat->α->Except ε σ)(P:Nat->σ->Prop){f:Nat->T->Option β}(fin:Except ε σ->Option β)
 (step:∀n s (j:Nat) (h:j < l.length),P j s->(∃e,g s j l[j]= .error e/\f (n+1) (mk s j)=fin (.error e))\/(∃s',g s j l[j]= .ok s'/\f (n+1) (mk s j)=f n (mk s' ((j:Int)+1))/\P (j+1) s'))
 (stop:∀n s,P l.length s->f (n+1) (mk s l.length)=fin (.ok s)) {s0:σ} {n:Nat} (hn:l.length < n) (h0:P 0 s0):f n (mk s0 0)=fin (dW g 0 l s0):=by
 have key:∀(m:List α) (pre:List α) (n:Nat) (s:σ),l=pre++m->m.length < n->P pre.length s->f n (mk s pre.length)=fin (dW g pre.length m s):=by
  intro m
  induction m with
  |nil=>
   intro pre n s e hn hp;obtain⟨n,rfl⟩:∃n',n=n'+1:=⟨n - 1,by omega⟩;have:l.length=pre.length:=by rw [e];simp
   rw [<-this] at hp⊢;exact stop n s hp
  |cons x m ih=>
   intro pre n s e hn hp;simp only [length_cons] at hn;obtain⟨n,rfl⟩:∃n',n=n'+1:=⟨n - 1,by omega⟩;have hl:pre.length < l.length:=by rw [e];simp
   have hx:l[pre.length]=x:=by simp [e]
   rcases step n s pre.length hl hp with⟨e',h1,h2⟩ |⟨s',h1,h2,h3⟩
   .rw [hx] at h1;rw [h2,dW,h1]
   .rw [hx] at h1;have:=ih (pre++[x]) n s' (by rw [e];simp) (by omega) (by rw [length_append];exact h3);rw [length_append] at this;simp only [length_cons,length_nil,Nat.zero_add] at this;rw [h2,dW,h1];exact this
 exact key l [] n s0 rfl hn h0
end
section
variable {α β ε σ T:Type}
theorem iY(l:List α)(mk:σ->Int->T)(g:σ->Nat->α->Except ε σ)(P:Nat->σ->Prop){f:Nat->T->Option β}(fin:Except ε σ->Option β)
 (step:∀n s (j:Nat) (h:j < l.length),P j s->(f (n+1) (mk s j)=match g s j l[j] with | .error e=>fin (.error e) | .ok s'=>f n (mk s' ((j:Int)+1)))/\∀s',g s j l[j]= .ok s'->P (j+1) s')
 (stop:∀n s,P l.length s->f (n+1) (mk s l.length)=fin (.ok s)) {s0:σ} {n:Nat} (hn:l.length < n) (h0:P 0 s0):f n (mk s0 0)=fin (dW g 0 l s0):=
 yi l mk g P fin (λn s j h hp=>by
  obtain⟨h1,h2⟩:=step n s j h hp
  cases e:g s j l[j] with
  |error e'=>left;rw [e] at h1;exact⟨e',rfl,h1⟩
  |ok s'=>right;rw [e] at h1;exact⟨s',rfl,h1,h2 s' e⟩) stop hn h0
end
theorem wa{α:Type}(p:α->Bool):∀(l:List α) (j:Nat),dW (λ(_:Unit) j x=>if p x then Except.error (j:Int) else .ok ()) j l ()=match l.findIdx? p with |some i=>.error ((i+j:Nat):Int) |none=>.ok ()
 |[],j=>by simp [dW]
 |x::l,j=>by
  rw [dW,findIdx?_cons]
  by_cases h:p x=true
  .
   simp [h]
  .
   simp only [h,if_false,Bool.false_eq_true]
   rw [wa p l (j+1)]
   cases l.findIdx? p with
   |none=>rfl
   |some i=>simp only [Option.map_some];congr 2;omega
theorem um{k:Nat}{a b:List Int}(h:a.length < k)(hk:a.length≤1000000):fD k a b=some (decide (a=b)):=by
 unfold fD;by_cases hl:a.length=b.length
 .rw [if_neg (by simp [hl])]
  have key:=yi (f:=dS k a b) a (λ(_:Unit) j=>j) (λ_ j x=>if x=b[j]?.getD 0 then .ok () else Except.error false) (λ_ _=>True) (λr=>some r)
   (λn s j hj _=>by
    have hjb:j < b.length:=by omega
    have hb:b[j]?.getD 0=b[j]:=by simp [List.getElem?_eq_getElem hjb]
    have hck:ck ((j:Int)+1)=some ((j:Int)+1):=cy (by omega) (by omega);rw [hb];simp only [dS,Int.ofNat_lt,hj,if_true,cj hj,cj hjb,bs];by_cases e:a[j]=b[j] <;> simp [e,hck])
   (λn s _=>by simp [dS]) (n:=k) (s0:=()) h trivial
  rw [show dS k a b k 0=_ from key]
  have:∀(a:List Int) (j:Nat),a.length+j=b.length->dW (λ(_:Unit) j x=>if x=b[j]?.getD 0 then .ok () else Except.error false) j a ()=if a=b.drop j then .ok () else .error false:=by
   intro a
   induction a with
   |nil=>
    intro j hj;have:b.drop j=[]:=drop_eq_nil_of_le (by simp only [length_nil] at hj;omega);rw [this];simp [dW]
   |cons x a ih=>
    intro j hj;simp only [length_cons] at hj;have hjb:j < b.length:=by omega
    have hd:b.drop j=b[j]::b.drop (j+1):=drop_eq_getElem_cons hjb;have hb:b[j]?.getD 0=b[j]:=by simp [List.getElem?_eq_getElem hjb]
    rw [dW,hb,hd];by_cases e:x=b[j]
    .have h2:(x::a=b[j]::b.drop (j+1))=(a=b.drop (j+1)):=propext ⟨λh=>(List.cons.inj h).2,λh=>by rw [h,e]⟩;rw [if_pos e];simp only [h2];exact ih (j+1) (by omega)
    .have h2:¬(x::a=b[j]::b.drop (j+1)):=λh=>e (List.cons.inj h).1;rw [if_neg e];simp only [h2,if_false]
  rw [this a 0 (by omega),drop_zero];by_cases e:a=b
  .rw [if_pos e,kl,decide_eq_true e]
  .rw [if_neg e,mF,decide_eq_false e]
 .rw [if_pos (by omega),decide_eq_false (λe=>hl (by rw [e]))]
def kp(s:Int):Prop:=0≤s/\s < 256
def eo(s:Int)(i:Nat):Prop:=s.toNat.testBit i=true
instance (s:Int) (i:Nat):Decidable (eo s i):=by unfold eo;infer_instance
theorem uP{x:Nat}(h:x < 256):IntKind.u8.wrap (x:Int)=x:=by
 have e:IntKind.u8.wrap (x:Int)=(x:Int) % 256:=by simp [IntKind.wrap,IntKind.signed,IntKind.bits]
 rw [e];omega
theorem vP{s:Int}(h:kp s):∃n:Nat,n < 256/\s=n:=⟨s.toNat,by have:=h.1;have:=h.2;omega,by have:=h.1;omega⟩
theorem Dl{n:Nat}(h:n < 256):(BitVec.ofInt IntKind.u8.bits (n:Int)).toNat=n:=by
 show(BitVec.ofInt 8 (n:Int)).toNat=n;rw [BitVec.ofInt_natCast,BitVec.toNat_ofNat];exact mod_eq_of_lt h
theorem I5{n m:Nat}(hn:n < 256)(hm:m < 256):n |||m < 256:=or_lt_two_pow (n:=8) hn hm
theorem Mc{n m:Nat}(hn:n < 256):n &&& m < 256:=Nat.lt_of_le_of_lt and_le_left hn
theorem P7{a b:Int}(ha:kp a)(hb:kp b):kp (EQ .u8 a b)/\∀i,eo (EQ .u8 a b) i↔eo a i\/eo b i:=by
 obtain⟨n,hn,rfl⟩:=vP ha;obtain⟨m,hm,rfl⟩:=vP hb
 have e:EQ .u8 (n:Int) (m:Int)=((n |||m:Nat):Int):=by
  unfold EQ;rw [BitVec.toNat_or,Dl hn,Dl hm];exact uP (I5 hn hm)
 rw [e];refine⟨⟨by omega,by have:=I5 hn hm;omega⟩,λi=>?_⟩;simp [eo,testBit_or]
theorem PP{x:Int}(h0:0≤x)(h8:x < 8):kp (pN .u8 1 x)/\∀i:Nat,eo (pN .u8 1 x) i↔(i:Int)=x:=by
 obtain⟨n,rfl⟩:=Int.eq_ofNat_of_zero_le h0;have hn:n < 8:=by omega
 have e:pN .u8 1 (n:Int)=((2 ^ n:Nat):Int):=by
  unfold pN
  have h1:min (Int.toNat (n:Int)) IntKind.u8.bits=n:=by
   show min n 8=n;omega
  rw [h1,Int.one_mul];have h2:2 ^ n < 256:=Nat.pow_lt_pow_right (by decide) hn;have h3:((2:Int) ^ n)=((2 ^ n:Nat):Int):=by simp
  rw [h3];exact uP h2
 rw [e];have h9:2 ^ n < 256:=Nat.pow_lt_pow_right (by decide) hn;refine⟨⟨Int.natCast_nonneg _,Int.ofNat_lt.2 h9⟩,λi=>?_⟩;simp only [eo,Int.toNat_natCast,testBit_two_pow,decide_eq_true_eq];omega
theorem zo{k:Nat}{s:Int}(hs:kp s){i:Nat}(hi:i < 8):fu k s (i:Int)=some (decide (eo s i)):=by
 obtain⟨n,hn,rfl⟩:=vP hs;unfold fu;rw [bR,if_pos (by omega)];show some _=some _;congr 1
 have e1:ii .u8 (n:Int) (i:Int)=((n >>> i:Nat):Int):=by
  unfold ii
  have h1:min (Int.toNat (i:Int)) IntKind.u8.bits=i:=by
   show min i 8=i;omega
  have h3:((2:Int) ^ i)=((2 ^ i:Nat):Int):=by simp
  rw [h1,h3,Int.fdiv_eq_ediv_of_nonneg _ (Int.natCast_nonneg _),Nat.shiftRight_eq_div_pow];rfl
 have hlt:n >>> i < 256:=Nat.lt_of_le_of_lt (by rw [Nat.shiftRight_eq_div_pow];exact div_le_self _ _) hn
 have e2:rN .u8 ((n >>> i:Nat):Int) 1=(((n >>> i) &&& 1:Nat):Int):=by
  unfold rN;have h1:(BitVec.ofInt IntKind.u8.bits 1).toNat=1:=rfl;rw [BitVec.toNat_and,Dl hlt,h1];exact uP (Mc hlt)
 rw [e1,e2]
 have e3:(((n >>> i) &&& 1:Nat):Int)=1↔eo (n:Int) i:=by
  rw [eo,Int.toNat_natCast,testBit];have h5:(n >>> i) &&& 1=1 &&& (n >>> i):=Nat.and_comm _ _;rw [h5];have h4:1 &&& (n >>> i) < 2:=Nat.lt_of_le_of_lt and_le_left (by decide);simp only [bne_iff_ne,ne_eq];omega
 exact decide_eq_decide.2 e3
end Go.Proofs.YthnacobbednnbaaGreat
set_option linter.unusedVariables false
set_option linter.unusedSimpArgs false
namespace Go.Proofs.YthnacobbednnbaaGreat
open K Go Go.Proofs
abbrev mC(m:ab):Int:=m.1
abbrev mW(m:ab):Int:=m.2.1
abbrev mS(m:ab):Int:=m.2.2.1
abbrev mH(m:ab):Int:=m.2.2.2.1
abbrev mD(m:ab):List (List (List Int)):=m.2.2.2.2.1
abbrev mG(m:ab):List aR:=m.2.2.2.2.2
def s5(l:List Int)(c:Int):Option (List Int):=(l.findIdx? λy=>decide (c=y)).map λi=>(if 0 < i then [l[i-1]?.getD 0] else [])++(l[i+1]?).toList
def uO(d:List (List Int))(c:Int):Option (List Int):=d.findSome? λl=>s5 l c
def yt(m:ab)(d:Nat)(c:Int):Option (List Int):=uO ((mD m)[d]?.getD []) c
def lw(m:ab)(c:Int):Nat->Nat
 |0=>if(yt m 0 c).isSome then 0 else 1
 |d+1=>if(yt m (d+1) c).isSome then 0 else lw m c d+1
def jW(m:ab)(B:Int->Bool):Nat->Int->Int
 |0,c=>if B c then mW m else -1
 |d+1,c=>match yt m d c with
  |none=>if mH m≤(lw m c d:Int) then -1 else jW m B d c
  |some l=>if 0≤jW m B d c then jW m B d c+1 else if l.any λx=>decide (mW m≤jW m B d x) then 0 else -1
theorem Eb{m:ab}{B:Int->Bool}(hw:0≤mW m):∀{d:Nat} {c:Int}, -1≤jW m B d c
 |0,c=>by unfold jW;split <;> omega
 |d+1,c=>by
  have:=Eb (B:=B) hw (d:=d) (c:=c)
  unfold jW
  split
  .
   split <;> omega
  .
   split
   .
    omega
   .
    split <;> omega
theorem Ea{m:ab}{B:Int->Bool}(hw:mW m≤3):∀{d:Nat} {c:Int},jW m B d c≤3+d
 |0,c=>by unfold jW;split <;> omega
 |d+1,c=>by
  have:=Ea (B:=B) hw (d:=d) (c:=c)
  unfold jW
  split
  .
   split <;> omega
  .
   split
   .
    omega
   .
    split <;> omega
theorem Jb{k:Nat}{l:List Int}{x:Int}(hk:l.length < k)(hl:l.length≤1000000):gV k l x=some (match l.findIdx? (λy=>decide (x=y)) with |some i=>(i:Int) |none=> -1):=by
 unfold gV
 have key:=iY (f:=dz k l x) l (λ(_:Unit) j=>j) (λ_ j y=>if decide (x=y)=true then Except.error (j:Int) else .ok ()) (λ_ _=>True) (λr=>some r)
  (λn s j hj _=>by
   have hck:ck ((j:Int)+1)=some ((j:Int)+1):=cy (by omega) (by omega);refine⟨?_,λ_ _=>trivial⟩;simp only [dz,Int.ofNat_lt,hj,if_true,cj hj,bs,decide_eq_true_eq];by_cases e:x=l[j] <;> simp [e,hck])
  (λn s _=>by simp [dz]) (n:=k) (s0:=()) hk trivial
 rw [show dz k l x k 0=_ from key,wa (λy=>decide (x=y)) l 0];cases l.findIdx? (λy=>decide (x=y)) with
 |none=>rw [kl]
 |some i=>rw [mF];simp
def og:List Int->List Int
 |[a,b]=>if b < a then [b,a] else [a,b]
 |l=>l
theorem sj{l:List Int}{x:Int}:x∈og l↔x∈l:=by
 unfold og;split
 .split
  .simp [Or.comm]
  .exact Iff.rfl
 .exact Iff.rfl
theorem Ln{k:Nat}{l:List Int}(hk:10≤k)(hl:l.length≤2):gh k l=some (og l):=by
 obtain⟨k,rfl⟩:∃n,k=n+4:=⟨k - 4,by omega⟩;have e0:qE (k+4) (IntKind.u64.wrap (0:Int))=some 0:=by kernel_rfl
 have e1:qE (k+4) (IntKind.u64.wrap (1:Int))=some 1:=by kernel_rfl
 have e2:qE (k+4) (IntKind.u64.wrap (2:Int))=some 2:=by kernel_rfl
 have c0:ck ((0:Int) - 0)=some 0:=rfl;have c1:ck ((1:Int) - 0)=some 1:=rfl;have c2:ck ((2:Int) - 0)=some 2:=rfl;have d1:ck ((0:Int)+1)=some 1:=rfl;have d2:ck ((1:Int)+1)=some 2:=rfl;have d3:ck ((1:Int) - 1)=some 0:=rfl;match l,hl with
 |[],_=>
  simp only [gh,length_nil,Int.ofNat_zero,e0,bs,c8,cK,bY,bz,og,c0,d1];rfl
 |[a],_=>
  have:(([a]:List Int).length:Int)=1:=rfl;simp only [gh,this,e1,bs,c8,cK,bY,bz,og,c1,d1];rfl
 |[a,b],_=>
  have:(([a,b]:List Int).length:Int)=2:=rfl;have g0:aH [a,b] (0:Int)=some a:=rfl;have g1:aH [a,b] (1:Int)=some b:=rfl;have hn:∀x:Int,lQ (k+4) x=some false:=λx=>by simp [lQ]
  have hl:∀x y:Int,pS (k+4) x y=some (decide (x < y)):=λx y=>by simp [pS,hn]
  simp only [gh,this,e2,bs,c8,cK,bY,bz,bv,c2,d1,d2,d3,g0,g1,hl];by_cases h:b < a
  .simp [h,og,bv,bs,aH]
  .simp [h,og,bv,bs]
end Go.Proofs.YthnacobbednnbaaGreat
set_option linter.unusedVariables false
set_option linter.unusedSimpArgs false
namespace Go.Proofs.YthnacobbednnbaaGreat
open K Go Go.Proofs
structure Vd(m:ab):Prop where
 c1:1≤mC m
 c5:mC m≤5
 w0:0≤mW m
 w3:mW m≤3
 s0:0≤mS m
 s3:mS m≤3
 h1:1≤mH m
 h3:mH m≤3
 d1:1≤(mD m).length
 d6:(mD m).length≤6
 r3:∀r∈mD m,r.length≤3
 l5:∀r∈mD m,∀l∈r,l.length≤5
 x5:∀r∈mD m,∀l∈r,∀x∈l,0≤x/\x < mC m
 nd:∀r∈mD m,r.flatten.Nodup
 g8:(mG m).length≤8
 gl:∀g∈mG m,0≤g.1/\g.1 < mC m/\0≤g.2.1/\g.2.1≤(mD m).length
theorem BP{l:List Int}{c:Int}{s:List Int}(h:s5 l c=some s):s.length≤2/\∀x∈s,x∈l:=by
 unfold s5 at h;cases e:l.findIdx? (λy=>decide (c=y)) with
 |none=>rw [e] at h;cases h
 |some i=>
  rw [e] at h;obtain rfl:=Option.some.inj h;have hi:i < l.length:=(List.findIdx?_eq_some_iff_getElem.1 e).1;refine⟨?_,λx hx=>?_⟩
  .rw [length_append];have:(l[i+1]?).toList.length≤1:=by cases l[i+1]? <;> simp
   split <;> simp <;> omega
  .rcases List.mem_append.1 hx with h |h
   .split at h
    .rw [List.getElem?_eq_getElem (by omega)] at h;obtain rfl:=List.mem_singleton.1 h;exact List.getElem_mem _
    .cases h
   .exact List.mem_of_getElem? (Option.mem_toList.1 h)
theorem JH{d:List (List Int)}{c:Int}{s:List Int}(h:uO d c=some s):∃l∈d,s5 l c=some s:=by
 unfold uO at h;exact List.exists_of_findSome?_eq_some h
theorem wu{m:ab}(v:Vd m){d:Nat}{c:Int}{s:List Int}(h:yt m d c=some s):s.length≤2/\∀x∈s,0≤x/\x < mC m:=by
 obtain⟨l,hl,h2⟩:=JH h;cases e:(mD m)[d]? with
 |none=>rw [e] at hl;cases hl
 |some r=>
  rw [e] at hl;have h3:=BP h2;exact⟨h3.1,λx hx=>v.x5 r (List.mem_of_getElem? e) l hl x (h3.2 x hx)⟩
def QV(m:ab)(c:Int)(d:Nat):Int ⊕ List Int:=match yt m d c with
 |some s=>.inr (og s)
 |none=>.inl (lw m c d)
theorem AO{k:Nat}{c:Int}{r:List (List Int)}(hk:10≤k)(hr:r.length≤3)(hl:∀l∈r,l.length≤5):
 cO k c r k 0=some (match uO r c with |some s=>.error (.inr (og s)) |none=>.ok ()):=by
 have key:=iY (f:=cO k c r) r (λ(_:Unit) j=>j) (λ_ _ l=>match s5 l c with |some s=>Except.error (Sum.inr (og s):Int ⊕ List Int) |none=>.ok ()) (λ_ _=>True) (λx=>some x)
  (λn s j hj _=>by
   refine⟨?_,λ_ _=>trivial⟩;have h5:=hl _ (List.getElem_mem hj);have hck:ck ((j:Int)+1)=some ((j:Int)+1):=cy (by omega) (by omega);simp only [cO,Int.ofNat_lt,hj,if_true,cj hj,bs];rw [Jb (by omega) (by omega),bs];generalize r[j]=l at *;have hb:s5 l c=(l.findIdx? λy=>decide (c=y)).map λi=>(if 0 < i then [l[i-1]?.getD 0] else [])++(l[i+1]?).toList:=rfl;cases e:l.findIdx? (λy=>decide (c=y)) with
   |none=>
    rw [e] at hb;simp only [Option.map_none] at hb;rw [hb];simp [hck,bs]
   |some i=>
    rw [e] at hb;simp only [Option.map_some] at hb;have hi:i < l.length:=(List.findIdx?_eq_some_iff_getElem.1 e).1;rw [hb];have hlen:=(BP hb).1;have c1:ck ((i:Int) - 1)=some ((i:Int) - 1):=cy (by omega) (by omega);have c2:ck ((i:Int)+1)=some ((i:Int)+1):=cy (by omega) (by omega);have ok0:bR (be (length ([]:List Int)+length [l[i-1]?.getD 0]))=some ():=dh (by simp [be]);simp only [show(0:Int)≤(i:Int) from Int.natCast_nonneg _,if_true,c1,c2,bs]
    have e1:(if(0:Int) < (i:Int) then((aH l ((i:Int) - 1)).bind λx11=>(bR (be (length ([]:List Int)+length [x11]))).bind λ_=>some (([]:List Int)++[x11])) else some ([]:List Int))=some (if 0 < i then [l[i-1]?.getD 0] else []):=by
     by_cases h0:0 < i
     .have g:aH l ((i:Int) - 1)=some (l[i-1]?.getD 0):=by
       have:((i:Int) - 1)=((i - 1:Nat):Int):=by omega
       rw [this,cj (by omega),List.getElem?_eq_getElem (by omega:i - 1 < l.length)];rfl
      rw [if_pos (by omega),if_pos h0,g,bs,ok0,bs];rfl
     .rw [if_neg (by omega),if_neg h0]
    rw [e1,bs];generalize (if 0 < i then [l[i-1]?.getD 0] else [])=p at *
    have e2:(if(i:Int)+1 < (l.length:Int) then((aH l ((i:Int)+1)).bind λx18=>(bR (be (length p+length [x18]))).bind λ_=>some (p++[x18])) else some p)=some (p++(l[i+1]?).toList):=by
     by_cases h1:i+1 < l.length
     .have g:aH l ((i:Int)+1)=some l[i+1]:=by
       have:((i:Int)+1)=((i+1:Nat):Int):=by omega
       rw [this,cj h1]
      rw [if_pos (by omega),g,bs,List.getElem?_eq_getElem h1];rw [List.getElem?_eq_getElem h1] at hlen;rw [dh (by rw [length_append] at hlen;simp at hlen;simp [be];omega),bs];rfl
     .rw [if_neg (by omega),List.getElem?_eq_none (by omega)];simp
    rw [e2,bs,Ln (by omega) hlen,bs])
  (λn s _=>by simp [cO]) (n:=k) (s0:=()) (by omega) trivial
 rw [show cO k c r k 0=_ from key]
 congr 1
 have:∀(r:List (List Int)) (j:Nat),dW (λ(_:Unit) _ l=>match s5 l c with |some s=>Except.error (Sum.inr (og s):Int ⊕ List Int) |none=>.ok ()) j r ()=match uO r c with |some s=>.error (.inr (og s)) |none=>.ok ():=by
  intro r
  induction r with
  |nil=>intro j;rfl
  |cons l r ih=>
   intro j;rw [dW];unfold uO;rw [findSome?_cons];cases s5 l c with
   |none=>exact ih (j+1)
   |some s=>rfl
 exact this r 0
theorem E4{m:ab}{c:Int}:∀{d:Nat},lw m c d≤d+1
 |0=>by unfold lw;split <;> omega
 |d+1=>by have:=E4 (m:=m) (c:=c) (d:=d);unfold lw;split <;> omega
theorem vz{k:Nat}{m:ab}{c:Int}(v:Vd m)(hk:10≤k):∀(d m0:Nat),d < m0->d < (mD m).length->eF k m0 m c (d:Int)=some (QV m c d)
 |d,0,h,_=>absurd h (not_lt_zero _)
 |d,m0+1,h,hd=>by
  have hm:=List.getElem_mem hd
  unfold eF
  rw [cj hd,bs,AO hk (v.r3 _ hm) (v.l5 _ hm)]
  have hbes:yt m d c=uO (mD m)[d] c:=by unfold yt;rw [List.getElem?_eq_getElem hd];rfl
  cases e:uO (mD m)[d] c with
  |some s=>
   rw [mF]
   unfold QV
   rw [hbes,e]
  |none=>
   rw [kl]
   unfold QV
   rw [hbes,e]
   match d,hd,h with
   |0,hd,h=>
    rw [hbes.symm] at e
    simp [lw,e]
   |d+1,hd,h=>
    have h6:=v.d6
    have c1:ck (((d+1:Nat):Int) - 1)=some (d:Int):=by rw [cy (by omega) (by omega)];congr 1;omega
    have ih:=vz v hk d m0 (by omega) (by omega) (c:=c)
    rw [if_pos (by omega),c1,bs,ih,bs]
    rw [hbes.symm] at e
    have hcold:lw m c (d+1)=lw m c d+1:=by rw [lw,e];rfl
    have hle:=E4 (m:=m) (c:=c) (d:=d)
    unfold QV
    cases e2:yt m d c with
    |some s=>
     simp only [LA]
     have:lw m c d=0:=by cases d <;> simp [lw,e2]
     simp [hcold,this]
    |none=>
     have c2:ck ((1:Int)+(lw m c d:Int))=some ((1:Int)+(lw m c d:Int)):=cy (by omega) (by omega)
     simp only [LA,Rt,c2,bs,if_true,hcold]
     congr 2
     omega
end Go.Proofs.YthnacobbednnbaaGreat
set_option linter.unusedVariables false
set_option linter.unusedSimpArgs false
namespace Go.Proofs.YthnacobbednnbaaGreat
open K Go Go.Proofs
def l8(f:Int->Int):List Int:=[f 0,f 1,f 2,f 3,f 4]
def upd(f:Int->Int)(c v:Int):Int->Int:=λx=>if x=c then v else f x
theorem VY{c:Int}(h0:0≤c)(h:c < 5):c=0\/c=1\/c=2\/c=3\/c=4:=by omega
theorem yP{f:Int->Int}{c:Int}(h0:0≤c)(h:c < 5):aH (l8 f) c=some (f c):=by
 rcases VY h0 h with rfl |rfl |rfl |rfl |rfl <;> rfl
theorem EA{f:Int->Int}{c v:Int}(h0:0≤c)(h:c < 5):List.set (l8 f) (Int.toNat c) v=l8 (upd f c v):=by
 rcases VY h0 h with rfl |rfl |rfl |rfl |rfl <;> rfl
theorem nJ{f g:Int->Int}(h:∀c,0≤c->c < 5->f c=g c):l8 f=l8 g:=by
 unfold l8;rw [h 0 (by decide) (by decide),h 1 (by decide) (by decide),h 2 (by decide) (by decide),h 3 (by decide) (by decide),h 4 (by decide) (by decide)]
def Ro(m:ab)(f:Int->Int)(d:Nat)(c:Int):Int:=match yt m d c with
 |none=>if mH m≤(lw m c d:Int) then -1 else f c
 |some l=>if 0≤f c then f c+1 else if l.any λx=>decide (mW m≤f x) then 0 else -1
def QX(m:ab)(f:Int->Int)(d:Nat):Int->Int:=λc=>if 0≤c/\c < mC m then Ro m f d c else f c
theorem wX{k:Nat}{m:ab}{f:Int->Int}(hw:0≤mW m){s:List Int}(hs:s.length < k)(hs2:s.length≤1000)(hx:∀x∈s,0≤x/\x < 5):
 bZ k m (l8 f) s k 0=some (match s.find? (λx=>decide (mW m≤f x)) with |some x=>.error x |none=>.ok ()):=by
 have key:=iY (f:=bZ k m (l8 f) s) s (λ(_:Unit) j=>j) (λ_ _ x=>if decide (mW m≤f x)=true then Except.error x else .ok ()) (λ_ _=>True) (λx=>some x)
  (λn _ j hj _=>by
   refine⟨?_,λ_ _=>trivial⟩;have h5:=hx _ (List.getElem_mem hj);have hck:ck ((j:Int)+1)=some ((j:Int)+1):=cy (by omega) (by omega);have him:tZ (0:Int) m.2.1=mW m:=by show tZ 0 (mW m)=mW m;unfold tZ;split <;> omega
   simp only [bZ,Int.ofNat_lt,hj,if_true,cj hj,bs,dh h5,yP h5.1 h5.2,him,hck,decide_eq_true_eq];by_cases e:mW m≤f s[j] <;> simp [e])
  (λn s _=>by simp [bZ]) (n:=k) (s0:=()) hs trivial
 rw [show bZ k m (l8 f) s k 0=_ from key]
 congr 1
 have:∀(s:List Int) (j:Nat),dW (λ(_:Unit) _ x=>if decide (mW m≤f x)=true then Except.error x else .ok ()) j s ()=match s.find? (λx=>decide (mW m≤f x)) with |some x=>.error x |none=>.ok ():=by
  intro s
  induction s with
  |nil=>intro j;rfl
  |cons x s ih=>
   intro j;rw [dW,find?_cons];cases h:decide (mW m≤f x) with
   |true=>simp
   |false=>simp only [Bool.false_eq_true,if_false];exact ih (j+1)
 exact this s 0
theorem Aw{s:List Int}:(og s).length=s.length:=by
 unfold og;split
 .split <;> rfl
 .rfl
def K7(m:ab)(f:Int->Int)(l:List Int):Int:=((og l).find? λx=>decide (mW m≤f x)).getD (-1)
theorem CV{k:Nat}{m:ab}{f:Int->Int}{c:Int}{d:Nat}(v:Vd m)(hk:10≤k)(hd:d < (mD m).length){l:List Int}(h:yt m d c=some l):
 dK k m (l8 f) c (d:Int)=some (K7 m f l):=by
 have h6:=v.d6
 have c5:=v.c5
 have hb:=wu v h
 unfold dK
 rw [vz v hk d k (by omega) hd,bs]
 unfold QV
 rw [h]
 have e1:JF (Sum.inr (og l):Int ⊕ List Int) (λn=>jh k n) (λl=>jf k l)=some (og l):=rfl
 rw [e1,bs,wX v.w0 (by rw [Aw];omega) (by rw [Aw];omega) λx hx=>by have:=hb.2 x (sj.1 hx);omega]
 unfold K7
 cases(og l).find? λx=>decide (mW m≤f x) with
 |none=>rw [kl];rfl
 |some x=>rw [mF];rfl
theorem K6{m:ab}{f:Int->Int}{l:List Int}(hx:∀x∈l,0≤x):0≤K7 m f l↔(l.any λx=>decide (mW m≤f x))=true:=by
 unfold K7;rw [List.any_eq_true];cases e:(og l).find? λx=>decide (mW m≤f x) with
 |none=>
  simp only [Option.getD_none];have:=List.find?_eq_none.1 e;constructor
  .intro h;omega
  .rintro⟨x,hx,h⟩;exact absurd h (this x (sj.2 hx))
 |some x=>
  have h1:=List.mem_of_find?_eq_some e;have h2:=List.find?_some e;exact⟨λ_=>⟨x,sj.1 h1,h2⟩,λ_=>hx x (sj.1 h1)⟩
theorem IW{k:Nat}{m:ab}{f:Int->Int}{d:Nat}(v:Vd m)(hk:10≤k)(hd:d < (mD m).length)(hf:∀c,0≤c->c < mC m-> -1≤f c/\f c≤1000):
 iv k m (l8 f) (d:Int)=some (l8 (QX m f d)):=by
 have c5:=v.c5
 have c1:=v.c1
 have h6:=v.d6
 unfold iv
 have key:=eU (T:=List Int×Int) (f:=cF k m (l8 f) (d:Int)) (List.range (mC m).toNat) (λ(g:Int->Int) j=>(l8 g,j)) (λg j _=>upd g (j:Int) (Ro m f d (j:Int))) (λj g=>g=λc=>if 0≤c/\c < (j:Int) then Ro m f d c else f c) (λg=>some (l8 g))
  (λn g j hj hg=>by
   rw [length_range] at hj;have j0:(0:Int)≤(j:Int):=Int.natCast_nonneg _;have j1:(j:Int) < mC m:=by omega
   have j5:(j:Int) < 5:=by omega
   have hck:ck ((j:Int)+1)=some ((j:Int)+1):=cy (by omega) (by omega);have hp:bR ((0:Int)≤(j:Int)/\(j:Int) < 5)=some ():=dh ⟨j0,j5⟩;have hgj:g (j:Int)=f (j:Int):=by rw [hg];simp
   have hfj:=hf _ j0 j1;refine⟨?_,?_⟩
   .have hm1:(m.1:Int)=mC m:=rfl;have hm2:m.2.2.2.1=mH m:=rfl;simp only [cF,hm1,hm2,j1,if_true,vz v hk d k (by omega) hd,bs,hp,yP j0 j5,hck,EA j0 j5];unfold QV Ro;cases e:yt m d (j:Int) with
    |none=>
     simp only [LA,Rt,if_true];by_cases hh:mH m≤(lw m (j:Int) d:Int)
     .simp only [hh,if_true,bs]
     .simp only [hh,if_false,bs];refine congrArg (λr=>cF k m (l8 f) (d:Int) n (r,(j:Int)+1)) (nJ λc _ _=>?_);unfold upd;split
      .rename_i e;rw [e,hgj]
      .rfl
    |some l=>
     have hb:=wu v e;simp only [LA,Bool.false_eq_true,if_false,not_false_eq_true,if_true];by_cases h0:0≤f (j:Int)
     .have hck2:ck (f (j:Int)+1)=some (f (j:Int)+1):=cy (by omega) (by omega);simp only [h0,if_true,hck2,bs]
     .simp only [h0,if_false,CV v hk hd e,bs];have ht:=K6 (m:=m) (f:=f) (l:=l) λx hx=>(hb.2 x hx).1;by_cases hany:(l.any λx=>decide (mW m≤f x))=true
      .rw [if_pos (ht.2 hany),bs,if_pos hany]
      .rw [if_neg λh=>hany (ht.1 h),bs,if_neg hany];refine congrArg (λr=>cF k m (l8 f) (d:Int) n (r,(j:Int)+1)) (nJ λc _ _=>?_);unfold upd;split
       .rename_i e;rw [e,hgj];omega
       .rfl
   .rw [hg];funext c;unfold upd;by_cases e:c=(j:Int)
    .subst e;simp [j0];intro h;omega
    .simp only [e,if_false];by_cases h:0≤c/\c < (j:Int)
     .rw [if_pos h,if_pos (by omega)]
     .rw [if_neg h,if_neg (by omega)])
  (λn g hg=>by
   rw [length_range];have:((mC m).toNat:Int)=mC m:=by omega
   rw [this];unfold cF;rw [if_neg (by show¬(mC m < mC m);omega)]) (n:=k) (s0:=f) (by rw [length_range];omega) (by funext c;simp;intro h;omega)
 rw [show cF k m (l8 f) (d:Int) k (l8 f,0)=_ from key.1,bs]
 congr 1
 refine nJ λc _ _=>?_
 rw [key.2,length_range]
 unfold QX
 have:((mC m).toNat:Int)=mC m:=by omega
 rw [this]
end Go.Proofs.YthnacobbednnbaaGreat
set_option linter.unusedVariables false
set_option linter.unusedSimpArgs false
namespace Go.Proofs.YthnacobbednnbaaGreat
open K Go Go.Proofs
def cr(F:Nat->Int->Int):List (List Int):=[l8 (F 0),l8 (F 1),l8 (F 2),l8 (F 3),l8 (F 4),l8 (F 5),l8 (F 6)]
def CP(F:Nat->Int->Int)(n:Nat)(f:Int->Int):Nat->Int->Int:=λi=>if i=n then f else F i
theorem VX{n:Nat}(h:n < 7):n=0\/n=1\/n=2\/n=3\/n=4\/n=5\/n=6:=by omega
theorem JA{F:Nat->Int->Int}{n:Nat}(h:n < 7):aH (cr F) (n:Int)=some (l8 (F n)):=by
 rcases VX h with rfl |rfl |rfl |rfl |rfl |rfl |rfl <;> rfl
theorem Qq{F:Nat->Int->Int}{n:Nat}{f:Int->Int}(h:n < 7):List.set (cr F) n (l8 f)=cr (CP F n f):=by
 rcases VX h with rfl |rfl |rfl |rfl |rfl |rfl |rfl <;> rfl
def Qx(m:ab)(B:Int->Bool):Nat->Int->Int
 |0=>λc=>if B c then mW m else -1
 |n+1=>QX m (Qx m B n) n
theorem zN{m:ab}(v:Vd m){B:Int->Bool}:∀(n:Nat) (c:Int),0≤c->c < mC m->Qx m B n c=jW m B n c
 |0,c,_,_=>rfl
 |n+1,c,h0,h1=>by
  have ih:=zN v (B:=B) n
  show QX m (Qx m B n) n c=jW m B (n+1) c
  unfold QX
  rw [if_pos ⟨h0,h1⟩]
  unfold Ro jW
  cases e:yt m n c with
  |none=>simp only [];rw [ih c h0 h1]
  |some l=>
   have hb:=(wu v e).2
   have:(l.any λx=>decide (mW m≤Qx m B n x))=l.any λx=>decide (mW m≤jW m B n x):=by
    rw [Bool.eq_iff_iff];simp only [List.any_eq_true,decide_eq_true_eq];constructor
    .rintro⟨x,hx,h⟩;exact⟨x,hx,by rw [<-ih x (hb x hx).1 (hb x hx).2];exact h⟩
    .rintro⟨x,hx,h⟩;exact⟨x,hx,by rw [ih x (hb x hx).1 (hb x hx).2];exact h⟩
   simp only [];rw [ih c h0 h1,this]
def OL(m:ab)(B:Int->Bool):Nat->Int->Int:=λn=>if n≤(mD m).length then Qx m B n else λ_=>0
def sT(S:Int):Int->Bool:=λc=>decide (eo S c.toNat)
theorem HU{k:Nat}{m:ab}{S:Int}(hk:10≤k)(hS:kp S):ff k m S=some (l8 λc=>if sT S c then mW m else -1):=by
 unfold ff
 have key:=eU (T:=List Int×Int) (f:=cN k m S) (List.range 5) (λ(g:Int->Int) j=>(l8 g,j)) (λg j _=>upd g (j:Int) (if sT S (j:Int) then mW m else -1)) (λj g=>∀c,0≤c->c < (j:Int)->g c=if sT S c then mW m else -1) (λg=>some (l8 g))
  (λn g j hj hg=>by
   rw [length_range] at hj;have j0:(0:Int)≤(j:Int):=Int.natCast_nonneg _;have j5:(j:Int) < 5:=by omega
   have hck:ck ((j:Int)+1)=some ((j:Int)+1):=cy (by omega) (by omega);have hp:bR ((0:Int)≤(j:Int)/\(j:Int) < 5)=some ():=dh ⟨j0,j5⟩;have hp':bR ((0:Int)≤(j:Int)/\True)=some ():=dh ⟨j0,trivial⟩;refine⟨?_,?_⟩
   .simp only [cN,j5,if_true,hp,hp',bs,zo (k:=k) hS (by omega:j < 8),hck,EA j0 j5];have hin:sT S (j:Int)=decide (eo S j):=by unfold sT;rw [Int.toNat_natCast]
    rw [hin];cases hh:decide (eo S j) with
    |true=>
     simp only [if_true,bs];refine congrArg (λr=>cN k m S n (r,(j:Int)+1)) (nJ λc _ _=>?_);unfold upd;split <;> rfl
    |false=>simp only [Bool.false_eq_true,if_false,bs]
   .intro c hc0 hc1;unfold upd;by_cases e:c=(j:Int)
    .rw [if_pos e,e]
    .rw [if_neg e];exact hg c hc0 (by omega))
  (λn g hg=>by
   rw [length_range];unfold cN;rw [if_neg (show¬(((5:Nat):Int) < 5) by decide)]) (n:=k) (s0:=λ_=>0) (by rw [length_range];omega) (λc h0 h1=>by omega)
 have e0:([(0:Int),(0:Int),(0:Int),(0:Int),(0:Int)]:List Int)=l8 λ_=>0:=rfl;rw [e0,show cN k m S k (l8 λ_=>0,0)=_ from key.1,bs];refine congrArg some (nJ λc h0 h5=>?_);have:=key.2;rw [length_range] at this;exact this c h0 h5
theorem yo{k:Nat}{m:ab}{S:Int}(v:Vd m)(hk:10≤k)(hS:kp S):mQ k m S=some (cr (OL m (sT S))):=by
 have d6:=v.d6;have d1:=v.d1;have w0:=v.w0;have w3:=v.w3;unfold mQ j7;have hm:bR (0≤S/\S < 256)=some ():=dh hS;have hp0:bR ((0:Int)≤0/\(0:Int) < 7)=some ():=dh ⟨by omega,by omega⟩;rw [hm,bs,HU hk hS,bs,hp0,bs]
 have key:=eU (T:=List (List Int)×Int) (f:=bU k m) (mD m) (λ(F:Nat->Int->Int) j=>(cr F,j)) (λF j _=>CP F (j+1) (QX m (F j) j)) (λj F=>F=λn=>if n≤j then Qx m (sT S) n else λ_=>0) (λF=>some (cr F))
  (λn F j hj hF=>by
   have j0:(0:Int)≤(j:Int):=Int.natCast_nonneg _;have hck:ck ((j:Int)+1)=some ((j:Int)+1):=cy (by omega) (by omega);have hp:bR ((0:Int)≤(j:Int)/\(j:Int) < 7)=some ():=dh ⟨j0,by omega⟩;have hp2:bR ((0:Int)≤(j:Int)+1/\(j:Int)+1 < 7)=some ():=dh ⟨by omega,by omega⟩;have hFj:F j=Qx m (sT S) j:=by rw [hF];simp
   have hj':(j:Int) < (m.2.2.2.2.1.length:Int):=Int.ofNat_lt.2 hj
   have hnx:=IW (k:=k) (f:=F j) v hk hj (λc h0 h1=>by
    rw [hFj,zN v j c h0 h1];have:=Eb (B:=sT S) w0 (d:=j) (c:=c);have:=Ea (B:=sT S) w3 (d:=j) (c:=c);omega)
   refine⟨?_,?_⟩
   .simp only [bU,hj',if_true,hck,hp,bs,JA (F:=F) (show j < 7 by omega),hnx,hp2];have e:Int.toNat ((j:Int)+1)=j+1:=by omega
    rw [e,Qq (by omega)]
   .rw [hF];funext i;unfold CP;by_cases e:i=j+1
    .subst e;simp only [if_true,Nat.le_refl];rfl
    .simp only [e,if_false];by_cases h:i≤j
     .rw [if_pos h,if_pos (by omega)]
     .rw [if_neg h,if_neg (by omega)])
  (λn F hF=>by
   unfold bU;rw [if_neg (by show¬((m.2.2.2.2.1.length:Int) < _);exact Int.lt_irrefl _)]) (n:=k) (s0:=CP (λ_ _=>0) 0 (λc=>if sT S c then mW m else -1)) (by omega) (by
   funext n;unfold CP;by_cases e:n=0
   .subst e;rfl
   .rw [if_neg e,if_neg (by omega)])
 have e0:List.set ua (Int.toNat 0) (l8 λc=>if sT S c then mW m else -1)=cr (CP (λ_ _=>0) 0 (λc=>if sT S c then mW m else -1)):=rfl;rw [e0,show bU k m k (cr (CP (λ_ _=>0) 0 (λc=>if sT S c then mW m else -1)),0)=_ from key.1,bs];rw [key.2];rfl
theorem Np{m:ab}(v:Vd m){B:Int->Bool}{n:Nat}{c:Int}(hn:n≤(mD m).length)(h0:0≤c)(h1:c < mC m):OL m B n c=jW m B n c:=by
 unfold OL;rw [if_pos hn,zN v n c h0 h1]
end Go.Proofs.YthnacobbednnbaaGreat
set_option linter.unusedVariables false
set_option linter.unusedSimpArgs false
namespace Go.Proofs.YthnacobbednnbaaGreat
open K Go Go.Proofs
def wk{σ:Type}(bad:σ->Int->Option Int)(add:σ->Int->σ):List Int->σ->Except Int σ
 |[],s=>.ok s
 |x::l,s=>match bad s x with
  |some e=>.error e
  |none=>wk bad add l (add s x)
theorem uQ{σ:Type}{bad:σ->Int->Option Int}{add:σ->Int->σ}:∀(l:List Int) (j:Nat) (s:σ),dW (λs _ x=>match bad s x with |some e=>Except.error e |none=>.ok (add s x)) j l s=wk bad add l s
 |[],j,s=>rfl
 |x::l,j,s=>by
  rw [dW,wk]
  cases bad s x with
  |some e=>rfl
  |none=>exact uQ l (j+1) (add s x)
theorem xB{σ:Type}{bad:σ->Int->Option Int}{add:σ->Int->σ}:∀(a b:List Int) (s:σ),wk bad add (a++b) s=match wk bad add a s with | .error e=>.error e | .ok s'=>wk bad add b s'
 |[],b,s=>rfl
 |x::a,b,s=>by
  rw [cons_append,wk,wk]
  cases bad s x with
  |some e=>rfl
  |none=>exact xB a b (add s x)
theorem yF{σ:Type}{bad:σ->Int->Option Int}{add:σ->Int->σ}:∀(r:List (List Int)) (j:Nat) (s:σ),dW (λs _ l=>wk bad add l s) j r s=wk bad add r.flatten s
 |[],j,s=>rfl
 |l::r,j,s=>by
  rw [dW,flatten_cons,xB]
  cases wk bad add l s with
  |error e=>rfl
  |ok s'=>exact yF r (j+1) s'
theorem Hy{σ τ:Type}{b1:σ->Int->Option Int}{a1:σ->Int->σ}{b2:τ->Int->Option Int}{a2:τ->Int->τ}(R:σ->τ->Prop)(hb:∀s t x,R s t->b1 s x=b2 t x)(ha:∀s t x,R s t->b1 s x=none->R (a1 s x) (a2 t x)):
 ∀(l:List Int) (s:σ) (t:τ),R s t->(∃e,wk b1 a1 l s= .error e/\wk b2 a2 l t= .error e)\/∃s' t',wk b1 a1 l s= .ok s'/\wk b2 a2 l t= .ok t'/\R s' t'
 |[],s,t,h=>.inr ⟨s,t,rfl,rfl,h⟩
 |x::l,s,t,h=>by
  rw [wk,wk,<-hb s t x h]
  cases e:b1 s x with
  |some c=>exact .inl ⟨c,rfl,rfl⟩
  |none=>exact Hy R hb ha l _ _ (ha s t x h e)
theorem yH{σ:Type}{bad:σ->Int->Option Int}{add:σ->Int->σ}(P:σ->Prop)(hs:∀s x,P s->bad s x=none->P (add s x)):∀(l:List Int) (s s':σ),P s->wk bad add l s= .ok s'->P s'
 |[],s,s',h,e=>by cases e;exact h
 |x::l,s,s',h,e=>by
  rw [wk] at e
  cases hb:bad s x with
  |some c=>rw [hb] at e;cases e
  |none=>rw [hb] at e;exact yH P hs l _ s' (hs s x h hb) e
theorem lM{k:Nat}{a b c:Int}:dZ k a b c=some (decide (b≤a/\a≤c)):=by
 unfold dZ;by_cases h:b≤a <;> simp [h]
theorem tY{k:Nat}{a b c:Int}:fH k a b c=some (decide (b≤a/\a≤c)):=by
 unfold fH;by_cases h:b≤a <;> simp [h]
theorem TJ{n:Int}(h:1≤n/\n≤5):ck (n - 1)=some (n - 1):=cy (by omega) (by omega)
theorem Ja{k:Nat}{m:ab}{x:Int}(h:1≤mC m/\mC m≤5):gW k m x=some (decide (0≤x/\x < mC m)):=by
 have h':IntKind.i64.wrap (m.1 - 1)=m.1 - 1:=va (TJ h);unfold gW;rw [h',tY,bs];congr 1;exact decide_eq_decide.2 ⟨λ⟨a,b⟩=>⟨a,by show x < m.1;omega⟩,λ⟨a,b⟩=>⟨a,by have:x < m.1:=b;omega⟩⟩
theorem P6{k:Nat}{m:ab}{x:Int}:iP k m x=some (decide (0≤x/\x≤(mD m).length)):=by
 unfold iP;rw [tY,bs]
theorem yS{k:Nat}{l:List Int}{x:Int}(hk:l.length < k)(hl:l.length≤1000000):om k l x=some (decide (x∈l)):=by
 unfold om
 have key:=iY (f:=ik k l x) l (λ(_:Unit) j=>j) (λ_ j y=>if decide (y=x)=true then Except.error true else .ok ()) (λ_ _=>True) (λr=>some r)
  (λn s j hj _=>by
   have hck:ck ((j:Int)+1)=some ((j:Int)+1):=cy (by omega) (by omega);refine⟨?_,λ_ _=>trivial⟩;simp only [ik,Int.ofNat_lt,hj,if_true,cj hj,bs,decide_eq_true_eq];by_cases e:l[j]=x <;> simp [e,hck])
  (λn s _=>by simp [ik]) (n:=k) (s0:=()) hk trivial
 rw [show ik k l x k 0=_ from key]
 have:∀(l:List Int) (j:Nat),dW (λ(_:Unit) _ y=>if decide (y=x)=true then Except.error true else .ok ()) j l ()=if x∈l then .error true else .ok ():=by
  intro l
  induction l with
  |nil=>intro j;simp [dW]
  |cons y l ih=>
   intro j;rw [dW];by_cases e:y=x
   .subst e;simp
   .simp only [e,decide_false,Bool.false_eq_true,if_false];rw [ih (j+1)];have:x∈y::l↔x∈l:=by simp [Ne.symm e]
    simp only [this]
 rw [this l 0];by_cases h:x∈l
 .simp [h,mF]
 .simp [h,kl]
def CH(C:Int)(s x:Int):Option Int:=if¬(0≤x/\x < C) then some 3 else if eo s x.toNat then some 4 else none
def wP(s x:Int):Int:=EQ .u8 s (pN .u8 1 x)
def uA(C:Int)(s:List Int)(x:Int):Option Int:=if¬(0≤x/\x < C) then some 3 else if x∈s then some 4 else none
def zO(s:List Int)(x:Int):List Int:=s++[x]
theorem vQ:kp 0:=⟨by decide,by decide⟩
theorem OM{C s x:Int}(h:CH C s x=none):0≤x/\x < C:=by
 unfold CH at h;split at h
 .cases h
 .rename_i h';exact Decidable.not_not.1 h'
theorem od{k:Nat}{s x:Int}(hs:kp s)(h0:0≤x)(h8:x < 8):gr k s x=some (wP s x)/\kp (wP s x)/\∀i:Nat,eo (wP s x) i↔eo s i\/(i:Int)=x:=by
 have h1:=PP h0 h8;have h2:=P7 hs h1.1;refine⟨?_,h2.1,λi=>?_⟩
 .unfold gr;rw [dh h0,bs];rfl
 .show eo (EQ .u8 s (pN .u8 1 x)) i↔_;rw [h2.2 i,h1.2 i]
theorem BR{C s x:Int}(hC:C≤5)(hs:kp s)(h:CH C s x=none):kp (wP s x):=by
 have:=OM h;exact(od (k:=0) hs this.1 (by omega)).2.1
def mP(C:Int)(r:List (List Int)):Int:=if 3 < r.length then 6 else match wk (uA C) zO r.flatten [] with | .error e=>e | .ok _=>0
theorem GA{k:Nat}{m:ab}(hC:1≤mC m/\mC m≤5){l:List Int}(hk:l.length < k)(hl:l.length≤1000){s:Int}(hs:kp s):
 dq k m l k (s,0)=some (wk (CH (mC m)) wP l s):=by
 have key:=iY (T:=Int×Int) (f:=dq k m l) l (λ(s:Int) j=>(s,j)) (λs _ x=>match CH (mC m) s x with |some e=>Except.error e |none=>.ok (wP s x)) (λ_ s=>kp s) (λr=>some r)
  (λn s j hj hs=>by
   have hck:ck ((j:Int)+1)=some ((j:Int)+1):=cy (by omega) (by omega);have hc:ck (m.1 - 1)=some (m.1 - 1):=TJ hC;refine⟨?_,λs' e=>?_⟩
   .simp only [dq,Int.ofNat_lt,hj,if_true,cj hj,bs,hc,lM];generalize l[j]=x;by_cases h:0≤x/\x < mC m
    .have h':0≤x/\x≤m.1 - 1:=⟨h.1,by have:x < m.1:=h.2;omega⟩;have hh:=zo (k:=k) hs (i:=x.toNat) (by omega);have ex:((x.toNat:Nat):Int)=x:=by omega
     rw [ex] at hh;simp only [h',and_self,decide_true,not_true_eq_false,if_false,hh,bs];have eb:CH (mC m) s x=if eo s x.toNat then some 4 else none:=by unfold CH;rw [if_neg (λhn=>hn h)]
     rw [eb];by_cases h2:eo s x.toNat
     .simp only [h2,decide_true,if_true]
     .simp only [h2,decide_false,Bool.false_eq_true,if_false,(od (k:=k) hs h.1 (by omega)).1,bs,hck]
    .have h':¬(0≤x/\x≤m.1 - 1):=λhh=>h ⟨hh.1,by show x < m.1;omega⟩;have eb:CH (mC m) s x=some 3:=by unfold CH;rw [if_pos h]
     rw [eb];simp only [h',decide_false,Bool.false_eq_true,not_false_eq_true,if_true]
   .cases e2:CH (mC m) s l[j] with
    |some c=>rw [e2] at e;cases e
    |none=>rw [e2] at e;cases e;exact BR hC.2 hs e2)
  (λn s _=>by simp [dq]) (n:=k) (s0:=s) hk hs
 rw [show dq k m l k (s,0)=_ from key,uQ]
theorem GE{k:Nat}{m:ab}(hC:1≤mC m/\mC m≤5){r:List (List Int)}(hk:r.length < k)(hr:r.length≤1000)(hl:∀l∈r,l.length < k/\l.length≤1000):
 dr k m r k (0,0)=some (match wk (CH (mC m)) wP r.flatten 0 with | .error e=>.error e | .ok _=>.ok ()):=by
 have key:=iY (T:=Int×Int) (f:=dr k m r) r (λ(s:Int) j=>(s,j)) (λs _ l=>wk (CH (mC m)) wP l s) (λ_ s=>kp s) (λx=>some (match x with | .error e=>Except.error e | .ok _=>.ok ()))
  (λn s j hj hs=>by
   have hck:ck ((j:Int)+1)=some ((j:Int)+1):=cy (by omega) (by omega);have hlj:=hl _ (List.getElem_mem hj);refine⟨?_,λs' e=>yH kp (λs x=>BR hC.2) _ _ _ hs e⟩;simp only [dr,Int.ofNat_lt,hj,if_true,cj hj,bs,GA hC hlj.1 hlj.2 hs];cases wk (CH (mC m)) wP r[j] s with
   |error e=>rw [mF]
   |ok s'=>rw [kl,hck,bs])
  (λn s _=>by simp [dr]) (n:=k) (s0:=0) hk vQ
 rw [show dr k m r k (0,0)=_ from key,yF]
theorem M9{C:Int}(hC:C≤5)(l:List Int):(∃e,wk (CH C) wP l 0= .error e/\wk (uA C) zO l []= .error e)\/∃s t,wk (CH C) wP l 0= .ok s/\wk (uA C) zO l []= .ok t/\(kp s/\∀i:Nat,eo s i↔(i:Int)∈t):=by
 refine Hy (λs t=>kp s/\∀i:Nat,eo s i↔(i:Int)∈t) (λs t x h=>?_) (λs t x h hb=>?_) l 0 [] ⟨vQ,λi=>by simp [eo]⟩
 .unfold CH uA;by_cases hx:0≤x/\x < C
  .have e:((x.toNat:Nat):Int)=x:=by omega
   have:=h.2 x.toNat;rw [e] at this;simp only [hx,and_self,not_true_eq_false,if_false,this]
  .rw [if_pos hx,if_pos hx]
 .have hx:=OM hb;have hw:=od (k:=0) h.1 hx.1 (by omega);refine⟨hw.2.1,λi=>?_⟩;rw [hw.2.2 i,h.2 i];unfold zO;simp
theorem L2{k:Nat}{m:ab}(hC:1≤mC m/\mC m≤5){r:List (List Int)}(hk:1000 < k)(hr:r.length≤1000)(hl:∀l∈r,l.length≤1000):jL k m r=some (mP (mC m) r):=by
 unfold jL mP;by_cases h3:3 < r.length
 .rw [if_pos (by omega),if_pos h3]
 .rw [if_neg (by omega),if_neg h3,GE hC (by omega) hr λl hh=>⟨by have:=hl l hh;omega,hl l hh⟩];rcases M9 hC.2 r.flatten with⟨e,h1,h2⟩ |⟨s,t,h1,h2,_⟩
  .rw [h1,h2];exact mF
  .rw [h1,h2];exact kl
end Go.Proofs.YthnacobbednnbaaGreat
set_option linter.unusedVariables false
set_option linter.unusedSimpArgs false
namespace Go.Proofs.YthnacobbednnbaaGreat
open K Go Go.Proofs
theorem tw:∀(n:Nat) (l:List Int),l.Nodup->(∀x∈l,0≤x/\x < (n:Int))->l.length≤n
 |0,l,_,h=>by
  cases l with
  |nil=>simp
  |cons x l=>have:=h x (by simp);omega
 |n+1,l,hn,h=>by
  have h1:=tw n (l.erase (n:Int)) (hn.erase _) (λx hx=>by
   have h2:=(Nodup.mem_erase_iff hn).1 hx
   have:=h x h2.2
   have:=h2.1
   omega)
  have:l.length≤(l.erase (n:Int)).length+1:=by rw [length_erase];split <;> omega
  omega
theorem TL{C:Int}{s:List Int}{x:Int}(h:uA C s x=none):(0≤x/\x < C)/\x∉s:=by
 unfold uA at h;split at h
 .cases h
 .rename_i h';split at h
  .cases h
  .rename_i h2;exact⟨Decidable.not_not.1 h',h2⟩
def Mt(C:Int)(s:List Int):Prop:=s.Nodup/\∀x∈s,0≤x/\x < C
theorem Mt.add{C:Int}{s:List Int}{x:Int}(h:Mt C s)(hb:uA C s x=none):Mt C (zO s x):=by
 have:=TL hb;refine⟨?_,λy hy=>?_⟩
 .unfold zO;rw [nodup_append];exact⟨h.1,by simp,λa ha b hb e=>by rw [List.mem_singleton.1 hb] at e;exact this.2 (e▸ha)⟩
 .rcases List.mem_append.1 hy with hy |hy
  .exact h.2 y hy
  .rw [List.mem_singleton.1 hy];exact this.1
theorem Mt.len{C:Int}{s:List Int}(hC:0≤C/\C≤5)(h:Mt C s):s.length≤5:=by
 have:=tw C.toNat s h.1 λx hx=>⟨(h.2 x hx).1,by have:=(h.2 x hx).2;omega⟩;omega
theorem C7{k:Nat}{m:ab}(hC:1≤mC m/\mC m≤5){r:List (List Int)}{y:List Int×Int}{l:List Int}(hy:aH r y.2=some l)(h6:10≤k)(hk:l.length < k)(hl:l.length≤1000){s:List Int}(hs:Mt (mC m) s):
 dO k m r y k (s,0)=some (wk (uA (mC m)) zO l s):=by
 have key:=iY (T:=List Int×Int) (f:=dO k m r y) l (λ(s:List Int) j=>(s,j)) (λs _ x=>match uA (mC m) s x with |some e=>Except.error e |none=>.ok (zO s x)) (λ_ s=>Mt (mC m) s) (λr=>some r)
  (λn s j hj hs=>by
   have hck:ck ((j:Int)+1)=some ((j:Int)+1):=cy (by omega) (by omega);have h5:=hs.len ⟨by omega,hC.2⟩;refine⟨?_,λs' e=>?_⟩
   .simp only [dO,hy,Int.ofNat_lt,hj,if_true,cj hj,bs,Ja hC];generalize l[j]=x;by_cases h:0≤x/\x < mC m
    .have eb:uA (mC m) s x=if x∈s then some 4 else none:=by unfold uA;rw [if_neg (λhn=>hn h)]
     rw [eb];simp only [h,and_self,decide_true,not_true_eq_false,if_false,yS (k:=k) (l:=s) (x:=x) (by omega) (by omega),bs];by_cases h2:x∈s
     .simp only [h2,decide_true,if_true]
     .have hok:bR (be (length s+length [x]))=some ():=dh (by simp [be];omega);simp only [h2,decide_false,Bool.false_eq_true,if_false,hok,bs,hck];rfl
    .have eb:uA (mC m) s x=some 3:=by unfold uA;rw [if_pos h]
     rw [eb];simp only [h,decide_false,Bool.false_eq_true,not_false_eq_true,if_true]
   .cases e2:uA (mC m) s l[j] with
    |some c=>rw [e2] at e;cases e
    |none=>rw [e2] at e;cases e;exact hs.add e2)
  (λn s _=>by simp [dO,hy,bs]) (n:=k) (s0:=s) hk hs
 exact key.trans (congrArg some (uQ l 0 s))
theorem Lt{k:Nat}{m:ab}(hC:1≤mC m/\mC m≤5){r:List (List Int)}(hk:1000 < k)(hr:r.length≤1000)(hl:∀l∈r,l.length≤1000):jE k m r=some (mP (mC m) r):=by
 unfold jE mP;by_cases h3:3 < r.length
 .rw [if_pos (by omega),if_pos h3]
 .rw [if_neg (by omega),if_neg h3]
  have key:=iY (T:=List Int×Int) (f:=dP k m r) r (λ(s:List Int) j=>(s,j)) (λs _ l=>wk (uA (mC m)) zO l s) (λ_ s=>Mt (mC m) s) (λx=>some (match x with | .error e=>Except.error e | .ok _=>.ok ()))
   (λn s j hj hs=>by
    have hck:ck ((j:Int)+1)=some ((j:Int)+1):=cy (by omega) (by omega);have hlj:=hl _ (List.getElem_mem hj);refine⟨?_,λs' e=>yH (Mt (mC m)) (λs x=>Mt.add) _ _ _ hs e⟩;have hg:aH r ((s,(j:Int)).2)=some r[j]:=cj hj;simp only [dP,Int.ofNat_lt,hj,if_true];rw [C7 hC hg (by omega) (by omega) hlj hs];cases wk (uA (mC m)) zO r[j] s with
    |error e=>rw [mF]
    |ok s'=>rw [kl,hck,bs])
   (λn s _=>by simp [dP]) (n:=k) (s0:=[]) (by omega) ⟨nodup_nil,λx hx=>by cases hx⟩
  rw [show dP k m r k ([],0)=_ from key,yF];cases wk (uA (mC m)) zO r.flatten [] with
  |error e=>exact mF
  |ok s=>exact kl
theorem Hz{C:Int}:∀{l s t:List Int},wk (uA C) zO l s= .ok t->t=s++l
 |[],s,t,e=>by cases e;simp
 |x::l,s,t,e=>by
  rw [wk] at e
  cases hb:uA C s x with
  |some c=>rw [hb] at e;cases e
  |none=>
   rw [hb] at e
   have:=Hz e
   rw [this]
   simp [zO]
theorem Es{C:Int}:∀{l s:List Int},(s++l).Nodup->(∀x∈l,0≤x/\x < C)->wk (uA C) zO l s= .ok (s++l)
 |[],s,_,_=>by simp [wk]
 |x::l,s,hn,hr=>by
  have hx:x∉s:=by
   intro h;rw [nodup_append] at hn;exact hn.2.2 x h x (mem_cons_self) rfl
  have hb:uA C s x=none:=by
   unfold uA;rw [if_neg (λh=>h (hr x mem_cons_self)),if_neg hx]
  rw [wk,hb];simp only [];rw [Es (s:=zO s x) (by unfold zO;simpa using hn) λy hy=>hr y (mem_cons_of_mem _ hy)];unfold zO;simp
theorem yn{C:Int}{r:List (List Int)}:mP C r=0↔r.length≤3/\r.flatten.Nodup/\∀x∈r.flatten,0≤x/\x < C:=by
 unfold mP;constructor
 .intro h;split at h
  .cases h
  .cases e:wk (uA C) zO r.flatten [] with
   |ok t=>
    have h1:=yH (Mt C) (λs x=>Mt.add) _ _ _ ⟨nodup_nil,λx hx=>by cases hx⟩ e;have h2:=Hz e;rw [nil_append] at h2;subst h2;exact⟨by omega,h1.1,h1.2⟩
   |error c=>
    rw [e] at h;exfalso
    have:∀(l s:List Int),wk (uA C) zO l s≠.error 0:=by
     intro l
     induction l with
     |nil=>intro s h;cases h
     |cons x l ih=>
      intro s h;rw [wk] at h;cases hb:uA C s x with
      |some c=>
       rw [hb] at h;obtain rfl:c=0:=by injection h
       unfold uA at hb;split at hb
       .cases hb
       .split at hb <;> cases hb
      |none=>rw [hb] at h;exact ih _ h
    exact this _ _ (by rw [e,show c=0 from h])
 .rintro⟨h1,h2,h3⟩;rw [if_neg (by omega),Es (by simpa using h2) h3]
def yd(m:ab)(g:aR):Int:=if(0≤g.1/\g.1 < mC m)/\0≤g.2.1/\g.2.1≤(mD m).length then 0 else 3
theorem P4{k:Nat}{m:ab}(hC:1≤mC m/\mC m≤5){g:aR}:gQ k m g=some (yd m g):=by
 have hc:ck (m.1 - 1)=some (m.1 - 1):=TJ hC;unfold gQ yd;have e:decide (0≤g.1/\g.1≤m.1 - 1)=decide (0≤g.1/\g.1 < mC m):=decide_eq_decide.2 ⟨λh=>⟨h.1,by show g.1 < m.1;omega⟩,λh=>⟨h.1,by have:g.1 < m.1:=h.2;omega⟩⟩;rw [hc,bs,lM,bs,e];by_cases h1:0≤g.1/\g.1 < mC m
 .by_cases h2:0≤g.2.1/\g.2.1≤(mD m).length <;> simp [h1,h2,lM]
 .simp [h1]
theorem PH{k:Nat}{m:ab}(hC:1≤mC m/\mC m≤5){g:aR}:gJ k m g=some (yd m g):=by
 unfold gJ yd;rw [Ja hC,bs];by_cases h1:0≤g.1/\g.1 < mC m
 .by_cases h2:0≤g.2.1/\g.2.1≤(mD m).length <;> simp [h1,h2,P6]
 .simp [h1]
def iN{α:Type}(f:α->Int)(l:List α):Int:=((l.map f).find? λe=>decide (e≠0)).getD 0
theorem nT{α:Type}(f:α->Int):∀(l:List α) (j:Nat),dW (λ(_:Unit) _ x=>if¬(f x=0) then Except.error (f x) else .ok ()) j l ()=if iN f l=0 then .ok () else .error (iN f l)
 |[],j=>by simp [dW,iN]
 |x::l,j=>by
  rw [dW]
  by_cases h:f x=0
  .
   have:iN f (x::l)=iN f l:=by simp [iN,h]
   rw [this]
   simp only [h,not_true_eq_false,if_false]
   exact nT f l (j+1)
  .
   have:iN f (x::l)=f x:=by simp [iN,h]
   rw [this]
   simp [h]
theorem qx{α:Type}{f:α->Int}{l:List α}:iN f l=0↔∀x∈l,f x=0:=by
 induction l with
 |nil=>simp [iN]
 |cons x l ih=>
  by_cases h:f x=0
  .have:iN f (x::l)=iN f l:=by simp [iN,h]
   rw [this,ih];simp [h]
  .have:iN f (x::l)=f x:=by simp [iN,h]
   rw [this];simp [h]
structure Sm(m:ab):Prop where
 d:(mD m).length≤1000
 r:∀r∈mD m,r.length≤1000/\∀l∈r,l.length≤1000
 g:(mG m).length≤1000
def i8(m:ab):Int:=
 if¬((1≤mC m/\mC m≤5)/\(0≤mW m/\mW m≤3)/\(0≤mS m/\mS m≤3)/\1≤mH m/\mH m≤3) then 1
 else if(mD m).length=0 then 7 else if 6 < (mD m).length then 6 else if¬(iN (mP (mC m)) (mD m)=0) then iN (mP (mC m)) (mD m)
 else if 8 < (mG m).length then 6 else iN (yd m) (mG m)
theorem L6{k:Nat}{m:ab}(hs:Sm m)(hk:1000 < k):nQ k m=some (i8 m):=by
 unfold nQ i8;simp only [lM,bs];by_cases h1:1≤mC m/\mC m≤5
 .by_cases h2:0≤mW m/\mW m≤3
  .by_cases h3:0≤mS m/\mS m≤3
   .by_cases h4:1≤mH m/\mH m≤3
    .have e1:(1≤m.1/\m.1≤5)=True:=eq_true h1;have e2:(0≤m.2.1/\m.2.1≤3)=True:=eq_true h2;have e3:(0≤m.2.2.1/\m.2.2.1≤3)=True:=eq_true h3;have e4:(1≤m.2.2.2.1/\m.2.2.2.1≤3)=True:=eq_true h4;simp only [e1,e2,e3,e4,decide_true,not_true_eq_false,if_false,Bool.not_true,Bool.false_eq_true,bs,and_self,h1,h2,h3,h4];by_cases h5:(mD m).length=0
     .rw [if_pos (show((m.2.2.2.2.1.length:Int) < 1) by have:m.2.2.2.2.1.length=0:=h5;omega),if_pos h5]
     .rw [if_neg (show¬((m.2.2.2.2.1.length:Int) < 1) by have:m.2.2.2.2.1.length≠0:=h5;omega),if_neg h5];by_cases h6:6 < (mD m).length
      .rw [if_pos (show((6:Int) < (m.2.2.2.2.1.length:Int)) by have:6 < m.2.2.2.2.1.length:=h6;omega),if_pos h6]
      .rw [if_neg (show¬((6:Int) < (m.2.2.2.2.1.length:Int)) by have:¬6 < m.2.2.2.2.1.length:=h6;omega),if_neg h6]
       have key:=iY (f:=fC k m) (mD m) (λ(_:Unit) j=>j) (λ_ _ x=>if¬(mP (mC m) x=0) then Except.error (mP (mC m) x) else .ok ()) (λ_ _=>True) (λr=>some r)
        (λn s j hj _=>by
         have hck:ck ((j:Int)+1)=some ((j:Int)+1):=cy (by omega) (by omega);have hr:=hs.r _ (List.getElem_mem hj);refine⟨?_,λ_ _=>trivial⟩;have hj':(j:Int) < (m.2.2.2.2.1.length:Int):=Int.ofNat_lt.2 hj;have hg:aH m.2.2.2.2.1 (j:Int)=some (mD m)[j]:=cj hj;simp only [fC,hj',if_true,hg,bs,L2 h1 hk hr.1 hr.2];by_cases e:mP (mC m) (mD m)[j]=0 <;> simp [e,hck])
        (λn s _=>by
         unfold fC;rw [if_neg (Int.lt_irrefl _)]) (n:=k) (s0:=()) (by have:=hs.d;omega) trivial
       rw [show fC k m k 0=_ from key,nT];by_cases h7:iN (mP (mC m)) (mD m)=0
       .rw [if_pos h7,kl,show(if¬(iN (mP (mC m)) (mD m)=0) then iN (mP (mC m)) (mD m) else if 8 < (mG m).length then 6 else iN (yd m) (mG m))=(if 8 < (mG m).length then 6 else iN (yd m) (mG m)) from if_neg (λhn=>hn h7)];by_cases h8:8 < (mG m).length
        .rw [if_pos (show((8:Int) < (m.2.2.2.2.2.length:Int)) by have:8 < m.2.2.2.2.2.length:=h8;omega),if_pos h8]
        .rw [if_neg (show¬((8:Int) < (m.2.2.2.2.2.length:Int)) by have:¬8 < m.2.2.2.2.2.length:=h8;omega),if_neg h8]
         have key:=iY (f:=fB k m) (mG m) (λ(_:Unit) j=>j) (λ_ _ x=>if¬(yd m x=0) then Except.error (yd m x) else .ok ()) (λ_ _=>True) (λr=>some r)
          (λn s j hj _=>by
           have hck:ck ((j:Int)+1)=some ((j:Int)+1):=cy (by omega) (by omega);refine⟨?_,λ_ _=>trivial⟩;have hj':(j:Int) < (m.2.2.2.2.2.length:Int):=Int.ofNat_lt.2 hj;have hg:aH m.2.2.2.2.2 (j:Int)=some (mG m)[j]:=cj hj;simp only [fB,hj',if_true,hg,bs,P4 h1];by_cases e:yd m (mG m)[j]=0 <;> simp [e,hck])
          (λn s _=>by
           unfold fB;rw [if_neg (Int.lt_irrefl _)]) (n:=k) (s0:=()) (by have:=hs.g;omega) trivial
         rw [show fB k m k 0=_ from key,nT];by_cases h9:iN (yd m) (mG m)=0
         .rw [if_pos h9,kl,h9]
         .rw [if_neg h9,mF]
       .rw [if_neg h7,mF,if_pos h7]
    .have e1:(1≤m.1/\m.1≤5)=True:=eq_true h1;have e2:(0≤m.2.1/\m.2.1≤3)=True:=eq_true h2;have e3:(0≤m.2.2.1/\m.2.2.1≤3)=True:=eq_true h3;have e4:(1≤m.2.2.2.1/\m.2.2.2.1≤3)=False:=eq_false h4;refine Eq.trans ?_ (congrArg some (if_pos λhh=>h4 hh.2.2.2).symm);simp [e1,e2,e3,e4]
   .have e1:(1≤m.1/\m.1≤5)=True:=eq_true h1;have e2:(0≤m.2.1/\m.2.1≤3)=True:=eq_true h2;have e3:(0≤m.2.2.1/\m.2.2.1≤3)=False:=eq_false h3;refine Eq.trans ?_ (congrArg some (if_pos λhh=>h3 hh.2.2.1).symm);simp [e1,e2,e3]
  .have e1:(1≤m.1/\m.1≤5)=True:=eq_true h1;have e2:(0≤m.2.1/\m.2.1≤3)=False:=eq_false h2;refine Eq.trans ?_ (congrArg some (if_pos λhh=>h2 hh.2.1).symm);simp [e1,e2]
 .have e1:(1≤m.1/\m.1≤5)=False:=eq_false h1;refine Eq.trans ?_ (congrArg some (if_pos λhh=>h1 hh.1).symm);simp [e1]
theorem EB{k:Nat}{m:ab}(hs:Sm m)(hk:1000 < k):lN k m=some (i8 m):=by
 unfold lN i8;simp only [tY,bs];by_cases h1:1≤mC m/\mC m≤5
 .by_cases h2:0≤mW m/\mW m≤3
  .by_cases h3:0≤mS m/\mS m≤3
   .by_cases h4:1≤mH m/\mH m≤3
    .have e1:(1≤m.1/\m.1≤5)=True:=eq_true h1;have e2:(0≤m.2.1/\m.2.1≤3)=True:=eq_true h2;have e3:(0≤m.2.2.1/\m.2.2.1≤3)=True:=eq_true h3;have e4:(1≤m.2.2.2.1/\m.2.2.2.1≤3)=True:=eq_true h4;simp only [e1,e2,e3,e4,decide_true,not_true_eq_false,if_false,Bool.not_true,Bool.false_eq_true,bs,and_self,h1,h2,h3,h4];by_cases h5:(mD m).length=0
     .rw [if_pos (show((m.2.2.2.2.1.length:Int)=0) by have:m.2.2.2.2.1.length=0:=h5;omega),if_pos h5]
     .rw [if_neg (show¬((m.2.2.2.2.1.length:Int)=0) by have:m.2.2.2.2.1.length≠0:=h5;omega),if_neg h5];by_cases h6:6 < (mD m).length
      .rw [if_pos (show((6:Int) < (m.2.2.2.2.1.length:Int)) by have:6 < m.2.2.2.2.1.length:=h6;omega),if_pos h6]
      .rw [if_neg (show¬((6:Int) < (m.2.2.2.2.1.length:Int)) by have:¬6 < m.2.2.2.2.1.length:=h6;omega),if_neg h6]
       have key:=iY (f:=fp k m) (mD m) (λ(_:Unit) j=>j) (λ_ _ x=>if¬(mP (mC m) x=0) then Except.error (mP (mC m) x) else .ok ()) (λ_ _=>True) (λr=>some r)
        (λn s j hj _=>by
         have hck:ck ((j:Int)+1)=some ((j:Int)+1):=cy (by omega) (by omega);have hr:=hs.r _ (List.getElem_mem hj);refine⟨?_,λ_ _=>trivial⟩;have hj':(j:Int) < (m.2.2.2.2.1.length:Int):=Int.ofNat_lt.2 hj;have hg:aH m.2.2.2.2.1 (j:Int)=some (mD m)[j]:=cj hj;simp only [fp,hj',if_true,hg,bs,Lt h1 hk hr.1 hr.2];by_cases e:mP (mC m) (mD m)[j]=0 <;> simp [e,hck])
        (λn s _=>by
         unfold fp;rw [if_neg (Int.lt_irrefl _)]) (n:=k) (s0:=()) (by have:=hs.d;omega) trivial
       rw [show fp k m k 0=_ from key,nT];by_cases h7:iN (mP (mC m)) (mD m)=0
       .rw [if_pos h7,kl,show(if¬(iN (mP (mC m)) (mD m)=0) then iN (mP (mC m)) (mD m) else if 8 < (mG m).length then 6 else iN (yd m) (mG m))=(if 8 < (mG m).length then 6 else iN (yd m) (mG m)) from if_neg (λhn=>hn h7)];by_cases h8:8 < (mG m).length
        .rw [if_pos (show((8:Int) < (m.2.2.2.2.2.length:Int)) by have:8 < m.2.2.2.2.2.length:=h8;omega),if_pos h8]
        .rw [if_neg (show¬((8:Int) < (m.2.2.2.2.2.length:Int)) by have:¬8 < m.2.2.2.2.2.length:=h8;omega),if_neg h8]
         have key:=iY (f:=fo k m) (mG m) (λ(_:Unit) j=>j) (λ_ _ x=>if¬(yd m x=0) then Except.error (yd m x) else .ok ()) (λ_ _=>True) (λr=>some r)
          (λn s j hj _=>by
           have hck:ck ((j:Int)+1)=some ((j:Int)+1):=cy (by omega) (by omega);refine⟨?_,λ_ _=>trivial⟩;have hj':(j:Int) < (m.2.2.2.2.2.length:Int):=Int.ofNat_lt.2 hj;have hg:aH m.2.2.2.2.2 (j:Int)=some (mG m)[j]:=cj hj;simp only [fo,hj',if_true,hg,bs,PH h1];by_cases e:yd m (mG m)[j]=0 <;> simp [e,hck])
          (λn s _=>by
           unfold fo;rw [if_neg (Int.lt_irrefl _)]) (n:=k) (s0:=()) (by have:=hs.g;omega) trivial
         rw [show fo k m k 0=_ from key,nT];by_cases h9:iN (yd m) (mG m)=0
         .rw [if_pos h9,kl,h9]
         .rw [if_neg h9,mF]
       .rw [if_neg h7,mF,if_pos h7]
    .have e1:(1≤m.1/\m.1≤5)=True:=eq_true h1;have e2:(0≤m.2.1/\m.2.1≤3)=True:=eq_true h2;have e3:(0≤m.2.2.1/\m.2.2.1≤3)=True:=eq_true h3;have e4:(1≤m.2.2.2.1/\m.2.2.2.1≤3)=False:=eq_false h4;refine Eq.trans ?_ (congrArg some (if_pos λhh=>h4 hh.2.2.2).symm);simp [e1,e2,e3,e4]
   .have e1:(1≤m.1/\m.1≤5)=True:=eq_true h1;have e2:(0≤m.2.1/\m.2.1≤3)=True:=eq_true h2;have e3:(0≤m.2.2.1/\m.2.2.1≤3)=False:=eq_false h3;refine Eq.trans ?_ (congrArg some (if_pos λhh=>h3 hh.2.2.1).symm);simp [e1,e2,e3]
  .have e1:(1≤m.1/\m.1≤5)=True:=eq_true h1;have e2:(0≤m.2.1/\m.2.1≤3)=False:=eq_false h2;refine Eq.trans ?_ (congrArg some (if_pos λhh=>h2 hh.2.1).symm);simp [e1,e2]
 .have e1:(1≤m.1/\m.1≤5)=False:=eq_false h1;refine Eq.trans ?_ (congrArg some (if_pos λhh=>h1 hh.1).symm);simp [e1]
end Go.Proofs.YthnacobbednnbaaGreat
set_option linter.unusedVariables false
set_option linter.unusedSimpArgs false
namespace Go.Proofs.YthnacobbednnbaaGreat
open K Go Go.Proofs
theorem vJ{r:List (List Int)}{l:List Int}(h:r.flatten.Nodup)(hl:l∈r):l.Nodup:=by
 obtain⟨s,t,rfl⟩:=List.append_of_mem hl;rw [List.flatten_append,flatten_cons,nodup_append] at h;have:=h.2.1;rw [nodup_append] at this;exact this.1
theorem KV{σ:Type}{bad:σ->Int->Option Int}{add:σ->Int->σ}{x:Int}{l:List Int}{s:σ}{e:Int}(h:bad s x=some e):wk bad add (x::l) s= .error e:=by rw [wk,h]
theorem KR{σ:Type}{bad:σ->Int->Option Int}{add:σ->Int->σ}{x:Int}{l:List Int}{s:σ}(h:bad s x=none):wk bad add (x::l) s=wk bad add l (add s x):=by rw [wk,h]
theorem Vd.of{m:ab}(h:i8 m=0):Vd m:=by
 unfold i8 at h;by_cases h1:(1≤mC m/\mC m≤5)/\(0≤mW m/\mW m≤3)/\(0≤mS m/\mS m≤3)/\1≤mH m/\mH m≤3
 .rw [if_neg (λhn=>hn h1)] at h;by_cases h2:(mD m).length=0
  .rw [if_pos h2] at h;cases h
  .rw [if_neg h2] at h;by_cases h3:6 < (mD m).length
   .rw [if_pos h3] at h;cases h
   .rw [if_neg h3] at h;by_cases h4:iN (mP (mC m)) (mD m)=0
    .rw [if_neg (λhn=>hn h4)] at h;by_cases h5:8 < (mG m).length
     .rw [if_pos h5] at h;cases h
     .rw [if_neg h5] at h;have hd:=λr hr=>yn.1 (qx.1 h4 r hr);have hx:∀r∈mD m,∀l∈r,∀x∈l,0≤x/\x < mC m:=λr hr l hl x hx=>(hd r hr).2.2 x (List.mem_flatten.2 ⟨l,hl,hx⟩)
      exact⟨h1.1.1,h1.1.2,h1.2.1.1,h1.2.1.2,h1.2.2.1.1,h1.2.2.1.2,h1.2.2.2.1,h1.2.2.2.2,by omega,by omega,λr hr=>(hd r hr).1,λr hr l hl=>by
       have hn:l.Nodup:=vJ (hd r hr).2.1 hl;have:=tw (mC m).toNat l hn λx hxx=>by have:=hx r hr l hl x hxx;omega
       omega,hx,λr hr=>(hd r hr).2.1,by omega,λg hg=>by
        have:=qx.1 h g hg;unfold yd at this;split at this
        .rename_i hh;exact⟨hh.1.1,hh.1.2,hh.2.1,hh.2.2⟩
        .cases this⟩
    .rw [if_pos h4] at h;exact absurd h h4
 .rw [if_pos h1] at h;cases h
theorem Vd.chk{m:ab}(v:Vd m):i8 m=0:=by
 unfold i8;have h1:(1≤mC m/\mC m≤5)/\(0≤mW m/\mW m≤3)/\(0≤mS m/\mS m≤3)/\1≤mH m/\mH m≤3:=⟨⟨v.c1,v.c5⟩,⟨v.w0,v.w3⟩,⟨v.s0,v.s3⟩,v.h1,v.h3⟩
 have h4:iN (mP (mC m)) (mD m)=0:=qx.2 λr hr=>yn.2 ⟨v.r3 r hr,v.nd r hr,λx hx=>by
  obtain⟨l,hl,hx⟩:=List.mem_flatten.1 hx;exact v.x5 r hr l hl x hx⟩
 have h9:iN (yd m) (mG m)=0:=qx.2 λg hg=>by
  have:=v.gl g hg;unfold yd;rw [if_pos ⟨⟨this.1,this.2.1⟩,this.2.2⟩]
 have d1:=v.d1;have d6:=v.d6;have g8:=v.g8;rw [if_neg (λhn=>hn h1),if_neg (by omega),if_neg (by omega),if_neg (λhn=>hn h4),if_neg (by omega),h9]
theorem Vd.sm{m:ab}(v:Vd m):Sm m:=⟨by have:=v.d6;omega,λr hr=>⟨by have:=v.r3 r hr;omega,λl hl=>by have:=v.l5 r hr l hl;omega⟩,by have:=v.g8;omega⟩
def wN(C:Int)(p:Option Int)(x:Int):Option Int:=if¬(0≤x/\x < C) then some 3 else if p.any (λy=>decide (x≤y)) then some 5 else none
def ND(C:Int)(p:Option Int×Int)(x:Int):Option Int:=wN C p.1 x
def Q2(p:Option Int×Int)(x:Int):Option Int×Int:=(some x,wP p.2 x)
def NN(p:Option Int)(x:Int):Option Int:=some x
def xt(C:Int)(b:List Int):Int:=match wk (wN C) NN b none with | .error e=>e | .ok _=>0
def dk(b:List Int):Int:=b.foldl wP 0
theorem ON{C:Int}{p:Option Int}{x:Int}(h:wN C p x=none):(0≤x/\x < C)/\p.any (λy=>decide (x≤y))=false:=by
 unfold wN at h;split at h
 .cases h
 .rename_i h';split at h
  .cases h
  .rename_i h2;exact⟨Decidable.not_not.1 h',by simpa using h2⟩
theorem E7{C:Int}:∀(b:List Int) (p:Option Int) (s:Int),(∃e,wk (ND C) Q2 b (p,s)= .error e/\wk (wN C) NN b p= .error e)\/∃q,wk (ND C) Q2 b (p,s)= .ok (q,b.foldl wP s)/\wk (wN C) NN b p= .ok q
 |[],p,s=>.inr ⟨p,rfl,rfl⟩
 |x::b,p,s=>by
  cases e:wN C p x with
  |some c=>exact .inl ⟨c,KV e,KV e⟩
  |none=>
   rw [KR (bad:=ND C) (s:=(p,s)) (x:=x) e,KR e]
   exact E7 (C:=C) b (some x) (wP s x)
theorem A7{k:Nat}{m:ab}(hC:1≤mC m/\mC m≤5){b:List Int}(hk:b.length < k)(hb:b.length≤1000):
 fx k m b k (0,0)=some (if xt (mC m) b=0 then .ok (dk b) else .error (none,0,xt (mC m) b)):=by
 have key:=iY (T:=Int×Int) (f:=fx k m b) b (λ(s:Option Int×Int) j=>(s.2,j)) (λs _ x=>match ND (mC m) s x with |some e=>Except.error e |none=>.ok (Q2 s x)) (λj s=>kp s.2/\s.1=if j=0 then none else b[j-1]?) (λr=>some (match r with | .error e=>Except.error (none,0,e) | .ok s=>.ok s.2))
  (λn s j hj hs=>by
   have hck:ck ((j:Int)+1)=some ((j:Int)+1):=cy (by omega) (by omega);have hc:ck (m.1 - 1)=some (m.1 - 1):=TJ hC;refine⟨?_,λs' e=>?_⟩
   .simp only [fx,Int.ofNat_lt,hj,if_true,cj hj,bs,hc,lM];generalize b[j]=x;rw [show ND (mC m) s x=wN (mC m) s.1 x from rfl];by_cases h:0≤x/\x < mC m
    .have h':0≤x/\x≤m.1 - 1:=⟨h.1,by have:x < m.1:=h.2;omega⟩;have eb:wN (mC m) s.1 x=if s.1.any (λy=>decide (x≤y)) then some 5 else none:=by unfold wN;rw [if_neg (λhn=>hn h)]
     have ep:(if(0:Int) < (j:Int) then((ck ((j:Int) - 1)).bind λx12=>(aH b x12).bind λx13=>some (decide (x≤x13))) else some false)=some (s.1.any λy=>decide (x≤y)):=by
      rw [hs.2];by_cases h0:j=0
      .subst h0;simp
      .have c1:ck ((j:Int) - 1)=some ((j - 1:Nat):Int):=by rw [cy (by omega) (by omega),show((j:Int) - 1)=((j - 1:Nat):Int) by omega]
       rw [if_pos (by omega),c1,bs,cj (by omega),bs,if_neg h0,List.getElem?_eq_getElem (by omega)];rfl
     rw [eb];simp only [h',and_self,decide_true,not_true_eq_false,if_false,bs];rw [ep,bs];cases s.1.any λy=>decide (x≤y) with
     |true=>simp only [if_true]
     |false=>
      simp only [Bool.false_eq_true,if_false,(od (k:=k) hs.1 h.1 (by omega)).1,bs,hck];rfl
    .have h':¬(0≤x/\x≤m.1 - 1):=λhh=>h ⟨hh.1,by show x < m.1;omega⟩;have eb:wN (mC m) s.1 x=some 3:=by unfold wN;rw [if_pos h]
     rw [eb];simp only [h',decide_false,Bool.false_eq_true,not_false_eq_true,if_true,bs]
   .cases e2:ND (mC m) s b[j] with
    |some c=>rw [e2] at e;cases e
    |none=>
     rw [e2] at e;cases e;have hx:=ON e2;exact⟨(od (k:=0) hs.1 hx.1.1 (by omega)).2.1,by show some b[j]=if j+1=0 then none else b[j+1 - 1]?;rw [if_neg (by omega)];simp [List.getElem?_eq_getElem hj]⟩)
  (λn s _=>by simp [fx]) (n:=k) (s0:=(none,0)) hk ⟨vQ,rfl⟩
 rw [show fx k m b k (0,0)=_ from key]
 have e1:dW (λ(s:Option Int×Int) _ x=>match ND (mC m) s x with |some e=>Except.error e |none=>.ok (Q2 s x)) 0 b (none,0)=wk (ND (mC m)) Q2 b (none,0):=uQ (bad:=ND (mC m)) (add:=Q2) b 0 (none,0)
 rw [e1]
 unfold xt
 have z:∀(l:List Int) (p:Option Int),wk (wN (mC m)) NN l p≠.error 0:=by
  intro l
  induction l with
  |nil=>intro p h;cases h
  |cons x l ih=>
   intro p h;rw [wk] at h;cases hb:wN (mC m) p x with
   |some c=>
    rw [hb] at h;obtain rfl:c=0:=by injection h
    unfold wN at hb;split at hb
    .cases hb
    .split at hb <;> cases hb
   |none=>rw [hb] at h;exact ih _ h
 rcases E7 (C:=mC m) b none 0 with⟨e,h1,h2⟩ |⟨q,h1,h2⟩
 .
  rw [h1,h2];simp only [];rw [if_neg (λh0=>z b none (by rw [h2,h0]))]
 .
  rw [h1,h2];rfl
end Go.Proofs.YthnacobbednnbaaGreat
set_option linter.unusedVariables false
set_option linter.unusedSimpArgs false
namespace Go.Proofs.YthnacobbednnbaaGreat
open K Go Go.Proofs
theorem AA{C:Int}(hC:C≤5):∀(b:List Int) (s:Int),kp s->(∀x∈b,0≤x/\x < C)->kp (b.foldl wP s)/\∀i:Nat,eo (b.foldl wP s) i↔eo s i\/(i:Int)∈b
 |[],s,hs,_=>⟨hs,λi=>by simp⟩
 |x::b,s,hs,hb=>by
  have hx:=hb x mem_cons_self
  have hw:=od (k:=0) hs hx.1 (by omega)
  have:=AA hC b (wP s x) hw.2.1 λy hy=>hb y (mem_cons_of_mem _ hy)
  refine⟨this.1,λi=>?_⟩
  show eo (b.foldl wP (wP s x)) i↔_
  rw [this.2 i,hw.2.2 i,mem_cons,or_assoc]
structure Bg(C:Int)(b:List Int):Prop where
 rng:∀x∈b,0≤x/\x < C
 asc:b.Pairwise (· < ·)
theorem CM{C:Int}:∀{b:List Int} {p:Option Int},(∃q,wk (wN C) NN b p= .ok q)↔(∀x∈b,0≤x/\x < C)/\b.Pairwise (· < ·)/\∀y,p=some y->∀x∈b.head?,y < x
 |[],p=>by simp [wk]
 |x::b,p=>by
  cases e:wN C p x with
  |some c=>
   rw [KV e]
   constructor
   .
    rintro⟨q,h⟩;cases h
   .
    rintro⟨h1,h2,h3⟩
    exfalso
    unfold wN at e
    rw [if_neg (λhn=>hn (h1 x mem_cons_self))] at e
    cases p with
    |none=>cases e
    |some y=>
     have:=h3 y rfl x (by simp)
     rw [if_neg (by simp;omega)] at e
     cases e
  |none=>
   have hx:=ON e
   rw [KR e,CM (b:=b) (p:=NN p x)]
   constructor
   .
    rintro⟨h1,h2,h3⟩
    refine⟨λy hy=>?_,?_,λy hy z hz=>?_⟩
    .
     rcases mem_cons.1 hy with rfl |hy
     .
      exact hx.1
     .
      exact h1 y hy
    .
     rw [pairwise_cons]
     refine⟨λy hy=>?_,h2⟩
     cases b with
     |nil=>cases hy
     |cons z b=>
      have hz:=h3 x rfl z (by simp)
      rcases mem_cons.1 hy with rfl |hy
      .
       exact hz
      .
       have:=(pairwise_cons.1 h2).1 y hy;omega
    .
     have e2:=hx.2
     rw [hy] at e2
     simp at e2
     simp at hz
     omega
   .
    rintro⟨h1,h2,h3⟩
    rw [pairwise_cons] at h2
    refine⟨λy hy=>h1 y (mem_cons_of_mem _ hy),h2.2,λy hy z hz=>?_⟩
    obtain rfl:x=y:=by simpa [NN] using hy
    exact h2.1 z (mem_of_mem_head? hz)
theorem E8{C:Int}:∀{l:List Int} {p:Option Int},wk (wN C) NN l p≠.error 0
 |[],p,h=>by cases h
 |x::l,p,h=>by
  cases hb:wN C p x with
  |some c=>
   rw [KV hb] at h
   obtain rfl:c=0:=by injection h
   unfold wN at hb
   split at hb
   .
    cases hb
   .
    split at hb <;> cases hb
  |none=>rw [KR hb] at h;exact E8 h
theorem yu{C:Int}{b:List Int}:xt C b=0↔Bg C b:=by
 unfold xt;constructor
 .intro h;cases e:wk (wN C) NN b none with
  |error c=>rw [e] at h;exact absurd (by rw [e,show c=0 from h]) (E8 (C:=C) (l:=b) (p:=none))
  |ok q=>have:=CM.1 ⟨q,e⟩;exact⟨this.1,this.2.1⟩
 .rintro⟨h1,h2⟩;obtain⟨q,e⟩:=(CM (p:=none)).2 ⟨h1,h2,λy hy=>by cases hy⟩;rw [e]
theorem Bg.set{C:Int}(hC:C≤5){b:List Int}(h:Bg C b):kp (dk b)/\∀c:Int,0≤c->sT (dk b) c=decide (c∈b):=by
 have:=AA hC b 0 vQ h.rng;refine⟨this.1,λc hc=>?_⟩;unfold sT;have e:((c.toNat:Nat):Int)=c:=by omega
 have h2:=this.2 c.toNat;rw [e] at h2;refine decide_eq_decide.2 ?_;show eo (b.foldl wP 0) c.toNat↔_;rw [h2];simp [eo]
def vS(m:ab)(i:Nat):Int:=match i with |0=>mC m - 1 |1=>((mD m).length:Int) - 1 |_=>(mD m).length
def zn(n:Int)(l:List Int):Bool:=l.all λx=>decide (0≤x/\x≤n)
theorem rl{k:Nat}{m:ab}(v:Vd m){i:Nat}(hi:i < 3){l:List Int}(hk:l.length < k)(hl:l.length≤1000):
 dR k m (i:Int) l k 0=some (if zn (vS m i) l then .ok () else .error (none,0,3)):=by
 have c1:=v.c1
 have c5:=v.c5
 have d6:=v.d6
 have d1:=v.d1
 have key:=iY (T:=Int) (f:=dR k m (i:Int) l) l (λ(_:Unit) j=>j) (λ_ _ x=>if 0≤x/\x≤vS m i then .ok () else Except.error ((none,0,3):Option ab×Int×Int)) (λ_ _=>True) (λr=>some r)
  (λn s j hj _=>by
   have hck:ck ((j:Int)+1)=some ((j:Int)+1):=cy (by omega) (by omega);have hc:ck (m.1 - 1)=some (mC m - 1):=TJ ⟨c1,c5⟩;have hd:ck ((m.2.2.2.2.1.length:Int) - 1)=some (((mD m).length:Int) - 1):=cy (by show _≤((mD m).length:Int) - 1;omega) (by show((mD m).length:Int) - 1≤_;omega)
   have hg:aH [mC m - 1,((mD m).length:Int) - 1,((mD m).length:Int)] (i:Int)=some (vS m i):=by
    have:i=0\/i=1\/i=2:=by omega
    rcases this with rfl |rfl |rfl <;> rfl
   refine⟨?_,λ_ _=>trivial⟩;simp only [dR,Int.ofNat_lt,hj,if_true,cj hj,bs,hc,hd];rw [show aH [mC m - 1,((mD m).length:Int) - 1,(m.2.2.2.2.1.length:Int)] (i:Int)=some (vS m i) from hg,bs,lM,bs];by_cases h:0≤l[j]/\l[j]≤vS m i
   .rw [if_pos h];simp only [h,and_self,decide_true,not_true_eq_false,if_false,hck,bs]
   .rw [if_neg h];simp only [h,decide_false,Bool.false_eq_true,not_false_eq_true,if_true])
  (λn s _=>by simp [dR]) (n:=k) (s0:=()) hk trivial
 rw [show dR k m (i:Int) l k 0=_ from key]
 congr 1
 have:∀(l:List Int) (j:Nat),dW (λ(_:Unit) _ x=>if 0≤x/\x≤vS m i then .ok () else Except.error ((none,0,3):Option ab×Int×Int)) j l ()=if zn (vS m i) l then .ok () else .error (none,0,3):=by
  intro l
  induction l with
  |nil=>intro j;rfl
  |cons x l ih=>
   intro j;rw [dW];by_cases h:0≤x/\x≤vS m i
   .rw [if_pos h];have:zn (vS m i) (x::l)=zn (vS m i) l:=by simp only [zn,all_cons,h,and_self,decide_true,Bool.true_and]
    rw [this];exact ih (j+1)
   .rw [if_neg h];have:zn (vS m i) (x::l)=false:=by simp only [zn,all_cons,h,decide_false,Bool.false_and]
    rw [this];rfl
 exact this l 0
theorem Ak{k:Nat}{m:ab}(v:Vd m)(hk:10≤k):∀n:Nat,n≤32->xA k m n=some ()
 |0,_=>rfl
 |n+1,h=>by
  have e:IntKind.u8.wrap (n:Int)=(n:Int):=uP (by omega)
  unfold xA
  rw [Ak v hk n (by omega),bs,e,yo v hk ⟨by omega,by omega⟩,bs]
theorem KZ{k:Nat}{m:ab}(v:Vd m)(hk:10≤k):eT k m=some ():=by
 have c1:=v.c1;have c5:=v.c5;unfold eT
 have hc:m.1=1\/m.1=2\/m.1=3\/m.1=4\/m.1=5:=by
  have h1:1≤m.1:=c1;have h2:m.1≤5:=c5;omega
 have e:0≤pN .i64 1 m.1/\pN .i64 1 m.1≤32:=by
  rcases hc with h |h |h |h |h <;> rw [h] <;> decide
 rw [if_pos ⟨by rcases hc with h |h |h |h |h <;> omega,by omega⟩];exact Ak v hk _ (by omega)
def QW(m:ab)(cs ds ns:List Int):Bool:=zn (vS m 0) cs && zn (vS m 1) ds && zn (vS m 2) ns
theorem A6{k:Nat}{m:ab}{b cs ds ns:List Int}(hs:Sm m)(hk:1010≤k)(hb:b.length≤1000)(h1:cs.length≤1000)(h2:ds.length≤1000)(h3:ns.length≤1000):
 kL k m b cs ds ns=some (if¬(i8 m=0) then(none,0,i8 m) else if¬(xt (mC m) b=0) then(none,0,xt (mC m) b) else if QW m cs ds ns then(some m,dk b,0) else(none,0,3)):=by
 unfold kL
 rw [L6 hs (by omega),bs]
 by_cases hc:i8 m=0
 .
  have v:=Vd.of hc;rw [if_neg (λhn=>hn hc),if_neg (λhn=>hn hc),A7 ⟨v.c1,v.c5⟩ (by omega) hb];by_cases hg:xt (mC m) b=0
  .rw [if_pos hg,kl,if_neg (λhn=>hn hg)];obtain⟨n,rfl⟩:∃n,k=n+4:=⟨k - 4,by omega⟩;have e0:=rl v (k:=n+4) (i:=0) (by omega) (l:=cs) (by omega) h1;have e1:=rl v (k:=n+4) (i:=1) (by omega) (l:=ds) (by omega) h2;have e2:=rl v (k:=n+4) (i:=2) (by omega) (l:=ns) (by omega) h3;have g0:aH [cs,ds,ns] (0:Int)=some cs:=rfl;have g1:aH [cs,ds,ns] (1:Int)=some ds:=rfl;have g2:aH [cs,ds,ns] (2:Int)=some ns:=rfl;have k0:ck ((0:Int)+1)=some 1:=rfl;have k1:ck ((1:Int)+1)=some 2:=rfl;have k2:ck ((2:Int)+1)=some 3:=rfl;have ln:(([cs,ds,ns]:List (List Int)).length:Int)=3:=rfl
   have s0:cZ (n+4) m cs ds ns (n+4) 0=if zn (vS m 0) cs then cZ (n+4) m cs ds ns (n+3) 1 else some (.error (none,0,3)):=by
    rw [cZ,ln,if_pos (by decide),g0,bs,show dR (n+4) m 0 cs (n+4) 0=_ from e0];cases zn (vS m 0) cs with
    |true=>simp only [if_true];rw [kl,k0,bs]
    |false=>simp only [Bool.false_eq_true,if_false];rw [mF]
   have s1:cZ (n+4) m cs ds ns (n+3) 1=if zn (vS m 1) ds then cZ (n+4) m cs ds ns (n+2) 2 else some (.error (none,0,3)):=by
    rw [cZ,ln,if_pos (by decide),g1,bs,show dR (n+4) m 1 ds (n+4) 0=_ from e1];cases zn (vS m 1) ds with
    |true=>simp only [if_true];rw [kl,k1,bs]
    |false=>simp only [Bool.false_eq_true,if_false];rw [mF]
   have s2:cZ (n+4) m cs ds ns (n+2) 2=if zn (vS m 2) ns then cZ (n+4) m cs ds ns (n+1) 3 else some (.error (none,0,3)):=by
    rw [cZ,ln,if_pos (by decide),g2,bs,show dR (n+4) m 2 ns (n+4) 0=_ from e2];cases zn (vS m 2) ns with
    |true=>simp only [if_true];rw [kl,k2,bs]
    |false=>simp only [Bool.false_eq_true,if_false];rw [mF]
   have s3:cZ (n+4) m cs ds ns (n+1) 3=some (.ok ()):=by
    rw [cZ,ln,if_neg (by decide)]
   rw [s0,s1,s2,s3];unfold QW
   have fin:((jJ (n+4) m).bind λr32=>gy r32 none (λq33=>(eT (n+4) q33).bind λr35=>some (some q33,dk b,(0:Int))))=some (some m,dk b,0):=by
    unfold jJ;rw [bs,u7,KZ v (by omega),bs]
   cases zn (vS m 0) cs with
   |false=>simp only [Bool.false_eq_true,if_false,Bool.false_and];rw [mF]
   |true=>
    cases zn (vS m 1) ds with
    |false=>simp only [if_true,Bool.false_eq_true,if_false,Bool.true_and,Bool.false_and];rw [mF]
    |true=>
     cases zn (vS m 2) ns with
     |false=>simp only [if_true,Bool.false_eq_true,if_false,Bool.true_and,Bool.and_false];rw [mF]
     |true=>simp only [if_true,Bool.true_and];rw [kl];exact fin
  .rw [if_neg hg,mF,if_pos hg]
 .
  rw [if_pos hc,if_pos hc]
end Go.Proofs.YthnacobbednnbaaGreat
set_option linter.unusedVariables false
set_option linter.unusedSimpArgs false
namespace Go.Proofs.YthnacobbednnbaaGreat
open K Go Go.Proofs
def oV(m:ab)(B:Int->Bool)(n:Nat):List Int:=(List.range (mC m).toNat).map λ(c:Nat)=>jW m B n (c:Int)
def uw(m:ab)(B:Int->Bool):List (List Int):=(List.range ((mD m).length+1)).map (oV m B)
theorem sq{m:ab}{B:Int->Bool}{n:Nat}{c:Int}(h0:0≤c)(h1:c < mC m):aH (oV m B n) c=some (jW m B n c):=by
 unfold oV;rw [aH,if_pos h0,List.getElem?_map,List.getElem?_range (by omega)];show some (jW m B n ((c.toNat:Nat):Int))=_;rw [show((c.toNat:Nat):Int)=c by omega]
theorem GN{m:ab}{B:Int->Bool}{n:Nat}(h:n≤(mD m).length):aH (uw m B) (n:Int)=some (oV m B n):=by
 unfold uw;rw [aH,if_pos (by omega),List.getElem?_map,Int.toNat_natCast,List.getElem?_range (by omega)];rfl
end Go.Proofs.YthnacobbednnbaaGreat
set_option linter.unusedVariables false
set_option linter.unusedSimpArgs false
namespace Go.Proofs.YthnacobbednnbaaGreat
open K Go Go.Proofs
theorem Lo.mono{l:bQ}{m n:Int}(h:Lo l m)(hn:m≤n):Lo l n:=⟨h.1,Int.le_trans h.2 hn⟩
theorem V9{α:Type}{l:List α}{x:α}{n:Nat}(h:l.length≤n)(hn:n≤1000000):be (length l+length [x]):=by
 show length l+length [x]≤4294967296;simp only [length_cons,length_nil];omega
theorem DF{k:Nat}(hk:50≤k){l:bQ}{m:Int}{n:Nat}(hl:Lo l m)(hm:0≤m/\m≤1000)(hn:n≤8):W (iz k l (n:Int)) λr=>Lo r.2 (m+10)/\r.1.length=n/\(∀x∈r.1,0≤x/\x < (n:Int))/\r.1.Nodup:=by
 unfold iz;refine W.bind (R:=λr=>Lo (r.2.1,r.2.2.1,r.2.2.2) (m+10)/\r.1.length=n/\(∀x∈r.1,0≤x/\x < (n:Int))/\r.1.Nodup) ?_ λr h=>W.ret h
 refine W.loop (f:=eD k (n:Int)) (λq y=>∃j:Nat,y.2.2.2.2=(j:Int)/\j≤n/\q=n - j/\Lo (y.1,y.2.1,y.2.2.1) (m+j)/\y.2.2.2.1.length=j/\(∀x∈y.2.2.2.1,0≤x/\x < (j:Int))/\y.2.2.2.1.Nodup) ?_ n k _ (by omega)
  ⟨0,rfl,by omega,by omega,by simpa using hl,rfl,by simp,by simp⟩
 rintro aL q ⟨nums,d,s,o,y⟩ ⟨j,hj,hle,hq,hlo,hlen,hx,hnd⟩ ih;simp only at hj hlo hlen hx hnd;subst hj;unfold eD;dsimp only;refine W.ite (λhlt=>?_) (λhge=>W.ret ⟨hlo.mono (by omega),by show o.length=n;omega,λx hx'=>by have:=hx x hx';omega,hnd⟩);obtain⟨r5,e5,a5,b5,c5⟩:=kx (k:=k) (n:=(j:Int)) hlo (by omega) (by omega);have b5:=b5 (by omega);have ho:(o++[(j:Int)]).length=j+1:=by simp [hlen]
 have hr5:r5.1.toNat < (o++[(j:Int)]).length:=by omega
 have hjl:j < (o++[(j:Int)]).length:=by omega
 have hgj:(o++[(j:Int)])[j]=(j:Int):=by
  rw [List.getElem_append_right (by omega)];simp [hlen]
 rw [e5,bs,dh (V9 (n:=8) (by omega) (by omega)),bs,zq a5 hr5,bs,cj (by omega),bs];have hgs:aH (List.set (o++[(j:Int)]) (Int.toNat (j:Int)) (o++[(j:Int)])[r5.1.toNat]) r5.1=some ((List.set (o++[(j:Int)]) (Int.toNat (j:Int)) (o++[(j:Int)])[r5.1.toNat])[r5.1.toNat]'(by rw [length_set];exact hr5)):=zq a5 (by rw [length_set];exact hr5);rw [hgs,bs,cy (by omega) (by omega),bs]
 have hp:(List.set (List.set (o++[(j:Int)]) (Int.toNat (j:Int)) (o++[(j:Int)])[r5.1.toNat]) (Int.toNat r5.1) (j:Int)).Perm (o++[(j:Int)]):=by
  have:= @set_set_perm Int (o++[(j:Int)]) j r5.1.toNat hjl hr5;rw [hgj] at this;exact this
 refine ih (q - 1) (_,_,_,_,(j:Int)+1) (by omega) ⟨j+1,by show(j:Int)+1=((j+1:Nat):Int);omega,by omega,by omega,c5.mono (by omega),by simp [hlen],λx hx'=>?_,hp.nodup_iff.2 ?_⟩
 .rcases List.mem_append.1 (hp.mem_iff.1 hx') with h |h
  .have:=hx x h;omega
  .rw [List.mem_singleton] at h;omega
 .rw [nodup_append];exact⟨hnd,by simp,λa ha b hb=>by rw [List.mem_singleton] at hb;subst hb;have:=hx a ha;omega⟩
theorem Jo{out:List (List Int)}{i:Nat}{x:Int}(h:i < out.length):(out.set i (out[i]++[x])).flatten.Perm (out.flatten++[x]):=by
 have e1:out=out.take i++out[i]::out.drop (i+1):=by rw [<-drop_eq_getElem_cons h,take_append_drop]
 have e2:out.set i (out[i]++[x])=out.take i++(out[i]++[x])::out.drop (i+1):=set_eq_take_append_cons_drop.trans (if_pos h);rw [e2]
 have e3:out.flatten=(out.take i).flatten++(out[i]++(out.drop (i+1)).flatten):=by
  conv=>lhs;rw [e1]
  rw [List.flatten_append,flatten_cons]
 rw [e3,List.flatten_append,flatten_cons]
 have:((out.take i).flatten++((out[i]++[x])++(out.drop (i+1)).flatten)).Perm ((out.take i).flatten++(out[i]++((out.drop (i+1)).flatten++[x]))):=by
  refine List.Perm.append_left _ ?_;rw [List.append_assoc];exact List.Perm.append_left _ (perm_append_comm)
 refine this.trans ?_;simp
structure Rl(C:Int)(r:List (List Int)):Prop where
 r3:r.length≤3
 x5:∀l∈r,∀x∈l,0≤x/\x < C
 nd:r.flatten.Nodup
theorem Rl.l5{C:Int}(hC:0≤C/\C≤5){r:List (List Int)}(h:Rl C r):∀l∈r,l.length≤5:=λl hl=>by
 have:=tw C.toNat l (vJ h.nd hl) λx hx=>by have:=h.x5 l hl x hx;omega
 omega
theorem If{k:Nat}(hk:50≤k){l:bQ}{m:Int}{n:Nat}(hl:Lo l m)(hm:0≤m/\m≤900)(hn:n≤5):
 W (kP k l (n:Int)) λr=>Lo r.2 (m+30)/\Rl (n:Int) r.1:=by
 unfold kP
 refine W.bind (ER (l:=(l.1,l.2.1,l.2.2)) hl (by omega) (by omega) (by omega) (by omega)) λr1 h1=>?_
 refine W.chk ⟨by omega,by show _≤_;omega⟩ ?_
 refine W.bind (DF hk (l:=(r1.2.1,r1.2.2.1,r1.2.2.2)) (m:=m+1) (n:=n) h1.2.2 (by omega) (by omega)) λr4 h4=>?_
 obtain⟨lo4,len4,rng4,nd4⟩:=h4
 refine W.bind (R:=λx=>Lo (x.1,x.2.1,x.2.2.1) (m+30)/\Rl (n:Int) x.2.2.2) ?_ λx hx=>W.ret hx
 refine W.loop (f:=fP k r4) (λq y=>∃j:Nat,y.2.2.2.1=(j:Int)/\j≤n/\q=n - j/\Lo (y.1,y.2.1,y.2.2.1) (m+11+2 * j)/\y.2.2.2.2.length=r1.1.toNat/\(∀x∈y.2.2.2.2.flatten,x∈r4.1.take j)/\y.2.2.2.2.flatten.Nodup) ?_ n k _ (by omega)
  ⟨0,rfl,by omega,by omega,lo4.mono (by omega),by simp,by simp,by simp⟩
 rintro aL q ⟨nums,d,s,y,out⟩ ⟨j,hj,hle,hq,hlo,hlen,hx,hnd⟩ ih
 simp only at hj hlo hlen hx hnd
 subst hj
 unfold fP
 dsimp only
 refine W.ite (λhlt=>?_) (λhge=>W.ret ⟨hlo.mono (by omega),by show out.length≤3;omega,λl hl x hxx=>rng4 x (mem_of_mem_take (hx x (List.mem_flatten.2 ⟨l,hl,hxx⟩))),hnd⟩)
 have hj:j < r4.1.length:=by omega
 have hsub:∀x∈r4.1.take j,x∈r4.1.take (j+1):=λx hh=>by rw [take_add_one];exact List.mem_append_left _ hh
 refine W.bind (R:=λx=>Lo (x.1,x.2.1,x.2.2.1) (m+11+2 * j+2)/\x.2.2.2.length=r1.1.toNat/\(∀z∈x.2.2.2.flatten,z∈r4.1.take (j+1))/\x.2.2.2.flatten.Nodup) ?_ λx9 h9=>?_
 .
  refine W.bind (yX (l:=(nums,d,s)) hlo (by omega) (by omega) (by omega)) λr11 h11=>?_;refine W.ite (λ_=>W.ret ⟨h11.mono (by omega),hlen,λz hz=>hsub z (hx z hz),hnd⟩) (λ_=>?_);refine W.ck (by omega) (by omega) ?_;refine W.bind (kx (l:=(r11.2.1,r11.2.2.1,r11.2.2.2)) h11 (by omega) (by omega)) λr13 h13=>?_;have b13:=h13.2.1 (by omega);have hi:r13.1.toNat < out.length:=by omega
  rw [zq h13.1 hi,bs,cj hj,bs]
  have hxj:r4.1[j]∉out.flatten:=λhin=>by
   have:=hx _ hin;obtain⟨i,hi',e⟩:=List.getElem_of_mem this;rw [length_take] at hi';rw [getElem_take] at e;have:=(getElem_inj nd4).1 e;omega
  have hlen2:(out[r13.1.toNat]).length≤5:=by
   have:=tw n _ (vJ hnd (List.getElem_mem hi)) λx hxx=>rng4 x (mem_of_mem_take (hx x (List.mem_flatten.2 ⟨_,List.getElem_mem hi,hxx⟩)));omega
  rw [dh (by simp [be];omega),bs];have hp:=Jo (x:=r4.1[j]) hi;refine W.ret ⟨h13.2.2.mono (by omega),by show(List.set _ _ _).length=_;rw [length_set];exact hlen,λz hz=>?_,hp.nodup_iff.2 ?_⟩
  .rcases List.mem_append.1 (hp.mem_iff.1 hz) with h |h
   .exact hsub z (hx z h)
   .rw [List.mem_singleton.1 h,take_add_one,List.getElem?_eq_getElem hj];exact List.mem_append_right _ (by simp)
  .rw [nodup_append];exact⟨hnd,by simp,λa ha b hb e=>by rw [List.mem_singleton.1 hb] at e;exact hxj (e▸ha)⟩
 .
  refine W.ck (by omega) (by omega) ?_;exact ih (q - 1) (_,_,_,(j:Int)+1,_) (by omega) ⟨j+1,by show(j:Int)+1=((j+1:Nat):Int);omega,by omega,by omega,h9.1.mono (by omega),h9.2⟩
end Go.Proofs.YthnacobbednnbaaGreat
set_option linter.unusedVariables false
set_option linter.unusedSimpArgs false
namespace Go.Proofs.YthnacobbednnbaaGreat
open K Go Go.Proofs
theorem NV{c w s h:Int}{ds:List (List (List Int))}(hc:1≤c/\c≤5)(hw:0≤w/\w≤3)(hs:0≤s/\s≤3)(hh:1≤h/\h≤3)(d1:1≤ds.length)(d6:ds.length≤6)(hr:∀r∈ds,Rl c r):Vd (c,w,s,h,ds,[]):=
 ⟨hc.1,hc.2,hw.1,hw.2,hs.1,hs.2,hh.1,hh.2,d1,d6,λr h=>(hr r h).r3,λr h=>(hr r h).l5 ⟨by omega,hc.2⟩,λr h=>(hr r h).x5,λr h=>(hr r h).nd,by simp [mG],λg hg=>by cases hg⟩
theorem D4{k:Nat}{l:List Int}(h:l.length≤1000000):jQ k l=some l:=by
 unfold jQ;rw [dh (Wa (by simp only [length_nil];omega)),bs];rfl
theorem uy{k:Nat}{l:List (List Int)}(hk:l.length < k)(h1:l.length≤1000000)(h2:∀x∈l,x.length≤1000000):g9 k l=some l:=by
 unfold g9
 have key:=eU (T:=List (List Int)×Int) (f:=dI k l) l (λ(s:List (List Int)) j=>(s,j)) (λs j x=>s++[x]) (λj s=>s=l.take j) (λs=>some s)
  (λn s j hj hs=>by
   have hck:ck ((j:Int)+1)=some ((j:Int)+1):=cy (by omega) (by omega);have hl:s.length=j:=by rw [hs,length_take];omega
   have hok:bR (be (length s+length [l[j]]))=some ():=dh (by simp [be];omega);refine⟨?_,?_⟩
   .simp only [dI,Int.ofNat_lt,hj,if_true,cj hj,bs,D4 (h2 _ (List.getElem_mem hj)),hok,hck]
   .rw [hs,take_add_one,List.getElem?_eq_getElem hj];rfl)
  (λn s hs=>by
   unfold dI;rw [if_neg (Int.lt_irrefl _)]) (n:=k) (s0:=[]) hk (by simp)
 rw [show dI k l k ([],0)=_ from key.1,bs,key.2,take_length]
theorem DD{k:Nat}(hk:50≤k){l:bQ}{m:Int}{cs ds:Int}(hl:Lo l m)(hm:0≤m/\m≤400)(hc:1≤cs/\cs≤5)(hd:1≤ds/\ds≤6):
 W (kQ k l cs ds) λr=>Lo r.2 (m+250)/\Vd r.1/\mG r.1=[]/\mC r.1≤cs/\((mD r.1).length:Int)≤ds:=by
 unfold kQ
 refine W.bind (ER (l:=(l.1,l.2.1,l.2.2)) hl (by omega) (by omega) (by omega) (by omega)) λr2 h2=>?_
 refine W.bind (kx (l:=(r2.2.1,r2.2.2.1,r2.2.2.2)) h2.2.2 (by omega) (by omega)) λr3 h3=>?_
 have b3:=h3.2.1 (by omega)
 refine W.bind (It (l:=(r3.2.1,r3.2.2.1,r3.2.2.2)) h3.2.2 (by omega) (by simp) (by simp)) λr4 h4=>?_
 refine W.bind (kx (l:=(r4.2.1,r4.2.2.1,r4.2.2.2)) h4.2 (by omega) (by omega)) λr5 h5=>?_
 have b5:=h5.2.1 (by omega)
 refine W.bind (It (l:=(r5.2.1,r5.2.2.1,r5.2.2.2)) h5.2.2 (by omega) (by simp) (by simp)) λr6 h6=>?_
 refine W.bind (ER (l:=(r6.2.1,r6.2.2.1,r6.2.2.2)) h6.2 (by omega) (by omega) (by omega) (by omega)) λr7 h7=>?_
 refine W.bind (It (l:=(r7.2.1,r7.2.2.1,r7.2.2.2)) h7.2.2 (by omega) (by simp) (by simp)) λr8 h8=>?_
 have w4:0≤r4.1/\r4.1≤3:=by
  have:=h4.1;simp only [mem_cons,not_mem_nil,or_false] at this;omega
 have w6:0≤r6.1/\r6.1≤3:=by
  have:=h6.1;simp only [mem_cons,not_mem_nil,or_false] at this;omega
 have w8:1≤r8.1/\r8.1≤3:=by
  have:=h8.1;simp only [mem_cons,not_mem_nil,or_false] at this;omega
 have lo8:=h8.2
 refine W.bind (R:=λx=>Lo (x.2.1,x.2.2.1,x.2.2.2) (m+250)/\(1≤x.1.length/\(x.1.length:Int)≤ds)/\∀r∈x.1,Rl r2.1 r) ?_ λx hx=>W.ret ⟨hx.1,NV (by omega) w4 w6 w8 (by omega) (by omega) hx.2.2,rfl,h2.2.1,hx.2.1.2⟩
 refine W.bind (ER (l:=(r8.2.1,r8.2.2.1,r8.2.2.2)) lo8 (by omega) (by omega) (by omega) (by omega)) λr12 h12=>?_
 refine W.loop (f:=fQ k r2) (λq y=>∃j:Nat,y.2.2.2.1.length=j/\y.2.2.2.2=r12.1 - j/\(j:Int)≤r12.1/\q=r12.1.toNat - j/\Lo (y.1,y.2.1,y.2.2.1) (m+10+33 * j)/\∀r∈y.2.2.2.1,Rl r2.1 r) ?_ r12.1.toNat k _ (by omega)
  ⟨0,rfl,by simp,by omega,by omega,h12.2.2.mono (by omega),by simp⟩
 rintro aL q ⟨nums,d,s,out,y⟩ ⟨j,hj,hy,hle,hq,hlo,hr⟩ ih
 simp only at hj hy hlo hr
 subst hy
 unfold fQ
 dsimp only
 refine W.ite (λhlt=>?_) (λhge=>W.ret ⟨hlo.mono (by omega),⟨by show 1≤out.length;omega,by show(out.length:Int)≤ds;omega⟩,hr⟩)
 refine W.bind (R:=λx=>Lo (x.1,x.2.1,x.2.2.1) (m+10+33 * j+33)/\x.2.2.2.length=j+1/\∀r∈x.2.2.2,Rl r2.1 r) ?_ λx15 h15=>?_
 .
  refine W.bind (R:=λx=>Lo (x.1,x.2.1,x.2.2.1) (m+10+33 * j+1)/\(x.2.2.2=true->0 < out.length)) ?_ λx17 h17=>?_
  .refine W.ite (λh0=>?_) (λh0=>W.ret ⟨hlo.mono (by omega),λh=>by cases h⟩);exact W.bind (yX (l:=(nums,d,s)) hlo (by omega) (by omega) (by omega)) λr19 h19=>W.ret ⟨h19,λ_=>by omega⟩
  .refine W.ite (λht=>?_) (λht=>?_)
   .have h0:=h17.2 ht;refine W.ck (by omega) (by omega) ?_;have hi:((out.length:Int) - 1)=((out.length - 1:Nat):Int):=by omega
    have hlt':out.length - 1 < out.length:=by omega
    rw [hi,cj hlt',bs];have hrl:=hr _ (List.getElem_mem hlt');have hl5:=hrl.l5 (by omega);have hr3:=hrl.r3;rw [uy (by omega) (by omega) (λx hx=>by have:=hl5 x hx;omega),bs,dh (by simp [be];omega),bs];refine W.ret ⟨h17.1.mono (by omega),by simp [hj],λr hrr=>?_⟩;rcases List.mem_append.1 hrr with h |h
    .exact hr r h
    .rw [List.mem_singleton.1 h];exact hrl
   .have hc2:((r2.1.toNat:Nat):Int)=r2.1:=by omega
    have:=If hk (l:=(x17.1,x17.2.1,x17.2.2.1)) (m:=m+10+33 * j+1) (n:=r2.1.toNat) h17.1 (by omega) (by omega);rw [hc2] at this;refine W.bind this λr26 h26=>?_;rw [dh (by simp [be];omega),bs];refine W.ret ⟨h26.1.mono (by omega),by simp [hj],λr hrr=>?_⟩;rcases List.mem_append.1 hrr with h |h
    .exact hr r h
    .rw [List.mem_singleton.1 h];exact h26.2
 .
  refine W.ck (by omega) (by omega) ?_;exact ih (q - 1) (_,_,_,_,_) (by omega) ⟨j+1,h15.2.1,by show r12.1 - j - 1=r12.1 - ((j+1:Nat):Int);omega,by omega,by omega,h15.1.mono (by omega),h15.2.2⟩
theorem Bg.len{C:Int}(hC:0≤C/\C≤5){b:List Int}(h:Bg C b):b.length≤5:=by
 have:=tw C.toNat b (h.asc.imp λhab e=>by omega) λx hx=>by have:=h.rng x hx;omega
 omega
theorem wv{α ε:Type}:∀(l:List α) (j:Nat),dW (λ(_:Unit) _ _=>(.ok ():Except ε Unit)) j l ()= .ok ()
 |[],_=>rfl
 |_::l,j=>wv l (j+1)
end Go.Proofs.YthnacobbednnbaaGreat
set_option linter.unusedVariables false
set_option linter.unusedSimpArgs false
namespace Go.Proofs.YthnacobbednnbaaGreat
open K Go Go.Proofs
theorem Db{k:Nat}{c:Int}{l:List Int}(hk:l.length < k)(hl:l.length≤1000):
 d5 k c l k 0=some (match s5 l c with |some s=>.error (s,true) |none=>.ok ()):=by
 have key:=iY (T:=Int) (f:=d5 k c l) l (λ(_:Unit) j=>j) (λ_ j x=>if decide (c=x)=true then Except.error (((if 0 < j then [l[j-1]?.getD 0] else [])++(l[j+1]?).toList:List Int),true) else .ok ()) (λ_ _=>True) (λx=>some x)
  (λn s j hj _=>by
   refine⟨?_,λ_ _=>trivial⟩;have hck:ck ((j:Int)+1)=some ((j:Int)+1):=cy (by omega) (by omega);have c1:ck ((j:Int) - 1)=some ((j:Int) - 1):=cy (by omega) (by omega);simp only [d5,Int.ofNat_lt,hj,if_true,cj hj,bs,decide_eq_true_eq];by_cases e:l[j]=c
   .rw [if_neg (λhn=>hn e),if_pos e.symm]
    have e1:(if(0:Int) < (j:Int) then((ck ((j:Int) - 1)).bind λx17=>(aH l x17).bind λx18=>(bR (be (length ([]:List Int)+length [x18]))).bind λ_=>some (([]:List Int)++[x18])) else some ([]:List Int))=some (if 0 < j then [l[j-1]?.getD 0] else []):=by
     by_cases h0:0 < j
     .have g:aH l ((j:Int) - 1)=some (l[j-1]?.getD 0):=by
       have:((j:Int) - 1)=((j - 1:Nat):Int):=by omega
       rw [this,cj (by omega),List.getElem?_eq_getElem (by omega:j - 1 < l.length)];rfl
      rw [if_pos (by omega),if_pos h0,c1,bs,g,bs,dh (by simp [be]),bs];rfl
     .rw [if_neg (by omega),if_neg h0]
    rw [e1,bs];have hp:(if 0 < j then [l[j-1]?.getD 0] else []).length≤1:=by split <;> simp
    generalize (if 0 < j then [l[j-1]?.getD 0] else [])=p at *
    have e2:((ck ((j:Int)+1)).bind λx23=>if x23 < (l.length:Int) then((ck ((j:Int)+1)).bind λx24=>(aH l x24).bind λx25=>(bR (be (length p+length [x25]))).bind λ_=>some (p++[x25])) else some p)=some (p++(l[j+1]?).toList):=by
     rw [hck,bs];by_cases h1:j+1 < l.length
     .have g:aH l ((j:Int)+1)=some l[j+1]:=by
       have:((j:Int)+1)=((j+1:Nat):Int):=by omega
       rw [this,cj h1]
      rw [if_pos (by omega),bs,g,bs,List.getElem?_eq_getElem h1,dh (by simp [be];omega),bs];rfl
     .rw [if_neg (by omega),List.getElem?_eq_none (by omega)];simp
    rw [e2,bs]
   .rw [if_pos e,if_neg (λhn=>e hn.symm),hck,bs])
  (λn s _=>by simp [d5]) (n:=k) (s0:=()) hk trivial
 rw [show d5 k c l k 0=_ from key]
 refine congrArg some ?_
 have:∀(m:List Int) (j:Nat),(∃p,l=p++m/\p.length=j)->dW (λ(_:Unit) j x=>if decide (c=x)=true then Except.error (((if 0 < j then [l[j-1]?.getD 0] else [])++(l[j+1]?).toList:List Int),true) else .ok ()) j m ()=match m.findIdx? λy=>decide (c=y) with |some i=>.error (((if 0 < i+j then [l[i+j-1]?.getD 0] else [])++(l[i+j+1]?).toList:List Int),true) |none=>.ok ():=by
  intro m
  induction m with
  |nil=>intro j _;simp [dW]
  |cons x m ih=>
   rintro j ⟨p,hp,hl⟩;rw [dW,findIdx?_cons];by_cases h:decide (c=x)=true
   .simp [h]
   .simp only [h,if_false,Bool.false_eq_true];rw [ih (j+1) ⟨p++[x],by rw [hp];simp,by simp [hl]⟩];cases m.findIdx? λy=>decide (c=y) with
    |none=>rfl
    |some i=>
     simp only [Option.map_some];rw [show i+(j+1)=i+1+j by omega]
 rw [this l 0 ⟨[],rfl,rfl⟩]
 unfold s5
 cases l.findIdx? λy=>decide (c=y) with
 |none=>rfl
 |some i=>rfl
theorem yW{k:Nat}{m:ab}{c:Int}{d:Nat}(v:Vd m)(hk:10≤k)(hd:d < (mD m).length):
 jX k m (d:Int) c=some (match yt m d c with |some s=>(s,true) |none=>([],false)):=by
 have hm:=List.getElem_mem hd
 have hr:=v.r3 _ hm
 have hl:=v.l5 _ hm
 have hbes:yt m d c=uO (mD m)[d] c:=by unfold yt;rw [List.getElem?_eq_getElem hd];rfl
 have hg:aH m.2.2.2.2.1 (d:Int)=some (mD m)[d]:=cj hd
 generalize (mD m)[d]=r at *
 unfold jX
 have key:=iY (T:=Int) (f:=eM k m (d:Int) c) r (λ(_:Unit) j=>j) (λ_ _ l=>match s5 l c with |some s=>Except.error (s,true) |none=>.ok ()) (λ_ _=>True) (λx=>some x)
  (λn s j hj _=>by
   refine⟨?_,λ_ _=>trivial⟩;have h5:=hl _ (List.getElem_mem hj);have hck:ck ((j:Int)+1)=some ((j:Int)+1):=cy (by omega) (by omega);simp only [eM,hg,bs,Int.ofNat_lt,hj,if_true,cj hj];rw [Db (by omega) (by omega)];cases s5 r[j] c with
   |some s=>simp only [];rw [mF]
   |none=>simp only [];rw [kl,hck,bs])
  (λn s _=>by simp [eM,hg,bs]) (n:=k) (s0:=()) (by omega) trivial
 rw [show eM k m (d:Int) c k 0=_ from key]
 have:∀(r:List (List Int)) (j:Nat),dW (λ(_:Unit) _ l=>match s5 l c with |some s=>Except.error (s,true) |none=>.ok ()) j r ()=match uO r c with |some s=>.error (s,true) |none=>.ok ():=by
  intro r
  induction r with
  |nil=>intro j;rfl
  |cons l r ih=>
   intro j;rw [dW];unfold uO;rw [findSome?_cons];cases s5 l c with
   |none=>exact ih (j+1)
   |some s=>rfl
 rw [this,hbes]
 cases uO r c with
 |some s=>simp only [];rw [mF]
 |none=>simp only [];rw [kl]
theorem Ib{k:Nat}{m:ab}{c:Int}{d:Nat}(v:Vd m)(hk:10≤k)(hd:d < (mD m).length):pu k m (d:Int) c=some (lw m c d:Int):=by
 have d6:=v.d6;unfold pu
 have key:∀(d n:Nat) (x:Int),d < (mD m).length->d+1 < n->0≤x->x+d≤100->fj k m c n (x,(d:Int))=some (.error (x+lw m c d))\/fj k m c n (x,(d:Int))=some (.ok (x+lw m c d)):=by
  intro d
  induction d with
  |zero=>
   intro n x hd hn hx hx2
   obtain⟨n,rfl⟩:∃n',n=n'+2:=⟨n - 2,by omega⟩;have c1:ck (x+1)=some (x+1):=cy (by omega) (by omega);have c2:ck (((0:Nat):Int) - 1)=some (-1):=rfl;rw [fj];simp only [Int.natCast_nonneg,if_true,yW v hk hd,bs];unfold lw;cases e:yt m 0 c with
   |some s=>left;simp
   |none=>
    right;simp only [Bool.false_eq_true,if_false,c1,c2,bs,Option.isSome_none];rw [fj,if_neg (show¬((0:Int)≤ -1) by decide)];rfl
  |succ d ih=>
   intro n x hd hn hx hx2
   obtain⟨n,rfl⟩:∃n',n=n'+1:=⟨n - 1,by omega⟩;have c1:ck (x+1)=some (x+1):=cy (by omega) (by omega);have c2:ck (((d+1:Nat):Int) - 1)=some (d:Int):=by rw [cy (by omega) (by omega),show(((d+1:Nat):Int) - 1)=(d:Int) by omega]
   rw [fj];simp only [Int.natCast_nonneg,if_true,yW v hk hd,bs];unfold lw;cases e:yt m (d+1) c with
   |some s=>left;simp
   |none=>
    simp only [Bool.false_eq_true,if_false,c1,c2,bs,Option.isSome_none];have:=ih n (x+1) (by omega) (by omega) (by omega) (by omega);rw [show x+((lw m c d+1:Nat):Int)=x+1+(lw m c d:Int) by omega];exact this
 rcases key d k 0 hd (by omega) (by omega) (by omega) with h |h
 .rw [h,mF,Int.zero_add]
 .rw [h,kl,Int.zero_add]
theorem AC{k:Nat}{m:ab}{B:Int->Bool}{n:Nat}(v:Vd m){r8:(List Int)×Bool}(hk:r8.1.length < k)(hl:r8.1.length≤1000)(hx:∀x∈r8.1,0≤x/\x < mC m):
 fi k m (oV m B n) r8 k (-1,0)=some (if r8.1.any λx=>decide (mW m≤jW m B n x) then 0 else -1):=by
 have key:=eU (T:=Int×Int) (f:=fi k m (oV m B n) r8) r8.1 (λ(s:Int) j=>(s,j)) (λs _ x=>if decide (mW m≤jW m B n x)=true then 0 else s) (λj s=>s=if(r8.1.take j).any λx=>decide (mW m≤jW m B n x) then 0 else -1) (λs=>some s)
  (λf s j hj hs=>by
   have h5:=hx _ (List.getElem_mem hj);have hck:ck ((j:Int)+1)=some ((j:Int)+1):=cy (by omega) (by omega);refine⟨?_,?_⟩
   .simp only [fi,Int.ofNat_lt,hj,if_true,cj hj,bs,sq h5.1 h5.2,hck,decide_eq_true_eq];by_cases e:mW m≤jW m B n r8.1[j]
    .have e':m.2.1≤jW m B n r8.1[j]:=e;simp only [e,e',if_true,bs]
    .have e':¬m.2.1≤jW m B n r8.1[j]:=e;simp only [e,e',if_false,bs]
   .rw [take_add_one,List.getElem?_eq_getElem hj,List.any_append,hs];by_cases e:decide (mW m≤jW m B n r8.1[j])=true
    .simp [e]
    .simp [e])
  (λf s hs=>by
   unfold fi;rw [if_neg (Int.lt_irrefl _)]) (n:=k) (s0:= -1) hk (by simp)
 rw [show fi k m (oV m B n) r8 k (-1,0)=_ from key.1,key.2,take_length]
theorem H7{k:Nat}{m:ab}{B:Int->Bool}{d:Nat}(v:Vd m)(hk:10≤k)(hd:d < (mD m).length):pr k m (d:Int) (oV m B d)=some (oV m B (d+1)):=by
 have c1:=v.c1;have c5:=v.c5;have d6:=v.d6;unfold pr
 have key:=eU (T:=List Int×Int) (f:=fY k m (d:Int) (oV m B d)) (List.range (mC m).toNat) (λ(s:List Int) j=>(s,j)) (λs j _=>s++[jW m B (d+1) (j:Int)]) (λj s=>s=(List.range j).map λ(c:Nat)=>jW m B (d+1) (c:Int)) (λs=>some s)
  (λn s j hj hs=>by
   rw [length_range] at hj;have hck:ck ((j:Int)+1)=some ((j:Int)+1):=cy (by omega) (by omega);have j0:(0:Int)≤(j:Int):=by omega
   have j1:(j:Int) < mC m:=by omega
   have j2:(j:Int) < m.1:=j1;have hl:s.length=j:=by rw [hs,length_map,length_range]
   have hok:∀x:Int,bR (be (length s+length [x]))=some ():=λx=>dh (by simp [be];omega);have hge:=Eb (B:=B) v.w0 (d:=d) (c:=(j:Int));have hle:=Ea (B:=B) v.w3 (d:=d) (c:=(j:Int));refine⟨?_,?_⟩
   .have hm2:m.2.2.2.1=mH m:=rfl;simp only [fY,j2,if_true,yW v hk hd,bs,hm2]
    have hage:jW m B (d+1) (j:Int)=match yt m d (j:Int) with
     |none=>if mH m≤(lw m (j:Int) d:Int) then -1 else jW m B d (j:Int)
     |some l=>if 0≤jW m B d (j:Int) then jW m B d (j:Int)+1 else if l.any λx=>decide (mW m≤jW m B d x) then 0 else -1:=rfl
    rw [hage];cases e:yt m d (j:Int) with
    |none=>
     simp only [Bool.false_eq_true,not_false_eq_true,if_true,Ib v hk hd,bs,sq j0 j1,hok];by_cases hh:mH m≤(lw m (j:Int) d:Int)
     .simp only [hh,decide_true,if_true,bs,hck]
     .simp only [hh,decide_false,Bool.false_eq_true,if_false,bs,hck]
    |some l=>
     have hb:=wu v e;simp only [not_true_eq_false,if_false,bs,Bool.false_eq_true,sq j0 j1,hok];by_cases h0:0≤jW m B d (j:Int)
     .have c2:ck (jW m B d (j:Int)+1)=some (jW m B d (j:Int)+1):=cy (by omega) (by omega);simp only [h0,if_true,c2,bs,hok,hck]
     .simp only [h0,if_false];rw [AC v (r8:=(l,true)) (by show l.length < k;omega) (by show l.length≤1000;omega) hb.2,bs,bs,hck,bs]
   .rw [hs,List.range_succ,List.map_append];rfl)
  (λn s hs=>by
   rw [length_range];unfold fY;rw [if_neg (by show¬(((mC m).toNat:Int) < mC m);omega)]) (n:=k) (s0:=[]) (by rw [length_range];omega) rfl
 rw [show fY k m (d:Int) (oV m B d) k ([],0)=_ from key.1,bs,key.2,length_range];rfl
theorem Ig{k:Nat}{m:ab}{b:List Int}(v:Vd m)(hk:10≤k)(hb:b.length < k)(hb2:b.length≤1000):pw k m b=some (uw m λc=>decide (c∈b)):=by
 have c1:=v.c1;have c5:=v.c5;have d6:=v.d6;unfold pw
 have key:=eU (T:=List Int×Int) (f:=f5 k m b) (List.range (mC m).toNat) (λ(s:List Int) j=>(s,j)) (λs j _=>s++[jW m (λc=>decide (c∈b)) 0 (j:Int)]) (λj s=>s=(List.range j).map λ(c:Nat)=>jW m (λc=>decide (c∈b)) 0 (c:Int)) (λs=>some s)
  (λn s j hj hs=>by
   rw [length_range] at hj;have hck:ck ((j:Int)+1)=some ((j:Int)+1):=cy (by omega) (by omega);have j2:(j:Int) < m.1:=by show(j:Int) < mC m;omega
   have hl:s.length=j:=by rw [hs,length_map,length_range]
   have hok:∀x:Int,bR (be (length s+length [x]))=some ():=λx=>dh (by simp [be];omega);refine⟨?_,?_⟩
   .simp only [f5,j2,if_true,yS (x:=(j:Int)) hb (by omega),bs,hok,hck];have hage:jW m (λc=>decide (c∈b)) 0 (j:Int)=if decide ((j:Int)∈b) then mW m else -1:=rfl;rw [hage];cases decide ((j:Int)∈b) with
    |true=>simp only [if_true,bs]
    |false=>simp only [Bool.false_eq_true,if_false,bs]
   .rw [hs,List.range_succ,List.map_append];rfl)
  (λn s hs=>by
   rw [length_range];unfold f5;rw [if_neg (by show¬(((mC m).toNat:Int) < mC m);omega)]) (n:=k) (s0:=[]) (by rw [length_range];omega) rfl
 rw [show f5 k m b k ([],0)=_ from key.1,bs,key.2,length_range]
 have key2:=eU (T:=List (List Int)×Int) (f:=fZ k m) (mD m) (λ(s:List (List Int)) j=>(s,j)) (λs j _=>s++[oV m (λc=>decide (c∈b)) (j+1)]) (λj s=>s=(List.range (j+1)).map (oV m λc=>decide (c∈b))) (λs=>some s)
  (λn s j hj hs=>by
   have hck:ck ((j:Int)+1)=some ((j:Int)+1):=cy (by omega) (by omega);have hl:s.length=j+1:=by rw [hs,length_map,length_range]
   have hok:∀x:List Int,bR (be (length s+length [x]))=some ():=λx=>dh (by simp [be];omega);have hj':(j:Int) < (m.2.2.2.2.1.length:Int):=Int.ofNat_lt.2 hj
   have hg:aH s (j:Int)=some (oV m (λc=>decide (c∈b)) j):=by
    rw [hs,aH,if_pos (by omega),List.getElem?_map,Int.toNat_natCast,List.getElem?_range (by omega)];rfl
   refine⟨?_,?_⟩
   .simp only [fZ,hj',if_true,hg,bs,H7 v hk hj,hok,hck]
   .rw [hs,List.range_succ (n:=j+1),List.map_append];rfl)
  (λn s hs=>by
   unfold fZ;rw [if_neg (Int.lt_irrefl _)]) (n:=k) (s0:=[oV m (λc=>decide (c∈b)) 0]) (by omega) rfl
 have e0:((List.range (mC m).toNat).map λ(c:Nat)=>jW m (λc=>decide (c∈b)) 0 (c:Int))=oV m (λc=>decide (c∈b)) 0:=rfl;rw [e0,show fZ k m k ([oV m (λc=>decide (c∈b)) 0],0)=_ from key2.1,bs,key2.2];rfl
