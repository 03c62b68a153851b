import Derived.Test.YthnacobbednnbaaGreatVBF2
open Nat
open List hiding mem_of_getElem?
open Array hiding mem_of_getElem? mk
set_option linter.unusedVariables false
set_option linter.unusedSimpArgs false
namespace Go.Proofs.YthnacobbednnbaaGreat
open K Go Go.Proofs
def W{α:Type}(x:Option α)(Q:α->Prop):Prop:=∃a,x=some a/\Q a
namespace W
variable {α β ε:Type}{Q:β->Prop}
theorem ret{a:β}(h:Q a):W (some a) Q:=⟨a,rfl,h⟩
theorem mono{x:Option β}{R:β->Prop}(h:W x R)(hq:∀a,R a->Q a):W x Q:=let ⟨a,e,r⟩:=h;⟨a,e,hq a r⟩
theorem bind{x:Option α}{f:α->Option β}{R:α->Prop}(h:W x R)(hf:∀a,R a->W (f a) Q):W (x.bind f) Q:=by
 obtain⟨a,rfl,r⟩:=h;exact hf a r
theorem ck{n:Int}{f:Int->Option β}(h1: -9223372036854775808≤n)(h2:n≤9223372036854775807)(hf:W (f n) Q):W ((K.ck n).bind f) Q:=by
 rw [K.ck,if_pos ⟨h1,h2⟩];exact hf
theorem chk{p:Prop}[Decidable p]{f:Unit->Option β}(h:p)(hf:W (f ()) Q):W ((bS p).bind f) Q:=by
 rw [bS,if_pos h];exact hf
theorem at_{l:List α}{i:Int}{f:α->Option β}(h0:0≤i)(h1:i < l.length)(hf:∀x,l[i.toNat]? =some x->W (f x) Q):W ((aG l i).bind f) Q:=by
 have:i.toNat < l.length:=by omega
 rw [aG,if_pos h0,List.getElem?_eq_getElem this];exact hf _ (List.getElem?_eq_getElem this)
theorem ite{p:Prop}[Decidable p]{a b:Option β}(h1:p->W a Q)(h2:¬p->W b Q):W (if p then a else b) Q:=by
 split
 .exact h1 ‹_›
 .exact h2 ‹_›
theorem iteB{p:Prop}[Decidable p]{a b:Option α}{f:α->Option β}(h1:p->W (a.bind f) Q)(h2:¬p->W (b.bind f) Q):W ((if p then a else b).bind f) Q:=by
 split
 .exact h1 ‹_›
 .exact h2 ‹_›
theorem bEE{x:Option (Except ε α)}{g:ε->Option β}{f:α->Option β}{R:Except ε α->Prop}(h:W x R)(hg:∀e,R (.error e)->W (g e) Q)(hf:∀a,R (.ok a)->W (f a) Q):W (K.bE x g f) Q:=by
 obtain⟨a,rfl,r⟩:=h;cases a with
 |error e=>exact hg e r
 |ok a=>exact hf a r
theorem loop{T:Type}{f:Nat->T->Option β}(I:Nat->T->Prop)(step:∀aK m y,I m y->(∀m' y',m' < m->I m' y'->W (f aK y') Q)->W (f (aK+1) y) Q):∀m aK y,m < aK->I m y->W (f aK y) Q:=by
 intro m
 induction m using Nat.strongRecOn with
 |_ m ih=>
  intro aK y hm hI;cases aK with
  |zero=>omega
  |succ aK=>exact step aK m y hI λm' y' h hI'=>ih m' h aK y' (by omega) hI'
end W
theorem wrap_u64(n:Int):0≤IntKind.u64.wrap n/\IntKind.u64.wrap n < 18446744073709551616:=by
 have h1:=Int.emod_nonneg n (show(18446744073709551616:Int)≠0 by decide);have h2:=Int.emod_lt_of_pos n (show(0:Int) < 18446744073709551616 by decide)
 have e:IntKind.u64.wrap n=n % 18446744073709551616:=by
  simp [IntKind.wrap,IntKind.signed,IntKind.bits]
 rw [e];exact⟨h1,h2⟩
theorem zP{n:Int}(h0:0≤n)(h1:n < 18446744073709551616):IntKind.u64.wrap n=n:=by
 have e:IntKind.u64.wrap n=n % 18446744073709551616:=by
  simp [IntKind.wrap,IntKind.signed,IntKind.bits]
 rw [e];exact Int.emod_eq_of_lt h0 h1
def Lo(l:bP)(m:Int):Prop:=0≤l.2.1/\l.2.1≤m
theorem LK{k:Nat}{l:bP}{m:Int}(h:Lo l m)(hm:m≤1000000000):W (iR k l) λr=>0≤r.1/\r.1 < 72057594037927936/\Lo r.2 (m+1):=by
 obtain⟨h0,h1⟩:=h;unfold iR
 have fin:∀x:Int,W ((K.ck (l.2.1+1)).bind λx4=>some (ib .u64 (rm .u64 (IntKind.u64.wrap ((rm .u64 x (ib .u64 x (29:Int))) * (2685821657736338717:Int))) (ib .u64 (IntKind.u64.wrap ((rm .u64 x (ib .u64 x (29:Int))) * (2685821657736338717:Int))) (32:Int))) (8:Int),(l.1,x4,x)))
  λr=>0≤r.1/\r.1 < 72057594037927936/\Lo r.2 (m+1):=λx=>by
  refine W.ck (by omega) (by omega) (W.ret ?_)
  generalize IntKind.u64.wrap ((rm .u64 x (ib .u64 x (29:Int))) * (2685821657736338717:Int))=y
  have hx:0≤rm .u64 y (ib .u64 y 32)/\rm .u64 y (ib .u64 y 32) < 18446744073709551616:=wrap_u64 _
  have e:ib .u64 (rm .u64 y (ib .u64 y 32)) 8=(rm .u64 y (ib .u64 y 32)) / 256:=by
   unfold ib;rw [Int.fdiv_eq_ediv_of_nonneg _ (by decide)];rfl
  refine⟨?_,?_,?_,?_⟩
  .
   show 0≤ib .u64 (rm .u64 y (ib .u64 y 32)) 8;rw [e];omega
  .
   show ib .u64 (rm .u64 y (ib .u64 y 32)) 8 < _;rw [e];omega
  .
   show 0≤l.2.1+1;omega
  .
   show l.2.1+1≤m+1;omega
 refine W.iteB (λhlt=>?_) (λ_=>fin _);cases hg:aG l.1 l.2.1 with
 |some v=>exact fin _
 |none=>
  exfalso;have:l.2.1.toNat < l.1.length:=by omega
  rw [aG,if_pos h0,List.getElem?_eq_getElem this] at hg;cases hg
theorem jy{k:Nat}{l:bP}{m n:Int}(h:Lo l m)(hm:m≤1000000000)(hn:n≤1000000000):W (cg k l n) λr=>0≤r.1/\(0≤n->r.1≤n)/\Lo r.2 (m+1):=by
 unfold cg;refine W.ite (λh1=>W.ret ⟨Int.le_refl 0,λh=>h,h.1,by show l.2.1≤m+1;have:=h.2;omega⟩) (λh1=>?_);refine W.bind (LK h hm) λr hr=>?_;refine W.ck (by omega) (by omega) ?_;have e:IntKind.u64.wrap (n+1)=n+1:=zP (by omega) (by omega);refine W.chk (by rw [e];omega) ?_;rw [e];have h2:Int.tmod r.1 (n+1)=r.1 % (n+1):=Int.tmod_eq_emod_of_nonneg hr.1;have h3:=Int.emod_nonneg r.1 (show n+1≠0 by omega);have h4:=Int.emod_lt_of_pos r.1 (show 0 < n+1 by omega);rw [h2];refine W.ck (by omega) (by omega) (W.ret ⟨h3,λ_=>by show r.1 % (n+1)≤n;omega,hr.2.2⟩)
theorem EE{k:Nat}{l:bP}{m a b:Int}(h:Lo l m)(hm:m≤1000000000)(ha:0≤a)(hab:a≤b)(hb:b≤1000000):W (f8 k l a b) λr=>a≤r.1/\r.1≤b/\Lo r.2 (m+1):=by
 unfold f8;refine W.ck (by omega) (by omega) (W.bind (jy h hm (by omega)) λr hr=>?_);have:=hr.2.1 (by omega);refine W.ck (by omega) (by omega) (W.ret ⟨by show a≤a+r.1;omega,by show a+r.1≤b;omega,hr.2.2⟩)
theorem yF{k:Nat}{l:bP}{m a:Int}(h:Lo l m)(hm:m≤1000000000)(ha:0≤a)(hb:a≤1000000):W (fF k l a) λr=>Lo r.2 (m+1):=by
 unfold fF;exact W.ck (by omega) (by omega) (W.bind (jy h hm (by omega)) λr hr=>W.ret hr.2.2)
theorem Ij{k:Nat}{l:bP}{m:Int}{some_:List Int}(h:Lo l m)(hm:m≤1000000000)(h0:0 < some_.length)(h1:some_.length≤1000000):W (ix k l some_) λr=>r.1∈some_/\Lo r.2 (m+1):=by
 unfold ix;refine W.ck (by omega) (by omega) (W.bind (jy h hm (by omega)) λr hr=>?_);have:=hr.2.1 (by omega);refine W.at_ hr.1 (by omega) λx hx=>W.ret ⟨List.mem_of_getElem? hx,hr.2.2⟩
theorem cu{α:Type}{l:List α}{i:Nat}(h:i < l.length):aG l (i:Int)=some l[i]:=by
 rw [aG,if_pos (by omega)];exact List.getElem?_eq_getElem h
section
variable {α β γ ε σ T:Type}
theorem bs{a:α}{f:α->Option β}:(some a).bind f=f a:=by cases h:f a <;> simp [h]
theorem bY{n:Int}(h1: -9223372036854775808≤n)(h2:n≤9223372036854775807):K.ck n=some n:=by rw [K.ck,if_pos ⟨h1,h2⟩]
theorem dh{p:Prop}[Decidable p](h:p):bS p=some ():=by rw [bS,if_pos h]
theorem yX{l:List α}{i:Int}(h0:0≤i)(h:i.toNat < l.length):aG l i=some l[i.toNat]:=by rw [aG,if_pos h0];exact List.getElem?_eq_getElem h
theorem I6{l:List α}{i:Int}{x:α}(h0:0≤i)(h:l[i.toNat]? =some x):aG l i=some x:=by rw [aG,if_pos h0];exact h
theorem kh{a:α}{g:ε->Option β}{f:α->Option β}:K.bE (some (.ok a)) g f=f a:=by cases h:f a <;> simp [K.bE,h]
theorem mr{e:ε}{g:ε->Option β}{f:α->Option β}:K.bE (some (.error e)) g f=g e:=by cases h:g e <;> simp [K.bE,h]
theorem zl{q:α}{a:β}{b:α->β}:gY (some q) a b=b q:=by unfold gY;exact Eq.refl _
theorem sB{a:β}{b:α->β}:gY none a b=a:=by unfold gY;exact Eq.refl _
theorem V0{n:Nat}(h:n≤4294967296):bi n:=h
def fQ(g:σ->Nat->α->σ):Nat->List α->σ->σ
 |_,[],s=>s
 |j,x::l,s=>fQ g (j+1) l (g s j x)
theorem eN(l:List α)(mk:σ->Int->T)(g:σ->Nat->α->σ)(P:Nat->σ->Prop){f:Nat->T->Option β}(fin:σ->Option β)
 (step:∀n s (j:Nat) (h:j < l.length),P j s->f (n+1) (mk s j)=f n (mk (g s j l[j]) ((j:Int)+1))/\P (j+1) (g s j l[j]))
 (stop:∀n s,P l.length s->f (n+1) (mk s l.length)=fin s) {s0:σ} {n:Nat} (hn:l.length < n) (h0:P 0 s0):f n (mk s0 0)=fin (fQ g 0 l s0)/\P l.length (fQ g 0 l s0):=by
 have key:∀(m:List α) (pre:List α) (n:Nat) (s:σ),l=pre++m->m.length < n->P pre.length s->f n (mk s pre.length)=fin (fQ g pre.length m s)/\P l.length (fQ g pre.length m s):=by
  intro m
  induction m with
  |nil=>
   intro pre n s e hn hp;obtain⟨n,rfl⟩:∃n',n=n'+1:=⟨n - 1,by omega⟩;have:l.length=pre.length:=by rw [e];simp
   rw [<-this] at hp⊢;exact⟨stop n s hp,hp⟩
  |cons x m ih=>
   intro pre n s e hn hp;simp only [length_cons] at hn;obtain⟨n,rfl⟩:∃n',n=n'+1:=⟨n - 1,by omega⟩;have hl:pre.length < l.length:=by rw [e];simp
   have hx:l[pre.length]=x:=by simp [e]
   obtain⟨h1,h2⟩:=step n s pre.length hl hp;rw [hx] at h1 h2;have:=ih (pre++[x]) n (g s pre.length x) (by rw [e];simp) (by omega) (by rw [length_append];exact h2);rw [length_append] at this;simp only [length_cons,length_nil,Nat.zero_add] at this;rw [h1];exact this
 have:=key l [] n s0 rfl hn h0
 exact this
def dR(g:σ->Nat->α->Except ε σ):Nat->List α->σ->Except ε σ
 |_,[],s=>.ok s
 |j,x::l,s=>match g s j x with
  | .error e=>.error e
  | .ok s'=>dR g (j+1) l s'
theorem xO(l:List α)(mk:σ->Int->T)(g:σ->Nat->α->Except ε σ)(P:Nat->σ->Prop){f:Nat->T->Option β}(fin:Except ε σ->Option β)
 (step:∀n s (j:Nat) (h:j < l.length),P j s->(∃e,g s j l[j]= .error e/\f (n+1) (mk s j)=fin (.error e))\/(∃s',g s j l[j]= .ok s'/\f (n+1) (mk s j)=f n (mk s' ((j:Int)+1))/\P (j+1) s'))
 (stop:∀n s,P l.length s->f (n+1) (mk s l.length)=fin (.ok s)) {s0:σ} {n:Nat} (hn:l.length < n) (h0:P 0 s0):f n (mk s0 0)=fin (dR g 0 l s0):=by
 have key:∀(m:List α) (pre:List α) (n:Nat) (s:σ),l=pre++m->m.length < n->P pre.length s->f n (mk s pre.length)=fin (dR g pre.length m s):=by
  intro m
  induction m with
  |nil=>
   intro pre n s e hn hp;obtain⟨n,rfl⟩:∃n',n=n'+1:=⟨n - 1,by omega⟩;have:l.length=pre.length:=by rw [e];simp
   rw [<-this] at hp⊢;exact stop n s hp
  |cons x m ih=>
   intro pre n s e hn hp;simp only [length_cons] at hn;obtain⟨n,rfl⟩:∃n',n=n'+1:=⟨n - 1,by omega⟩;have hl:pre.length < l.length:=by rw [e];simp
   have hx:l[pre.length]=x:=by simp [e]
   rcases step n s pre.length hl hp with⟨e',h1,h2⟩ |⟨s',h1,h2,h3⟩
   .rw [hx] at h1;rw [h2,dR,h1]
   .rw [hx] at h1;have:=ih (pre++[x]) n s' (by rw [e];simp) (by omega) (by rw [length_append];exact h3);rw [length_append] at this;simp only [length_cons,length_nil,Nat.zero_add] at this;rw [h2,dR,h1];exact this
 exact key l [] n s0 rfl hn h0
end
section
variable {α β ε σ T:Type}
theorem jr(l:List α)(mk:σ->Int->T)(g:σ->Nat->α->Except ε σ)(P:Nat->σ->Prop){f:Nat->T->Option β}(fin:Except ε σ->Option β)
 (step:∀n s (j:Nat) (h:j < l.length),P j s->(f (n+1) (mk s j)=match g s j l[j] with | .error e=>fin (.error e) | .ok s'=>f n (mk s' ((j:Int)+1)))/\∀s',g s j l[j]= .ok s'->P (j+1) s')
 (stop:∀n s,P l.length s->f (n+1) (mk s l.length)=fin (.ok s)) {s0:σ} {n:Nat} (hn:l.length < n) (h0:P 0 s0):f n (mk s0 0)=fin (dR g 0 l s0):=
 xO l mk g P fin (λn s j h hp=>by
  obtain⟨h1,h2⟩:=step n s j h hp
  cases e:g s j l[j] with
  |error e'=>left;rw [e] at h1;exact⟨e',rfl,h1⟩
  |ok s'=>right;rw [e] at h1;exact⟨s',rfl,h1,h2 s' e⟩) stop hn h0
end
theorem vH{α:Type}(p:α->Bool):∀(l:List α) (j:Nat),dR (λ(_:Unit) j x=>if p x then Except.error (j:Int) else .ok ()) j l ()=match l.findIdx? p with |some i=>.error ((i+j:Nat):Int) |none=>.ok ()
 |[],j=>by simp [dR]
 |x::l,j=>by
  rw [dR,findIdx?_cons]
  by_cases h:p x=true
  .
   simp [h]
  .
   simp only [h,if_false,Bool.false_eq_true]
   rw [vH p l (j+1)]
   cases l.findIdx? p with
   |none=>rfl
   |some i=>simp only [Option.map_some];congr 2;omega
theorem Ak{k:Nat}{a b:List Int}(h:a.length < k)(hk:a.length≤1000000):gr k a b=some (decide (a=b)):=by
 unfold gr;by_cases hl:a.length=b.length
 .rw [if_neg (by simp [hl])]
  have key:=xO (f:=dO k a b) a (λ(_:Unit) j=>j) (λ_ j x=>if x=b[j]?.getD 0 then .ok () else Except.error false) (λ_ _=>True) (λr=>some r)
   (λn s j hj _=>by
    have hjb:j < b.length:=by omega
    have hb:b[j]?.getD 0=b[j]:=by simp [List.getElem?_eq_getElem hjb]
    have hck:ck ((j:Int)+1)=some ((j:Int)+1):=bY (by omega) (by omega);rw [hb];simp only [dO,Int.ofNat_lt,hj,if_true,cu hj,cu hjb,bs];by_cases e:a[j]=b[j] <;> simp [e,hck])
   (λn s _=>by simp [dO]) (n:=k) (s0:=()) h trivial
  rw [show dO k a b k 0=_ from key]
  have:∀(a:List Int) (j:Nat),a.length+j=b.length->dR (λ(_:Unit) j x=>if x=b[j]?.getD 0 then .ok () else Except.error false) j a ()=if a=b.drop j then .ok () else .error false:=by
   intro a
   induction a with
   |nil=>
    intro j hj;have:b.drop j=[]:=drop_eq_nil_of_le (by simp only [length_nil] at hj;omega);rw [this];simp [dR]
   |cons x a ih=>
    intro j hj;simp only [length_cons] at hj;have hjb:j < b.length:=by omega
    have hd:b.drop j=b[j]::b.drop (j+1):=drop_eq_getElem_cons hjb;have hb:b[j]?.getD 0=b[j]:=by simp [List.getElem?_eq_getElem hjb]
    rw [dR,hb,hd];by_cases e:x=b[j]
    .have h2:(x::a=b[j]::b.drop (j+1))=(a=b.drop (j+1)):=propext ⟨λh=>(List.cons.inj h).2,λh=>by rw [h,e]⟩;rw [if_pos e];simp only [h2];exact ih (j+1) (by omega)
    .have h2:¬(x::a=b[j]::b.drop (j+1)):=λh=>e (List.cons.inj h).1;rw [if_neg e];simp only [h2,if_false]
  rw [this a 0 (by omega),drop_zero];by_cases e:a=b
  .rw [if_pos e,kh,decide_eq_true e]
  .rw [if_neg e,mr,decide_eq_false e]
 .rw [if_pos (by omega),decide_eq_false (λe=>hl (by rw [e]))]
def km(s:Int):Prop:=0≤s/\s < 256
def eg(s:Int)(i:Nat):Prop:=s.toNat.testBit i=true
instance (s:Int) (i:Nat):Decidable (eg s i):=by unfold eg;infer_instance
theorem ux{x:Nat}(h:x < 256):IntKind.u8.wrap (x:Int)=x:=by
 have e:IntKind.u8.wrap (x:Int)=(x:Int) % 256:=by simp [IntKind.wrap,IntKind.signed,IntKind.bits]
 rw [e];omega
theorem vv{s:Int}(h:km s):∃n:Nat,n < 256/\s=n:=⟨s.toNat,by have:=h.1;have:=h.2;omega,by have:=h.1;omega⟩
theorem C5{n:Nat}(h:n < 256):(BitVec.ofInt IntKind.u8.bits (n:Int)).toNat=n:=by
 show(BitVec.ofInt 8 (n:Int)).toNat=n;rw [BitVec.ofInt_natCast,BitVec.toNat_ofNat];exact mod_eq_of_lt h
theorem IX{n m:Nat}(hn:n < 256)(hm:m < 256):n |||m < 256:=or_lt_two_pow (n:=8) hn hm
theorem LX{n m:Nat}(hn:n < 256):n &&& m < 256:=Nat.lt_of_le_of_lt and_le_left hn
theorem PX{a b:Int}(ha:km a)(hb:km b):km (ED .u8 a b)/\∀i,eg (ED .u8 a b) i↔eg a i\/eg b i:=by
 obtain⟨n,hn,rfl⟩:=vv ha;obtain⟨m,hm,rfl⟩:=vv hb
 have e:ED .u8 (n:Int) (m:Int)=((n |||m:Nat):Int):=by
  unfold ED;rw [BitVec.toNat_or,C5 hn,C5 hm];exact ux (IX hn hm)
 rw [e];refine⟨⟨by omega,by have:=IX hn hm;omega⟩,λi=>?_⟩;simp [eg,testBit_or]
theorem PE{x:Int}(h0:0≤x)(h8:x < 8):km (pz .u8 1 x)/\∀i:Nat,eg (pz .u8 1 x) i↔(i:Int)=x:=by
 obtain⟨n,rfl⟩:=Int.eq_ofNat_of_zero_le h0;have hn:n < 8:=by omega
 have e:pz .u8 1 (n:Int)=((2 ^ n:Nat):Int):=by
  unfold pz
  have h1:min (Int.toNat (n:Int)) IntKind.u8.bits=n:=by
   show min n 8=n;omega
  rw [h1,Int.one_mul];have h2:2 ^ n < 256:=Nat.pow_lt_pow_right (by decide) hn;have h3:((2:Int) ^ n)=((2 ^ n:Nat):Int):=by simp
  rw [h3];exact ux h2
 rw [e];have h9:2 ^ n < 256:=Nat.pow_lt_pow_right (by decide) hn;refine⟨⟨Int.natCast_nonneg _,Int.ofNat_lt.2 h9⟩,λi=>?_⟩;simp only [eg,Int.toNat_natCast,testBit_two_pow,decide_eq_true_eq];omega
theorem Dv{k:Nat}{s:Int}(hs:km s){i:Nat}(hi:i < 8):fj k s (i:Int)=some (decide (eg s i)):=by
 obtain⟨n,hn,rfl⟩:=vv hs;unfold fj;rw [bS,if_pos (by omega)];show some _=some _;congr 1
 have e1:ib .u8 (n:Int) (i:Int)=((n >>> i:Nat):Int):=by
  unfold ib
  have h1:min (Int.toNat (i:Int)) IntKind.u8.bits=i:=by
   show min i 8=i;omega
  have h3:((2:Int) ^ i)=((2 ^ i:Nat):Int):=by simp
  rw [h1,h3,Int.fdiv_eq_ediv_of_nonneg _ (Int.natCast_nonneg _),Nat.shiftRight_eq_div_pow];rfl
 have hlt:n >>> i < 256:=Nat.lt_of_le_of_lt (by rw [Nat.shiftRight_eq_div_pow];exact div_le_self _ _) hn
 have e2:rp .u8 ((n >>> i:Nat):Int) 1=(((n >>> i) &&& 1:Nat):Int):=by
  unfold rp;have h1:(BitVec.ofInt IntKind.u8.bits 1).toNat=1:=rfl;rw [BitVec.toNat_and,C5 hlt,h1];exact ux (LX hlt)
 rw [e1,e2]
 have e3:(((n >>> i) &&& 1:Nat):Int)=1↔eg (n:Int) i:=by
  rw [eg,Int.toNat_natCast,testBit];have h5:(n >>> i) &&& 1=1 &&& (n >>> i):=Nat.and_comm _ _;rw [h5];have h4:1 &&& (n >>> i) < 2:=Nat.lt_of_le_of_lt and_le_left (by decide);simp only [bne_iff_ne,ne_eq];omega
 exact decide_eq_decide.2 e3
end Go.Proofs.YthnacobbednnbaaGreat
set_option linter.unusedVariables false
set_option linter.unusedSimpArgs false
namespace Go.Proofs.YthnacobbednnbaaGreat
open K Go Go.Proofs
abbrev mC(m:ab):Int:=m.1
abbrev mW(m:ab):Int:=m.2.1
abbrev mS(m:ab):Int:=m.2.2.1
abbrev mH(m:ab):Int:=m.2.2.2.1
abbrev mD(m:ab):List (List (List Int)):=m.2.2.2.2.1
abbrev mG(m:ab):List aQ:=m.2.2.2.2.2
def sE(l:List Int)(c:Int):Option (List Int):=(l.findIdx? λy=>decide (c=y)).map λi=>(if 0 < i then [l[i-1]?.getD 0] else [])++(l[i+1]?).toList
def uw(d:List (List Int))(c:Int):Option (List Int):=d.findSome? λl=>sE l c
def yc(m:ab)(d:Nat)(c:Int):Option (List Int):=uw ((mD m)[d]?.getD []) c
def lr(m:ab)(c:Int):Nat->Nat
 |0=>if(yc m 0 c).isSome then 0 else 1
 |d+1=>if(yc m (d+1) c).isSome then 0 else lr m c d+1
def ji(m:ab)(B:Int->Bool):Nat->Int->Int
 |0,c=>if B c then mW m else -1
 |d+1,c=>match yc m d c with
  |none=>if mH m≤(lr m c d:Int) then -1 else ji m B d c
  |some l=>if 0≤ji m B d c then ji m B d c+1 else if l.any λx=>decide (mW m≤ji m B d x) then 0 else -1
theorem DX{m:ab}{B:Int->Bool}(hw:0≤mW m):∀{d:Nat} {c:Int}, -1≤ji m B d c
 |0,c=>by unfold ji;split <;> omega
 |d+1,c=>by
  have:=DX (B:=B) hw (d:=d) (c:=c)
  unfold ji
  split
  .
   split <;> omega
  .
   split
   .
    omega
   .
    split <;> omega
theorem DU{m:ab}{B:Int->Bool}(hw:mW m≤3):∀{d:Nat} {c:Int},ji m B d c≤3+d
 |0,c=>by unfold ji;split <;> omega
 |d+1,c=>by
  have:=DU (B:=B) hw (d:=d) (c:=c)
  unfold ji
  split
  .
   split <;> omega
  .
   split
   .
    omega
   .
    split <;> omega
theorem A9{k:Nat}{l:List Int}{x:Int}(hk:l.length < k)(hl:l.length≤1000000):gP k l x=some (match l.findIdx? (λy=>decide (x=y)) with |some i=>(i:Int) |none=> -1):=by
 unfold gP
 have key:=jr (f:=dq k l x) l (λ(_:Unit) j=>j) (λ_ j y=>if decide (x=y)=true then Except.error (j:Int) else .ok ()) (λ_ _=>True) (λr=>some r)
  (λn s j hj _=>by
   have hck:ck ((j:Int)+1)=some ((j:Int)+1):=bY (by omega) (by omega);refine⟨?_,λ_ _=>trivial⟩;simp only [dq,Int.ofNat_lt,hj,if_true,cu hj,bs,decide_eq_true_eq];by_cases e:x=l[j] <;> simp [e,hck])
  (λn s _=>by simp [dq]) (n:=k) (s0:=()) hk trivial
 rw [show dq k l x k 0=_ from key,vH (λy=>decide (x=y)) l 0];cases l.findIdx? (λy=>decide (x=y)) with
 |none=>rw [kh]
 |some i=>rw [mr];simp
def nR:List Int->List Int
 |[a,b]=>if b < a then [b,a] else [a,b]
 |l=>l
theorem rO{l:List Int}{x:Int}:x∈nR l↔x∈l:=by
 unfold nR;split
 .split
  .simp [Or.comm]
  .exact Iff.rfl
 .exact Iff.rfl
theorem K7{k:Nat}{l:List Int}(hk:10≤k)(hl:l.length≤2):gf k l=some (nR l):=by
 obtain⟨k,rfl⟩:∃n,k=n+4:=⟨k - 4,by omega⟩;have e0:ql (k+4) (IntKind.u64.wrap (0:Int))=some 0:=by kernel_rfl
 have e1:ql (k+4) (IntKind.u64.wrap (1:Int))=some 1:=by kernel_rfl
 have e2:ql (k+4) (IntKind.u64.wrap (2:Int))=some 2:=by kernel_rfl
 have c0:ck ((0:Int) - 0)=some 0:=rfl;have c1:ck ((1:Int) - 0)=some 1:=rfl;have c2:ck ((2:Int) - 0)=some 2:=rfl;have d1:ck ((0:Int)+1)=some 1:=rfl;have d2:ck ((1:Int)+1)=some 2:=rfl;have d3:ck ((1:Int) - 1)=some 0:=rfl;match l,hl with
 |[],_=>
  simp only [gf,length_nil,Int.ofNat_zero,e0,bs,c7,cL,bZ,bu,nR,c0,d1];rfl
 |[a],_=>
  have:(([a]:List Int).length:Int)=1:=rfl;simp only [gf,this,e1,bs,c7,cL,bZ,bu,nR,c1,d1];rfl
 |[a,b],_=>
  have:(([a,b]:List Int).length:Int)=2:=rfl;have g0:aG [a,b] (0:Int)=some a:=rfl;have g1:aG [a,b] (1:Int)=some b:=rfl;have hn:∀x:Int,lM (k+4) x=some false:=λx=>by simp [lM]
  have hl:∀x y:Int,pH (k+4) x y=some (decide (x < y)):=λx y=>by simp [pH,hn]
  simp only [gf,this,e2,bs,c7,cL,bZ,bu,bq,c2,d1,d2,d3,g0,g1,hl];by_cases h:b < a
  .simp [h,nR,bq,bs,aG]
  .simp [h,nR,bq,bs]
end Go.Proofs.YthnacobbednnbaaGreat
set_option linter.unusedVariables false
set_option linter.unusedSimpArgs false
namespace Go.Proofs.YthnacobbednnbaaGreat
open K Go Go.Proofs
structure Vd(m:ab):Prop where
 c1:1≤mC m
 c5:mC m≤5
 w0:0≤mW m
 w3:mW m≤3
 s0:0≤mS m
 s3:mS m≤3
 h1:1≤mH m
 h3:mH m≤3
 d1:1≤(mD m).length
 d6:(mD m).length≤6
 r3:∀r∈mD m,r.length≤3
 l5:∀r∈mD m,∀l∈r,l.length≤5
 x5:∀r∈mD m,∀l∈r,∀x∈l,0≤x/\x < mC m
 nd:∀r∈mD m,r.flatten.Nodup
 g8:(mG m).length≤8
 gl:∀g∈mG m,0≤g.1/\g.1 < mC m/\0≤g.2.1/\g.2.1≤(mD m).length
theorem BE{l:List Int}{c:Int}{s:List Int}(h:sE l c=some s):s.length≤2/\∀x∈s,x∈l:=by
 unfold sE at h;cases e:l.findIdx? (λy=>decide (c=y)) with
 |none=>rw [e] at h;cases h
 |some i=>
  rw [e] at h;obtain rfl:=Option.some.inj h;have hi:i < l.length:=(List.findIdx?_eq_some_iff_getElem.1 e).1;refine⟨?_,λx hx=>?_⟩
  .rw [length_append];have:(l[i+1]?).toList.length≤1:=by cases l[i+1]? <;> simp
   split <;> simp <;> omega
  .rcases List.mem_append.1 hx with h |h
   .split at h
    .rw [List.getElem?_eq_getElem (by omega)] at h;obtain rfl:=List.mem_singleton.1 h;exact List.getElem_mem _
    .cases h
   .exact List.mem_of_getElem? (Option.mem_toList.1 h)
theorem Ju{d:List (List Int)}{c:Int}{s:List Int}(h:uw d c=some s):∃l∈d,sE l c=some s:=by
 unfold uw at h;exact List.exists_of_findSome?_eq_some h
theorem vR{m:ab}(v:Vd m){d:Nat}{c:Int}{s:List Int}(h:yc m d c=some s):s.length≤2/\∀x∈s,0≤x/\x < mC m:=by
 obtain⟨l,hl,h2⟩:=Ju h;cases e:(mD m)[d]? with
 |none=>rw [e] at hl;cases hl
 |some r=>
  rw [e] at hl;have h3:=BE h2;exact⟨h3.1,λx hx=>v.x5 r (List.mem_of_getElem? e) l hl x (h3.2 x hx)⟩
def QM(m:ab)(c:Int)(d:Nat):Int ⊕ List Int:=match yc m d c with
 |some s=>.inr (nR s)
 |none=>.inl (lr m c d)
theorem AC{k:Nat}{c:Int}{r:List (List Int)}(hk:10≤k)(hr:r.length≤3)(hl:∀l∈r,l.length≤5):
 cP k c r k 0=some (match uw r c with |some s=>.error (.inr (nR s)) |none=>.ok ()):=by
 have key:=jr (f:=cP k c r) r (λ(_:Unit) j=>j) (λ_ _ l=>match sE l c with |some s=>Except.error (Sum.inr (nR s):Int ⊕ List Int) |none=>.ok ()) (λ_ _=>True) (λx=>some x)
  (λn s j hj _=>by
   refine⟨?_,λ_ _=>trivial⟩;have h5:=hl _ (List.getElem_mem hj);have hck:ck ((j:Int)+1)=some ((j:Int)+1):=bY (by omega) (by omega);simp only [cP,Int.ofNat_lt,hj,if_true,cu hj,bs];rw [A9 (by omega) (by omega),bs];generalize r[j]=l at *;have hb:sE l c=(l.findIdx? λy=>decide (c=y)).map λi=>(if 0 < i then [l[i-1]?.getD 0] else [])++(l[i+1]?).toList:=rfl;cases e:l.findIdx? (λy=>decide (c=y)) with
   |none=>
    rw [e] at hb;simp only [Option.map_none] at hb;rw [hb];simp [hck,bs]
   |some i=>
    rw [e] at hb;simp only [Option.map_some] at hb;have hi:i < l.length:=(List.findIdx?_eq_some_iff_getElem.1 e).1;rw [hb];have hlen:=(BE hb).1;have c1:ck ((i:Int) - 1)=some ((i:Int) - 1):=bY (by omega) (by omega);have c2:ck ((i:Int)+1)=some ((i:Int)+1):=bY (by omega) (by omega);have ok0:bS (bi (length ([]:List Int)+length [l[i-1]?.getD 0]))=some ():=dh (by simp [bi]);simp only [show(0:Int)≤(i:Int) from Int.natCast_nonneg _,if_true,c1,c2,bs]
    have e1:(if(0:Int) < (i:Int) then((aG l ((i:Int) - 1)).bind λx11=>(bS (bi (length ([]:List Int)+length [x11]))).bind λ_=>some (([]:List Int)++[x11])) else some ([]:List Int))=some (if 0 < i then [l[i-1]?.getD 0] else []):=by
     by_cases h0:0 < i
     .have g:aG l ((i:Int) - 1)=some (l[i-1]?.getD 0):=by
       have:((i:Int) - 1)=((i - 1:Nat):Int):=by omega
       rw [this,cu (by omega),List.getElem?_eq_getElem (by omega:i - 1 < l.length)];rfl
      rw [if_pos (by omega),if_pos h0,g,bs,ok0,bs];rfl
     .rw [if_neg (by omega),if_neg h0]
    rw [e1,bs];generalize (if 0 < i then [l[i-1]?.getD 0] else [])=p at *
    have e2:(if(i:Int)+1 < (l.length:Int) then((aG l ((i:Int)+1)).bind λx18=>(bS (bi (length p+length [x18]))).bind λ_=>some (p++[x18])) else some p)=some (p++(l[i+1]?).toList):=by
     by_cases h1:i+1 < l.length
     .have g:aG l ((i:Int)+1)=some l[i+1]:=by
       have:((i:Int)+1)=((i+1:Nat):Int):=by omega
       rw [this,cu h1]
      rw [if_pos (by omega),g,bs,List.getElem?_eq_getElem h1];rw [List.getElem?_eq_getElem h1] at hlen;rw [dh (by rw [length_append] at hlen;simp at hlen;simp [bi];omega),bs];rfl
     .rw [if_neg (by omega),List.getElem?_eq_none (by omega)];simp
    rw [e2,bs,K7 (by omega) hlen,bs])
  (λn s _=>by simp [cP]) (n:=k) (s0:=()) (by omega) trivial
 rw [show cP k c r k 0=_ from key]
 congr 1
 have:∀(r:List (List Int)) (j:Nat),dR (λ(_:Unit) _ l=>match sE l c with |some s=>Except.error (Sum.inr (nR s):Int ⊕ List Int) |none=>.ok ()) j r ()=match uw r c with |some s=>.error (.inr (nR s)) |none=>.ok ():=by
  intro r
  induction r with
  |nil=>intro j;rfl
  |cons l r ih=>
   intro j;rw [dR];unfold uw;rw [findSome?_cons];cases sE l c with
   |none=>exact ih (j+1)
   |some s=>rfl
 exact this r 0
theorem ET{m:ab}{c:Int}:∀{d:Nat},lr m c d≤d+1
 |0=>by unfold lr;split <;> omega
 |d+1=>by have:=ET (m:=m) (c:=c) (d:=d);unfold lr;split <;> omega
theorem vg{k:Nat}{m:ab}{c:Int}(v:Vd m)(hk:10≤k):∀(d m0:Nat),d < m0->d < (mD m).length->ew k m0 m c (d:Int)=some (QM m c d)
 |d,0,h,_=>absurd h (not_lt_zero _)
 |d,m0+1,h,hd=>by
  have hm:=List.getElem_mem hd
  unfold ew
  rw [cu hd,bs,AC hk (v.r3 _ hm) (v.l5 _ hm)]
  have hbes:yc m d c=uw (mD m)[d] c:=by unfold yc;rw [List.getElem?_eq_getElem hd];rfl
  cases e:uw (mD m)[d] c with
  |some s=>
   rw [mr]
   unfold QM
   rw [hbes,e]
  |none=>
   rw [kh]
   unfold QM
   rw [hbes,e]
   match d,hd,h with
   |0,hd,h=>
    rw [hbes.symm] at e
    simp [lr,e]
   |d+1,hd,h=>
    have h6:=v.d6
    have c1:ck (((d+1:Nat):Int) - 1)=some (d:Int):=by rw [bY (by omega) (by omega)];congr 1;omega
    have ih:=vg v hk d m0 (by omega) (by omega) (c:=c)
    rw [if_pos (by omega),c1,bs,ih,bs]
    rw [hbes.symm] at e
    have hcold:lr m c (d+1)=lr m c d+1:=by rw [lr,e];rfl
    have hle:=ET (m:=m) (c:=c) (d:=d)
    unfold QM
    cases e2:yc m d c with
    |some s=>
     simp only [Ll]
     have:lr m c d=0:=by cases d <;> simp [lr,e2]
     simp [hcold,this]
    |none=>
     have c2:ck ((1:Int)+(lr m c d:Int))=some ((1:Int)+(lr m c d:Int)):=bY (by omega) (by omega)
     simp only [Ll,Rh,c2,bs,if_true,hcold]
     congr 2
     omega
end Go.Proofs.YthnacobbednnbaaGreat
set_option linter.unusedVariables false
set_option linter.unusedSimpArgs false
namespace Go.Proofs.YthnacobbednnbaaGreat
open K Go Go.Proofs
def lX(f:Int->Int):List Int:=[f 0,f 1,f 2,f 3,f 4]
def upd(f:Int->Int)(c v:Int):Int->Int:=λx=>if x=c then v else f x
theorem VO{c:Int}(h0:0≤c)(h:c < 5):c=0\/c=1\/c=2\/c=3\/c=4:=by omega
theorem uC{f:Int->Int}{c:Int}(h0:0≤c)(h:c < 5):aG (lX f) c=some (f c):=by
 rcases VO h0 h with rfl |rfl |rfl |rfl |rfl <;> rfl
theorem Eg{f:Int->Int}{c v:Int}(h0:0≤c)(h:c < 5):List.set (lX f) (Int.toNat c) v=lX (upd f c v):=by
 rcases VO h0 h with rfl |rfl |rfl |rfl |rfl <;> rfl
theorem nu{f g:Int->Int}(h:∀c,0≤c->c < 5->f c=g c):lX f=lX g:=by
 unfold lX;rw [h 0 (by decide) (by decide),h 1 (by decide) (by decide),h 2 (by decide) (by decide),h 3 (by decide) (by decide),h 4 (by decide) (by decide)]
def Rb(m:ab)(f:Int->Int)(d:Nat)(c:Int):Int:=match yc m d c with
 |none=>if mH m≤(lr m c d:Int) then -1 else f c
 |some l=>if 0≤f c then f c+1 else if l.any λx=>decide (mW m≤f x) then 0 else -1
def QO(m:ab)(f:Int->Int)(d:Nat):Int->Int:=λc=>if 0≤c/\c < mC m then Rb m f d c else f c
theorem wE{k:Nat}{m:ab}{f:Int->Int}(hw:0≤mW m){s:List Int}(hs:s.length < k)(hs2:s.length≤1000)(hx:∀x∈s,0≤x/\x < 5):
 ce k m (lX f) s k 0=some (match s.find? (λx=>decide (mW m≤f x)) with |some x=>.error x |none=>.ok ()):=by
 have key:=jr (f:=ce k m (lX f) s) s (λ(_:Unit) j=>j) (λ_ _ x=>if decide (mW m≤f x)=true then Except.error x else .ok ()) (λ_ _=>True) (λx=>some x)
  (λn _ j hj _=>by
   refine⟨?_,λ_ _=>trivial⟩;have h5:=hx _ (List.getElem_mem hj);have hck:ck ((j:Int)+1)=some ((j:Int)+1):=bY (by omega) (by omega);have him:pA (0:Int) m.2.1=mW m:=by show pA 0 (mW m)=mW m;unfold pA;split <;> omega
   simp only [ce,Int.ofNat_lt,hj,if_true,cu hj,bs,dh h5,uC h5.1 h5.2,him,hck,decide_eq_true_eq];by_cases e:mW m≤f s[j] <;> simp [e])
  (λn s _=>by simp [ce]) (n:=k) (s0:=()) hs trivial
 rw [show ce k m (lX f) s k 0=_ from key]
 congr 1
 have:∀(s:List Int) (j:Nat),dR (λ(_:Unit) _ x=>if decide (mW m≤f x)=true then Except.error x else .ok ()) j s ()=match s.find? (λx=>decide (mW m≤f x)) with |some x=>.error x |none=>.ok ():=by
  intro s
  induction s with
  |nil=>intro j;rfl
  |cons x s ih=>
   intro j;rw [dR,find?_cons];cases h:decide (mW m≤f x) with
   |true=>simp
   |false=>simp only [Bool.false_eq_true,if_false];exact ih (j+1)
 exact this s 0
theorem Ag{s:List Int}:(nR s).length=s.length:=by
 unfold nR;split
 .split <;> rfl
 .rfl
def KW(m:ab)(f:Int->Int)(l:List Int):Int:=((nR l).find? λx=>decide (mW m≤f x)).getD (-1)
theorem CJ{k:Nat}{m:ab}{f:Int->Int}{c:Int}{d:Nat}(v:Vd m)(hk:10≤k)(hd:d < (mD m).length){l:List Int}(h:yc m d c=some l):
 dH k m (lX f) c (d:Int)=some (KW m f l):=by
 have h6:=v.d6
 have c5:=v.c5
 have hb:=vR v h
 unfold dH
 rw [vg v hk d k (by omega) hd,bs]
 unfold QM
 rw [h]
 have e1:Js (Sum.inr (nR l):Int ⊕ List Int) (λn=>jd k n) (λl=>i8 k l)=some (nR l):=rfl
 rw [e1,bs,wE v.w0 (by rw [Ag];omega) (by rw [Ag];omega) λx hx=>by have:=hb.2 x (rO.1 hx);omega]
 unfold KW
 cases(nR l).find? λx=>decide (mW m≤f x) with
 |none=>rw [kh];rfl
 |some x=>rw [mr];rfl
theorem KV{m:ab}{f:Int->Int}{l:List Int}(hx:∀x∈l,0≤x):0≤KW m f l↔(l.any λx=>decide (mW m≤f x))=true:=by
 unfold KW;rw [List.any_eq_true];cases e:(nR l).find? λx=>decide (mW m≤f x) with
 |none=>
  simp only [Option.getD_none];have:=List.find?_eq_none.1 e;constructor
  .intro h;omega
  .rintro⟨x,hx,h⟩;exact absurd h (this x (rO.2 hx))
 |some x=>
  have h1:=List.mem_of_find?_eq_some e;have h2:=List.find?_some e;exact⟨λ_=>⟨x,rO.1 h1,h2⟩,λ_=>hx x (rO.1 h1)⟩
theorem IM{k:Nat}{m:ab}{f:Int->Int}{d:Nat}(v:Vd m)(hk:10≤k)(hd:d < (mD m).length)(hf:∀c,0≤c->c < mC m-> -1≤f c/\f c≤1000):
 iq k m (lX f) (d:Int)=some (lX (QO m f d)):=by
 have c5:=v.c5
 have c1:=v.c1
 have h6:=v.d6
 unfold iq
 have key:=eN (T:=List Int×Int) (f:=cH k m (lX f) (d:Int)) (List.range (mC m).toNat) (λ(g:Int->Int) j=>(lX g,j)) (λg j _=>upd g (j:Int) (Rb m f d (j:Int))) (λj g=>g=λc=>if 0≤c/\c < (j:Int) then Rb m f d c else f c) (λg=>some (lX g))
  (λn g j hj hg=>by
   rw [length_range] at hj;have j0:(0:Int)≤(j:Int):=Int.natCast_nonneg _;have j1:(j:Int) < mC m:=by omega
   have j5:(j:Int) < 5:=by omega
   have hck:ck ((j:Int)+1)=some ((j:Int)+1):=bY (by omega) (by omega);have hp:bS ((0:Int)≤(j:Int)/\(j:Int) < 5)=some ():=dh ⟨j0,j5⟩;have hgj:g (j:Int)=f (j:Int):=by rw [hg];simp
   have hfj:=hf _ j0 j1;refine⟨?_,?_⟩
   .have hm1:(m.1:Int)=mC m:=rfl;have hm2:m.2.2.2.1=mH m:=rfl;simp only [cH,hm1,hm2,j1,if_true,vg v hk d k (by omega) hd,bs,hp,uC j0 j5,hck,Eg j0 j5];unfold QM Rb;cases e:yc m d (j:Int) with
    |none=>
     simp only [Ll,Rh,if_true];by_cases hh:mH m≤(lr m (j:Int) d:Int)
     .simp only [hh,if_true,bs]
     .simp only [hh,if_false,bs];refine congrArg (λr=>cH k m (lX f) (d:Int) n (r,(j:Int)+1)) (nu λc _ _=>?_);unfold upd;split
      .rename_i e;rw [e,hgj]
      .rfl
    |some l=>
     have hb:=vR v e;simp only [Ll,Bool.false_eq_true,if_false,not_false_eq_true,if_true];by_cases h0:0≤f (j:Int)
     .have hck2:ck (f (j:Int)+1)=some (f (j:Int)+1):=bY (by omega) (by omega);simp only [h0,if_true,hck2,bs]
     .simp only [h0,if_false,CJ v hk hd e,bs];have ht:=KV (m:=m) (f:=f) (l:=l) λx hx=>(hb.2 x hx).1;by_cases hany:(l.any λx=>decide (mW m≤f x))=true
      .rw [if_pos (ht.2 hany),bs,if_pos hany]
      .rw [if_neg λh=>hany (ht.1 h),bs,if_neg hany];refine congrArg (λr=>cH k m (lX f) (d:Int) n (r,(j:Int)+1)) (nu λc _ _=>?_);unfold upd;split
       .rename_i e;rw [e,hgj];omega
       .rfl
   .rw [hg];funext c;unfold upd;by_cases e:c=(j:Int)
    .subst e;simp [j0];intro h;omega
    .simp only [e,if_false];by_cases h:0≤c/\c < (j:Int)
     .rw [if_pos h,if_pos (by omega)]
     .rw [if_neg h,if_neg (by omega)])
  (λn g hg=>by
   rw [length_range];have:((mC m).toNat:Int)=mC m:=by omega
   rw [this];unfold cH;rw [if_neg (by show¬(mC m < mC m);omega)]) (n:=k) (s0:=f) (by rw [length_range];omega) (by funext c;simp;intro h;omega)
 rw [show cH k m (lX f) (d:Int) k (lX f,0)=_ from key.1,bs]
 congr 1
 refine nu λc _ _=>?_
 rw [key.2,length_range]
 unfold QO
 have:((mC m).toNat:Int)=mC m:=by omega
 rw [this]
end Go.Proofs.YthnacobbednnbaaGreat
set_option linter.unusedVariables false
set_option linter.unusedSimpArgs false
namespace Go.Proofs.YthnacobbednnbaaGreat
open K Go Go.Proofs
def cr(F:Nat->Int->Int):List (List Int):=[lX (F 0),lX (F 1),lX (F 2),lX (F 3),lX (F 4),lX (F 5),lX (F 6)]
def CC(F:Nat->Int->Int)(n:Nat)(f:Int->Int):Nat->Int->Int:=λi=>if i=n then f else F i
theorem VN{n:Nat}(h:n < 7):n=0\/n=1\/n=2\/n=3\/n=4\/n=5\/n=6:=by omega
theorem DG{F:Nat->Int->Int}{n:Nat}(h:n < 7):aG (cr F) (n:Int)=some (lX (F n)):=by
 rcases VN h with rfl |rfl |rfl |rfl |rfl |rfl |rfl <;> rfl
theorem Qj{F:Nat->Int->Int}{n:Nat}{f:Int->Int}(h:n < 7):List.set (cr F) n (lX f)=cr (CC F n f):=by
 rcases VN h with rfl |rfl |rfl |rfl |rfl |rfl |rfl <;> rfl
def Qo(m:ab)(B:Int->Bool):Nat->Int->Int
 |0=>λc=>if B c then mW m else -1
 |n+1=>QO m (Qo m B n) n
theorem zy{m:ab}(v:Vd m){B:Int->Bool}:∀(n:Nat) (c:Int),0≤c->c < mC m->Qo m B n c=ji m B n c
 |0,c,_,_=>rfl
 |n+1,c,h0,h1=>by
  have ih:=zy v (B:=B) n
  show QO m (Qo m B n) n c=ji m B (n+1) c
  unfold QO
  rw [if_pos ⟨h0,h1⟩]
  unfold Rb ji
  cases e:yc m n c with
  |none=>simp only [];rw [ih c h0 h1]
  |some l=>
   have hb:=(vR v e).2
   have:(l.any λx=>decide (mW m≤Qo m B n x))=l.any λx=>decide (mW m≤ji m B n x):=by
    rw [Bool.eq_iff_iff];simp only [List.any_eq_true,decide_eq_true_eq];constructor
    .rintro⟨x,hx,h⟩;exact⟨x,hx,by rw [<-ih x (hb x hx).1 (hb x hx).2];exact h⟩
    .rintro⟨x,hx,h⟩;exact⟨x,hx,by rw [ih x (hb x hx).1 (hb x hx).2];exact h⟩
   simp only [];rw [ih c h0 h1,this]
def OA(m:ab)(B:Int->Bool):Nat->Int->Int:=λn=>if n≤(mD m).length then Qo m B n else λ_=>0
def sO(S:Int):Int->Bool:=λc=>decide (eg S c.toNat)
theorem HJ{k:Nat}{m:ab}{S:Int}(hk:10≤k)(hS:km S):eX k m S=some (lX λc=>if sO S c then mW m else -1):=by
 unfold eX
 have key:=eN (T:=List Int×Int) (f:=cO k m S) (List.range 5) (λ(g:Int->Int) j=>(lX g,j)) (λg j _=>upd g (j:Int) (if sO S (j:Int) then mW m else -1)) (λj g=>∀c,0≤c->c < (j:Int)->g c=if sO S c then mW m else -1) (λg=>some (lX g))
  (λn g j hj hg=>by
   rw [length_range] at hj;have j0:(0:Int)≤(j:Int):=Int.natCast_nonneg _;have j5:(j:Int) < 5:=by omega
   have hck:ck ((j:Int)+1)=some ((j:Int)+1):=bY (by omega) (by omega);have hp:bS ((0:Int)≤(j:Int)/\(j:Int) < 5)=some ():=dh ⟨j0,j5⟩;have hp':bS ((0:Int)≤(j:Int)/\True)=some ():=dh ⟨j0,trivial⟩;refine⟨?_,?_⟩
   .simp only [cO,j5,if_true,hp,hp',bs,Dv (k:=k) hS (by omega:j < 8),hck,Eg j0 j5];have hin:sO S (j:Int)=decide (eg S j):=by unfold sO;rw [Int.toNat_natCast]
    rw [hin];cases hh:decide (eg S j) with
    |true=>
     simp only [if_true,bs];refine congrArg (λr=>cO k m S n (r,(j:Int)+1)) (nu λc _ _=>?_);unfold upd;split <;> rfl
    |false=>simp only [Bool.false_eq_true,if_false,bs]
   .intro c hc0 hc1;unfold upd;by_cases e:c=(j:Int)
    .rw [if_pos e,e]
    .rw [if_neg e];exact hg c hc0 (by omega))
  (λn g hg=>by
   rw [length_range];unfold cO;rw [if_neg (show¬(((5:Nat):Int) < 5) by decide)]) (n:=k) (s0:=λ_=>0) (by rw [length_range];omega) (λc h0 h1=>by omega)
 have e0:([(0:Int),(0:Int),(0:Int),(0:Int),(0:Int)]:List Int)=lX λ_=>0:=rfl;rw [e0,show cO k m S k (lX λ_=>0,0)=_ from key.1,bs];refine congrArg some (nu λc h0 h5=>?_);have:=key.2;rw [length_range] at this;exact this c h0 h5
theorem tO{k:Nat}{m:ab}{S:Int}(v:Vd m)(hk:10≤k)(hS:km S):lE k m S=some (cr (OA m (sO S))):=by
 have d6:=v.d6;have d1:=v.d1;have w0:=v.w0;have w3:=v.w3;unfold lE jY;have hm:bS (0≤S/\S < 256)=some ():=dh hS;have hp0:bS ((0:Int)≤0/\(0:Int) < 7)=some ():=dh ⟨by omega,by omega⟩;rw [hm,bs,HJ hk hS,bs,hp0,bs]
 have key:=eN (T:=List (List Int)×Int) (f:=bU k m) (mD m) (λ(F:Nat->Int->Int) j=>(cr F,j)) (λF j _=>CC F (j+1) (QO m (F j) j)) (λj F=>F=λn=>if n≤j then Qo m (sO S) n else λ_=>0) (λF=>some (cr F))
  (λn F j hj hF=>by
   have j0:(0:Int)≤(j:Int):=Int.natCast_nonneg _;have hck:ck ((j:Int)+1)=some ((j:Int)+1):=bY (by omega) (by omega);have hp:bS ((0:Int)≤(j:Int)/\(j:Int) < 7)=some ():=dh ⟨j0,by omega⟩;have hp2:bS ((0:Int)≤(j:Int)+1/\(j:Int)+1 < 7)=some ():=dh ⟨by omega,by omega⟩;have hFj:F j=Qo m (sO S) j:=by rw [hF];simp
   have hj':(j:Int) < (m.2.2.2.2.1.length:Int):=Int.ofNat_lt.2 hj
   have hnx:=IM (k:=k) (f:=F j) v hk hj (λc h0 h1=>by
    rw [hFj,zy v j c h0 h1];have:=DX (B:=sO S) w0 (d:=j) (c:=c);have:=DU (B:=sO S) w3 (d:=j) (c:=c);omega)
   refine⟨?_,?_⟩
   .simp only [bU,hj',if_true,hck,hp,bs,DG (F:=F) (show j < 7 by omega),hnx,hp2];have e:Int.toNat ((j:Int)+1)=j+1:=by omega
    rw [e,Qj (by omega)]
   .rw [hF];funext i;unfold CC;by_cases e:i=j+1
    .subst e;simp only [if_true,Nat.le_refl];rfl
    .simp only [e,if_false];by_cases h:i≤j
     .rw [if_pos h,if_pos (by omega)]
     .rw [if_neg h,if_neg (by omega)])
  (λn F hF=>by
   unfold bU;rw [if_neg (by show¬((m.2.2.2.2.1.length:Int) < _);exact Int.lt_irrefl _)]) (n:=k) (s0:=CC (λ_ _=>0) 0 (λc=>if sO S c then mW m else -1)) (by omega) (by
   funext n;unfold CC;by_cases e:n=0
   .subst e;rfl
   .rw [if_neg e,if_neg (by omega)])
 have e0:List.set tL (Int.toNat 0) (lX λc=>if sO S c then mW m else -1)=cr (CC (λ_ _=>0) 0 (λc=>if sO S c then mW m else -1)):=rfl;rw [e0,show bU k m k (cr (CC (λ_ _=>0) 0 (λc=>if sO S c then mW m else -1)),0)=_ from key.1,bs];rw [key.2];rfl
theorem ES{m:ab}(v:Vd m){B:Int->Bool}{n:Nat}{c:Int}(hn:n≤(mD m).length)(h0:0≤c)(h1:c < mC m):OA m B n c=ji m B n c:=by
 unfold OA;rw [if_pos hn,zy v n c h0 h1]
end Go.Proofs.YthnacobbednnbaaGreat
set_option linter.unusedVariables false
set_option linter.unusedSimpArgs false
namespace Go.Proofs.YthnacobbednnbaaGreat
open K Go Go.Proofs
def wk{σ:Type}(bad:σ->Int->Option Int)(add:σ->Int->σ):List Int->σ->Except Int σ
 |[],s=>.ok s
 |x::l,s=>match bad s x with
  |some e=>.error e
  |none=>wk bad add l (add s x)
theorem uy{σ:Type}{bad:σ->Int->Option Int}{add:σ->Int->σ}:∀(l:List Int) (j:Nat) (s:σ),dR (λs _ x=>match bad s x with |some e=>Except.error e |none=>.ok (add s x)) j l s=wk bad add l s
 |[],j,s=>rfl
 |x::l,j,s=>by
  rw [dR,wk]
  cases bad s x with
  |some e=>rfl
  |none=>exact uy l (j+1) (add s x)
theorem xc{σ:Type}{bad:σ->Int->Option Int}{add:σ->Int->σ}:∀(a b:List Int) (s:σ),wk bad add (a++b) s=match wk bad add a s with | .error e=>.error e | .ok s'=>wk bad add b s'
 |[],b,s=>rfl
 |x::a,b,s=>by
  rw [cons_append,wk,wk]
  cases bad s x with
  |some e=>rfl
  |none=>exact xc a b (add s x)
theorem ym{σ:Type}{bad:σ->Int->Option Int}{add:σ->Int->σ}:∀(r:List (List Int)) (j:Nat) (s:σ),dR (λs _ l=>wk bad add l s) j r s=wk bad add r.flatten s
 |[],j,s=>rfl
 |l::r,j,s=>by
  rw [dR,flatten_cons,xc]
  cases wk bad add l s with
  |error e=>rfl
  |ok s'=>exact ym r (j+1) s'
theorem Hm{σ τ:Type}{b1:σ->Int->Option Int}{a1:σ->Int->σ}{b2:τ->Int->Option Int}{a2:τ->Int->τ}(R:σ->τ->Prop)(hb:∀s t x,R s t->b1 s x=b2 t x)(ha:∀s t x,R s t->b1 s x=none->R (a1 s x) (a2 t x)):
 ∀(l:List Int) (s:σ) (t:τ),R s t->(∃e,wk b1 a1 l s= .error e/\wk b2 a2 l t= .error e)\/∃s' t',wk b1 a1 l s= .ok s'/\wk b2 a2 l t= .ok t'/\R s' t'
 |[],s,t,h=>.inr ⟨s,t,rfl,rfl,h⟩
 |x::l,s,t,h=>by
  rw [wk,wk,<-hb s t x h]
  cases e:b1 s x with
  |some c=>exact .inl ⟨c,rfl,rfl⟩
  |none=>exact Hm R hb ha l _ _ (ha s t x h e)
theorem yo{σ:Type}{bad:σ->Int->Option Int}{add:σ->Int->σ}(P:σ->Prop)(hs:∀s x,P s->bad s x=none->P (add s x)):∀(l:List Int) (s s':σ),P s->wk bad add l s= .ok s'->P s'
 |[],s,s',h,e=>by cases e;exact h
 |x::l,s,s',h,e=>by
  rw [wk] at e
  cases hb:bad s x with
  |some c=>rw [hb] at e;cases e
  |none=>rw [hb] at e;exact yo P hs l _ s' (hs s x h hb) e
theorem lJ{k:Nat}{a b c:Int}:dT k a b c=some (decide (b≤a/\a≤c)):=by
 unfold dT;by_cases h:b≤a <;> simp [h]
theorem tB{k:Nat}{a b c:Int}:fD k a b c=some (decide (b≤a/\a≤c)):=by
 unfold fD;by_cases h:b≤a <;> simp [h]
theorem Tt{n:Int}(h:1≤n/\n≤5):ck (n - 1)=some (n - 1):=bY (by omega) (by omega)
theorem I1{k:Nat}{m:ab}{x:Int}(h:1≤mC m/\mC m≤5):gQ k m x=some (decide (0≤x/\x < mC m)):=by
 have h':IntKind.i64.wrap (m.1 - 1)=m.1 - 1:=uM (Tt h);unfold gQ;rw [h',tB,bs];congr 1;exact decide_eq_decide.2 ⟨λ⟨a,b⟩=>⟨a,by show x < m.1;omega⟩,λ⟨a,b⟩=>⟨a,by have:x < m.1:=b;omega⟩⟩
theorem Dt{k:Nat}{m:ab}{x:Int}:fC k m x=some (decide (0≤x/\x≤(mD m).length)):=by
 unfold fC;rw [tB,bs]
theorem yz{k:Nat}{l:List Int}{x:Int}(hk:l.length < k)(hl:l.length≤1000000):nS k l x=some (decide (x∈l)):=by
 unfold nS
 have key:=jr (f:=ie k l x) l (λ(_:Unit) j=>j) (λ_ j y=>if decide (y=x)=true then Except.error true else .ok ()) (λ_ _=>True) (λr=>some r)
  (λn s j hj _=>by
   have hck:ck ((j:Int)+1)=some ((j:Int)+1):=bY (by omega) (by omega);refine⟨?_,λ_ _=>trivial⟩;simp only [ie,Int.ofNat_lt,hj,if_true,cu hj,bs,decide_eq_true_eq];by_cases e:l[j]=x <;> simp [e,hck])
  (λn s _=>by simp [ie]) (n:=k) (s0:=()) hk trivial
 rw [show ie k l x k 0=_ from key]
 have:∀(l:List Int) (j:Nat),dR (λ(_:Unit) _ y=>if decide (y=x)=true then Except.error true else .ok ()) j l ()=if x∈l then .error true else .ok ():=by
  intro l
  induction l with
  |nil=>intro j;simp [dR]
  |cons y l ih=>
   intro j;rw [dR];by_cases e:y=x
   .subst e;simp
   .simp only [e,decide_false,Bool.false_eq_true,if_false];rw [ih (j+1)];have:x∈y::l↔x∈l:=by simp [Ne.symm e]
    simp only [this]
 rw [this l 0];by_cases h:x∈l
 .simp [h,mr]
 .simp [h,kh]
def Cd(C:Int)(s x:Int):Option Int:=if¬(0≤x/\x < C) then some 3 else if eg s x.toNat then some 4 else none
def wv(s x:Int):Int:=ED .u8 s (pz .u8 1 x)
def ue(C:Int)(s:List Int)(x:Int):Option Int:=if¬(0≤x/\x < C) then some 3 else if x∈s then some 4 else none
def zA(s:List Int)(x:Int):List Int:=s++[x]
theorem xB:km 0:=⟨by decide,by decide⟩
theorem OB{C s x:Int}(h:Cd C s x=none):0≤x/\x < C:=by
 unfold Cd at h;split at h
 .cases h
 .rename_i h';exact Decidable.not_not.1 h'
theorem nP{k:Nat}{s x:Int}(hs:km s)(h0:0≤x)(h8:x < 8):gp k s x=some (wv s x)/\km (wv s x)/\∀i:Nat,eg (wv s x) i↔eg s i\/(i:Int)=x:=by
 have h1:=PE h0 h8;have h2:=PX hs h1.1;refine⟨?_,h2.1,λi=>?_⟩
 .unfold gp;rw [dh h0,bs];rfl
 .show eg (ED .u8 s (pz .u8 1 x)) i↔_;rw [h2.2 i,h1.2 i]
theorem BF{C s x:Int}(hC:C≤5)(hs:km s)(h:Cd C s x=none):km (wv s x):=by
 have:=OB h;exact(nP (k:=0) hs this.1 (by omega)).2.1
def mF(C:Int)(r:List (List Int)):Int:=if 3 < r.length then 6 else match wk (ue C) zA r.flatten [] with | .error e=>e | .ok _=>0
theorem Gk{k:Nat}{m:ab}(hC:1≤mC m/\mC m≤5){l:List Int}(hk:l.length < k)(hl:l.length≤1000){s:Int}(hs:km s):
 dj k m l k (s,0)=some (wk (Cd (mC m)) wv l s):=by
 have key:=jr (T:=Int×Int) (f:=dj k m l) l (λ(s:Int) j=>(s,j)) (λs _ x=>match Cd (mC m) s x with |some e=>Except.error e |none=>.ok (wv s x)) (λ_ s=>km s) (λr=>some r)
  (λn s j hj hs=>by
   have hck:ck ((j:Int)+1)=some ((j:Int)+1):=bY (by omega) (by omega);have hc:ck (m.1 - 1)=some (m.1 - 1):=Tt hC;refine⟨?_,λs' e=>?_⟩
   .simp only [dj,Int.ofNat_lt,hj,if_true,cu hj,bs,hc,lJ];generalize l[j]=x;by_cases h:0≤x/\x < mC m
    .have h':0≤x/\x≤m.1 - 1:=⟨h.1,by have:x < m.1:=h.2;omega⟩;have hh:=Dv (k:=k) hs (i:=x.toNat) (by omega);have ex:((x.toNat:Nat):Int)=x:=by omega
     rw [ex] at hh;simp only [h',and_self,decide_true,not_true_eq_false,if_false,hh,bs];have eb:Cd (mC m) s x=if eg s x.toNat then some 4 else none:=by unfold Cd;rw [if_neg (λhn=>hn h)]
     rw [eb];by_cases h2:eg s x.toNat
     .simp only [h2,decide_true,if_true]
     .simp only [h2,decide_false,Bool.false_eq_true,if_false,(nP (k:=k) hs h.1 (by omega)).1,bs,hck]
    .have h':¬(0≤x/\x≤m.1 - 1):=λhh=>h ⟨hh.1,by show x < m.1;omega⟩;have eb:Cd (mC m) s x=some 3:=by unfold Cd;rw [if_pos h]
     rw [eb];simp only [h',decide_false,Bool.false_eq_true,not_false_eq_true,if_true]
   .cases e2:Cd (mC m) s l[j] with
    |some c=>rw [e2] at e;cases e
    |none=>rw [e2] at e;cases e;exact BF hC.2 hs e2)
  (λn s _=>by simp [dj]) (n:=k) (s0:=s) hk hs
 rw [show dj k m l k (s,0)=_ from key,uy]
theorem Gm{k:Nat}{m:ab}(hC:1≤mC m/\mC m≤5){r:List (List Int)}(hk:r.length < k)(hr:r.length≤1000)(hl:∀l∈r,l.length < k/\l.length≤1000):
 dk k m r k (0,0)=some (match wk (Cd (mC m)) wv r.flatten 0 with | .error e=>.error e | .ok _=>.ok ()):=by
 have key:=jr (T:=Int×Int) (f:=dk k m r) r (λ(s:Int) j=>(s,j)) (λs _ l=>wk (Cd (mC m)) wv l s) (λ_ s=>km s) (λx=>some (match x with | .error e=>Except.error e | .ok _=>.ok ()))
  (λn s j hj hs=>by
   have hck:ck ((j:Int)+1)=some ((j:Int)+1):=bY (by omega) (by omega);have hlj:=hl _ (List.getElem_mem hj);refine⟨?_,λs' e=>yo km (λs x=>BF hC.2) _ _ _ hs e⟩;simp only [dk,Int.ofNat_lt,hj,if_true,cu hj,bs,Gk hC hlj.1 hlj.2 hs];cases wk (Cd (mC m)) wv r[j] s with
   |error e=>rw [mr]
   |ok s'=>rw [kh,hck,bs])
  (λn s _=>by simp [dk]) (n:=k) (s0:=0) hk xB
 rw [show dk k m r k (0,0)=_ from key,ym]
theorem MS{C:Int}(hC:C≤5)(l:List Int):(∃e,wk (Cd C) wv l 0= .error e/\wk (ue C) zA l []= .error e)\/∃s t,wk (Cd C) wv l 0= .ok s/\wk (ue C) zA l []= .ok t/\(km s/\∀i:Nat,eg s i↔(i:Int)∈t):=by
 refine Hm (λs t=>km s/\∀i:Nat,eg s i↔(i:Int)∈t) (λs t x h=>?_) (λs t x h hb=>?_) l 0 [] ⟨xB,λi=>by simp [eg]⟩
 .unfold Cd ue;by_cases hx:0≤x/\x < C
  .have e:((x.toNat:Nat):Int)=x:=by omega
   have:=h.2 x.toNat;rw [e] at this;simp only [hx,and_self,not_true_eq_false,if_false,this]
  .rw [if_pos hx,if_pos hx]
 .have hx:=OB hb;have hw:=nP (k:=0) h.1 hx.1 (by omega);refine⟨hw.2.1,λi=>?_⟩;rw [hw.2.2 i,h.2 i];unfold zA;simp
theorem LS{k:Nat}{m:ab}(hC:1≤mC m/\mC m≤5){r:List (List Int)}(hk:1000 < k)(hr:r.length≤1000)(hl:∀l∈r,l.length≤1000):jM k m r=some (mF (mC m) r):=by
 unfold jM mF;by_cases h3:3 < r.length
 .rw [if_pos (by omega),if_pos h3]
 .rw [if_neg (by omega),if_neg h3,Gm hC (by omega) hr λl hh=>⟨by have:=hl l hh;omega,hl l hh⟩];rcases MS hC.2 r.flatten with⟨e,h1,h2⟩ |⟨s,t,h1,h2,_⟩
  .rw [h1,h2];exact mr
  .rw [h1,h2];exact kh
end Go.Proofs.YthnacobbednnbaaGreat
set_option linter.unusedVariables false
set_option linter.unusedSimpArgs false
namespace Go.Proofs.YthnacobbednnbaaGreat
open K Go Go.Proofs
theorem s4:∀(n:Nat) (l:List Int),l.Nodup->(∀x∈l,0≤x/\x < (n:Int))->l.length≤n
 |0,l,_,h=>by
  cases l with
  |nil=>simp
  |cons x l=>have:=h x (by simp);omega
 |n+1,l,hn,h=>by
  have h1:=s4 n (l.erase (n:Int)) (hn.erase _) (λx hx=>by
   have h2:=(Nodup.mem_erase_iff hn).1 hx
   have:=h x h2.2
   have:=h2.1
   omega)
  have:l.length≤(l.erase (n:Int)).length+1:=by rw [length_erase];split <;> omega
  omega
theorem Tv{C:Int}{s:List Int}{x:Int}(h:ue C s x=none):(0≤x/\x < C)/\x∉s:=by
 unfold ue at h;split at h
 .cases h
 .rename_i h';split at h
  .cases h
  .rename_i h2;exact⟨Decidable.not_not.1 h',h2⟩
def Mt(C:Int)(s:List Int):Prop:=s.Nodup/\∀x∈s,0≤x/\x < C
theorem Mt.add{C:Int}{s:List Int}{x:Int}(h:Mt C s)(hb:ue C s x=none):Mt C (zA s x):=by
 have:=Tv hb;refine⟨?_,λy hy=>?_⟩
 .unfold zA;rw [nodup_append];exact⟨h.1,by simp,λa ha b hb e=>by rw [List.mem_singleton.1 hb] at e;exact this.2 (e▸ha)⟩
 .rcases List.mem_append.1 hy with hy |hy
  .exact h.2 y hy
  .rw [List.mem_singleton.1 hy];exact this.1
theorem Mt.len{C:Int}{s:List Int}(hC:0≤C/\C≤5)(h:Mt C s):s.length≤5:=by
 have:=s4 C.toNat s h.1 λx hx=>⟨(h.2 x hx).1,by have:=(h.2 x hx).2;omega⟩;omega
theorem CV{k:Nat}{m:ab}(hC:1≤mC m/\mC m≤5){r:List (List Int)}{y:List Int×Int}{l:List Int}(hy:aG r y.2=some l)(h6:10≤k)(hk:l.length < k)(hl:l.length≤1000){s:List Int}(hs:Mt (mC m) s):
 dL k m r y k (s,0)=some (wk (ue (mC m)) zA l s):=by
 have key:=jr (T:=List Int×Int) (f:=dL k m r y) l (λ(s:List Int) j=>(s,j)) (λs _ x=>match ue (mC m) s x with |some e=>Except.error e |none=>.ok (zA s x)) (λ_ s=>Mt (mC m) s) (λr=>some r)
  (λn s j hj hs=>by
   have hck:ck ((j:Int)+1)=some ((j:Int)+1):=bY (by omega) (by omega);have h5:=hs.len ⟨by omega,hC.2⟩;refine⟨?_,λs' e=>?_⟩
   .simp only [dL,hy,Int.ofNat_lt,hj,if_true,cu hj,bs,I1 hC];generalize l[j]=x;by_cases h:0≤x/\x < mC m
    .have eb:ue (mC m) s x=if x∈s then some 4 else none:=by unfold ue;rw [if_neg (λhn=>hn h)]
     rw [eb];simp only [h,and_self,decide_true,not_true_eq_false,if_false,yz (k:=k) (l:=s) (x:=x) (by omega) (by omega),bs];by_cases h2:x∈s
     .simp only [h2,decide_true,if_true]
     .have hok:bS (bi (length s+length [x]))=some ():=dh (by simp [bi];omega);simp only [h2,decide_false,Bool.false_eq_true,if_false,hok,bs,hck];rfl
    .have eb:ue (mC m) s x=some 3:=by unfold ue;rw [if_pos h]
     rw [eb];simp only [h,decide_false,Bool.false_eq_true,not_false_eq_true,if_true]
   .cases e2:ue (mC m) s l[j] with
    |some c=>rw [e2] at e;cases e
    |none=>rw [e2] at e;cases e;exact hs.add e2)
  (λn s _=>by simp [dL,hy,bs]) (n:=k) (s0:=s) hk hs
 exact key.trans (congrArg some (uy l 0 s))
theorem Ld{k:Nat}{m:ab}(hC:1≤mC m/\mC m≤5){r:List (List Int)}(hk:1000 < k)(hr:r.length≤1000)(hl:∀l∈r,l.length≤1000):jC k m r=some (mF (mC m) r):=by
 unfold jC mF;by_cases h3:3 < r.length
 .rw [if_pos (by omega),if_pos h3]
 .rw [if_neg (by omega),if_neg h3]
  have key:=jr (T:=List Int×Int) (f:=dM k m r) r (λ(s:List Int) j=>(s,j)) (λs _ l=>wk (ue (mC m)) zA l s) (λ_ s=>Mt (mC m) s) (λx=>some (match x with | .error e=>Except.error e | .ok _=>.ok ()))
   (λn s j hj hs=>by
    have hck:ck ((j:Int)+1)=some ((j:Int)+1):=bY (by omega) (by omega);have hlj:=hl _ (List.getElem_mem hj);refine⟨?_,λs' e=>yo (Mt (mC m)) (λs x=>Mt.add) _ _ _ hs e⟩;have hg:aG r ((s,(j:Int)).2)=some r[j]:=cu hj;simp only [dM,Int.ofNat_lt,hj,if_true];rw [CV hC hg (by omega) (by omega) hlj hs];cases wk (ue (mC m)) zA r[j] s with
    |error e=>rw [mr]
    |ok s'=>rw [kh,hck,bs])
   (λn s _=>by simp [dM]) (n:=k) (s0:=[]) (by omega) ⟨nodup_nil,λx hx=>by cases hx⟩
  rw [show dM k m r k ([],0)=_ from key,ym];cases wk (ue (mC m)) zA r.flatten [] with
  |error e=>exact mr
  |ok s=>exact kh
theorem Hn{C:Int}:∀{l s t:List Int},wk (ue C) zA l s= .ok t->t=s++l
 |[],s,t,e=>by cases e;simp
 |x::l,s,t,e=>by
  rw [wk] at e
  cases hb:ue C s x with
  |some c=>rw [hb] at e;cases e
  |none=>
   rw [hb] at e
   have:=Hn e
   rw [this]
   simp [zA]
theorem Eb{C:Int}:∀{l s:List Int},(s++l).Nodup->(∀x∈l,0≤x/\x < C)->wk (ue C) zA l s= .ok (s++l)
 |[],s,_,_=>by simp [wk]
 |x::l,s,hn,hr=>by
  have hx:x∉s:=by
   intro h;rw [nodup_append] at hn;exact hn.2.2 x h x (mem_cons_self) rfl
  have hb:ue C s x=none:=by
   unfold ue;rw [if_neg (λh=>h (hr x mem_cons_self)),if_neg hx]
  rw [wk,hb];simp only [];rw [Eb (s:=zA s x) (by unfold zA;simpa using hn) λy hy=>hr y (mem_cons_of_mem _ hy)];unfold zA;simp
theorem xX{C:Int}{r:List (List Int)}:mF C r=0↔r.length≤3/\r.flatten.Nodup/\∀x∈r.flatten,0≤x/\x < C:=by
 unfold mF;constructor
 .intro h;split at h
  .cases h
  .cases e:wk (ue C) zA r.flatten [] with
   |ok t=>
    have h1:=yo (Mt C) (λs x=>Mt.add) _ _ _ ⟨nodup_nil,λx hx=>by cases hx⟩ e;have h2:=Hn e;rw [nil_append] at h2;subst h2;exact⟨by omega,h1.1,h1.2⟩
   |error c=>
    rw [e] at h;exfalso
    have:∀(l s:List Int),wk (ue C) zA l s≠.error 0:=by
     intro l
     induction l with
     |nil=>intro s h;cases h
     |cons x l ih=>
      intro s h;rw [wk] at h;cases hb:ue C s x with
      |some c=>
       rw [hb] at h;obtain rfl:c=0:=by injection h
       unfold ue at hb;split at hb
       .cases hb
       .split at hb <;> cases hb
      |none=>rw [hb] at h;exact ih _ h
    exact this _ _ (by rw [e,show c=0 from h])
 .rintro⟨h1,h2,h3⟩;rw [if_neg (by omega),Eb (by simpa using h2) h3]
def xI(m:ab)(g:aQ):Int:=if(0≤g.1/\g.1 < mC m)/\0≤g.2.1/\g.2.1≤(mD m).length then 0 else 3
theorem PV{k:Nat}{m:ab}(hC:1≤mC m/\mC m≤5){g:aQ}:gI k m g=some (xI m g):=by
 have hc:ck (m.1 - 1)=some (m.1 - 1):=Tt hC;unfold gI xI;have e:decide (0≤g.1/\g.1≤m.1 - 1)=decide (0≤g.1/\g.1 < mC m):=decide_eq_decide.2 ⟨λh=>⟨h.1,by show g.1 < m.1;omega⟩,λh=>⟨h.1,by have:g.1 < m.1:=h.2;omega⟩⟩;rw [hc,bs,lJ,bs,e];by_cases h1:0≤g.1/\g.1 < mC m
 .by_cases h2:0≤g.2.1/\g.2.1≤(mD m).length <;> simp [h1,h2,lJ]
 .simp [h1]
theorem Pl{k:Nat}{m:ab}(hC:1≤mC m/\mC m≤5){g:aQ}:gC k m g=some (xI m g):=by
 unfold gC xI;rw [I1 hC,bs];by_cases h1:0≤g.1/\g.1 < mC m
 .by_cases h2:0≤g.2.1/\g.2.1≤(mD m).length <;> simp [h1,h2,Dt]
 .simp [h1]
def iL{α:Type}(f:α->Int)(l:List α):Int:=((l.map f).find? λe=>decide (e≠0)).getD 0
theorem nH{α:Type}(f:α->Int):∀(l:List α) (j:Nat),dR (λ(_:Unit) _ x=>if¬(f x=0) then Except.error (f x) else .ok ()) j l ()=if iL f l=0 then .ok () else .error (iL f l)
 |[],j=>by simp [dR,iL]
 |x::l,j=>by
  rw [dR]
  by_cases h:f x=0
  .
   have:iL f (x::l)=iL f l:=by simp [iL,h]
   rw [this]
   simp only [h,not_true_eq_false,if_false]
   exact nH f l (j+1)
  .
   have:iL f (x::l)=f x:=by simp [iL,h]
   rw [this]
   simp [h]
theorem qd{α:Type}{f:α->Int}{l:List α}:iL f l=0↔∀x∈l,f x=0:=by
 induction l with
 |nil=>simp [iL]
 |cons x l ih=>
  by_cases h:f x=0
  .have:iL f (x::l)=iL f l:=by simp [iL,h]
   rw [this,ih];simp [h]
  .have:iL f (x::l)=f x:=by simp [iL,h]
   rw [this];simp [h]
structure Sm(m:ab):Prop where
 d:(mD m).length≤1000
 r:∀r∈mD m,r.length≤1000/\∀l∈r,l.length≤1000
 g:(mG m).length≤1000
def na(m:ab):Int:=
 if¬((1≤mC m/\mC m≤5)/\(0≤mW m/\mW m≤3)/\(0≤mS m/\mS m≤3)/\1≤mH m/\mH m≤3) then 1
 else if(mD m).length=0 then 7 else if 6 < (mD m).length then 6 else if¬(iL (mF (mC m)) (mD m)=0) then iL (mF (mC m)) (mD m)
 else if 8 < (mG m).length then 6 else iL (xI m) (mG m)
theorem LU{k:Nat}{m:ab}(hs:Sm m)(hk:1000 < k):nE k m=some (na m):=by
 unfold nE na;simp only [lJ,bs];by_cases h1:1≤mC m/\mC m≤5
 .by_cases h2:0≤mW m/\mW m≤3
  .by_cases h3:0≤mS m/\mS m≤3
   .by_cases h4:1≤mH m/\mH m≤3
    .have e1:(1≤m.1/\m.1≤5)=True:=eq_true h1;have e2:(0≤m.2.1/\m.2.1≤3)=True:=eq_true h2;have e3:(0≤m.2.2.1/\m.2.2.1≤3)=True:=eq_true h3;have e4:(1≤m.2.2.2.1/\m.2.2.2.1≤3)=True:=eq_true h4;simp only [e1,e2,e3,e4,decide_true,not_true_eq_false,if_false,Bool.not_true,Bool.false_eq_true,bs,and_self,h1,h2,h3,h4];by_cases h5:(mD m).length=0
     .rw [if_pos (show((m.2.2.2.2.1.length:Int) < 1) by have:m.2.2.2.2.1.length=0:=h5;omega),if_pos h5]
     .rw [if_neg (show¬((m.2.2.2.2.1.length:Int) < 1) by have:m.2.2.2.2.1.length≠0:=h5;omega),if_neg h5];by_cases h6:6 < (mD m).length
      .rw [if_pos (show((6:Int) < (m.2.2.2.2.1.length:Int)) by have:6 < m.2.2.2.2.1.length:=h6;omega),if_pos h6]
      .rw [if_neg (show¬((6:Int) < (m.2.2.2.2.1.length:Int)) by have:¬6 < m.2.2.2.2.1.length:=h6;omega),if_neg h6]
       have key:=jr (f:=fx k m) (mD m) (λ(_:Unit) j=>j) (λ_ _ x=>if¬(mF (mC m) x=0) then Except.error (mF (mC m) x) else .ok ()) (λ_ _=>True) (λr=>some r)
        (λn s j hj _=>by
         have hck:ck ((j:Int)+1)=some ((j:Int)+1):=bY (by omega) (by omega);have hr:=hs.r _ (List.getElem_mem hj);refine⟨?_,λ_ _=>trivial⟩;have hj':(j:Int) < (m.2.2.2.2.1.length:Int):=Int.ofNat_lt.2 hj;have hg:aG m.2.2.2.2.1 (j:Int)=some (mD m)[j]:=cu hj;simp only [fx,hj',if_true,hg,bs,LS h1 hk hr.1 hr.2];by_cases e:mF (mC m) (mD m)[j]=0 <;> simp [e,hck])
        (λn s _=>by
         unfold fx;rw [if_neg (Int.lt_irrefl _)]) (n:=k) (s0:=()) (by have:=hs.d;omega) trivial
       rw [show fx k m k 0=_ from key,nH];by_cases h7:iL (mF (mC m)) (mD m)=0
       .rw [if_pos h7,kh,show(if¬(iL (mF (mC m)) (mD m)=0) then iL (mF (mC m)) (mD m) else if 8 < (mG m).length then 6 else iL (xI m) (mG m))=(if 8 < (mG m).length then 6 else iL (xI m) (mG m)) from if_neg (λhn=>hn h7)];by_cases h8:8 < (mG m).length
        .rw [if_pos (show((8:Int) < (m.2.2.2.2.2.length:Int)) by have:8 < m.2.2.2.2.2.length:=h8;omega),if_pos h8]
        .rw [if_neg (show¬((8:Int) < (m.2.2.2.2.2.length:Int)) by have:¬8 < m.2.2.2.2.2.length:=h8;omega),if_neg h8]
         have key:=jr (f:=fu k m) (mG m) (λ(_:Unit) j=>j) (λ_ _ x=>if¬(xI m x=0) then Except.error (xI m x) else .ok ()) (λ_ _=>True) (λr=>some r)
          (λn s j hj _=>by
           have hck:ck ((j:Int)+1)=some ((j:Int)+1):=bY (by omega) (by omega);refine⟨?_,λ_ _=>trivial⟩;have hj':(j:Int) < (m.2.2.2.2.2.length:Int):=Int.ofNat_lt.2 hj;have hg:aG m.2.2.2.2.2 (j:Int)=some (mG m)[j]:=cu hj;simp only [fu,hj',if_true,hg,bs,PV h1];by_cases e:xI m (mG m)[j]=0 <;> simp [e,hck])
          (λn s _=>by
           unfold fu;rw [if_neg (Int.lt_irrefl _)]) (n:=k) (s0:=()) (by have:=hs.g;omega) trivial
         rw [show fu k m k 0=_ from key,nH];by_cases h9:iL (xI m) (mG m)=0
         .rw [if_pos h9,kh,h9]
         .rw [if_neg h9,mr]
       .rw [if_neg h7,mr,if_pos h7]
    .have e1:(1≤m.1/\m.1≤5)=True:=eq_true h1;have e2:(0≤m.2.1/\m.2.1≤3)=True:=eq_true h2;have e3:(0≤m.2.2.1/\m.2.2.1≤3)=True:=eq_true h3;have e4:(1≤m.2.2.2.1/\m.2.2.2.1≤3)=False:=eq_false h4;refine Eq.trans ?_ (congrArg some (if_pos λhh=>h4 hh.2.2.2).symm);simp [e1,e2,e3,e4]
   .have e1:(1≤m.1/\m.1≤5)=True:=eq_true h1;have e2:(0≤m.2.1/\m.2.1≤3)=True:=eq_true h2;have e3:(0≤m.2.2.1/\m.2.2.1≤3)=False:=eq_false h3;refine Eq.trans ?_ (congrArg some (if_pos λhh=>h3 hh.2.2.1).symm);simp [e1,e2,e3]
  .have e1:(1≤m.1/\m.1≤5)=True:=eq_true h1;have e2:(0≤m.2.1/\m.2.1≤3)=False:=eq_false h2;refine Eq.trans ?_ (congrArg some (if_pos λhh=>h2 hh.2.1).symm);simp [e1,e2]
 .have e1:(1≤m.1/\m.1≤5)=False:=eq_false h1;refine Eq.trans ?_ (congrArg some (if_pos λhh=>h1 hh.1).symm);simp [e1]
theorem Le{k:Nat}{m:ab}(hs:Sm m)(hk:1000 < k):nA k m=some (na m):=by
 unfold nA na;simp only [tB,bs];by_cases h1:1≤mC m/\mC m≤5
 .by_cases h2:0≤mW m/\mW m≤3
  .by_cases h3:0≤mS m/\mS m≤3
   .by_cases h4:1≤mH m/\mH m≤3
    .have e1:(1≤m.1/\m.1≤5)=True:=eq_true h1;have e2:(0≤m.2.1/\m.2.1≤3)=True:=eq_true h2;have e3:(0≤m.2.2.1/\m.2.2.1≤3)=True:=eq_true h3;have e4:(1≤m.2.2.2.1/\m.2.2.2.1≤3)=True:=eq_true h4;simp only [e1,e2,e3,e4,decide_true,not_true_eq_false,if_false,Bool.not_true,Bool.false_eq_true,bs,and_self,h1,h2,h3,h4];by_cases h5:(mD m).length=0
     .rw [if_pos (show((m.2.2.2.2.1.length:Int)=0) by have:m.2.2.2.2.1.length=0:=h5;omega),if_pos h5]
     .rw [if_neg (show¬((m.2.2.2.2.1.length:Int)=0) by have:m.2.2.2.2.1.length≠0:=h5;omega),if_neg h5];by_cases h6:6 < (mD m).length
      .rw [if_pos (show((6:Int) < (m.2.2.2.2.1.length:Int)) by have:6 < m.2.2.2.2.1.length:=h6;omega),if_pos h6]
      .rw [if_neg (show¬((6:Int) < (m.2.2.2.2.1.length:Int)) by have:¬6 < m.2.2.2.2.1.length:=h6;omega),if_neg h6]
       have key:=jr (f:=fg k m) (mD m) (λ(_:Unit) j=>j) (λ_ _ x=>if¬(mF (mC m) x=0) then Except.error (mF (mC m) x) else .ok ()) (λ_ _=>True) (λr=>some r)
        (λn s j hj _=>by
         have hck:ck ((j:Int)+1)=some ((j:Int)+1):=bY (by omega) (by omega);have hr:=hs.r _ (List.getElem_mem hj);refine⟨?_,λ_ _=>trivial⟩;have hj':(j:Int) < (m.2.2.2.2.1.length:Int):=Int.ofNat_lt.2 hj;have hg:aG m.2.2.2.2.1 (j:Int)=some (mD m)[j]:=cu hj;simp only [fg,hj',if_true,hg,bs,Ld h1 hk hr.1 hr.2];by_cases e:mF (mC m) (mD m)[j]=0 <;> simp [e,hck])
        (λn s _=>by
         unfold fg;rw [if_neg (Int.lt_irrefl _)]) (n:=k) (s0:=()) (by have:=hs.d;omega) trivial
       rw [show fg k m k 0=_ from key,nH];by_cases h7:iL (mF (mC m)) (mD m)=0
       .rw [if_pos h7,kh,show(if¬(iL (mF (mC m)) (mD m)=0) then iL (mF (mC m)) (mD m) else if 8 < (mG m).length then 6 else iL (xI m) (mG m))=(if 8 < (mG m).length then 6 else iL (xI m) (mG m)) from if_neg (λhn=>hn h7)];by_cases h8:8 < (mG m).length
        .rw [if_pos (show((8:Int) < (m.2.2.2.2.2.length:Int)) by have:8 < m.2.2.2.2.2.length:=h8;omega),if_pos h8]
        .rw [if_neg (show¬((8:Int) < (m.2.2.2.2.2.length:Int)) by have:¬8 < m.2.2.2.2.2.length:=h8;omega),if_neg h8]
         have key:=jr (f:=ff k m) (mG m) (λ(_:Unit) j=>j) (λ_ _ x=>if¬(xI m x=0) then Except.error (xI m x) else .ok ()) (λ_ _=>True) (λr=>some r)
          (λn s j hj _=>by
           have hck:ck ((j:Int)+1)=some ((j:Int)+1):=bY (by omega) (by omega);refine⟨?_,λ_ _=>trivial⟩;have hj':(j:Int) < (m.2.2.2.2.2.length:Int):=Int.ofNat_lt.2 hj;have hg:aG m.2.2.2.2.2 (j:Int)=some (mG m)[j]:=cu hj;simp only [ff,hj',if_true,hg,bs,Pl h1];by_cases e:xI m (mG m)[j]=0 <;> simp [e,hck])
          (λn s _=>by
           unfold ff;rw [if_neg (Int.lt_irrefl _)]) (n:=k) (s0:=()) (by have:=hs.g;omega) trivial
         rw [show ff k m k 0=_ from key,nH];by_cases h9:iL (xI m) (mG m)=0
         .rw [if_pos h9,kh,h9]
         .rw [if_neg h9,mr]
       .rw [if_neg h7,mr,if_pos h7]
    .have e1:(1≤m.1/\m.1≤5)=True:=eq_true h1;have e2:(0≤m.2.1/\m.2.1≤3)=True:=eq_true h2;have e3:(0≤m.2.2.1/\m.2.2.1≤3)=True:=eq_true h3;have e4:(1≤m.2.2.2.1/\m.2.2.2.1≤3)=False:=eq_false h4;refine Eq.trans ?_ (congrArg some (if_pos λhh=>h4 hh.2.2.2).symm);simp [e1,e2,e3,e4]
   .have e1:(1≤m.1/\m.1≤5)=True:=eq_true h1;have e2:(0≤m.2.1/\m.2.1≤3)=True:=eq_true h2;have e3:(0≤m.2.2.1/\m.2.2.1≤3)=False:=eq_false h3;refine Eq.trans ?_ (congrArg some (if_pos λhh=>h3 hh.2.2.1).symm);simp [e1,e2,e3]
  .have e1:(1≤m.1/\m.1≤5)=True:=eq_true h1;have e2:(0≤m.2.1/\m.2.1≤3)=False:=eq_false h2;refine Eq.trans ?_ (congrArg some (if_pos λhh=>h2 hh.2.1).symm);simp [e1,e2]
 .have e1:(1≤m.1/\m.1≤5)=False:=eq_false h1;refine Eq.trans ?_ (congrArg some (if_pos λhh=>h1 hh.1).symm);simp [e1]
end Go.Proofs.YthnacobbednnbaaGreat
set_option linter.unusedVariables false
set_option linter.unusedSimpArgs false
namespace Go.Proofs.YthnacobbednnbaaGreat
open K Go Go.Proofs
theorem vt{r:List (List Int)}{l:List Int}(h:r.flatten.Nodup)(hl:l∈r):l.Nodup:=by
 obtain⟨s,t,rfl⟩:=List.append_of_mem hl;rw [List.flatten_append,flatten_cons,nodup_append] at h;have:=h.2.1;rw [nodup_append] at this;exact this.1
theorem KH{σ:Type}{bad:σ->Int->Option Int}{add:σ->Int->σ}{x:Int}{l:List Int}{s:σ}{e:Int}(h:bad s x=some e):wk bad add (x::l) s= .error e:=by rw [wk,h]
theorem KE{σ:Type}{bad:σ->Int->Option Int}{add:σ->Int->σ}{x:Int}{l:List Int}{s:σ}(h:bad s x=none):wk bad add (x::l) s=wk bad add l (add s x):=by rw [wk,h]
theorem Vd.of{m:ab}(h:na m=0):Vd m:=by
 unfold na at h;by_cases h1:(1≤mC m/\mC m≤5)/\(0≤mW m/\mW m≤3)/\(0≤mS m/\mS m≤3)/\1≤mH m/\mH m≤3
 .rw [if_neg (λhn=>hn h1)] at h;by_cases h2:(mD m).length=0
  .rw [if_pos h2] at h;cases h
  .rw [if_neg h2] at h;by_cases h3:6 < (mD m).length
   .rw [if_pos h3] at h;cases h
   .rw [if_neg h3] at h;by_cases h4:iL (mF (mC m)) (mD m)=0
    .rw [if_neg (λhn=>hn h4)] at h;by_cases h5:8 < (mG m).length
     .rw [if_pos h5] at h;cases h
     .rw [if_neg h5] at h;have hd:=λr hr=>xX.1 (qd.1 h4 r hr);have hx:∀r∈mD m,∀l∈r,∀x∈l,0≤x/\x < mC m:=λr hr l hl x hx=>(hd r hr).2.2 x (List.mem_flatten.2 ⟨l,hl,hx⟩)
      exact⟨h1.1.1,h1.1.2,h1.2.1.1,h1.2.1.2,h1.2.2.1.1,h1.2.2.1.2,h1.2.2.2.1,h1.2.2.2.2,by omega,by omega,λr hr=>(hd r hr).1,λr hr l hl=>by
       have hn:l.Nodup:=vt (hd r hr).2.1 hl;have:=s4 (mC m).toNat l hn λx hxx=>by have:=hx r hr l hl x hxx;omega
       omega,hx,λr hr=>(hd r hr).2.1,by omega,λg hg=>by
        have:=qd.1 h g hg;unfold xI at this;split at this
        .rename_i hh;exact⟨hh.1.1,hh.1.2,hh.2.1,hh.2.2⟩
        .cases this⟩
    .rw [if_pos h4] at h;exact absurd h h4
 .rw [if_pos h1] at h;cases h
theorem Vd.chk{m:ab}(v:Vd m):na m=0:=by
 unfold na;have h1:(1≤mC m/\mC m≤5)/\(0≤mW m/\mW m≤3)/\(0≤mS m/\mS m≤3)/\1≤mH m/\mH m≤3:=⟨⟨v.c1,v.c5⟩,⟨v.w0,v.w3⟩,⟨v.s0,v.s3⟩,v.h1,v.h3⟩
 have h4:iL (mF (mC m)) (mD m)=0:=qd.2 λr hr=>xX.2 ⟨v.r3 r hr,v.nd r hr,λx hx=>by
  obtain⟨l,hl,hx⟩:=List.mem_flatten.1 hx;exact v.x5 r hr l hl x hx⟩
 have h9:iL (xI m) (mG m)=0:=qd.2 λg hg=>by
  have:=v.gl g hg;unfold xI;rw [if_pos ⟨⟨this.1,this.2.1⟩,this.2.2⟩]
 have d1:=v.d1;have d6:=v.d6;have g8:=v.g8;rw [if_neg (λhn=>hn h1),if_neg (by omega),if_neg (by omega),if_neg (λhn=>hn h4),if_neg (by omega),h9]
theorem Vd.sm{m:ab}(v:Vd m):Sm m:=⟨by have:=v.d6;omega,λr hr=>⟨by have:=v.r3 r hr;omega,λl hl=>by have:=v.l5 r hr l hl;omega⟩,by have:=v.g8;omega⟩
def wq(C:Int)(p:Option Int)(x:Int):Option Int:=if¬(0≤x/\x < C) then some 3 else if p.any (λy=>decide (x≤y)) then some 5 else none
def Nq(C:Int)(p:Option Int×Int)(x:Int):Option Int:=wq C p.1 x
def QU(p:Option Int×Int)(x:Int):Option Int×Int:=(some x,wv p.2 x)
def NA(p:Option Int)(x:Int):Option Int:=some x
def zq(C:Int)(b:List Int):Int:=match wk (wq C) NA b none with | .error e=>e | .ok _=>0
def fK(b:List Int):Int:=b.foldl wv 0
theorem OC{C:Int}{p:Option Int}{x:Int}(h:wq C p x=none):(0≤x/\x < C)/\p.any (λy=>decide (x≤y))=false:=by
 unfold wq at h;split at h
 .cases h
 .rename_i h';split at h
  .cases h
  .rename_i h2;exact⟨Decidable.not_not.1 h',by simpa using h2⟩
theorem EW{C:Int}:∀(b:List Int) (p:Option Int) (s:Int),(∃e,wk (Nq C) QU b (p,s)= .error e/\wk (wq C) NA b p= .error e)\/∃q,wk (Nq C) QU b (p,s)= .ok (q,b.foldl wv s)/\wk (wq C) NA b p= .ok q
 |[],p,s=>.inr ⟨p,rfl,rfl⟩
 |x::b,p,s=>by
  cases e:wq C p x with
  |some c=>exact .inl ⟨c,KH e,KH e⟩
  |none=>
   rw [KE (bad:=Nq C) (s:=(p,s)) (x:=x) e,KE e]
   exact EW (C:=C) b (some x) (wv s x)
theorem AU{k:Nat}{m:ab}(hC:1≤mC m/\mC m≤5){b:List Int}(hk:b.length < k)(hb:b.length≤1000):
 fo k m b k (0,0)=some (if zq (mC m) b=0 then .ok (fK b) else .error (none,0,zq (mC m) b)):=by
 have key:=jr (T:=Int×Int) (f:=fo k m b) b (λ(s:Option Int×Int) j=>(s.2,j)) (λs _ x=>match Nq (mC m) s x with |some e=>Except.error e |none=>.ok (QU s x)) (λj s=>km s.2/\s.1=if j=0 then none else b[j-1]?) (λr=>some (match r with | .error e=>Except.error (none,0,e) | .ok s=>.ok s.2))
  (λn s j hj hs=>by
   have hck:ck ((j:Int)+1)=some ((j:Int)+1):=bY (by omega) (by omega);have hc:ck (m.1 - 1)=some (m.1 - 1):=Tt hC;refine⟨?_,λs' e=>?_⟩
   .simp only [fo,Int.ofNat_lt,hj,if_true,cu hj,bs,hc,lJ];generalize b[j]=x;rw [show Nq (mC m) s x=wq (mC m) s.1 x from rfl];by_cases h:0≤x/\x < mC m
    .have h':0≤x/\x≤m.1 - 1:=⟨h.1,by have:x < m.1:=h.2;omega⟩;have eb:wq (mC m) s.1 x=if s.1.any (λy=>decide (x≤y)) then some 5 else none:=by unfold wq;rw [if_neg (λhn=>hn h)]
     have ep:(if(0:Int) < (j:Int) then((ck ((j:Int) - 1)).bind λx12=>(aG b x12).bind λx13=>some (decide (x≤x13))) else some false)=some (s.1.any λy=>decide (x≤y)):=by
      rw [hs.2];by_cases h0:j=0
      .subst h0;simp
      .have c1:ck ((j:Int) - 1)=some ((j - 1:Nat):Int):=by rw [bY (by omega) (by omega),show((j:Int) - 1)=((j - 1:Nat):Int) by omega]
       rw [if_pos (by omega),c1,bs,cu (by omega),bs,if_neg h0,List.getElem?_eq_getElem (by omega)];rfl
     rw [eb];simp only [h',and_self,decide_true,not_true_eq_false,if_false,bs];rw [ep,bs];cases s.1.any λy=>decide (x≤y) with
     |true=>simp only [if_true]
     |false=>
      simp only [Bool.false_eq_true,if_false,(nP (k:=k) hs.1 h.1 (by omega)).1,bs,hck];rfl
    .have h':¬(0≤x/\x≤m.1 - 1):=λhh=>h ⟨hh.1,by show x < m.1;omega⟩;have eb:wq (mC m) s.1 x=some 3:=by unfold wq;rw [if_pos h]
     rw [eb];simp only [h',decide_false,Bool.false_eq_true,not_false_eq_true,if_true,bs]
   .cases e2:Nq (mC m) s b[j] with
    |some c=>rw [e2] at e;cases e
    |none=>
     rw [e2] at e;cases e;have hx:=OC e2;exact⟨(nP (k:=0) hs.1 hx.1.1 (by omega)).2.1,by show some b[j]=if j+1=0 then none else b[j+1 - 1]?;rw [if_neg (by omega)];simp [List.getElem?_eq_getElem hj]⟩)
  (λn s _=>by simp [fo]) (n:=k) (s0:=(none,0)) hk ⟨xB,rfl⟩
 rw [show fo k m b k (0,0)=_ from key]
 have e1:dR (λ(s:Option Int×Int) _ x=>match Nq (mC m) s x with |some e=>Except.error e |none=>.ok (QU s x)) 0 b (none,0)=wk (Nq (mC m)) QU b (none,0):=uy (bad:=Nq (mC m)) (add:=QU) b 0 (none,0)
 rw [e1]
 unfold zq
 have z:∀(l:List Int) (p:Option Int),wk (wq (mC m)) NA l p≠.error 0:=by
  intro l
  induction l with
  |nil=>intro p h;cases h
  |cons x l ih=>
   intro p h;rw [wk] at h;cases hb:wq (mC m) p x with
   |some c=>
    rw [hb] at h;obtain rfl:c=0:=by injection h
    unfold wq at hb;split at hb
    .cases hb
    .split at hb <;> cases hb
   |none=>rw [hb] at h;exact ih _ h
 rcases EW (C:=mC m) b none 0 with⟨e,h1,h2⟩ |⟨q,h1,h2⟩
 .
  rw [h1,h2];simp only [];rw [if_neg (λh0=>z b none (by rw [h2,h0]))]
 .
  rw [h1,h2];rfl
end Go.Proofs.YthnacobbednnbaaGreat
set_option linter.unusedVariables false
set_option linter.unusedSimpArgs false
namespace Go.Proofs.YthnacobbednnbaaGreat
open K Go Go.Proofs
theorem Aj{C:Int}(hC:C≤5):∀(b:List Int) (s:Int),km s->(∀x∈b,0≤x/\x < C)->km (b.foldl wv s)/\∀i:Nat,eg (b.foldl wv s) i↔eg s i\/(i:Int)∈b
 |[],s,hs,_=>⟨hs,λi=>by simp⟩
 |x::b,s,hs,hb=>by
  have hx:=hb x mem_cons_self
  have hw:=nP (k:=0) hs hx.1 (by omega)
  have:=Aj hC b (wv s x) hw.2.1 λy hy=>hb y (mem_cons_of_mem _ hy)
  refine⟨this.1,λi=>?_⟩
  show eg (b.foldl wv (wv s x)) i↔_
  rw [this.2 i,hw.2.2 i,mem_cons,or_assoc]
structure Bg(C:Int)(b:List Int):Prop where
 rng:∀x∈b,0≤x/\x < C
 asc:b.Pairwise (· < ·)
theorem Cj{C:Int}:∀{b:List Int} {p:Option Int},(∃q,wk (wq C) NA b p= .ok q)↔(∀x∈b,0≤x/\x < C)/\b.Pairwise (· < ·)/\∀y,p=some y->∀x∈b.head?,y < x
 |[],p=>by simp [wk]
 |x::b,p=>by
  cases e:wq C p x with
  |some c=>
   rw [KH e]
   constructor
   .
    rintro⟨q,h⟩;cases h
   .
    rintro⟨h1,h2,h3⟩
    exfalso
    unfold wq at e
    rw [if_neg (λhn=>hn (h1 x mem_cons_self))] at e
    cases p with
    |none=>cases e
    |some y=>
     have:=h3 y rfl x (by simp)
     rw [if_neg (by simp;omega)] at e
     cases e
  |none=>
   have hx:=OC e
   rw [KE e,Cj (b:=b) (p:=NA p x)]
   constructor
   .
    rintro⟨h1,h2,h3⟩
    refine⟨λy hy=>?_,?_,λy hy z hz=>?_⟩
    .
     rcases mem_cons.1 hy with rfl |hy
     .
      exact hx.1
     .
      exact h1 y hy
    .
     rw [pairwise_cons]
     refine⟨λy hy=>?_,h2⟩
     cases b with
     |nil=>cases hy
     |cons z b=>
      have hz:=h3 x rfl z (by simp)
      rcases mem_cons.1 hy with rfl |hy
      .
       exact hz
      .
       have:=(pairwise_cons.1 h2).1 y hy;omega
    .
     have e2:=hx.2
     rw [hy] at e2
     simp at e2
     simp at hz
     omega
   .
    rintro⟨h1,h2,h3⟩
    rw [pairwise_cons] at h2
    refine⟨λy hy=>h1 y (mem_cons_of_mem _ hy),h2.2,λy hy z hz=>?_⟩
    obtain rfl:x=y:=by simpa [NA] using hy
    exact h2.1 z (mem_of_mem_head? hz)
theorem EX{C:Int}:∀{l:List Int} {p:Option Int},wk (wq C) NA l p≠.error 0
 |[],p,h=>by cases h
 |x::l,p,h=>by
  cases hb:wq C p x with
  |some c=>
   rw [KH hb] at h
   obtain rfl:c=0:=by injection h
   unfold wq at hb
   split at hb
   .
    cases hb
   .
    split at hb <;> cases hb
  |none=>rw [KE hb] at h;exact EX h
theorem GF{C:Int}{b:List Int}:zq C b=0↔Bg C b:=by
 unfold zq;constructor
 .intro h;cases e:wk (wq C) NA b none with
  |error c=>rw [e] at h;exact absurd (by rw [e,show c=0 from h]) (EX (C:=C) (l:=b) (p:=none))
  |ok q=>have:=Cj.1 ⟨q,e⟩;exact⟨this.1,this.2.1⟩
 .rintro⟨h1,h2⟩;obtain⟨q,e⟩:=(Cj (p:=none)).2 ⟨h1,h2,λy hy=>by cases hy⟩;rw [e]
theorem Bg.set{C:Int}(hC:C≤5){b:List Int}(h:Bg C b):km (fK b)/\∀c:Int,0≤c->sO (fK b) c=decide (c∈b):=by
 have:=Aj hC b 0 xB h.rng;refine⟨this.1,λc hc=>?_⟩;unfold sO;have e:((c.toNat:Nat):Int)=c:=by omega
 have h2:=this.2 c.toNat;rw [e] at h2;refine decide_eq_decide.2 ?_;show eg (b.foldl wv 0) c.toNat↔_;rw [h2];simp [eg]
def uJ(m:ab)(i:Nat):Int:=match i with |0=>mC m - 1 |1=>((mD m).length:Int) - 1 |_=>(mD m).length
def xH(n:Int)(l:List Int):Bool:=l.all λx=>decide (0≤x/\x≤n)
theorem qN{k:Nat}{m:ab}(v:Vd m){i:Nat}(hi:i < 3){l:List Int}(hk:l.length < k)(hl:l.length≤1000):
 dN k m (i:Int) l k 0=some (if xH (uJ m i) l then .ok () else .error (none,0,3)):=by
 have c1:=v.c1
 have c5:=v.c5
 have d6:=v.d6
 have d1:=v.d1
 have key:=jr (T:=Int) (f:=dN k m (i:Int) l) l (λ(_:Unit) j=>j) (λ_ _ x=>if 0≤x/\x≤uJ m i then .ok () else Except.error ((none,0,3):Option ab×Int×Int)) (λ_ _=>True) (λr=>some r)
  (λn s j hj _=>by
   have hck:ck ((j:Int)+1)=some ((j:Int)+1):=bY (by omega) (by omega);have hc:ck (m.1 - 1)=some (mC m - 1):=Tt ⟨c1,c5⟩;have hd:ck ((m.2.2.2.2.1.length:Int) - 1)=some (((mD m).length:Int) - 1):=bY (by show _≤((mD m).length:Int) - 1;omega) (by show((mD m).length:Int) - 1≤_;omega)
   have hg:aG [mC m - 1,((mD m).length:Int) - 1,((mD m).length:Int)] (i:Int)=some (uJ m i):=by
    have:i=0\/i=1\/i=2:=by omega
    rcases this with rfl |rfl |rfl <;> rfl
   refine⟨?_,λ_ _=>trivial⟩;simp only [dN,Int.ofNat_lt,hj,if_true,cu hj,bs,hc,hd];rw [show aG [mC m - 1,((mD m).length:Int) - 1,(m.2.2.2.2.1.length:Int)] (i:Int)=some (uJ m i) from hg,bs,lJ,bs];by_cases h:0≤l[j]/\l[j]≤uJ m i
   .rw [if_pos h];simp only [h,and_self,decide_true,not_true_eq_false,if_false,hck,bs]
   .rw [if_neg h];simp only [h,decide_false,Bool.false_eq_true,not_false_eq_true,if_true])
  (λn s _=>by simp [dN]) (n:=k) (s0:=()) hk trivial
 rw [show dN k m (i:Int) l k 0=_ from key]
 congr 1
 have:∀(l:List Int) (j:Nat),dR (λ(_:Unit) _ x=>if 0≤x/\x≤uJ m i then .ok () else Except.error ((none,0,3):Option ab×Int×Int)) j l ()=if xH (uJ m i) l then .ok () else .error (none,0,3):=by
  intro l
  induction l with
  |nil=>intro j;rfl
  |cons x l ih=>
   intro j;rw [dR];by_cases h:0≤x/\x≤uJ m i
   .rw [if_pos h];have:xH (uJ m i) (x::l)=xH (uJ m i) l:=by simp only [xH,all_cons,h,and_self,decide_true,Bool.true_and]
    rw [this];exact ih (j+1)
   .rw [if_neg h];have:xH (uJ m i) (x::l)=false:=by simp only [xH,all_cons,h,decide_false,Bool.false_and]
    rw [this];rfl
 exact this l 0
theorem zX{k:Nat}{m:ab}(v:Vd m)(hk:10≤k):∀n:Nat,n≤32->xb k m n=some ()
 |0,_=>rfl
 |n+1,h=>by
  have e:IntKind.u8.wrap (n:Int)=(n:Int):=ux (by omega)
  unfold xb
  rw [zX v hk n (by omega),bs,e,tO v hk ⟨by omega,by omega⟩,bs]
theorem KN{k:Nat}{m:ab}(v:Vd m)(hk:10≤k):eM k m=some ():=by
 have c1:=v.c1;have c5:=v.c5;unfold eM
 have hc:m.1=1\/m.1=2\/m.1=3\/m.1=4\/m.1=5:=by
  have h1:1≤m.1:=c1;have h2:m.1≤5:=c5;omega
 have e:0≤pz .i64 1 m.1/\pz .i64 1 m.1≤32:=by
  rcases hc with h |h |h |h |h <;> rw [h] <;> decide
 rw [if_pos ⟨by rcases hc with h |h |h |h |h <;> omega,by omega⟩];exact zX v hk _ (by omega)
def QN(m:ab)(cs ds ns:List Int):Bool:=xH (uJ m 0) cs && xH (uJ m 1) ds && xH (uJ m 2) ns
theorem IS{k:Nat}{m:ab}{b cs ds ns:List Int}(hs:Sm m)(hk:1010≤k)(hb:b.length≤1000)(h1:cs.length≤1000)(h2:ds.length≤1000)(h3:ns.length≤1000):
 kJ k m b cs ds ns=some (if¬(na m=0) then(none,0,na m) else if¬(zq (mC m) b=0) then(none,0,zq (mC m) b) else if QN m cs ds ns then(some m,fK b,0) else(none,0,3)):=by
 unfold kJ
 rw [LU hs (by omega),bs]
 by_cases hc:na m=0
 .
  have v:=Vd.of hc;rw [if_neg (λhn=>hn hc),if_neg (λhn=>hn hc),AU ⟨v.c1,v.c5⟩ (by omega) hb];by_cases hg:zq (mC m) b=0
  .rw [if_pos hg,kh,if_neg (λhn=>hn hg)];obtain⟨n,rfl⟩:∃n,k=n+4:=⟨k - 4,by omega⟩;have e0:=qN v (k:=n+4) (i:=0) (by omega) (l:=cs) (by omega) h1;have e1:=qN v (k:=n+4) (i:=1) (by omega) (l:=ds) (by omega) h2;have e2:=qN v (k:=n+4) (i:=2) (by omega) (l:=ns) (by omega) h3;have g0:aG [cs,ds,ns] (0:Int)=some cs:=rfl;have g1:aG [cs,ds,ns] (1:Int)=some ds:=rfl;have g2:aG [cs,ds,ns] (2:Int)=some ns:=rfl;have k0:ck ((0:Int)+1)=some 1:=rfl;have k1:ck ((1:Int)+1)=some 2:=rfl;have k2:ck ((2:Int)+1)=some 3:=rfl;have ln:(([cs,ds,ns]:List (List Int)).length:Int)=3:=rfl
   have s0:cY (n+4) m cs ds ns (n+4) 0=if xH (uJ m 0) cs then cY (n+4) m cs ds ns (n+3) 1 else some (.error (none,0,3)):=by
    rw [cY,ln,if_pos (by decide),g0,bs,show dN (n+4) m 0 cs (n+4) 0=_ from e0];cases xH (uJ m 0) cs with
    |true=>simp only [if_true];rw [kh,k0,bs]
    |false=>simp only [Bool.false_eq_true,if_false];rw [mr]
   have s1:cY (n+4) m cs ds ns (n+3) 1=if xH (uJ m 1) ds then cY (n+4) m cs ds ns (n+2) 2 else some (.error (none,0,3)):=by
    rw [cY,ln,if_pos (by decide),g1,bs,show dN (n+4) m 1 ds (n+4) 0=_ from e1];cases xH (uJ m 1) ds with
    |true=>simp only [if_true];rw [kh,k1,bs]
    |false=>simp only [Bool.false_eq_true,if_false];rw [mr]
   have s2:cY (n+4) m cs ds ns (n+2) 2=if xH (uJ m 2) ns then cY (n+4) m cs ds ns (n+1) 3 else some (.error (none,0,3)):=by
    rw [cY,ln,if_pos (by decide),g2,bs,show dN (n+4) m 2 ns (n+4) 0=_ from e2];cases xH (uJ m 2) ns with
    |true=>simp only [if_true];rw [kh,k2,bs]
    |false=>simp only [Bool.false_eq_true,if_false];rw [mr]
   have s3:cY (n+4) m cs ds ns (n+1) 3=some (.ok ()):=by
    rw [cY,ln,if_neg (by decide)]
   rw [s0,s1,s2,s3];unfold QN
   have fin:((jK (n+4) m).bind λr32=>gY r32 none (λq33=>(eM (n+4) q33).bind λr35=>some (some q33,fK b,(0:Int))))=some (some m,fK b,0):=by
    unfold jK;rw [bs,zl,KN v (by omega),bs]
   cases xH (uJ m 0) cs with
   |false=>simp only [Bool.false_eq_true,if_false,Bool.false_and];rw [mr]
   |true=>
    cases xH (uJ m 1) ds with
    |false=>simp only [if_true,Bool.false_eq_true,if_false,Bool.true_and,Bool.false_and];rw [mr]
    |true=>
     cases xH (uJ m 2) ns with
     |false=>simp only [if_true,Bool.false_eq_true,if_false,Bool.true_and,Bool.and_false];rw [mr]
     |true=>simp only [if_true,Bool.true_and];rw [kh];exact fin
  .rw [if_neg hg,mr,if_pos hg]
 .
  rw [if_pos hc,if_pos hc]
end Go.Proofs.YthnacobbednnbaaGreat
set_option linter.unusedVariables false
set_option linter.unusedSimpArgs false
namespace Go.Proofs.YthnacobbednnbaaGreat
open K Go Go.Proofs
def oG(m:ab)(B:Int->Bool)(n:Nat):List Int:=(List.range (mC m).toNat).map λ(c:Nat)=>ji m B n (c:Int)
def ua(m:ab)(B:Int->Bool):List (List Int):=(List.range ((mD m).length+1)).map (oG m B)
theorem o0{m:ab}{B:Int->Bool}{n:Nat}{c:Int}(h0:0≤c)(h1:c < mC m):aG (oG m B n) c=some (ji m B n c):=by
 unfold oG;rw [aG,if_pos h0,List.getElem?_map,List.getElem?_range (by omega)];show some (ji m B n ((c.toNat:Nat):Int))=_;rw [show((c.toNat:Nat):Int)=c by omega]
theorem xY{m:ab}{B:Int->Bool}{n:Nat}(h:n≤(mD m).length):aG (ua m B) (n:Int)=some (oG m B n):=by
 unfold ua;rw [aG,if_pos (by omega),List.getElem?_map,Int.toNat_natCast,List.getElem?_range (by omega)];rfl
end Go.Proofs.YthnacobbednnbaaGreat
set_option linter.unusedVariables false
set_option linter.unusedSimpArgs false
namespace Go.Proofs.YthnacobbednnbaaGreat
open K Go Go.Proofs
theorem Lo.mono{l:bP}{m n:Int}(h:Lo l m)(hn:m≤n):Lo l n:=⟨h.1,Int.le_trans h.2 hn⟩
theorem VL{α:Type}{l:List α}{x:α}{n:Nat}(h:l.length≤n)(hn:n≤1000000):bi (length l+length [x]):=by
 show length l+length [x]≤4294967296;simp only [length_cons,length_nil];omega
theorem Dp{k:Nat}(hk:50≤k){l:bP}{m:Int}{n:Nat}(hl:Lo l m)(hm:0≤m/\m≤1000)(hn:n≤8):W (iy k l (n:Int)) λr=>Lo r.2 (m+10)/\r.1.length=n/\(∀x∈r.1,0≤x/\x < (n:Int))/\r.1.Nodup:=by
 unfold iy;refine W.bind (R:=λr=>Lo (r.2.1,r.2.2.1,r.2.2.2) (m+10)/\r.1.length=n/\(∀x∈r.1,0≤x/\x < (n:Int))/\r.1.Nodup) ?_ λr h=>W.ret h
 refine W.loop (f:=er k (n:Int)) (λq y=>∃j:Nat,y.2.2.2.2=(j:Int)/\j≤n/\q=n - j/\Lo (y.1,y.2.1,y.2.2.1) (m+j)/\y.2.2.2.1.length=j/\(∀x∈y.2.2.2.1,0≤x/\x < (j:Int))/\y.2.2.2.1.Nodup) ?_ n k _ (by omega)
  ⟨0,rfl,by omega,by omega,by simpa using hl,rfl,by simp,by simp⟩
 rintro aK q ⟨nums,d,s,o,y⟩ ⟨j,hj,hle,hq,hlo,hlen,hx,hnd⟩ ih;simp only at hj hlo hlen hx hnd;subst hj;unfold er;dsimp only;refine W.ite (λhlt=>?_) (λhge=>W.ret ⟨hlo.mono (by omega),by show o.length=n;omega,λx hx'=>by have:=hx x hx';omega,hnd⟩);obtain⟨r5,e5,a5,b5,c5⟩:=jy (k:=k) (n:=(j:Int)) hlo (by omega) (by omega);have b5:=b5 (by omega);have ho:(o++[(j:Int)]).length=j+1:=by simp [hlen]
 have hr5:r5.1.toNat < (o++[(j:Int)]).length:=by omega
 have hjl:j < (o++[(j:Int)]).length:=by omega
 have hgj:(o++[(j:Int)])[j]=(j:Int):=by
  rw [List.getElem_append_right (by omega)];simp [hlen]
 rw [e5,bs,dh (VL (n:=8) (by omega) (by omega)),bs,yX a5 hr5,bs,cu (by omega),bs];have hgs:aG (List.set (o++[(j:Int)]) (Int.toNat (j:Int)) (o++[(j:Int)])[r5.1.toNat]) r5.1=some ((List.set (o++[(j:Int)]) (Int.toNat (j:Int)) (o++[(j:Int)])[r5.1.toNat])[r5.1.toNat]'(by rw [length_set];exact hr5)):=yX a5 (by rw [length_set];exact hr5);rw [hgs,bs,bY (by omega) (by omega),bs]
 have hp:(List.set (List.set (o++[(j:Int)]) (Int.toNat (j:Int)) (o++[(j:Int)])[r5.1.toNat]) (Int.toNat r5.1) (j:Int)).Perm (o++[(j:Int)]):=by
  have:= @set_set_perm Int (o++[(j:Int)]) j r5.1.toNat hjl hr5;rw [hgj] at this;exact this
 refine ih (q - 1) (_,_,_,_,(j:Int)+1) (by omega) ⟨j+1,by show(j:Int)+1=((j+1:Nat):Int);omega,by omega,by omega,c5.mono (by omega),by simp [hlen],λx hx'=>?_,hp.nodup_iff.2 ?_⟩
 .rcases List.mem_append.1 (hp.mem_iff.1 hx') with h |h
  .have:=hx x h;omega
  .rw [List.mem_singleton] at h;omega
 .rw [nodup_append];exact⟨hnd,by simp,λa ha b hb=>by rw [List.mem_singleton] at hb;subst hb;have:=hx a ha;omega⟩
theorem Je{out:List (List Int)}{i:Nat}{x:Int}(h:i < out.length):(out.set i (out[i]++[x])).flatten.Perm (out.flatten++[x]):=by
 have e1:out=out.take i++out[i]::out.drop (i+1):=by rw [<-drop_eq_getElem_cons h,take_append_drop]
 have e2:out.set i (out[i]++[x])=out.take i++(out[i]++[x])::out.drop (i+1):=set_eq_take_append_cons_drop.trans (if_pos h);rw [e2]
 have e3:out.flatten=(out.take i).flatten++(out[i]++(out.drop (i+1)).flatten):=by
  conv=>lhs;rw [e1]
  rw [List.flatten_append,flatten_cons]
 rw [e3,List.flatten_append,flatten_cons]
 have:((out.take i).flatten++((out[i]++[x])++(out.drop (i+1)).flatten)).Perm ((out.take i).flatten++(out[i]++((out.drop (i+1)).flatten++[x]))):=by
  refine List.Perm.append_left _ ?_;rw [List.append_assoc];exact List.Perm.append_left _ (perm_append_comm)
 refine this.trans ?_;simp
structure Rl(C:Int)(r:List (List Int)):Prop where
 r3:r.length≤3
 x5:∀l∈r,∀x∈l,0≤x/\x < C
 nd:r.flatten.Nodup
theorem Rl.l5{C:Int}(hC:0≤C/\C≤5){r:List (List Int)}(h:Rl C r):∀l∈r,l.length≤5:=λl hl=>by
 have:=s4 C.toNat l (vt h.nd hl) λx hx=>by have:=h.x5 l hl x hx;omega
 omega
theorem H6{k:Nat}(hk:50≤k){l:bP}{m:Int}{n:Nat}(hl:Lo l m)(hm:0≤m/\m≤900)(hn:n≤5):
 W (kM k l (n:Int)) λr=>Lo r.2 (m+30)/\Rl (n:Int) r.1:=by
 unfold kM
 refine W.bind (EE (l:=(l.1,l.2.1,l.2.2)) hl (by omega) (by omega) (by omega) (by omega)) λr1 h1=>?_
 refine W.chk ⟨by omega,by show _≤_;omega⟩ ?_
 refine W.bind (Dp hk (l:=(r1.2.1,r1.2.2.1,r1.2.2.2)) (m:=m+1) (n:=n) h1.2.2 (by omega) (by omega)) λr4 h4=>?_
 obtain⟨lo4,len4,rng4,nd4⟩:=h4
 refine W.bind (R:=λx=>Lo (x.1,x.2.1,x.2.2.1) (m+30)/\Rl (n:Int) x.2.2.2) ?_ λx hx=>W.ret hx
 refine W.loop (f:=fN k r4) (λq y=>∃j:Nat,y.2.2.2.1=(j:Int)/\j≤n/\q=n - j/\Lo (y.1,y.2.1,y.2.2.1) (m+11+2 * j)/\y.2.2.2.2.length=r1.1.toNat/\(∀x∈y.2.2.2.2.flatten,x∈r4.1.take j)/\y.2.2.2.2.flatten.Nodup) ?_ n k _ (by omega)
  ⟨0,rfl,by omega,by omega,lo4.mono (by omega),by simp,by simp,by simp⟩
 rintro aK q ⟨nums,d,s,y,out⟩ ⟨j,hj,hle,hq,hlo,hlen,hx,hnd⟩ ih
 simp only at hj hlo hlen hx hnd
 subst hj
 unfold fN
 dsimp only
 refine W.ite (λhlt=>?_) (λhge=>W.ret ⟨hlo.mono (by omega),by show out.length≤3;omega,λl hl x hxx=>rng4 x (mem_of_mem_take (hx x (List.mem_flatten.2 ⟨l,hl,hxx⟩))),hnd⟩)
 have hj:j < r4.1.length:=by omega
 have hsub:∀x∈r4.1.take j,x∈r4.1.take (j+1):=λx hh=>by rw [take_add_one];exact List.mem_append_left _ hh
 refine W.bind (R:=λx=>Lo (x.1,x.2.1,x.2.2.1) (m+11+2 * j+2)/\x.2.2.2.length=r1.1.toNat/\(∀z∈x.2.2.2.flatten,z∈r4.1.take (j+1))/\x.2.2.2.flatten.Nodup) ?_ λx9 h9=>?_
 .
  refine W.bind (yF (l:=(nums,d,s)) hlo (by omega) (by omega) (by omega)) λr11 h11=>?_;refine W.ite (λ_=>W.ret ⟨h11.mono (by omega),hlen,λz hz=>hsub z (hx z hz),hnd⟩) (λ_=>?_);refine W.ck (by omega) (by omega) ?_;refine W.bind (jy (l:=(r11.2.1,r11.2.2.1,r11.2.2.2)) h11 (by omega) (by omega)) λr13 h13=>?_;have b13:=h13.2.1 (by omega);have hi:r13.1.toNat < out.length:=by omega
  rw [yX h13.1 hi,bs,cu hj,bs]
  have hxj:r4.1[j]∉out.flatten:=λhin=>by
   have:=hx _ hin;obtain⟨i,hi',e⟩:=List.getElem_of_mem this;rw [length_take] at hi';rw [getElem_take] at e;have:=(getElem_inj nd4).1 e;omega
  have hlen2:(out[r13.1.toNat]).length≤5:=by
   have:=s4 n _ (vt hnd (List.getElem_mem hi)) λx hxx=>rng4 x (mem_of_mem_take (hx x (List.mem_flatten.2 ⟨_,List.getElem_mem hi,hxx⟩)));omega
  rw [dh (by simp [bi];omega),bs];have hp:=Je (x:=r4.1[j]) hi;refine W.ret ⟨h13.2.2.mono (by omega),by show(List.set _ _ _).length=_;rw [length_set];exact hlen,λz hz=>?_,hp.nodup_iff.2 ?_⟩
  .rcases List.mem_append.1 (hp.mem_iff.1 hz) with h |h
   .exact hsub z (hx z h)
   .rw [List.mem_singleton.1 h,take_add_one,List.getElem?_eq_getElem hj];exact List.mem_append_right _ (by simp)
  .rw [nodup_append];exact⟨hnd,by simp,λa ha b hb e=>by rw [List.mem_singleton.1 hb] at e;exact hxj (e▸ha)⟩
 .
  refine W.ck (by omega) (by omega) ?_;exact ih (q - 1) (_,_,_,(j:Int)+1,_) (by omega) ⟨j+1,by show(j:Int)+1=((j+1:Nat):Int);omega,by omega,by omega,h9.1.mono (by omega),h9.2⟩
end Go.Proofs.YthnacobbednnbaaGreat
set_option linter.unusedVariables false
set_option linter.unusedSimpArgs false
namespace Go.Proofs.YthnacobbednnbaaGreat
open K Go Go.Proofs
theorem NJ{c w s h:Int}{ds:List (List (List Int))}(hc:1≤c/\c≤5)(hw:0≤w/\w≤3)(hs:0≤s/\s≤3)(hh:1≤h/\h≤3)(d1:1≤ds.length)(d6:ds.length≤6)(hr:∀r∈ds,Rl c r):Vd (c,w,s,h,ds,[]):=
 ⟨hc.1,hc.2,hw.1,hw.2,hs.1,hs.2,hh.1,hh.2,d1,d6,λr h=>(hr r h).r3,λr h=>(hr r h).l5 ⟨by omega,hc.2⟩,λr h=>(hr r h).x5,λr h=>(hr r h).nd,by simp [mG],λg hg=>by cases hg⟩
theorem DJ{k:Nat}{l:List Int}(h:l.length≤1000000):jP k l=some l:=by
 unfold jP;rw [dh (V0 (by simp only [length_nil];omega)),bs];rfl
theorem ud{k:Nat}{l:List (List Int)}(hk:l.length < k)(h1:l.length≤1000000)(h2:∀x∈l,x.length≤1000000):gW k l=some l:=by
 unfold gW
 have key:=eN (T:=List (List Int)×Int) (f:=dE k l) l (λ(s:List (List Int)) j=>(s,j)) (λs j x=>s++[x]) (λj s=>s=l.take j) (λs=>some s)
  (λn s j hj hs=>by
   have hck:ck ((j:Int)+1)=some ((j:Int)+1):=bY (by omega) (by omega);have hl:s.length=j:=by rw [hs,length_take];omega
   have hok:bS (bi (length s+length [l[j]]))=some ():=dh (by simp [bi];omega);refine⟨?_,?_⟩
   .simp only [dE,Int.ofNat_lt,hj,if_true,cu hj,bs,DJ (h2 _ (List.getElem_mem hj)),hok,hck]
   .rw [hs,take_add_one,List.getElem?_eq_getElem hj];rfl)
  (λn s hs=>by
   unfold dE;rw [if_neg (Int.lt_irrefl _)]) (n:=k) (s0:=[]) hk (by simp)
 rw [show dE k l k ([],0)=_ from key.1,bs,key.2,take_length]
theorem Do{k:Nat}(hk:50≤k){l:bP}{m:Int}{cs ds:Int}(hl:Lo l m)(hm:0≤m/\m≤400)(hc:1≤cs/\cs≤5)(hd:1≤ds/\ds≤6):
 W (kN k l cs ds) λr=>Lo r.2 (m+250)/\Vd r.1/\mG r.1=[]/\mC r.1≤cs/\((mD r.1).length:Int)≤ds:=by
 unfold kN
 refine W.bind (EE (l:=(l.1,l.2.1,l.2.2)) hl (by omega) (by omega) (by omega) (by omega)) λr2 h2=>?_
 refine W.bind (jy (l:=(r2.2.1,r2.2.2.1,r2.2.2.2)) h2.2.2 (by omega) (by omega)) λr3 h3=>?_
 have b3:=h3.2.1 (by omega)
 refine W.bind (Ij (l:=(r3.2.1,r3.2.2.1,r3.2.2.2)) h3.2.2 (by omega) (by simp) (by simp)) λr4 h4=>?_
 refine W.bind (jy (l:=(r4.2.1,r4.2.2.1,r4.2.2.2)) h4.2 (by omega) (by omega)) λr5 h5=>?_
 have b5:=h5.2.1 (by omega)
 refine W.bind (Ij (l:=(r5.2.1,r5.2.2.1,r5.2.2.2)) h5.2.2 (by omega) (by simp) (by simp)) λr6 h6=>?_
 refine W.bind (EE (l:=(r6.2.1,r6.2.2.1,r6.2.2.2)) h6.2 (by omega) (by omega) (by omega) (by omega)) λr7 h7=>?_
 refine W.bind (Ij (l:=(r7.2.1,r7.2.2.1,r7.2.2.2)) h7.2.2 (by omega) (by simp) (by simp)) λr8 h8=>?_
 have w4:0≤r4.1/\r4.1≤3:=by
  have:=h4.1;simp only [mem_cons,not_mem_nil,or_false] at this;omega
 have w6:0≤r6.1/\r6.1≤3:=by
  have:=h6.1;simp only [mem_cons,not_mem_nil,or_false] at this;omega
 have w8:1≤r8.1/\r8.1≤3:=by
  have:=h8.1;simp only [mem_cons,not_mem_nil,or_false] at this;omega
 have lo8:=h8.2
 refine W.bind (R:=λx=>Lo (x.2.1,x.2.2.1,x.2.2.2) (m+250)/\(1≤x.1.length/\(x.1.length:Int)≤ds)/\∀r∈x.1,Rl r2.1 r) ?_ λx hx=>W.ret ⟨hx.1,NJ (by omega) w4 w6 w8 (by omega) (by omega) hx.2.2,rfl,h2.2.1,hx.2.1.2⟩
 refine W.bind (EE (l:=(r8.2.1,r8.2.2.1,r8.2.2.2)) lo8 (by omega) (by omega) (by omega) (by omega)) λr12 h12=>?_
 refine W.loop (f:=fO k r2) (λq y=>∃j:Nat,y.2.2.2.1.length=j/\y.2.2.2.2=r12.1 - j/\(j:Int)≤r12.1/\q=r12.1.toNat - j/\Lo (y.1,y.2.1,y.2.2.1) (m+10+33 * j)/\∀r∈y.2.2.2.1,Rl r2.1 r) ?_ r12.1.toNat k _ (by omega)
  ⟨0,rfl,by simp,by omega,by omega,h12.2.2.mono (by omega),by simp⟩
 rintro aK q ⟨nums,d,s,out,y⟩ ⟨j,hj,hy,hle,hq,hlo,hr⟩ ih
 simp only at hj hy hlo hr
 subst hy
 unfold fO
 dsimp only
 refine W.ite (λhlt=>?_) (λhge=>W.ret ⟨hlo.mono (by omega),⟨by show 1≤out.length;omega,by show(out.length:Int)≤ds;omega⟩,hr⟩)
 refine W.bind (R:=λx=>Lo (x.1,x.2.1,x.2.2.1) (m+10+33 * j+33)/\x.2.2.2.length=j+1/\∀r∈x.2.2.2,Rl r2.1 r) ?_ λx15 h15=>?_
 .
  refine W.bind (R:=λx=>Lo (x.1,x.2.1,x.2.2.1) (m+10+33 * j+1)/\(x.2.2.2=true->0 < out.length)) ?_ λx17 h17=>?_
  .refine W.ite (λh0=>?_) (λh0=>W.ret ⟨hlo.mono (by omega),λh=>by cases h⟩);exact W.bind (yF (l:=(nums,d,s)) hlo (by omega) (by omega) (by omega)) λr19 h19=>W.ret ⟨h19,λ_=>by omega⟩
  .refine W.ite (λht=>?_) (λht=>?_)
   .have h0:=h17.2 ht;refine W.ck (by omega) (by omega) ?_;have hi:((out.length:Int) - 1)=((out.length - 1:Nat):Int):=by omega
    have hlt':out.length - 1 < out.length:=by omega
    rw [hi,cu hlt',bs];have hrl:=hr _ (List.getElem_mem hlt');have hl5:=hrl.l5 (by omega);have hr3:=hrl.r3;rw [ud (by omega) (by omega) (λx hx=>by have:=hl5 x hx;omega),bs,dh (by simp [bi];omega),bs];refine W.ret ⟨h17.1.mono (by omega),by simp [hj],λr hrr=>?_⟩;rcases List.mem_append.1 hrr with h |h
    .exact hr r h
    .rw [List.mem_singleton.1 h];exact hrl
   .have hc2:((r2.1.toNat:Nat):Int)=r2.1:=by omega
    have:=H6 hk (l:=(x17.1,x17.2.1,x17.2.2.1)) (m:=m+10+33 * j+1) (n:=r2.1.toNat) h17.1 (by omega) (by omega);rw [hc2] at this;refine W.bind this λr26 h26=>?_;rw [dh (by simp [bi];omega),bs];refine W.ret ⟨h26.1.mono (by omega),by simp [hj],λr hrr=>?_⟩;rcases List.mem_append.1 hrr with h |h
    .exact hr r h
    .rw [List.mem_singleton.1 h];exact h26.2
 .
  refine W.ck (by omega) (by omega) ?_;exact ih (q - 1) (_,_,_,_,_) (by omega) ⟨j+1,h15.2.1,by show r12.1 - j - 1=r12.1 - ((j+1:Nat):Int);omega,by omega,by omega,h15.1.mono (by omega),h15.2.2⟩
theorem Bg.len{C:Int}(hC:0≤C/\C≤5){b:List Int}(h:Bg C b):b.length≤5:=by
 have:=s4 C.toNat b (h.asc.imp λhab e=>by omega) λx hx=>by have:=h.rng x hx;omega
 omega
theorem zt{α ε:Type}:∀(l:List α) (j:Nat),dR (λ(_:Unit) _ _=>(.ok ():Except ε Unit)) j l ()= .ok ()
 |[],_=>rfl
 |_::l,j=>zt l (j+1)
end Go.Proofs.YthnacobbednnbaaGreat
set_option linter.unusedVariables false
set_option linter.unusedSimpArgs false
namespace Go.Proofs.YthnacobbednnbaaGreat
open K Go Go.Proofs
theorem CZ{k:Nat}{c:Int}{l:List Int}(hk:l.length < k)(hl:l.length≤1000):
 dW k c l k 0=some (match sE l c with |some s=>.error (s,true) |none=>.ok ()):=by
 have key:=jr (T:=Int) (f:=dW k c l) l (λ(_:Unit) j=>j) (λ_ j x=>if decide (c=x)=true then Except.error (((if 0 < j then [l[j-1]?.getD 0] else [])++(l[j+1]?).toList:List Int),true) else .ok ()) (λ_ _=>True) (λx=>some x)
  (λn s j hj _=>by
   refine⟨?_,λ_ _=>trivial⟩;have hck:ck ((j:Int)+1)=some ((j:Int)+1):=bY (by omega) (by omega);have c1:ck ((j:Int) - 1)=some ((j:Int) - 1):=bY (by omega) (by omega);simp only [dW,Int.ofNat_lt,hj,if_true,cu hj,bs,decide_eq_true_eq];by_cases e:l[j]=c
   .rw [if_neg (λhn=>hn e),if_pos e.symm]
    have e1:(if(0:Int) < (j:Int) then((ck ((j:Int) - 1)).bind λx17=>(aG l x17).bind λx18=>(bS (bi (length ([]:List Int)+length [x18]))).bind λ_=>some (([]:List Int)++[x18])) else some ([]:List Int))=some (if 0 < j then [l[j-1]?.getD 0] else []):=by
     by_cases h0:0 < j
     .have g:aG l ((j:Int) - 1)=some (l[j-1]?.getD 0):=by
       have:((j:Int) - 1)=((j - 1:Nat):Int):=by omega
       rw [this,cu (by omega),List.getElem?_eq_getElem (by omega:j - 1 < l.length)];rfl
      rw [if_pos (by omega),if_pos h0,c1,bs,g,bs,dh (by simp [bi]),bs];rfl
     .rw [if_neg (by omega),if_neg h0]
    rw [e1,bs];have hp:(if 0 < j then [l[j-1]?.getD 0] else []).length≤1:=by split <;> simp
    generalize (if 0 < j then [l[j-1]?.getD 0] else [])=p at *
    have e2:((ck ((j:Int)+1)).bind λx23=>if x23 < (l.length:Int) then((ck ((j:Int)+1)).bind λx24=>(aG l x24).bind λx25=>(bS (bi (length p+length [x25]))).bind λ_=>some (p++[x25])) else some p)=some (p++(l[j+1]?).toList):=by
     rw [hck,bs];by_cases h1:j+1 < l.length
     .have g:aG l ((j:Int)+1)=some l[j+1]:=by
       have:((j:Int)+1)=((j+1:Nat):Int):=by omega
       rw [this,cu h1]
      rw [if_pos (by omega),bs,g,bs,List.getElem?_eq_getElem h1,dh (by simp [bi];omega),bs];rfl
     .rw [if_neg (by omega),List.getElem?_eq_none (by omega)];simp
    rw [e2,bs]
   .rw [if_pos e,if_neg (λhn=>e hn.symm),hck,bs])
  (λn s _=>by simp [dW]) (n:=k) (s0:=()) hk trivial
 rw [show dW k c l k 0=_ from key]
 refine congrArg some ?_
 have:∀(m:List Int) (j:Nat),(∃p,l=p++m/\p.length=j)->dR (λ(_:Unit) j x=>if decide (c=x)=true then Except.error (((if 0 < j then [l[j-1]?.getD 0] else [])++(l[j+1]?).toList:List Int),true) else .ok ()) j m ()=match m.findIdx? λy=>decide (c=y) with |some i=>.error (((if 0 < i+j then [l[i+j-1]?.getD 0] else [])++(l[i+j+1]?).toList:List Int),true) |none=>.ok ():=by
  intro m
  induction m with
  |nil=>intro j _;simp [dR]
  |cons x m ih=>
   rintro j ⟨p,hp,hl⟩;rw [dR,findIdx?_cons];by_cases h:decide (c=x)=true
   .simp [h]
   .simp only [h,if_false,Bool.false_eq_true];rw [ih (j+1) ⟨p++[x],by rw [hp];simp,by simp [hl]⟩];cases m.findIdx? λy=>decide (c=y) with
    |none=>rfl
    |some i=>
     simp only [Option.map_some];rw [show i+(j+1)=i+1+j by omega]
 rw [this l 0 ⟨[],rfl,rfl⟩]
 unfold sE
 cases l.findIdx? λy=>decide (c=y) with
 |none=>rfl
 |some i=>rfl
theorem yE{k:Nat}{m:ab}{c:Int}{d:Nat}(v:Vd m)(hk:10≤k)(hd:d < (mD m).length):
 jV k m (d:Int) c=some (match yc m d c with |some s=>(s,true) |none=>([],false)):=by
 have hm:=List.getElem_mem hd
 have hr:=v.r3 _ hm
 have hl:=v.l5 _ hm
 have hbes:yc m d c=uw (mD m)[d] c:=by unfold yc;rw [List.getElem?_eq_getElem hd];rfl
 have hg:aG m.2.2.2.2.1 (d:Int)=some (mD m)[d]:=cu hd
 generalize (mD m)[d]=r at *
 unfold jV
 have key:=jr (T:=Int) (f:=eG k m (d:Int) c) r (λ(_:Unit) j=>j) (λ_ _ l=>match sE l c with |some s=>Except.error (s,true) |none=>.ok ()) (λ_ _=>True) (λx=>some x)
  (λn s j hj _=>by
   refine⟨?_,λ_ _=>trivial⟩;have h5:=hl _ (List.getElem_mem hj);have hck:ck ((j:Int)+1)=some ((j:Int)+1):=bY (by omega) (by omega);simp only [eG,hg,bs,Int.ofNat_lt,hj,if_true,cu hj];rw [CZ (by omega) (by omega)];cases sE r[j] c with
   |some s=>simp only [];rw [mr]
   |none=>simp only [];rw [kh,hck,bs])
  (λn s _=>by simp [eG,hg,bs]) (n:=k) (s0:=()) (by omega) trivial
 rw [show eG k m (d:Int) c k 0=_ from key]
 have:∀(r:List (List Int)) (j:Nat),dR (λ(_:Unit) _ l=>match sE l c with |some s=>Except.error (s,true) |none=>.ok ()) j r ()=match uw r c with |some s=>.error (s,true) |none=>.ok ():=by
  intro r
  induction r with
  |nil=>intro j;rfl
  |cons l r ih=>
   intro j;rw [dR];unfold uw;rw [findSome?_cons];cases sE l c with
   |none=>exact ih (j+1)
   |some s=>rfl
 rw [this,hbes]
 cases uw r c with
 |some s=>simp only [];rw [mr]
 |none=>simp only [];rw [kh]
theorem H3{k:Nat}{m:ab}{c:Int}{d:Nat}(v:Vd m)(hk:10≤k)(hd:d < (mD m).length):o7 k m (d:Int) c=some (lr m c d:Int):=by
 have d6:=v.d6;unfold o7
 have key:∀(d n:Nat) (x:Int),d < (mD m).length->d+1 < n->0≤x->x+d≤100->fe k m c n (x,(d:Int))=some (.error (x+lr m c d))\/fe k m c n (x,(d:Int))=some (.ok (x+lr m c d)):=by
  intro d
  induction d with
  |zero=>
   intro n x hd hn hx hx2
   obtain⟨n,rfl⟩:∃n',n=n'+2:=⟨n - 2,by omega⟩;have c1:ck (x+1)=some (x+1):=bY (by omega) (by omega);have c2:ck (((0:Nat):Int) - 1)=some (-1):=rfl;rw [fe];simp only [Int.natCast_nonneg,if_true,yE v hk hd,bs];unfold lr;cases e:yc m 0 c with
   |some s=>left;simp
   |none=>
    right;simp only [Bool.false_eq_true,if_false,c1,c2,bs,Option.isSome_none];rw [fe,if_neg (show¬((0:Int)≤ -1) by decide)];rfl
  |succ d ih=>
   intro n x hd hn hx hx2
   obtain⟨n,rfl⟩:∃n',n=n'+1:=⟨n - 1,by omega⟩;have c1:ck (x+1)=some (x+1):=bY (by omega) (by omega);have c2:ck (((d+1:Nat):Int) - 1)=some (d:Int):=by rw [bY (by omega) (by omega),show(((d+1:Nat):Int) - 1)=(d:Int) by omega]
   rw [fe];simp only [Int.natCast_nonneg,if_true,yE v hk hd,bs];unfold lr;cases e:yc m (d+1) c with
   |some s=>left;simp
   |none=>
    simp only [Bool.false_eq_true,if_false,c1,c2,bs,Option.isSome_none];have:=ih n (x+1) (by omega) (by omega) (by omega) (by omega);rw [show x+((lr m c d+1:Nat):Int)=x+1+(lr m c d:Int) by omega];exact this
 rcases key d k 0 hd (by omega) (by omega) (by omega) with h |h
 .rw [h,mr,Int.zero_add]
 .rw [h,kh,Int.zero_add]
theorem An{k:Nat}{m:ab}{B:Int->Bool}{n:Nat}(v:Vd m){r8:(List Int)×Bool}(hk:r8.1.length < k)(hl:r8.1.length≤1000)(hx:∀x∈r8.1,0≤x/\x < mC m):
 fa k m (oG m B n) r8 k (-1,0)=some (if r8.1.any λx=>decide (mW m≤ji m B n x) then 0 else -1):=by
 have key:=eN (T:=Int×Int) (f:=fa k m (oG m B n) r8) r8.1 (λ(s:Int) j=>(s,j)) (λs _ x=>if decide (mW m≤ji m B n x)=true then 0 else s) (λj s=>s=if(r8.1.take j).any λx=>decide (mW m≤ji m B n x) then 0 else -1) (λs=>some s)
  (λf s j hj hs=>by
   have h5:=hx _ (List.getElem_mem hj);have hck:ck ((j:Int)+1)=some ((j:Int)+1):=bY (by omega) (by omega);refine⟨?_,?_⟩
   .simp only [fa,Int.ofNat_lt,hj,if_true,cu hj,bs,o0 h5.1 h5.2,hck,decide_eq_true_eq];by_cases e:mW m≤ji m B n r8.1[j]
    .have e':m.2.1≤ji m B n r8.1[j]:=e;simp only [e,e',if_true,bs]
    .have e':¬m.2.1≤ji m B n r8.1[j]:=e;simp only [e,e',if_false,bs]
   .rw [take_add_one,List.getElem?_eq_getElem hj,List.any_append,hs];by_cases e:decide (mW m≤ji m B n r8.1[j])=true
    .simp [e]
    .simp [e])
  (λf s hs=>by
   unfold fa;rw [if_neg (Int.lt_irrefl _)]) (n:=k) (s0:= -1) hk (by simp)
 rw [show fa k m (oG m B n) r8 k (-1,0)=_ from key.1,key.2,take_length]
theorem HW{k:Nat}{m:ab}{B:Int->Bool}{d:Nat}(v:Vd m)(hk:10≤k)(hd:d < (mD m).length):o5 k m (d:Int) (oG m B d)=some (oG m B (d+1)):=by
 have c1:=v.c1;have c5:=v.c5;have d6:=v.d6;unfold o5
 have key:=eN (T:=List Int×Int) (f:=fW k m (d:Int) (oG m B d)) (List.range (mC m).toNat) (λ(s:List Int) j=>(s,j)) (λs j _=>s++[ji m B (d+1) (j:Int)]) (λj s=>s=(List.range j).map λ(c:Nat)=>ji m B (d+1) (c:Int)) (λs=>some s)
  (λn s j hj hs=>by
   rw [length_range] at hj;have hck:ck ((j:Int)+1)=some ((j:Int)+1):=bY (by omega) (by omega);have j0:(0:Int)≤(j:Int):=by omega
   have j1:(j:Int) < mC m:=by omega
   have j2:(j:Int) < m.1:=j1;have hl:s.length=j:=by rw [hs,length_map,length_range]
   have hok:∀x:Int,bS (bi (length s+length [x]))=some ():=λx=>dh (by simp [bi];omega);have hge:=DX (B:=B) v.w0 (d:=d) (c:=(j:Int));have hle:=DU (B:=B) v.w3 (d:=d) (c:=(j:Int));refine⟨?_,?_⟩
   .have hm2:m.2.2.2.1=mH m:=rfl;simp only [fW,j2,if_true,yE v hk hd,bs,hm2]
    have hage:ji m B (d+1) (j:Int)=match yc m d (j:Int) with
     |none=>if mH m≤(lr m (j:Int) d:Int) then -1 else ji m B d (j:Int)
     |some l=>if 0≤ji m B d (j:Int) then ji m B d (j:Int)+1 else if l.any λx=>decide (mW m≤ji m B d x) then 0 else -1:=rfl
    rw [hage];cases e:yc m d (j:Int) with
    |none=>
     simp only [Bool.false_eq_true,not_false_eq_true,if_true,H3 v hk hd,bs,o0 j0 j1,hok];by_cases hh:mH m≤(lr m (j:Int) d:Int)
     .simp only [hh,decide_true,if_true,bs,hck]
     .simp only [hh,decide_false,Bool.false_eq_true,if_false,bs,hck]
    |some l=>
     have hb:=vR v e;simp only [not_true_eq_false,if_false,bs,Bool.false_eq_true,o0 j0 j1,hok];by_cases h0:0≤ji m B d (j:Int)
     .have c2:ck (ji m B d (j:Int)+1)=some (ji m B d (j:Int)+1):=bY (by omega) (by omega);simp only [h0,if_true,c2,bs,hok,hck]
     .simp only [h0,if_false];rw [An v (r8:=(l,true)) (by show l.length < k;omega) (by show l.length≤1000;omega) hb.2,bs,bs,hck,bs]
   .rw [hs,List.range_succ,List.map_append];rfl)
  (λn s hs=>by
   rw [length_range];unfold fW;rw [if_neg (by show¬(((mC m).toNat:Int) < mC m);omega)]) (n:=k) (s0:=[]) (by rw [length_range];omega) rfl
 rw [show fW k m (d:Int) (oG m B d) k ([],0)=_ from key.1,bs,key.2,length_range];rfl
theorem Au{k:Nat}{m:ab}{b:List Int}(v:Vd m)(hk:10≤k)(hb:b.length < k)(hb2:b.length≤1000):lZ k m b=some (ua m λc=>decide (c∈b)):=by
 have c1:=v.c1;have c5:=v.c5;have d6:=v.d6;unfold lZ
 have key:=eN (T:=List Int×Int) (f:=fZ k m b) (List.range (mC m).toNat) (λ(s:List Int) j=>(s,j)) (λs j _=>s++[ji m (λc=>decide (c∈b)) 0 (j:Int)]) (λj s=>s=(List.range j).map λ(c:Nat)=>ji m (λc=>decide (c∈b)) 0 (c:Int)) (λs=>some s)
  (λn s j hj hs=>by
   rw [length_range] at hj;have hck:ck ((j:Int)+1)=some ((j:Int)+1):=bY (by omega) (by omega);have j2:(j:Int) < m.1:=by show(j:Int) < mC m;omega
   have hl:s.length=j:=by rw [hs,length_map,length_range]
   have hok:∀x:Int,bS (bi (length s+length [x]))=some ():=λx=>dh (by simp [bi];omega);refine⟨?_,?_⟩
   .simp only [fZ,j2,if_true,yz (x:=(j:Int)) hb (by omega),bs,hok,hck];have hage:ji m (λc=>decide (c∈b)) 0 (j:Int)=if decide ((j:Int)∈b) then mW m else -1:=rfl;rw [hage];cases decide ((j:Int)∈b) with
    |true=>simp only [if_true,bs]
    |false=>simp only [Bool.false_eq_true,if_false,bs]
   .rw [hs,List.range_succ,List.map_append];rfl)
  (λn s hs=>by
   rw [length_range];unfold fZ;rw [if_neg (by show¬(((mC m).toNat:Int) < mC m);omega)]) (n:=k) (s0:=[]) (by rw [length_range];omega) rfl
 rw [show fZ k m b k ([],0)=_ from key.1,bs,key.2,length_range]
 have key2:=eN (T:=List (List Int)×Int) (f:=fY k m) (mD m) (λ(s:List (List Int)) j=>(s,j)) (λs j _=>s++[oG m (λc=>decide (c∈b)) (j+1)]) (λj s=>s=(List.range (j+1)).map (oG m λc=>decide (c∈b))) (λs=>some s)
  (λn s j hj hs=>by
   have hck:ck ((j:Int)+1)=some ((j:Int)+1):=bY (by omega) (by omega);have hl:s.length=j+1:=by rw [hs,length_map,length_range]
   have hok:∀x:List Int,bS (bi (length s+length [x]))=some ():=λx=>dh (by simp [bi];omega);have hj':(j:Int) < (m.2.2.2.2.1.length:Int):=Int.ofNat_lt.2 hj
   have hg:aG s (j:Int)=some (oG m (λc=>decide (c∈b)) j):=by
    rw [hs,aG,if_pos (by omega),List.getElem?_map,Int.toNat_natCast,List.getElem?_range (by omega)];rfl
   refine⟨?_,?_⟩
   .simp only [fY,hj',if_true,hg,bs,HW v hk hj,hok,hck]
   .rw [hs,List.range_succ (n:=j+1),List.map_append];rfl)
  (λn s hs=>by
   unfold fY;rw [if_neg (Int.lt_irrefl _)]) (n:=k) (s0:=[oG m (λc=>decide (c∈b)) 0]) (by omega) rfl
 have e0:((List.range (mC m).toNat).map λ(c:Nat)=>ji m (λc=>decide (c∈b)) 0 (c:Int))=oG m (λc=>decide (c∈b)) 0:=rfl;rw [e0,show fY k m k ([oG m (λc=>decide (c∈b)) 0],0)=_ from key2.1,bs,key2.2];rfl
