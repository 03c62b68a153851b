import Derived.Test.YthnacobbednnbaaGreatVEF2
open Nat
open List hiding mem_of_getElem?
open Array hiding mem_of_getElem? mk
set_option linter.unusedVariables false
set_option linter.unusedSimpArgs false
namespace Go.Proofs.YthnacobbednnbaaGreat
open K Go Go.Proofs
def W{α:Type}(x:Option α)(Q:α->Prop):Prop:=∃a,x=some a/\Q a
namespace W
variable {α β ε:Type}{Q:β->Prop}
theorem ret{a:β}(h:Q a):W (some a) Q:=⟨a,rfl,h⟩
theorem mono{x:Option β}{R:β->Prop}(h:W x R)(hq:∀a,R a->Q a):W x Q:=let ⟨a,e,r⟩:=h;⟨a,e,hq a r⟩
theorem bind{x:Option α}{f:α->Option β}{R:α->Prop}(h:W x R)(hf:∀a,R a->W (f a) Q):W (x.bind f) Q:=by
 obtain⟨a,rfl,r⟩:=h;exact hf a r
theorem ck{n:Int}{f:Int->Option β}(h1: -9223372036854775808≤n)(h2:n≤9223372036854775807)(hf:W (f n) Q):W ((K.ck n).bind f) Q:=by
 rw [K.ck,if_pos ⟨h1,h2⟩];exact hf
theorem chk{p:Prop}[Decidable p]{f:Unit->Option β}(h:p)(hf:W (f ()) Q):W ((cf p).bind f) Q:=by
 rw [cf,if_pos h];exact hf
theorem at_{l:List α}{i:Int}{f:α->Option β}(h0:0≤i)(h1:i < l.length)(hf:∀x,l[i.toNat]? =some x->W (f x) Q):W ((aH l i).bind f) Q:=by
 have:i.toNat < l.length:=by omega
 rw [aH,if_pos h0,List.getElem?_eq_getElem this];exact hf _ (List.getElem?_eq_getElem this)
theorem ite{p:Prop}[Decidable p]{a b:Option β}(h1:p->W a Q)(h2:¬p->W b Q):W (if p then a else b) Q:=by
 split
 .exact h1 ‹_›
 .exact h2 ‹_›
theorem iteB{p:Prop}[Decidable p]{a b:Option α}{f:α->Option β}(h1:p->W (a.bind f) Q)(h2:¬p->W (b.bind f) Q):W ((if p then a else b).bind f) Q:=by
 split
 .exact h1 ‹_›
 .exact h2 ‹_›
theorem bEE{x:Option (Except ε α)}{g:ε->Option β}{f:α->Option β}{R:Except ε α->Prop}(h:W x R)(hg:∀e,R (.error e)->W (g e) Q)(hf:∀a,R (.ok a)->W (f a) Q):W (K.bE x g f) Q:=by
 obtain⟨a,rfl,r⟩:=h;cases a with
 |error e=>exact hg e r
 |ok a=>exact hf a r
theorem loop{T:Type}{f:Nat->T->Option β}(I:Nat->T->Prop)(step:∀aR m y,I m y->(∀m' y',m' < m->I m' y'->W (f aR y') Q)->W (f (aR+1) y) Q):∀m aR y,m < aR->I m y->W (f aR y) Q:=by
 intro m
 induction m using Nat.strongRecOn with
 |_ m ih=>
  intro aR y hm hI;cases aR with
  |zero=>omega
  |succ aR=>exact step aR m y hI λm' y' h hI'=>ih m' h aR y' (by omega) hI'
end W
theorem wrap_u64(n:Int):0≤IntKind.u64.wrap n/\IntKind.u64.wrap n < 18446744073709551616:=by
 have h1:=Int.emod_nonneg n (show(18446744073709551616:Int)≠0 by decide);have h2:=Int.emod_lt_of_pos n (show(0:Int) < 18446744073709551616 by decide)
 have e:IntKind.u64.wrap n=n % 18446744073709551616:=by
  simp [IntKind.wrap,IntKind.signed,IntKind.bits]
 rw [e];exact⟨h1,h2⟩
theorem zc{n:Int}(h0:0≤n)(h1:n < 18446744073709551616):IntKind.u64.wrap n=n:=by
 have e:IntKind.u64.wrap n=n % 18446744073709551616:=by
  simp [IntKind.wrap,IntKind.signed,IntKind.bits]
 rw [e];exact Int.emod_eq_of_lt h0 h1
def Lo(l:bK)(m:Int):Prop:=0≤l.2.1/\l.2.1≤m
theorem KI{k:Nat}{l:bK}{m:Int}(h:Lo l m)(hm:m≤1000000000):W (iH k l) λr=>0≤r.1/\r.1 < 72057594037927936/\Lo r.2 (m+1):=by
 obtain⟨h0,h1⟩:=h;unfold iH
 have fin:∀x:Int,W ((K.ck (l.2.1+1)).bind λx4=>some (gR .u64 (qT .u64 (IntKind.u64.wrap ((qT .u64 x (gR .u64 x (29:Int))) * (2685821657736338717:Int))) (gR .u64 (IntKind.u64.wrap ((qT .u64 x (gR .u64 x (29:Int))) * (2685821657736338717:Int))) (32:Int))) (8:Int),(l.1,x4,x)))
  λr=>0≤r.1/\r.1 < 72057594037927936/\Lo r.2 (m+1):=λx=>by
  refine W.ck (by omega) (by omega) (W.ret ?_)
  generalize IntKind.u64.wrap ((qT .u64 x (gR .u64 x (29:Int))) * (2685821657736338717:Int))=y
  have hx:0≤qT .u64 y (gR .u64 y 32)/\qT .u64 y (gR .u64 y 32) < 18446744073709551616:=wrap_u64 _
  have e:gR .u64 (qT .u64 y (gR .u64 y 32)) 8=(qT .u64 y (gR .u64 y 32)) / 256:=by
   unfold gR;rw [Int.fdiv_eq_ediv_of_nonneg _ (by decide)];rfl
  refine⟨?_,?_,?_,?_⟩
  .
   show 0≤gR .u64 (qT .u64 y (gR .u64 y 32)) 8;rw [e];omega
  .
   show gR .u64 (qT .u64 y (gR .u64 y 32)) 8 < _;rw [e];omega
  .
   show 0≤l.2.1+1;omega
  .
   show l.2.1+1≤m+1;omega
 refine W.iteB (λhlt=>?_) (λ_=>fin _);cases hg:aH l.1 l.2.1 with
 |some v=>exact fin _
 |none=>
  exfalso;have:l.2.1.toNat < l.1.length:=by omega
  rw [aH,if_pos h0,List.getElem?_eq_getElem this] at hg;cases hg
theorem j8{k:Nat}{l:bK}{m n:Int}(h:Lo l m)(hm:m≤1000000000)(hn:n≤1000000000):W (cF k l n) λr=>0≤r.1/\(0≤n->r.1≤n)/\Lo r.2 (m+1):=by
 unfold cF;refine W.ite (λh1=>W.ret ⟨Int.le_refl 0,λh=>h,h.1,by show l.2.1≤m+1;have:=h.2;omega⟩) (λh1=>?_);refine W.bind (KI h hm) λr hr=>?_;refine W.ck (by omega) (by omega) ?_;have e:IntKind.u64.wrap (n+1)=n+1:=zc (by omega) (by omega);refine W.chk (by rw [e];omega) ?_;rw [e];have h2:Int.tmod r.1 (n+1)=r.1 % (n+1):=Int.tmod_eq_emod_of_nonneg hr.1;have h3:=Int.emod_nonneg r.1 (show n+1≠0 by omega);have h4:=Int.emod_lt_of_pos r.1 (show 0 < n+1 by omega);rw [h2];refine W.ck (by omega) (by omega) (W.ret ⟨h3,λ_=>by show r.1 % (n+1)≤n;omega,hr.2.2⟩)
theorem DG{k:Nat}{l:bK}{m a b:Int}(h:Lo l m)(hm:m≤1000000000)(ha:0≤a)(hab:a≤b)(hb:b≤1000000):W (fV k l a b) λr=>a≤r.1/\r.1≤b/\Lo r.2 (m+1):=by
 unfold fV;refine W.ck (by omega) (by omega) (W.bind (j8 h hm (by omega)) λr hr=>?_);have:=hr.2.1 (by omega);refine W.ck (by omega) (by omega) (W.ret ⟨by show a≤a+r.1;omega,by show a+r.1≤b;omega,hr.2.2⟩)
theorem uq{k:Nat}{l:bK}{m a:Int}(h:Lo l m)(hm:m≤1000000000)(ha:0≤a)(hb:a≤1000000):W (eC k l a) λr=>Lo r.2 (m+1):=by
 unfold eC;exact W.ck (by omega) (by omega) (W.bind (j8 h hm (by omega)) λr hr=>W.ret hr.2.2)
theorem Hq{k:Nat}{l:bK}{m:Int}{some_:List Int}(h:Lo l m)(hm:m≤1000000000)(h0:0 < some_.length)(h1:some_.length≤1000000):W (ia k l some_) λr=>r.1∈some_/\Lo r.2 (m+1):=by
 unfold ia;refine W.ck (by omega) (by omega) (W.bind (j8 h hm (by omega)) λr hr=>?_);have:=hr.2.1 (by omega);refine W.at_ hr.1 (by omega) λx hx=>W.ret ⟨List.mem_of_getElem? hx,hr.2.2⟩
theorem cN{α:Type}{l:List α}{i:Nat}(h:i < l.length):aH l (i:Int)=some l[i]:=by
 rw [aH,if_pos (by omega)];exact List.getElem?_eq_getElem h
section
variable {α β γ ε σ T:Type}
theorem bs{a:α}{f:α->Option β}:(some a).bind f=f a:=by cases h:f a <;> simp [h]
theorem cU{n:Int}(h1: -9223372036854775808≤n)(h2:n≤9223372036854775807):K.ck n=some n:=by rw [K.ck,if_pos ⟨h1,h2⟩]
theorem dq{p:Prop}[Decidable p](h:p):cf p=some ():=by rw [cf,if_pos h]
theorem yy{l:List α}{i:Int}(h0:0≤i)(h:i.toNat < l.length):aH l i=some l[i.toNat]:=by rw [aH,if_pos h0];exact List.getElem?_eq_getElem h
theorem kG{a:α}{g:ε->Option β}{f:α->Option β}:K.bE (some (.ok a)) g f=f a:=by cases h:f a <;> simp [K.bE,h]
theorem lr{e:ε}{g:ε->Option β}{f:α->Option β}:K.bE (some (.error e)) g f=g e:=by cases h:g e <;> simp [K.bE,h]
theorem D4{q:α}{a:β}{b:α->β}:gI (some q) a b=b q:=by unfold gI;exact Eq.refl _
theorem D5{a:β}{b:α->β}:gI none a b=a:=by unfold gI;exact Eq.refl _
theorem UW{n:Nat}(h:n≤4294967296):bA n:=h
def Aq(g:σ->Nat->α->σ):Nat->List α->σ->σ
 |_,[],s=>s
 |j,x::l,s=>Aq g (j+1) l (g s j x)
theorem iK(l:List α)(mk:σ->Int->T)(g:σ->Nat->α->σ)(P:Nat->σ->Prop){f:Nat->T->Option β}(fin:σ->Option β)
 (step:∀n s (j:Nat) (h:j < l.length),P j s->f (n+1) (mk s j)=f n (mk (g s j l[j]) ((j:Int)+1))/\P (j+1) (g s j l[j]))
 (stop:∀n s,P l.length s->f (n+1) (mk s l.length)=fin s) {s0:σ} {n:Nat} (hn:l.length < n) (h0:P 0 s0):f n (mk s0 0)=fin (Aq g 0 l s0)/\P l.length (Aq g 0 l s0):=by
 have key:∀(m:List α) (pre:List α) (n:Nat) (s:σ),l=pre++m->m.length < n->P pre.length s->f n (mk s pre.length)=fin (Aq g pre.length m s)/\P l.length (Aq g pre.length m s):=by
  intro m
  induction m with
  |nil=>
   intro pre n s e hn hp;obtain⟨n,rfl⟩:∃n',n=n'+1:=⟨n - 1,by omega⟩;have:l.length=pre.length:=by rw [e];simp
   rw [<-this] at hp⊢;exact⟨stop n s hp,hp⟩
  |cons x m ih=>
   intro pre n s e hn hp;simp only [length_cons] at hn;obtain⟨n,rfl⟩:∃n',n=n'+1:=⟨n - 1,by omega⟩;have hl:pre.length < l.length:=by rw [e];simp
   have hx:l[pre.length]=x:=by simp [e]
   obtain⟨h1,h2⟩:=step n s pre.length hl hp;rw [hx] at h1 h2;have:=ih (pre++[x]) n (g s pre.length x) (by rw [e];simp) (by omega) (by rw [length_append];exact h2);rw [length_append] at this;simp only [length_cons,length_nil,Nat.zero_add] at this;rw [h1];exact this
 have:=key l [] n s0 rfl hn h0
 exact this
def dQ(g:σ->Nat->α->Except ε σ):Nat->List α->σ->Except ε σ
 |_,[],s=>.ok s
 |j,x::l,s=>match g s j x with
  | .error e=>.error e
  | .ok s'=>dQ g (j+1) l s'
theorem xw(l:List α)(mk:σ->Int->T)(g:σ->Nat->α->Except ε σ)(P:Nat->σ->Prop){f:Nat->T->Option β}(fin:Except ε σ->Option β)
 (step:∀n s (j:Nat) (h:j < l.length),P j s->(∃e,g s j l[j]= .error e/\f (n+1) (mk s j)=fin (.error e))\/(∃s',g s j l[j]= .ok s'/\f (n+1) (mk s j)=f n (mk s' ((j:Int)+1))/\P (j+1) s'))
 (stop:∀n s,P l.length s->f (n+1) (mk s l.length)=fin (.ok s)) {s0:σ} {n:Nat} (hn:l.length < n) (h0:P 0 s0):f n (mk s0 0)=fin (dQ g 0 l s0):=by
 have key:∀(m:List α) (pre:List α) (n:Nat) (s:σ),l=pre++m->m.length < n->P pre.length s->f n (mk s pre.length)=fin (dQ g pre.length m s):=by
  intro m
  induction m with
  |nil=>
   intro pre n s e hn hp;obtain⟨n,rfl⟩:∃n',n=n'+1:=⟨n - 1,by omega⟩;have:l.length=pre.length:=by rw [e];simp
   rw [<-this] at hp⊢;exact stop n s hp
  |cons x m ih=>
   intro pre n s e hn hp;simp only [length_cons] at hn;obtain⟨n,rfl⟩:∃n',n=n'+1:=⟨n - 1,by omega⟩;have hl:pre.length < l.length:=by rw [e];simp
   have hx:l[pre.length]=x:=by simp [e]
   rcases step n s pre.length hl hp with⟨e',h1,h2⟩ |⟨s',h1,h2,h3⟩
   .rw [hx] at h1;rw [h2,dQ,h1]
   .rw [hx] at h1;have:=ih (pre++[x]) n s' (by rw [e];simp) (by omega) (by rw [length_append];exact h3);rw [length_append] at this;simp only [length_cons,length_nil,Nat.zero_add] at this;rw [h2,dQ,h1];exact this
 exact key l [] n s0 rfl hn h0
end
section
variable {α β ε σ T:Type}
theorem iL(l:List α)(mk:σ->Int->T)(g:σ->Nat->α->Except ε σ)(P:Nat->σ->Prop){f:Nat->T->Option β}(fin:Except ε σ->Option β)
 (step:∀n s (j:Nat) (h:j < l.length),P j s->(f (n+1) (mk s j)=match g s j l[j] with | .error e=>fin (.error e) | .ok s'=>f n (mk s' ((j:Int)+1)))/\∀s',g s j l[j]= .ok s'->P (j+1) s')
 (stop:∀n s,P l.length s->f (n+1) (mk s l.length)=fin (.ok s)) {s0:σ} {n:Nat} (hn:l.length < n) (h0:P 0 s0):f n (mk s0 0)=fin (dQ g 0 l s0):=
 xw l mk g P fin (λn s j h hp=>by
  obtain⟨h1,h2⟩:=step n s j h hp
  cases e:g s j l[j] with
  |error e'=>left;rw [e] at h1;exact⟨e',rfl,h1⟩
  |ok s'=>right;rw [e] at h1;exact⟨s',rfl,h1,h2 s' e⟩) stop hn h0
end
theorem vv{α:Type}(p:α->Bool):∀(l:List α) (j:Nat),dQ (λ(_:Unit) j x=>if p x then Except.error (j:Int) else .ok ()) j l ()=match l.findIdx? p with |some i=>.error ((i+j:Nat):Int) |none=>.ok ()
 |[],j=>by simp [dQ]
 |x::l,j=>by
  rw [dQ,findIdx?_cons]
  by_cases h:p x=true
  .
   simp [h]
  .
   simp only [h,if_false,Bool.false_eq_true]
   rw [vv p l (j+1)]
   cases l.findIdx? p with
   |none=>rfl
   |some i=>simp only [Option.map_some];congr 2;omega
theorem tQ{k:Nat}{a b:List Int}(h:a.length < k)(hk:a.length≤1000000):fo k a b=some (decide (a=b)):=by
 unfold fo;by_cases hl:a.length=b.length
 .rw [if_neg (by simp [hl])]
  have key:=xw (f:=dK k a b) a (λ(_:Unit) j=>j) (λ_ j x=>if x=b[j]?.getD 0 then .ok () else Except.error false) (λ_ _=>True) (λr=>some r)
   (λn s j hj _=>by
    have hjb:j < b.length:=by omega
    have hb:b[j]?.getD 0=b[j]:=by simp [List.getElem?_eq_getElem hjb]
    have hck:ck ((j:Int)+1)=some ((j:Int)+1):=cU (by omega) (by omega);rw [hb];simp only [dK,Int.ofNat_lt,hj,if_true,cN hj,cN hjb,bs];by_cases e:a[j]=b[j] <;> simp [e,hck])
   (λn s _=>by simp [dK]) (n:=k) (s0:=()) h trivial
  rw [show dK k a b k 0=_ from key]
  have:∀(a:List Int) (j:Nat),a.length+j=b.length->dQ (λ(_:Unit) j x=>if x=b[j]?.getD 0 then .ok () else Except.error false) j a ()=if a=b.drop j then .ok () else .error false:=by
   intro a
   induction a with
   |nil=>
    intro j hj;have:b.drop j=[]:=drop_eq_nil_of_le (by simp only [length_nil] at hj;omega);rw [this];simp [dQ]
   |cons x a ih=>
    intro j hj;simp only [length_cons] at hj;have hjb:j < b.length:=by omega
    have hd:b.drop j=b[j]::b.drop (j+1):=drop_eq_getElem_cons hjb;have hb:b[j]?.getD 0=b[j]:=by simp [List.getElem?_eq_getElem hjb]
    rw [dQ,hb,hd];by_cases e:x=b[j]
    .have h2:(x::a=b[j]::b.drop (j+1))=(a=b.drop (j+1)):=propext ⟨λh=>(List.cons.inj h).2,λh=>by rw [h,e]⟩;rw [if_pos e];simp only [h2];exact ih (j+1) (by omega)
    .have h2:¬(x::a=b[j]::b.drop (j+1)):=λh=>e (List.cons.inj h).1;rw [if_neg e];simp only [h2,if_false]
  rw [this a 0 (by omega),drop_zero];by_cases e:a=b
  .rw [if_pos e,kG,decide_eq_true e]
  .rw [if_neg e,lr,decide_eq_false e]
 .rw [if_pos (by omega),decide_eq_false (λe=>hl (by rw [e]))]
def mf(s:Int):Prop:=0≤s/\s < 256
def eP(s:Int)(i:Nat):Prop:=s.toNat.testBit i=true
instance (s:Int) (i:Nat):Decidable (eP s i):=by unfold eP;infer_instance
theorem uj{x:Nat}(h:x < 256):IntKind.u8.wrap (x:Int)=x:=by
 have e:IntKind.u8.wrap (x:Int)=(x:Int) % 256:=by simp [IntKind.wrap,IntKind.signed,IntKind.bits]
 rw [e];omega
theorem vh{s:Int}(h:mf s):∃n:Nat,n < 256/\s=n:=⟨s.toNat,by have:=h.1;have:=h.2;omega,by have:=h.1;omega⟩
theorem BI{n:Nat}(h:n < 256):(BitVec.ofInt IntKind.u8.bits (n:Int)).toNat=n:=by
 show(BitVec.ofInt 8 (n:Int)).toNat=n;rw [BitVec.ofInt_natCast,BitVec.toNat_ofNat];exact mod_eq_of_lt h
theorem H9{n m:Nat}(hn:n < 256)(hm:m < 256):n |||m < 256:=or_lt_two_pow (n:=8) hn hm
theorem KU{n m:Nat}(hn:n < 256):n &&& m < 256:=Nat.lt_of_le_of_lt and_le_left hn
theorem OL{a b:Int}(ha:mf a)(hb:mf b):mf (DF .u8 a b)/\∀i,eP (DF .u8 a b) i↔eP a i\/eP b i:=by
 obtain⟨n,hn,rfl⟩:=vh ha;obtain⟨m,hm,rfl⟩:=vh hb
 have e:DF .u8 (n:Int) (m:Int)=((n |||m:Nat):Int):=by
  unfold DF;rw [BitVec.toNat_or,BI hn,BI hm];exact uj (H9 hn hm)
 rw [e];refine⟨⟨by omega,by have:=H9 hn hm;omega⟩,λi=>?_⟩;simp [eP,testBit_or]
theorem Oq{x:Int}(h0:0≤x)(h8:x < 8):mf (pg .u8 1 x)/\∀i:Nat,eP (pg .u8 1 x) i↔(i:Int)=x:=by
 obtain⟨n,rfl⟩:=Int.eq_ofNat_of_zero_le h0;have hn:n < 8:=by omega
 have e:pg .u8 1 (n:Int)=((2 ^ n:Nat):Int):=by
  unfold pg
  have h1:min (Int.toNat (n:Int)) IntKind.u8.bits=n:=by
   show min n 8=n;omega
  rw [h1,Int.one_mul];have h2:2 ^ n < 256:=Nat.pow_lt_pow_right (by decide) hn;have h3:((2:Int) ^ n)=((2 ^ n:Nat):Int):=by simp
  rw [h3];exact uj h2
 rw [e];have h9:2 ^ n < 256:=Nat.pow_lt_pow_right (by decide) hn;refine⟨⟨Int.natCast_nonneg _,Int.ofNat_lt.2 h9⟩,λi=>?_⟩;simp only [eP,Int.toNat_natCast,testBit_two_pow,decide_eq_true_eq];omega
theorem Ij{k:Nat}{s:Int}(hs:mf s){i:Nat}(hi:i < 8):fa k s (i:Int)=some (decide (eP s i)):=by
 obtain⟨n,hn,rfl⟩:=vh hs;unfold fa;rw [cf,if_pos (by omega)];show some _=some _;congr 1
 have e1:gR .u8 (n:Int) (i:Int)=((n >>> i:Nat):Int):=by
  unfold gR
  have h1:min (Int.toNat (i:Int)) IntKind.u8.bits=i:=by
   show min i 8=i;omega
  have h3:((2:Int) ^ i)=((2 ^ i:Nat):Int):=by simp
  rw [h1,h3,Int.fdiv_eq_ediv_of_nonneg _ (Int.natCast_nonneg _),Nat.shiftRight_eq_div_pow];rfl
 have hlt:n >>> i < 256:=Nat.lt_of_le_of_lt (by rw [Nat.shiftRight_eq_div_pow];exact div_le_self _ _) hn
 have e2:qU .u8 ((n >>> i:Nat):Int) 1=(((n >>> i) &&& 1:Nat):Int):=by
  unfold qU;have h1:(BitVec.ofInt IntKind.u8.bits 1).toNat=1:=rfl;rw [BitVec.toNat_and,BI hlt,h1];exact uj (KU hlt)
 rw [e1,e2]
 have e3:(((n >>> i) &&& 1:Nat):Int)=1↔eP (n:Int) i:=by
  rw [eP,Int.toNat_natCast,testBit];have h5:(n >>> i) &&& 1=1 &&& (n >>> i):=Nat.and_comm _ _;rw [h5];have h4:1 &&& (n >>> i) < 2:=Nat.lt_of_le_of_lt and_le_left (by decide);simp only [bne_iff_ne,ne_eq];omega
 exact decide_eq_decide.2 e3
end Go.Proofs.YthnacobbednnbaaGreat
set_option linter.unusedVariables false
set_option linter.unusedSimpArgs false
namespace Go.Proofs.YthnacobbednnbaaGreat
open K Go Go.Proofs
abbrev mC(m:ae):Int:=m.1
abbrev mW(m:ae):Int:=m.2.1
abbrev mS(m:ae):Int:=m.2.2.1
abbrev mH(m:ae):Int:=m.2.2.2.1
abbrev mD(m:ae):List (List (List Int)):=m.2.2.2.2.1
abbrev mG(m:ae):List aQ:=m.2.2.2.2.2
def sw(l:List Int)(c:Int):Option (List Int):=(l.findIdx? λy=>decide (c=y)).map λi=>(if 0 < i then [l[i-1]?.getD 0] else [])++(l[i+1]?).toList
def ui(d:List (List Int))(c:Int):Option (List Int):=d.findSome? λl=>sw l c
def xI(m:ae)(d:Nat)(c:Int):Option (List Int):=ui ((mD m)[d]?.getD []) c
def kX(m:ae)(c:Int):Nat->Nat
 |0=>if(xI m 0 c).isSome then 0 else 1
 |d+1=>if(xI m (d+1) c).isSome then 0 else kX m c d+1
def my(m:ae)(B:Int->Bool):Nat->Int->Int
 |0,c=>if B c then mW m else -1
 |d+1,c=>match xI m d c with
  |none=>if mH m≤(kX m c d:Int) then -1 else my m B d c
  |some l=>if 0≤my m B d c then my m B d c+1 else if l.any λx=>decide (mW m≤my m B d x) then 0 else -1
theorem CQ{m:ae}{B:Int->Bool}(hw:0≤mW m):∀{d:Nat} {c:Int}, -1≤my m B d c
 |0,c=>by unfold my;split <;> omega
 |d+1,c=>by
  have:=CQ (B:=B) hw (d:=d) (c:=c)
  unfold my
  split
  .
   split <;> omega
  .
   split
   .
    omega
   .
    split <;> omega
theorem CP{m:ae}{B:Int->Bool}(hw:mW m≤3):∀{d:Nat} {c:Int},my m B d c≤3+d
 |0,c=>by unfold my;split <;> omega
 |d+1,c=>by
  have:=CP (B:=B) hw (d:=d) (c:=c)
  unfold my
  split
  .
   split <;> omega
  .
   split
   .
    omega
   .
    split <;> omega
theorem Ie{k:Nat}{l:List Int}{x:Int}(hk:l.length < k)(hl:l.length≤1000000):gx k l x=some (match l.findIdx? (λy=>decide (x=y)) with |some i=>(i:Int) |none=> -1):=by
 unfold gx
 have key:=iL (f:=du k l x) l (λ(_:Unit) j=>j) (λ_ j y=>if decide (x=y)=true then Except.error (j:Int) else .ok ()) (λ_ _=>True) (λr=>some r)
  (λn s j hj _=>by
   have hck:ck ((j:Int)+1)=some ((j:Int)+1):=cU (by omega) (by omega);refine⟨?_,λ_ _=>trivial⟩;simp only [du,Int.ofNat_lt,hj,if_true,cN hj,bs,decide_eq_true_eq];by_cases e:x=l[j] <;> simp [e,hck])
  (λn s _=>by simp [du]) (n:=k) (s0:=()) hk trivial
 rw [show du k l x k 0=_ from key,vv (λy=>decide (x=y)) l 0];cases l.findIdx? (λy=>decide (x=y)) with
 |none=>rw [kG]
 |some i=>rw [lr];simp
def nJ:List Int->List Int
 |[a,b]=>if b < a then [b,a] else [a,b]
 |l=>l
theorem rF{l:List Int}{x:Int}:x∈nJ l↔x∈l:=by
 unfold nJ;split
 .split
  .simp [Or.comm]
  .exact Iff.rfl
 .exact Iff.rfl
theorem JZ{k:Nat}{l:List Int}(hk:10≤k)(hl:l.length≤2):fZ k l=some (nJ l):=by
 obtain⟨k,rfl⟩:∃n,k=n+4:=⟨k - 4,by omega⟩;have e0:pW (k+4) (IntKind.u64.wrap (0:Int))=some 0:=by kernel_rfl
 have e1:pW (k+4) (IntKind.u64.wrap (1:Int))=some 1:=by kernel_rfl
 have e2:pW (k+4) (IntKind.u64.wrap (2:Int))=some 2:=by kernel_rfl
 have c0:ck ((0:Int) - 0)=some 0:=rfl;have c1:ck ((1:Int) - 0)=some 1:=rfl;have c2:ck ((2:Int) - 0)=some 2:=rfl;have d1:ck ((0:Int)+1)=some 1:=rfl;have d2:ck ((1:Int)+1)=some 2:=rfl;have d3:ck ((1:Int) - 1)=some 0:=rfl;match l,hl with
 |[],_=>
  simp only [fZ,length_nil,Int.ofNat_zero,e0,bs,c8,cI,bZ,bz,nJ,c0,d1];rfl
 |[a],_=>
  have:(([a]:List Int).length:Int)=1:=rfl;simp only [fZ,this,e1,bs,c8,cI,bZ,bz,nJ,c1,d1];rfl
 |[a,b],_=>
  have:(([a,b]:List Int).length:Int)=2:=rfl;have g0:aH [a,b] (0:Int)=some a:=rfl;have g1:aH [a,b] (1:Int)=some b:=rfl;have hn:∀x:Int,lE (k+4) x=some false:=λx=>by simp [lE]
  have hl:∀x y:Int,pn (k+4) x y=some (decide (x < y)):=λx y=>by simp [pn,hn]
  simp only [fZ,this,e2,bs,c8,cI,bZ,bz,bv,c2,d1,d2,d3,g0,g1,hl];by_cases h:b < a
  .simp [h,nJ,bv,bs,aH]
  .simp [h,nJ,bv,bs]
end Go.Proofs.YthnacobbednnbaaGreat
set_option linter.unusedVariables false
set_option linter.unusedSimpArgs false
namespace Go.Proofs.YthnacobbednnbaaGreat
open K Go Go.Proofs
structure Vd(m:ae):Prop where
 c1:1≤mC m
 c5:mC m≤5
 w0:0≤mW m
 w3:mW m≤3
 s0:0≤mS m
 s3:mS m≤3
 h1:1≤mH m
 h3:mH m≤3
 d1:1≤(mD m).length
 d6:(mD m).length≤6
 r3:∀r∈mD m,r.length≤3
 l5:∀r∈mD m,∀l∈r,l.length≤5
 x5:∀r∈mD m,∀l∈r,∀x∈l,0≤x/\x < mC m
 nd:∀r∈mD m,r.flatten.Nodup
 g8:(mG m).length≤8
 gl:∀g∈mG m,0≤g.1/\g.1 < mC m/\0≤g.2.1/\g.2.1≤(mD m).length
theorem AL{l:List Int}{c:Int}{s:List Int}(h:sw l c=some s):s.length≤2/\∀x∈s,x∈l:=by
 unfold sw at h;cases e:l.findIdx? (λy=>decide (c=y)) with
 |none=>rw [e] at h;cases h
 |some i=>
  rw [e] at h;obtain rfl:=Option.some.inj h;have hi:i < l.length:=(List.findIdx?_eq_some_iff_getElem.1 e).1;refine⟨?_,λx hx=>?_⟩
  .rw [length_append];have:(l[i+1]?).toList.length≤1:=by cases l[i+1]? <;> simp
   split <;> simp <;> omega
  .rcases List.mem_append.1 hx with h |h
   .split at h
    .rw [List.getElem?_eq_getElem (by omega)] at h;obtain rfl:=List.mem_singleton.1 h;exact List.getElem_mem _
    .cases h
   .exact List.mem_of_getElem? (Option.mem_toList.1 h)
theorem IJ{d:List (List Int)}{c:Int}{s:List Int}(h:ui d c=some s):∃l∈d,sw l c=some s:=by
 unfold ui at h;exact List.exists_of_findSome?_eq_some h
theorem vE{m:ae}(v:Vd m){d:Nat}{c:Int}{s:List Int}(h:xI m d c=some s):s.length≤2/\∀x∈s,0≤x/\x < mC m:=by
 obtain⟨l,hl,h2⟩:=IJ h;cases e:(mD m)[d]? with
 |none=>rw [e] at hl;cases hl
 |some r=>
  rw [e] at hl;have h3:=AL h2;exact⟨h3.1,λx hx=>v.x5 r (List.mem_of_getElem? e) l hl x (h3.2 x hx)⟩
def PT(m:ae)(c:Int)(d:Nat):Int ⊕ List Int:=match xI m d c with
 |some s=>.inr (nJ s)
 |none=>.inl (kX m c d)
theorem zJ{k:Nat}{c:Int}{r:List (List Int)}(hk:10≤k)(hr:r.length≤3)(hl:∀l∈r,l.length≤5):
 cM k c r k 0=some (match ui r c with |some s=>.error (.inr (nJ s)) |none=>.ok ()):=by
 have key:=iL (f:=cM k c r) r (λ(_:Unit) j=>j) (λ_ _ l=>match sw l c with |some s=>Except.error (Sum.inr (nJ s):Int ⊕ List Int) |none=>.ok ()) (λ_ _=>True) (λx=>some x)
  (λn s j hj _=>by
   refine⟨?_,λ_ _=>trivial⟩;have h5:=hl _ (List.getElem_mem hj);have hck:ck ((j:Int)+1)=some ((j:Int)+1):=cU (by omega) (by omega);simp only [cM,Int.ofNat_lt,hj,if_true,cN hj,bs];rw [Ie (by omega) (by omega),bs];generalize r[j]=l at *;have hb:sw l c=(l.findIdx? λy=>decide (c=y)).map λi=>(if 0 < i then [l[i-1]?.getD 0] else [])++(l[i+1]?).toList:=rfl;cases e:l.findIdx? (λy=>decide (c=y)) with
   |none=>
    rw [e] at hb;simp only [Option.map_none] at hb;rw [hb];simp [hck,bs]
   |some i=>
    rw [e] at hb;simp only [Option.map_some] at hb;have hi:i < l.length:=(List.findIdx?_eq_some_iff_getElem.1 e).1;rw [hb];have hlen:=(AL hb).1;have c1:ck ((i:Int) - 1)=some ((i:Int) - 1):=cU (by omega) (by omega);have c2:ck ((i:Int)+1)=some ((i:Int)+1):=cU (by omega) (by omega);have ok0:cf (bA (length ([]:List Int)+length [l[i-1]?.getD 0]))=some ():=dq (by simp [bA]);simp only [show(0:Int)≤(i:Int) from Int.natCast_nonneg _,if_true,c1,c2,bs]
    have e1:(if(0:Int) < (i:Int) then((aH l ((i:Int) - 1)).bind λx11=>(cf (bA (length ([]:List Int)+length [x11]))).bind λ_=>some (([]:List Int)++[x11])) else some ([]:List Int))=some (if 0 < i then [l[i-1]?.getD 0] else []):=by
     by_cases h0:0 < i
     .have g:aH l ((i:Int) - 1)=some (l[i-1]?.getD 0):=by
       have:((i:Int) - 1)=((i - 1:Nat):Int):=by omega
       rw [this,cN (by omega),List.getElem?_eq_getElem (by omega:i - 1 < l.length)];rfl
      rw [if_pos (by omega),if_pos h0,g,bs,ok0,bs];rfl
     .rw [if_neg (by omega),if_neg h0]
    rw [e1,bs];generalize (if 0 < i then [l[i-1]?.getD 0] else [])=p at *
    have e2:(if(i:Int)+1 < (l.length:Int) then((aH l ((i:Int)+1)).bind λx18=>(cf (bA (length p+length [x18]))).bind λ_=>some (p++[x18])) else some p)=some (p++(l[i+1]?).toList):=by
     by_cases h1:i+1 < l.length
     .have g:aH l ((i:Int)+1)=some l[i+1]:=by
       have:((i:Int)+1)=((i+1:Nat):Int):=by omega
       rw [this,cN h1]
      rw [if_pos (by omega),g,bs,List.getElem?_eq_getElem h1];rw [List.getElem?_eq_getElem h1] at hlen;rw [dq (by rw [length_append] at hlen;simp at hlen;simp [bA];omega),bs];rfl
     .rw [if_neg (by omega),List.getElem?_eq_none (by omega)];simp
    rw [e2,bs,JZ (by omega) hlen,bs])
  (λn s _=>by simp [cM]) (n:=k) (s0:=()) (by omega) trivial
 rw [show cM k c r k 0=_ from key]
 congr 1
 have:∀(r:List (List Int)) (j:Nat),dQ (λ(_:Unit) _ l=>match sw l c with |some s=>Except.error (Sum.inr (nJ s):Int ⊕ List Int) |none=>.ok ()) j r ()=match ui r c with |some s=>.error (.inr (nJ s)) |none=>.ok ():=by
  intro r
  induction r with
  |nil=>intro j;rfl
  |cons l r ih=>
   intro j;rw [dQ];unfold ui;rw [findSome?_cons];cases sw l c with
   |none=>exact ih (j+1)
   |some s=>rfl
 exact this r 0
theorem D3{m:ae}{c:Int}:∀{d:Nat},kX m c d≤d+1
 |0=>by unfold kX;split <;> omega
 |d+1=>by have:=D3 (m:=m) (c:=c) (d:=d);unfold kX;split <;> omega
theorem uX{k:Nat}{m:ae}{c:Int}(v:Vd m)(hk:10≤k):∀(d m0:Nat),d < m0->d < (mD m).length->eg k m0 m c (d:Int)=some (PT m c d)
 |d,0,h,_=>absurd h (not_lt_zero _)
 |d,m0+1,h,hd=>by
  have hm:=List.getElem_mem hd
  unfold eg
  rw [cN hd,bs,zJ hk (v.r3 _ hm) (v.l5 _ hm)]
  have hbes:xI m d c=ui (mD m)[d] c:=by unfold xI;rw [List.getElem?_eq_getElem hd];rfl
  cases e:ui (mD m)[d] c with
  |some s=>
   rw [lr]
   unfold PT
   rw [hbes,e]
  |none=>
   rw [kG]
   unfold PT
   rw [hbes,e]
   match d,hd,h with
   |0,hd,h=>
    rw [hbes.symm] at e
    simp [kX,e]
   |d+1,hd,h=>
    have h6:=v.d6
    have c1:ck (((d+1:Nat):Int) - 1)=some (d:Int):=by rw [cU (by omega) (by omega)];congr 1;omega
    have ih:=uX v hk d m0 (by omega) (by omega) (c:=c)
    rw [if_pos (by omega),c1,bs,ih,bs]
    rw [hbes.symm] at e
    have hcold:kX m c (d+1)=kX m c d+1:=by rw [kX,e];rfl
    have hle:=D3 (m:=m) (c:=c) (d:=d)
    unfold PT
    cases e2:xI m d c with
    |some s=>
     simp only [J9]
     have:kX m c d=0:=by cases d <;> simp [kX,e2]
     simp [hcold,this]
    |none=>
     have c2:ck ((1:Int)+(kX m c d:Int))=some ((1:Int)+(kX m c d:Int)):=cU (by omega) (by omega)
     simp only [J9,Qj,c2,bs,if_true,hcold]
     congr 2
     omega
end Go.Proofs.YthnacobbednnbaaGreat
set_option linter.unusedVariables false
set_option linter.unusedSimpArgs false
namespace Go.Proofs.YthnacobbednnbaaGreat
open K Go Go.Proofs
def lP(f:Int->Int):List Int:=[f 0,f 1,f 2,f 3,f 4]
def upd(f:Int->Int)(c v:Int):Int->Int:=λx=>if x=c then v else f x
theorem UK{c:Int}(h0:0≤c)(h:c < 5):c=0\/c=1\/c=2\/c=3\/c=4:=by omega
theorem Di{f:Int->Int}{c:Int}(h0:0≤c)(h:c < 5):aH (lP f) c=some (f c):=by
 rcases UK h0 h with rfl |rfl |rfl |rfl |rfl <;> rfl
theorem Dh{f:Int->Int}{c v:Int}(h0:0≤c)(h:c < 5):List.set (lP f) (Int.toNat c) v=lP (upd f c v):=by
 rcases UK h0 h with rfl |rfl |rfl |rfl |rfl <;> rfl
theorem nn{f g:Int->Int}(h:∀c,0≤c->c < 5->f c=g c):lP f=lP g:=by
 unfold lP;rw [h 0 (by decide) (by decide),h 1 (by decide) (by decide),h 2 (by decide) (by decide),h 3 (by decide) (by decide),h 4 (by decide) (by decide)]
def Qg(m:ae)(f:Int->Int)(d:Nat)(c:Int):Int:=match xI m d c with
 |none=>if mH m≤(kX m c d:Int) then -1 else f c
 |some l=>if 0≤f c then f c+1 else if l.any λx=>decide (mW m≤f x) then 0 else -1
def PU(m:ae)(f:Int->Int)(d:Nat):Int->Int:=λc=>if 0≤c/\c < mC m then Qg m f d c else f c
theorem wh{k:Nat}{m:ae}{f:Int->Int}(hw:0≤mW m){s:List Int}(hs:s.length < k)(hs2:s.length≤1000)(hx:∀x∈s,0≤x/\x < 5):
 ce k m (lP f) s k 0=some (match s.find? (λx=>decide (mW m≤f x)) with |some x=>.error x |none=>.ok ()):=by
 have key:=iL (f:=ce k m (lP f) s) s (λ(_:Unit) j=>j) (λ_ _ x=>if decide (mW m≤f x)=true then Except.error x else .ok ()) (λ_ _=>True) (λx=>some x)
  (λn _ j hj _=>by
   refine⟨?_,λ_ _=>trivial⟩;have h5:=hx _ (List.getElem_mem hj);have hck:ck ((j:Int)+1)=some ((j:Int)+1):=cU (by omega) (by omega);have him:tq (0:Int) m.2.1=mW m:=by show tq 0 (mW m)=mW m;unfold tq;split <;> omega
   simp only [ce,Int.ofNat_lt,hj,if_true,cN hj,bs,dq h5,Di h5.1 h5.2,him,hck,decide_eq_true_eq];by_cases e:mW m≤f s[j] <;> simp [e])
  (λn s _=>by simp [ce]) (n:=k) (s0:=()) hs trivial
 rw [show ce k m (lP f) s k 0=_ from key]
 congr 1
 have:∀(s:List Int) (j:Nat),dQ (λ(_:Unit) _ x=>if decide (mW m≤f x)=true then Except.error x else .ok ()) j s ()=match s.find? (λx=>decide (mW m≤f x)) with |some x=>.error x |none=>.ok ():=by
  intro s
  induction s with
  |nil=>intro j;rfl
  |cons x s ih=>
   intro j;rw [dQ,find?_cons];cases h:decide (mW m≤f x) with
   |true=>simp
   |false=>simp only [Bool.false_eq_true,if_false];exact ih (j+1)
 exact this s 0
theorem zw{s:List Int}:(nJ s).length=s.length:=by
 unfold nJ;split
 .split <;> rfl
 .rfl
def JL(m:ae)(f:Int->Int)(l:List Int):Int:=((nJ l).find? λx=>decide (mW m≤f x)).getD (-1)
theorem Bm{k:Nat}{m:ae}{f:Int->Int}{c:Int}{d:Nat}(v:Vd m)(hk:10≤k)(hd:d < (mD m).length){l:List Int}(h:xI m d c=some l):
 dD k m (lP f) c (d:Int)=some (JL m f l):=by
 have h6:=v.d6
 have c5:=v.c5
 have hb:=vE v h
 unfold dD
 rw [uX v hk d k (by omega) hd,bs]
 unfold PT
 rw [h]
 have e1:IH (Sum.inr (nJ l):Int ⊕ List Int) (λn=>iU k n) (λl=>iS k l)=some (nJ l):=rfl
 rw [e1,bs,wh v.w0 (by rw [zw];omega) (by rw [zw];omega) λx hx=>by have:=hb.2 x (rF.1 hx);omega]
 unfold JL
 cases(nJ l).find? λx=>decide (mW m≤f x) with
 |none=>rw [kG];rfl
 |some x=>rw [lr];rfl
theorem JK{m:ae}{f:Int->Int}{l:List Int}(hx:∀x∈l,0≤x):0≤JL m f l↔(l.any λx=>decide (mW m≤f x))=true:=by
 unfold JL;rw [List.any_eq_true];cases e:(nJ l).find? λx=>decide (mW m≤f x) with
 |none=>
  simp only [Option.getD_none];have:=List.find?_eq_none.1 e;constructor
  .intro h;omega
  .rintro⟨x,hx,h⟩;exact absurd h (this x (rF.2 hx))
 |some x=>
  have h1:=List.mem_of_find?_eq_some e;have h2:=List.find?_some e;exact⟨λ_=>⟨x,rF.1 h1,h2⟩,λ_=>hx x (rF.1 h1)⟩
theorem HW{k:Nat}{m:ae}{f:Int->Int}{d:Nat}(v:Vd m)(hk:10≤k)(hd:d < (mD m).length)(hf:∀c,0≤c->c < mC m-> -1≤f c/\f c≤1000):
 hH k m (lP f) (d:Int)=some (lP (PU m f d)):=by
 have c5:=v.c5
 have c1:=v.c1
 have h6:=v.d6
 unfold hH
 have key:=iK (T:=List Int×Int) (f:=cE k m (lP f) (d:Int)) (List.range (mC m).toNat) (λ(g:Int->Int) j=>(lP g,j)) (λg j _=>upd g (j:Int) (Qg m f d (j:Int))) (λj g=>g=λc=>if 0≤c/\c < (j:Int) then Qg m f d c else f c) (λg=>some (lP g))
  (λn g j hj hg=>by
   rw [length_range] at hj;have j0:(0:Int)≤(j:Int):=Int.natCast_nonneg _;have j1:(j:Int) < mC m:=by omega
   have j5:(j:Int) < 5:=by omega
   have hck:ck ((j:Int)+1)=some ((j:Int)+1):=cU (by omega) (by omega);have hp:cf ((0:Int)≤(j:Int)/\(j:Int) < 5)=some ():=dq ⟨j0,j5⟩;have hgj:g (j:Int)=f (j:Int):=by rw [hg];simp
   have hfj:=hf _ j0 j1;refine⟨?_,?_⟩
   .have hm1:(m.1:Int)=mC m:=rfl;have hm2:m.2.2.2.1=mH m:=rfl;simp only [cE,hm1,hm2,j1,if_true,uX v hk d k (by omega) hd,bs,hp,Di j0 j5,hck,Dh j0 j5];unfold PT Qg;cases e:xI m d (j:Int) with
    |none=>
     simp only [J9,Qj,if_true];by_cases hh:mH m≤(kX m (j:Int) d:Int)
     .simp only [hh,if_true,bs]
     .simp only [hh,if_false,bs];refine congrArg (λr=>cE k m (lP f) (d:Int) n (r,(j:Int)+1)) (nn λc _ _=>?_);unfold upd;split
      .rename_i e;rw [e,hgj]
      .rfl
    |some l=>
     have hb:=vE v e;simp only [J9,Bool.false_eq_true,if_false,not_false_eq_true,if_true];by_cases h0:0≤f (j:Int)
     .have hck2:ck (f (j:Int)+1)=some (f (j:Int)+1):=cU (by omega) (by omega);simp only [h0,if_true,hck2,bs]
     .simp only [h0,if_false,Bm v hk hd e,bs];have ht:=JK (m:=m) (f:=f) (l:=l) λx hx=>(hb.2 x hx).1;by_cases hany:(l.any λx=>decide (mW m≤f x))=true
      .rw [if_pos (ht.2 hany),bs,if_pos hany]
      .rw [if_neg λh=>hany (ht.1 h),bs,if_neg hany];refine congrArg (λr=>cE k m (lP f) (d:Int) n (r,(j:Int)+1)) (nn λc _ _=>?_);unfold upd;split
       .rename_i e;rw [e,hgj];omega
       .rfl
   .rw [hg];funext c;unfold upd;by_cases e:c=(j:Int)
    .subst e;simp [j0];intro h;omega
    .simp only [e,if_false];by_cases h:0≤c/\c < (j:Int)
     .rw [if_pos h,if_pos (by omega)]
     .rw [if_neg h,if_neg (by omega)])
  (λn g hg=>by
   rw [length_range];have:((mC m).toNat:Int)=mC m:=by omega
   rw [this];unfold cE;rw [if_neg (by show¬(mC m < mC m);omega)]) (n:=k) (s0:=f) (by rw [length_range];omega) (by funext c;simp;intro h;omega)
 rw [show cE k m (lP f) (d:Int) k (lP f,0)=_ from key.1,bs]
 congr 1
 refine nn λc _ _=>?_
 rw [key.2,length_range]
 unfold PU
 have:((mC m).toNat:Int)=mC m:=by omega
 rw [this]
end Go.Proofs.YthnacobbednnbaaGreat
set_option linter.unusedVariables false
set_option linter.unusedSimpArgs false
namespace Go.Proofs.YthnacobbednnbaaGreat
open K Go Go.Proofs
def cr(F:Nat->Int->Int):List (List Int):=[lP (F 0),lP (F 1),lP (F 2),lP (F 3),lP (F 4),lP (F 5),lP (F 6)]
def Bh(F:Nat->Int->Int)(n:Nat)(f:Int->Int):Nat->Int->Int:=λi=>if i=n then f else F i
theorem UJ{n:Nat}(h:n < 7):n=0\/n=1\/n=2\/n=3\/n=4\/n=5\/n=6:=by omega
theorem IE{F:Nat->Int->Int}{n:Nat}(h:n < 7):aH (cr F) (n:Int)=some (lP (F n)):=by
 rcases UJ h with rfl |rfl |rfl |rfl |rfl |rfl |rfl <;> rfl
theorem O8{F:Nat->Int->Int}{n:Nat}{f:Int->Int}(h:n < 7):List.set (cr F) n (lP f)=cr (Bh F n f):=by
 rcases UJ h with rfl |rfl |rfl |rfl |rfl |rfl |rfl <;> rfl
def Pj(m:ae)(B:Int->Bool):Nat->Int->Int
 |0=>λc=>if B c then mW m else -1
 |n+1=>PU m (Pj m B n) n
theorem yO{m:ae}(v:Vd m){B:Int->Bool}:∀(n:Nat) (c:Int),0≤c->c < mC m->Pj m B n c=my m B n c
 |0,c,_,_=>rfl
 |n+1,c,h0,h1=>by
  have ih:=yO v (B:=B) n
  show PU m (Pj m B n) n c=my m B (n+1) c
  unfold PU
  rw [if_pos ⟨h0,h1⟩]
  unfold Qg my
  cases e:xI m n c with
  |none=>simp only [];rw [ih c h0 h1]
  |some l=>
   have hb:=(vE v e).2
   have:(l.any λx=>decide (mW m≤Pj m B n x))=l.any λx=>decide (mW m≤my m B n x):=by
    rw [Bool.eq_iff_iff];simp only [List.any_eq_true,decide_eq_true_eq];constructor
    .rintro⟨x,hx,h⟩;exact⟨x,hx,by rw [<-ih x (hb x hx).1 (hb x hx).2];exact h⟩
    .rintro⟨x,hx,h⟩;exact⟨x,hx,by rw [ih x (hb x hx).1 (hb x hx).2];exact h⟩
   simp only [];rw [ih c h0 h1,this]
def O7(m:ae)(B:Int->Bool):Nat->Int->Int:=λn=>if n≤(mD m).length then Pj m B n else λ_=>0
def rm(S:Int):Int->Bool:=λc=>decide (eP S c.toNat)
theorem GQ{k:Nat}{m:ae}{S:Int}(hk:10≤k)(hS:mf S):eS k m S=some (lP λc=>if rm S c then mW m else -1):=by
 unfold eS
 have key:=iK (T:=List Int×Int) (f:=cL k m S) (List.range 5) (λ(g:Int->Int) j=>(lP g,j)) (λg j _=>upd g (j:Int) (if rm S (j:Int) then mW m else -1)) (λj g=>∀c,0≤c->c < (j:Int)->g c=if rm S c then mW m else -1) (λg=>some (lP g))
  (λn g j hj hg=>by
   rw [length_range] at hj;have j0:(0:Int)≤(j:Int):=Int.natCast_nonneg _;have j5:(j:Int) < 5:=by omega
   have hck:ck ((j:Int)+1)=some ((j:Int)+1):=cU (by omega) (by omega);have hp:cf ((0:Int)≤(j:Int)/\(j:Int) < 5)=some ():=dq ⟨j0,j5⟩;have hp':cf ((0:Int)≤(j:Int)/\True)=some ():=dq ⟨j0,trivial⟩;refine⟨?_,?_⟩
   .simp only [cL,j5,if_true,hp,hp',bs,Ij (k:=k) hS (by omega:j < 8),hck,Dh j0 j5];have hin:rm S (j:Int)=decide (eP S j):=by unfold rm;rw [Int.toNat_natCast]
    rw [hin];cases hh:decide (eP S j) with
    |true=>
     simp only [if_true,bs];refine congrArg (λr=>cL k m S n (r,(j:Int)+1)) (nn λc _ _=>?_);unfold upd;split <;> rfl
    |false=>simp only [Bool.false_eq_true,if_false,bs]
   .intro c hc0 hc1;unfold upd;by_cases e:c=(j:Int)
    .rw [if_pos e,e]
    .rw [if_neg e];exact hg c hc0 (by omega))
  (λn g hg=>by
   rw [length_range];unfold cL;rw [if_neg (show¬(((5:Nat):Int) < 5) by decide)]) (n:=k) (s0:=λ_=>0) (by rw [length_range];omega) (λc h0 h1=>by omega)
 have e0:([(0:Int),(0:Int),(0:Int),(0:Int),(0:Int)]:List Int)=lP λ_=>0:=rfl;rw [e0,show cL k m S k (lP λ_=>0,0)=_ from key.1,bs];refine congrArg some (nn λc h0 h5=>?_);have:=key.2;rw [length_range] at this;exact this c h0 h5
theorem xC{k:Nat}{m:ae}{S:Int}(v:Vd m)(hk:10≤k)(hS:mf S):mt k m S=some (cr (O7 m (rm S))):=by
 have d6:=v.d6;have d1:=v.d1;have w0:=v.w0;have w3:=v.w3;unfold mt jT;have hm:cf (0≤S/\S < 256)=some ():=dq hS;have hp0:cf ((0:Int)≤0/\(0:Int) < 7)=some ():=dq ⟨by omega,by omega⟩;rw [hm,bs,GQ hk hS,bs,hp0,bs]
 have key:=iK (T:=List (List Int)×Int) (f:=bU k m) (mD m) (λ(F:Nat->Int->Int) j=>(cr F,j)) (λF j _=>Bh F (j+1) (PU m (F j) j)) (λj F=>F=λn=>if n≤j then Pj m (rm S) n else λ_=>0) (λF=>some (cr F))
  (λn F j hj hF=>by
   have j0:(0:Int)≤(j:Int):=Int.natCast_nonneg _;have hck:ck ((j:Int)+1)=some ((j:Int)+1):=cU (by omega) (by omega);have hp:cf ((0:Int)≤(j:Int)/\(j:Int) < 7)=some ():=dq ⟨j0,by omega⟩;have hp2:cf ((0:Int)≤(j:Int)+1/\(j:Int)+1 < 7)=some ():=dq ⟨by omega,by omega⟩;have hFj:F j=Pj m (rm S) j:=by rw [hF];simp
   have hj':(j:Int) < (m.2.2.2.2.1.length:Int):=Int.ofNat_lt.2 hj
   have hnx:=HW (k:=k) (f:=F j) v hk hj (λc h0 h1=>by
    rw [hFj,yO v j c h0 h1];have:=CQ (B:=rm S) w0 (d:=j) (c:=c);have:=CP (B:=rm S) w3 (d:=j) (c:=c);omega)
   refine⟨?_,?_⟩
   .simp only [bU,hj',if_true,hck,hp,bs,IE (F:=F) (show j < 7 by omega),hnx,hp2];have e:Int.toNat ((j:Int)+1)=j+1:=by omega
    rw [e,O8 (by omega)]
   .rw [hF];funext i;unfold Bh;by_cases e:i=j+1
    .subst e;simp only [if_true,Nat.le_refl];rfl
    .simp only [e,if_false];by_cases h:i≤j
     .rw [if_pos h,if_pos (by omega)]
     .rw [if_neg h,if_neg (by omega)])
  (λn F hF=>by
   unfold bU;rw [if_neg (by show¬((m.2.2.2.2.1.length:Int) < _);exact Int.lt_irrefl _)]) (n:=k) (s0:=Bh (λ_ _=>0) 0 (λc=>if rm S c then mW m else -1)) (by omega) (by
   funext n;unfold Bh;by_cases e:n=0
   .subst e;rfl
   .rw [if_neg e,if_neg (by omega)])
 have e0:List.set tG (Int.toNat 0) (lP λc=>if rm S c then mW m else -1)=cr (Bh (λ_ _=>0) 0 (λc=>if rm S c then mW m else -1)):=rfl;rw [e0,show bU k m k (cr (Bh (λ_ _=>0) 0 (λc=>if rm S c then mW m else -1)),0)=_ from key.1,bs];rw [key.2];rfl
theorem LJ{m:ae}(v:Vd m){B:Int->Bool}{n:Nat}{c:Int}(hn:n≤(mD m).length)(h0:0≤c)(h1:c < mC m):O7 m B n c=my m B n c:=by
 unfold O7;rw [if_pos hn,yO v n c h0 h1]
end Go.Proofs.YthnacobbednnbaaGreat
set_option linter.unusedVariables false
set_option linter.unusedSimpArgs false
namespace Go.Proofs.YthnacobbednnbaaGreat
open K Go Go.Proofs
def wk{σ:Type}(bad:σ->Int->Option Int)(add:σ->Int->σ):List Int->σ->Except Int σ
 |[],s=>.ok s
 |x::l,s=>match bad s x with
  |some e=>.error e
  |none=>wk bad add l (add s x)
theorem ru{σ:Type}{bad:σ->Int->Option Int}{add:σ->Int->σ}:∀(l:List Int) (j:Nat) (s:σ),dQ (λs _ x=>match bad s x with |some e=>Except.error e |none=>.ok (add s x)) j l s=wk bad add l s
 |[],j,s=>rfl
 |x::l,j,s=>by
  rw [dQ,wk]
  cases bad s x with
  |some e=>rfl
  |none=>exact ru l (j+1) (add s x)
theorem wN{σ:Type}{bad:σ->Int->Option Int}{add:σ->Int->σ}:∀(a b:List Int) (s:σ),wk bad add (a++b) s=match wk bad add a s with | .error e=>.error e | .ok s'=>wk bad add b s'
 |[],b,s=>rfl
 |x::a,b,s=>by
  rw [cons_append,wk,wk]
  cases bad s x with
  |some e=>rfl
  |none=>exact wN a b (add s x)
theorem xT{σ:Type}{bad:σ->Int->Option Int}{add:σ->Int->σ}:∀(r:List (List Int)) (j:Nat) (s:σ),dQ (λs _ l=>wk bad add l s) j r s=wk bad add r.flatten s
 |[],j,s=>rfl
 |l::r,j,s=>by
  rw [dQ,flatten_cons,wN]
  cases wk bad add l s with
  |error e=>rfl
  |ok s'=>exact xT r (j+1) s'
theorem Gn{σ τ:Type}{b1:σ->Int->Option Int}{a1:σ->Int->σ}{b2:τ->Int->Option Int}{a2:τ->Int->τ}(R:σ->τ->Prop)(hb:∀s t x,R s t->b1 s x=b2 t x)(ha:∀s t x,R s t->b1 s x=none->R (a1 s x) (a2 t x)):
 ∀(l:List Int) (s:σ) (t:τ),R s t->(∃e,wk b1 a1 l s= .error e/\wk b2 a2 l t= .error e)\/∃s' t',wk b1 a1 l s= .ok s'/\wk b2 a2 l t= .ok t'/\R s' t'
 |[],s,t,h=>.inr ⟨s,t,rfl,rfl,h⟩
 |x::l,s,t,h=>by
  rw [wk,wk,<-hb s t x h]
  cases e:b1 s x with
  |some c=>exact .inl ⟨c,rfl,rfl⟩
  |none=>exact Gn R hb ha l _ _ (ha s t x h e)
theorem xW{σ:Type}{bad:σ->Int->Option Int}{add:σ->Int->σ}(P:σ->Prop)(hs:∀s x,P s->bad s x=none->P (add s x)):∀(l:List Int) (s s':σ),P s->wk bad add l s= .ok s'->P s'
 |[],s,s',h,e=>by cases e;exact h
 |x::l,s,s',h,e=>by
  rw [wk] at e
  cases hb:bad s x with
  |some c=>rw [hb] at e;cases e
  |none=>rw [hb] at e;exact xW P hs l _ s' (hs s x h hb) e
theorem lz{k:Nat}{a b c:Int}:dO k a b c=some (decide (b≤a/\a≤c)):=by
 unfold dO;by_cases h:b≤a <;> simp [h]
theorem tp{k:Nat}{a b c:Int}:fx k a b c=some (decide (b≤a/\a≤c)):=by
 unfold fx;by_cases h:b≤a <;> simp [h]
theorem RD{n:Int}(h:1≤n/\n≤5):ck (n - 1)=some (n - 1):=cU (by omega) (by omega)
theorem Cc{k:Nat}{m:ae}{x:Int}(h:1≤mC m/\mC m≤5):fu k m x=some (decide (0≤x/\x < mC m)):=by
 have h':IntKind.i64.wrap (m.1 - 1)=m.1 - 1:=uC (RD h);unfold fu;rw [h',tp,bs];congr 1;exact decide_eq_decide.2 ⟨λ⟨a,b⟩=>⟨a,by show x < m.1;omega⟩,λ⟨a,b⟩=>⟨a,by have:x < m.1:=b;omega⟩⟩
theorem OK{k:Nat}{m:ae}{x:Int}:iC k m x=some (decide (0≤x/\x≤(mD m).length)):=by
 unfold iC;rw [tp,bs]
theorem Dj{k:Nat}{l:List Int}{x:Int}(hk:l.length < k)(hl:l.length≤1000000):pH k l x=some (decide (x∈l)):=by
 unfold pH
 have key:=iL (f:=gV k l x) l (λ(_:Unit) j=>j) (λ_ j y=>if decide (y=x)=true then Except.error true else .ok ()) (λ_ _=>True) (λr=>some r)
  (λn s j hj _=>by
   have hck:ck ((j:Int)+1)=some ((j:Int)+1):=cU (by omega) (by omega);refine⟨?_,λ_ _=>trivial⟩;simp only [gV,Int.ofNat_lt,hj,if_true,cN hj,bs,decide_eq_true_eq];by_cases e:l[j]=x <;> simp [e,hck])
  (λn s _=>by simp [gV]) (n:=k) (s0:=()) hk trivial
 rw [show gV k l x k 0=_ from key]
 have:∀(l:List Int) (j:Nat),dQ (λ(_:Unit) _ y=>if decide (y=x)=true then Except.error true else .ok ()) j l ()=if x∈l then .error true else .ok ():=by
  intro l
  induction l with
  |nil=>intro j;simp [dQ]
  |cons y l ih=>
   intro j;rw [dQ];by_cases e:y=x
   .subst e;simp
   .simp only [e,decide_false,Bool.false_eq_true,if_false];rw [ih (j+1)];have:x∈y::l↔x∈l:=by simp [Ne.symm e]
    simp only [this]
 rw [this l 0];by_cases h:x∈l
 .simp [h,lr]
 .simp [h,kG]
def A9(C:Int)(s x:Int):Option Int:=if¬(0≤x/\x < C) then some 3 else if eP s x.toNat then some 4 else none
def wI(s x:Int):Int:=DF .u8 s (pg .u8 1 x)
def t4(C:Int)(s:List Int)(x:Int):Option Int:=if¬(0≤x/\x < C) then some 3 else if x∈s then some 4 else none
def yP(s:List Int)(x:Int):List Int:=s++[x]
theorem Dy:mf 0:=⟨by decide,by decide⟩
theorem Nx{C s x:Int}(h:A9 C s x=none):0≤x/\x < C:=by
 unfold A9 at h;split at h
 .cases h
 .rename_i h';exact Decidable.not_not.1 h'
theorem pC{k:Nat}{s x:Int}(hs:mf s)(h0:0≤x)(h8:x < 8):f9 k s x=some (wI s x)/\mf (wI s x)/\∀i:Nat,eP (wI s x) i↔eP s i\/(i:Int)=x:=by
 have h1:=Oq h0 h8;have h2:=OL hs h1.1;refine⟨?_,h2.1,λi=>?_⟩
 .unfold f9;rw [dq h0,bs];rfl
 .show eP (DF .u8 s (pg .u8 1 x)) i↔_;rw [h2.2 i,h1.2 i]
theorem AM{C s x:Int}(hC:C≤5)(hs:mf s)(h:A9 C s x=none):mf (wI s x):=by
 have:=Nx h;exact(pC (k:=0) hs this.1 (by omega)).2.1
def mr(C:Int)(r:List (List Int)):Int:=if 3 < r.length then 6 else match wk (t4 C) yP r.flatten [] with | .error e=>e | .ok _=>0
theorem Fb{k:Nat}{m:ae}(hC:1≤mC m/\mC m≤5){l:List Int}(hk:l.length < k)(hl:l.length≤1000){s:Int}(hs:mf s):
 dn k m l k (s,0)=some (wk (A9 (mC m)) wI l s):=by
 have key:=iL (T:=Int×Int) (f:=dn k m l) l (λ(s:Int) j=>(s,j)) (λs _ x=>match A9 (mC m) s x with |some e=>Except.error e |none=>.ok (wI s x)) (λ_ s=>mf s) (λr=>some r)
  (λn s j hj hs=>by
   have hck:ck ((j:Int)+1)=some ((j:Int)+1):=cU (by omega) (by omega);have hc:ck (m.1 - 1)=some (m.1 - 1):=RD hC;refine⟨?_,λs' e=>?_⟩
   .simp only [dn,Int.ofNat_lt,hj,if_true,cN hj,bs,hc,lz];generalize l[j]=x;by_cases h:0≤x/\x < mC m
    .have h':0≤x/\x≤m.1 - 1:=⟨h.1,by have:x < m.1:=h.2;omega⟩;have hh:=Ij (k:=k) hs (i:=x.toNat) (by omega);have ex:((x.toNat:Nat):Int)=x:=by omega
     rw [ex] at hh;simp only [h',and_self,decide_true,not_true_eq_false,if_false,hh,bs];have eb:A9 (mC m) s x=if eP s x.toNat then some 4 else none:=by unfold A9;rw [if_neg (λhn=>hn h)]
     rw [eb];by_cases h2:eP s x.toNat
     .simp only [h2,decide_true,if_true]
     .simp only [h2,decide_false,Bool.false_eq_true,if_false,(pC (k:=k) hs h.1 (by omega)).1,bs,hck]
    .have h':¬(0≤x/\x≤m.1 - 1):=λhh=>h ⟨hh.1,by show x < m.1;omega⟩;have eb:A9 (mC m) s x=some 3:=by unfold A9;rw [if_pos h]
     rw [eb];simp only [h',decide_false,Bool.false_eq_true,not_false_eq_true,if_true]
   .cases e2:A9 (mC m) s l[j] with
    |some c=>rw [e2] at e;cases e
    |none=>rw [e2] at e;cases e;exact AM hC.2 hs e2)
  (λn s _=>by simp [dn]) (n:=k) (s0:=s) hk hs
 rw [show dn k m l k (s,0)=_ from key,ru]
theorem Fe{k:Nat}{m:ae}(hC:1≤mC m/\mC m≤5){r:List (List Int)}(hk:r.length < k)(hr:r.length≤1000)(hl:∀l∈r,l.length < k/\l.length≤1000):
 dp k m r k (0,0)=some (match wk (A9 (mC m)) wI r.flatten 0 with | .error e=>.error e | .ok _=>.ok ()):=by
 have key:=iL (T:=Int×Int) (f:=dp k m r) r (λ(s:Int) j=>(s,j)) (λs _ l=>wk (A9 (mC m)) wI l s) (λ_ s=>mf s) (λx=>some (match x with | .error e=>Except.error e | .ok _=>.ok ()))
  (λn s j hj hs=>by
   have hck:ck ((j:Int)+1)=some ((j:Int)+1):=cU (by omega) (by omega);have hlj:=hl _ (List.getElem_mem hj);refine⟨?_,λs' e=>xW mf (λs x=>AM hC.2) _ _ _ hs e⟩;simp only [dp,Int.ofNat_lt,hj,if_true,cN hj,bs,Fb hC hlj.1 hlj.2 hs];cases wk (A9 (mC m)) wI r[j] s with
   |error e=>rw [lr]
   |ok s'=>rw [kG,hck,bs])
  (λn s _=>by simp [dp]) (n:=k) (s0:=0) hk Dy
 rw [show dp k m r k (0,0)=_ from key,xT]
theorem Lx{C:Int}(hC:C≤5)(l:List Int):(∃e,wk (A9 C) wI l 0= .error e/\wk (t4 C) yP l []= .error e)\/∃s t,wk (A9 C) wI l 0= .ok s/\wk (t4 C) yP l []= .ok t/\(mf s/\∀i:Nat,eP s i↔(i:Int)∈t):=by
 refine Gn (λs t=>mf s/\∀i:Nat,eP s i↔(i:Int)∈t) (λs t x h=>?_) (λs t x h hb=>?_) l 0 [] ⟨Dy,λi=>by simp [eP]⟩
 .unfold A9 t4;by_cases hx:0≤x/\x < C
  .have e:((x.toNat:Nat):Int)=x:=by omega
   have:=h.2 x.toNat;rw [e] at this;simp only [hx,and_self,not_true_eq_false,if_false,this]
  .rw [if_pos hx,if_pos hx]
 .have hx:=Nx hb;have hw:=pC (k:=0) h.1 hx.1 (by omega);refine⟨hw.2.1,λi=>?_⟩;rw [hw.2.2 i,h.2 i];unfold yP;simp
theorem KQ{k:Nat}{m:ae}(hC:1≤mC m/\mC m≤5){r:List (List Int)}(hk:1000 < k)(hr:r.length≤1000)(hl:∀l∈r,l.length≤1000):jB k m r=some (mr (mC m) r):=by
 unfold jB mr;by_cases h3:3 < r.length
 .rw [if_pos (by omega),if_pos h3]
 .rw [if_neg (by omega),if_neg h3,Fe hC (by omega) hr λl hh=>⟨by have:=hl l hh;omega,hl l hh⟩];rcases Lx hC.2 r.flatten with⟨e,h1,h2⟩ |⟨s,t,h1,h2,_⟩
  .rw [h1,h2];exact lr
  .rw [h1,h2];exact kG
end Go.Proofs.YthnacobbednnbaaGreat
set_option linter.unusedVariables false
set_option linter.unusedSimpArgs false
namespace Go.Proofs.YthnacobbednnbaaGreat
open K Go Go.Proofs
theorem sU:∀(n:Nat) (l:List Int),l.Nodup->(∀x∈l,0≤x/\x < (n:Int))->l.length≤n
 |0,l,_,h=>by
  cases l with
  |nil=>simp
  |cons x l=>have:=h x (by simp);omega
 |n+1,l,hn,h=>by
  have h1:=sU n (l.erase (n:Int)) (hn.erase _) (λx hx=>by
   have h2:=(Nodup.mem_erase_iff hn).1 hx
   have:=h x h2.2
   have:=h2.1
   omega)
  have:l.length≤(l.erase (n:Int)).length+1:=by rw [length_erase];split <;> omega
  omega
theorem RF{C:Int}{s:List Int}{x:Int}(h:t4 C s x=none):(0≤x/\x < C)/\x∉s:=by
 unfold t4 at h;split at h
 .cases h
 .rename_i h';split at h
  .cases h
  .rename_i h2;exact⟨Decidable.not_not.1 h',h2⟩
def Mt(C:Int)(s:List Int):Prop:=s.Nodup/\∀x∈s,0≤x/\x < C
theorem Mt.add{C:Int}{s:List Int}{x:Int}(h:Mt C s)(hb:t4 C s x=none):Mt C (yP s x):=by
 have:=RF hb;refine⟨?_,λy hy=>?_⟩
 .unfold yP;rw [nodup_append];exact⟨h.1,by simp,λa ha b hb e=>by rw [List.mem_singleton.1 hb] at e;exact this.2 (e▸ha)⟩
 .rcases List.mem_append.1 hy with hy |hy
  .exact h.2 y hy
  .rw [List.mem_singleton.1 hy];exact this.1
theorem Mt.len{C:Int}{s:List Int}(hC:0≤C/\C≤5)(h:Mt C s):s.length≤5:=by
 have:=sU C.toNat s h.1 λx hx=>⟨(h.2 x hx).1,by have:=(h.2 x hx).2;omega⟩;omega
theorem By{k:Nat}{m:ae}(hC:1≤mC m/\mC m≤5){r:List (List Int)}{y:List Int×Int}{l:List Int}(hy:aH r y.2=some l)(h6:10≤k)(hk:l.length < k)(hl:l.length≤1000){s:List Int}(hs:Mt (mC m) s):
 dH k m r y k (s,0)=some (wk (t4 (mC m)) yP l s):=by
 have key:=iL (T:=List Int×Int) (f:=dH k m r y) l (λ(s:List Int) j=>(s,j)) (λs _ x=>match t4 (mC m) s x with |some e=>Except.error e |none=>.ok (yP s x)) (λ_ s=>Mt (mC m) s) (λr=>some r)
  (λn s j hj hs=>by
   have hck:ck ((j:Int)+1)=some ((j:Int)+1):=cU (by omega) (by omega);have h5:=hs.len ⟨by omega,hC.2⟩;refine⟨?_,λs' e=>?_⟩
   .simp only [dH,hy,Int.ofNat_lt,hj,if_true,cN hj,bs,Cc hC];generalize l[j]=x;by_cases h:0≤x/\x < mC m
    .have eb:t4 (mC m) s x=if x∈s then some 4 else none:=by unfold t4;rw [if_neg (λhn=>hn h)]
     rw [eb];simp only [h,and_self,decide_true,not_true_eq_false,if_false,Dj (k:=k) (l:=s) (x:=x) (by omega) (by omega),bs];by_cases h2:x∈s
     .simp only [h2,decide_true,if_true]
     .have hok:cf (bA (length s+length [x]))=some ():=dq (by simp [bA];omega);simp only [h2,decide_false,Bool.false_eq_true,if_false,hok,bs,hck];rfl
    .have eb:t4 (mC m) s x=some 3:=by unfold t4;rw [if_pos h]
     rw [eb];simp only [h,decide_false,Bool.false_eq_true,not_false_eq_true,if_true]
   .cases e2:t4 (mC m) s l[j] with
    |some c=>rw [e2] at e;cases e
    |none=>rw [e2] at e;cases e;exact hs.add e2)
  (λn s _=>by simp [dH,hy,bs]) (n:=k) (s0:=s) hk hs
 exact key.trans (congrArg some (ru l 0 s))
theorem J4{k:Nat}{m:ae}(hC:1≤mC m/\mC m≤5){r:List (List Int)}(hk:1000 < k)(hr:r.length≤1000)(hl:∀l∈r,l.length≤1000):jt k m r=some (mr (mC m) r):=by
 unfold jt mr;by_cases h3:3 < r.length
 .rw [if_pos (by omega),if_pos h3]
 .rw [if_neg (by omega),if_neg h3]
  have key:=iL (T:=List Int×Int) (f:=dI k m r) r (λ(s:List Int) j=>(s,j)) (λs _ l=>wk (t4 (mC m)) yP l s) (λ_ s=>Mt (mC m) s) (λx=>some (match x with | .error e=>Except.error e | .ok _=>.ok ()))
   (λn s j hj hs=>by
    have hck:ck ((j:Int)+1)=some ((j:Int)+1):=cU (by omega) (by omega);have hlj:=hl _ (List.getElem_mem hj);refine⟨?_,λs' e=>xW (Mt (mC m)) (λs x=>Mt.add) _ _ _ hs e⟩;have hg:aH r ((s,(j:Int)).2)=some r[j]:=cN hj;simp only [dI,Int.ofNat_lt,hj,if_true];rw [By hC hg (by omega) (by omega) hlj hs];cases wk (t4 (mC m)) yP r[j] s with
    |error e=>rw [lr]
    |ok s'=>rw [kG,hck,bs])
   (λn s _=>by simp [dI]) (n:=k) (s0:=[]) (by omega) ⟨nodup_nil,λx hx=>by cases hx⟩
  rw [show dI k m r k ([],0)=_ from key,xT];cases wk (t4 (mC m)) yP r.flatten [] with
  |error e=>exact lr
  |ok s=>exact kG
theorem Gq{C:Int}:∀{l s t:List Int},wk (t4 C) yP l s= .ok t->t=s++l
 |[],s,t,e=>by cases e;simp
 |x::l,s,t,e=>by
  rw [wk] at e
  cases hb:t4 C s x with
  |some c=>rw [hb] at e;cases e
  |none=>
   rw [hb] at e
   have:=Gq e
   rw [this]
   simp [yP]
theorem C9{C:Int}:∀{l s:List Int},(s++l).Nodup->(∀x∈l,0≤x/\x < C)->wk (t4 C) yP l s= .ok (s++l)
 |[],s,_,_=>by simp [wk]
 |x::l,s,hn,hr=>by
  have hx:x∉s:=by
   intro h;rw [nodup_append] at hn;exact hn.2.2 x h x (mem_cons_self) rfl
  have hb:t4 C s x=none:=by
   unfold t4;rw [if_neg (λh=>h (hr x mem_cons_self)),if_neg hx]
  rw [wk,hb];simp only [];rw [C9 (s:=yP s x) (by unfold yP;simpa using hn) λy hy=>hr y (mem_cons_of_mem _ hy)];unfold yP;simp
theorem xB{C:Int}{r:List (List Int)}:mr C r=0↔r.length≤3/\r.flatten.Nodup/\∀x∈r.flatten,0≤x/\x < C:=by
 unfold mr;constructor
 .intro h;split at h
  .cases h
  .cases e:wk (t4 C) yP r.flatten [] with
   |ok t=>
    have h1:=xW (Mt C) (λs x=>Mt.add) _ _ _ ⟨nodup_nil,λx hx=>by cases hx⟩ e;have h2:=Gq e;rw [nil_append] at h2;subst h2;exact⟨by omega,h1.1,h1.2⟩
   |error c=>
    rw [e] at h;exfalso
    have:∀(l s:List Int),wk (t4 C) yP l s≠.error 0:=by
     intro l
     induction l with
     |nil=>intro s h;cases h
     |cons x l ih=>
      intro s h;rw [wk] at h;cases hb:t4 C s x with
      |some c=>
       rw [hb] at h;obtain rfl:c=0:=by injection h
       unfold t4 at hb;split at hb
       .cases hb
       .split at hb <;> cases hb
      |none=>rw [hb] at h;exact ih _ h
    exact this _ _ (by rw [e,show c=0 from h])
 .rintro⟨h1,h2,h3⟩;rw [if_neg (by omega),C9 (by simpa using h2) h3]
def xo(m:ae)(g:aQ):Int:=if(0≤g.1/\g.1 < mC m)/\0≤g.2.1/\g.2.1≤(mD m).length then 0 else 3
theorem OI{k:Nat}{m:ae}(hC:1≤mC m/\mC m≤5){g:aQ}:gp k m g=some (xo m g):=by
 have hc:ck (m.1 - 1)=some (m.1 - 1):=RD hC;unfold gp xo;have e:decide (0≤g.1/\g.1≤m.1 - 1)=decide (0≤g.1/\g.1 < mC m):=decide_eq_decide.2 ⟨λh=>⟨h.1,by show g.1 < m.1;omega⟩,λh=>⟨h.1,by have:g.1 < m.1:=h.2;omega⟩⟩;rw [hc,bs,lz,bs,e];by_cases h1:0≤g.1/\g.1 < mC m
 .by_cases h2:0≤g.2.1/\g.2.1≤(mD m).length <;> simp [h1,h2,lz]
 .simp [h1]
theorem Oh{k:Nat}{m:ae}(hC:1≤mC m/\mC m≤5){g:aQ}:gi k m g=some (xo m g):=by
 unfold gi xo;rw [Cc hC,bs];by_cases h1:0≤g.1/\g.1 < mC m
 .by_cases h2:0≤g.2.1/\g.2.1≤(mD m).length <;> simp [h1,h2,OK]
 .simp [h1]
def iw{α:Type}(f:α->Int)(l:List α):Int:=((l.map f).find? λe=>decide (e≠0)).getD 0
theorem ny{α:Type}(f:α->Int):∀(l:List α) (j:Nat),dQ (λ(_:Unit) _ x=>if¬(f x=0) then Except.error (f x) else .ok ()) j l ()=if iw f l=0 then .ok () else .error (iw f l)
 |[],j=>by simp [dQ,iw]
 |x::l,j=>by
  rw [dQ]
  by_cases h:f x=0
  .
   have:iw f (x::l)=iw f l:=by simp [iw,h]
   rw [this]
   simp only [h,not_true_eq_false,if_false]
   exact ny f l (j+1)
  .
   have:iw f (x::l)=f x:=by simp [iw,h]
   rw [this]
   simp [h]
theorem pP{α:Type}{f:α->Int}{l:List α}:iw f l=0↔∀x∈l,f x=0:=by
 induction l with
 |nil=>simp [iw]
 |cons x l ih=>
  by_cases h:f x=0
  .have:iw f (x::l)=iw f l:=by simp [iw,h]
   rw [this,ih];simp [h]
  .have:iw f (x::l)=f x:=by simp [iw,h]
   rw [this];simp [h]
structure Sm(m:ae):Prop where
 d:(mD m).length≤1000
 r:∀r∈mD m,r.length≤1000/\∀l∈r,l.length≤1000
 g:(mG m).length≤1000
def nB(m:ae):Int:=
 if¬((1≤mC m/\mC m≤5)/\(0≤mW m/\mW m≤3)/\(0≤mS m/\mS m≤3)/\1≤mH m/\mH m≤3) then 1
 else if(mD m).length=0 then 7 else if 6 < (mD m).length then 6 else if¬(iw (mr (mC m)) (mD m)=0) then iw (mr (mC m)) (mD m)
 else if 8 < (mG m).length then 6 else iw (xo m) (mG m)
theorem Dx{k:Nat}{m:ae}(hs:Sm m)(hk:1000 < k):lD k m=some (nB m):=by
 unfold lD nB;simp only [lz,bs];by_cases h1:1≤mC m/\mC m≤5
 .by_cases h2:0≤mW m/\mW m≤3
  .by_cases h3:0≤mS m/\mS m≤3
   .by_cases h4:1≤mH m/\mH m≤3
    .have e1:(1≤m.1/\m.1≤5)=True:=eq_true h1;have e2:(0≤m.2.1/\m.2.1≤3)=True:=eq_true h2;have e3:(0≤m.2.2.1/\m.2.2.1≤3)=True:=eq_true h3;have e4:(1≤m.2.2.2.1/\m.2.2.2.1≤3)=True:=eq_true h4;simp only [e1,e2,e3,e4,decide_true,not_true_eq_false,if_false,Bool.not_true,Bool.false_eq_true,bs,and_self,h1,h2,h3,h4];by_cases h5:(mD m).length=0
     .rw [if_pos (show((m.2.2.2.2.1.length:Int) < 1) by have:m.2.2.2.2.1.length=0:=h5;omega),if_pos h5]
     .rw [if_neg (show¬((m.2.2.2.2.1.length:Int) < 1) by have:m.2.2.2.2.1.length≠0:=h5;omega),if_neg h5];by_cases h6:6 < (mD m).length
      .rw [if_pos (show((6:Int) < (m.2.2.2.2.1.length:Int)) by have:6 < m.2.2.2.2.1.length:=h6;omega),if_pos h6]
      .rw [if_neg (show¬((6:Int) < (m.2.2.2.2.1.length:Int)) by have:¬6 < m.2.2.2.2.1.length:=h6;omega),if_neg h6]
       have key:=iL (f:=fj k m) (mD m) (λ(_:Unit) j=>j) (λ_ _ x=>if¬(mr (mC m) x=0) then Except.error (mr (mC m) x) else .ok ()) (λ_ _=>True) (λr=>some r)
        (λn s j hj _=>by
         have hck:ck ((j:Int)+1)=some ((j:Int)+1):=cU (by omega) (by omega);have hr:=hs.r _ (List.getElem_mem hj);refine⟨?_,λ_ _=>trivial⟩;have hj':(j:Int) < (m.2.2.2.2.1.length:Int):=Int.ofNat_lt.2 hj;have hg:aH m.2.2.2.2.1 (j:Int)=some (mD m)[j]:=cN hj;simp only [fj,hj',if_true,hg,bs,KQ h1 hk hr.1 hr.2];by_cases e:mr (mC m) (mD m)[j]=0 <;> simp [e,hck])
        (λn s _=>by
         unfold fj;rw [if_neg (Int.lt_irrefl _)]) (n:=k) (s0:=()) (by have:=hs.d;omega) trivial
       rw [show fj k m k 0=_ from key,ny];by_cases h7:iw (mr (mC m)) (mD m)=0
       .rw [if_pos h7,kG,show(if¬(iw (mr (mC m)) (mD m)=0) then iw (mr (mC m)) (mD m) else if 8 < (mG m).length then 6 else iw (xo m) (mG m))=(if 8 < (mG m).length then 6 else iw (xo m) (mG m)) from if_neg (λhn=>hn h7)];by_cases h8:8 < (mG m).length
        .rw [if_pos (show((8:Int) < (m.2.2.2.2.2.length:Int)) by have:8 < m.2.2.2.2.2.length:=h8;omega),if_pos h8]
        .rw [if_neg (show¬((8:Int) < (m.2.2.2.2.2.length:Int)) by have:¬8 < m.2.2.2.2.2.length:=h8;omega),if_neg h8]
         have key:=iL (f:=fi k m) (mG m) (λ(_:Unit) j=>j) (λ_ _ x=>if¬(xo m x=0) then Except.error (xo m x) else .ok ()) (λ_ _=>True) (λr=>some r)
          (λn s j hj _=>by
           have hck:ck ((j:Int)+1)=some ((j:Int)+1):=cU (by omega) (by omega);refine⟨?_,λ_ _=>trivial⟩;have hj':(j:Int) < (m.2.2.2.2.2.length:Int):=Int.ofNat_lt.2 hj;have hg:aH m.2.2.2.2.2 (j:Int)=some (mG m)[j]:=cN hj;simp only [fi,hj',if_true,hg,bs,OI h1];by_cases e:xo m (mG m)[j]=0 <;> simp [e,hck])
          (λn s _=>by
           unfold fi;rw [if_neg (Int.lt_irrefl _)]) (n:=k) (s0:=()) (by have:=hs.g;omega) trivial
         rw [show fi k m k 0=_ from key,ny];by_cases h9:iw (xo m) (mG m)=0
         .rw [if_pos h9,kG,h9]
         .rw [if_neg h9,lr]
       .rw [if_neg h7,lr,if_pos h7]
    .have e1:(1≤m.1/\m.1≤5)=True:=eq_true h1;have e2:(0≤m.2.1/\m.2.1≤3)=True:=eq_true h2;have e3:(0≤m.2.2.1/\m.2.2.1≤3)=True:=eq_true h3;have e4:(1≤m.2.2.2.1/\m.2.2.2.1≤3)=False:=eq_false h4;refine Eq.trans ?_ (congrArg some (if_pos λhh=>h4 hh.2.2.2).symm);simp [e1,e2,e3,e4]
   .have e1:(1≤m.1/\m.1≤5)=True:=eq_true h1;have e2:(0≤m.2.1/\m.2.1≤3)=True:=eq_true h2;have e3:(0≤m.2.2.1/\m.2.2.1≤3)=False:=eq_false h3;refine Eq.trans ?_ (congrArg some (if_pos λhh=>h3 hh.2.2.1).symm);simp [e1,e2,e3]
  .have e1:(1≤m.1/\m.1≤5)=True:=eq_true h1;have e2:(0≤m.2.1/\m.2.1≤3)=False:=eq_false h2;refine Eq.trans ?_ (congrArg some (if_pos λhh=>h2 hh.2.1).symm);simp [e1,e2]
 .have e1:(1≤m.1/\m.1≤5)=False:=eq_false h1;refine Eq.trans ?_ (congrArg some (if_pos λhh=>h1 hh.1).symm);simp [e1]
theorem Dk{k:Nat}{m:ae}(hs:Sm m)(hk:1000 < k):lA k m=some (nB m):=by
 unfold lA nB;simp only [tp,bs];by_cases h1:1≤mC m/\mC m≤5
 .by_cases h2:0≤mW m/\mW m≤3
  .by_cases h3:0≤mS m/\mS m≤3
   .by_cases h4:1≤mH m/\mH m≤3
    .have e1:(1≤m.1/\m.1≤5)=True:=eq_true h1;have e2:(0≤m.2.1/\m.2.1≤3)=True:=eq_true h2;have e3:(0≤m.2.2.1/\m.2.2.1≤3)=True:=eq_true h3;have e4:(1≤m.2.2.2.1/\m.2.2.2.1≤3)=True:=eq_true h4;simp only [e1,e2,e3,e4,decide_true,not_true_eq_false,if_false,Bool.not_true,Bool.false_eq_true,bs,and_self,h1,h2,h3,h4];by_cases h5:(mD m).length=0
     .rw [if_pos (show((m.2.2.2.2.1.length:Int)=0) by have:m.2.2.2.2.1.length=0:=h5;omega),if_pos h5]
     .rw [if_neg (show¬((m.2.2.2.2.1.length:Int)=0) by have:m.2.2.2.2.1.length≠0:=h5;omega),if_neg h5];by_cases h6:6 < (mD m).length
      .rw [if_pos (show((6:Int) < (m.2.2.2.2.1.length:Int)) by have:6 < m.2.2.2.2.1.length:=h6;omega),if_pos h6]
      .rw [if_neg (show¬((6:Int) < (m.2.2.2.2.1.length:Int)) by have:¬6 < m.2.2.2.2.1.length:=h6;omega),if_neg h6]
       have key:=iL (f:=eY k m) (mD m) (λ(_:Unit) j=>j) (λ_ _ x=>if¬(mr (mC m) x=0) then Except.error (mr (mC m) x) else .ok ()) (λ_ _=>True) (λr=>some r)
        (λn s j hj _=>by
         have hck:ck ((j:Int)+1)=some ((j:Int)+1):=cU (by omega) (by omega);have hr:=hs.r _ (List.getElem_mem hj);refine⟨?_,λ_ _=>trivial⟩;have hj':(j:Int) < (m.2.2.2.2.1.length:Int):=Int.ofNat_lt.2 hj;have hg:aH m.2.2.2.2.1 (j:Int)=some (mD m)[j]:=cN hj;simp only [eY,hj',if_true,hg,bs,J4 h1 hk hr.1 hr.2];by_cases e:mr (mC m) (mD m)[j]=0 <;> simp [e,hck])
        (λn s _=>by
         unfold eY;rw [if_neg (Int.lt_irrefl _)]) (n:=k) (s0:=()) (by have:=hs.d;omega) trivial
       rw [show eY k m k 0=_ from key,ny];by_cases h7:iw (mr (mC m)) (mD m)=0
       .rw [if_pos h7,kG,show(if¬(iw (mr (mC m)) (mD m)=0) then iw (mr (mC m)) (mD m) else if 8 < (mG m).length then 6 else iw (xo m) (mG m))=(if 8 < (mG m).length then 6 else iw (xo m) (mG m)) from if_neg (λhn=>hn h7)];by_cases h8:8 < (mG m).length
        .rw [if_pos (show((8:Int) < (m.2.2.2.2.2.length:Int)) by have:8 < m.2.2.2.2.2.length:=h8;omega),if_pos h8]
        .rw [if_neg (show¬((8:Int) < (m.2.2.2.2.2.length:Int)) by have:¬8 < m.2.2.2.2.2.length:=h8;omega),if_neg h8]
         have key:=iL (f:=eX k m) (mG m) (λ(_:Unit) j=>j) (λ_ _ x=>if¬(xo m x=0) then Except.error (xo m x) else .ok ()) (λ_ _=>True) (λr=>some r)
          (λn s j hj _=>by
           have hck:ck ((j:Int)+1)=some ((j:Int)+1):=cU (by omega) (by omega);refine⟨?_,λ_ _=>trivial⟩;have hj':(j:Int) < (m.2.2.2.2.2.length:Int):=Int.ofNat_lt.2 hj;have hg:aH m.2.2.2.2.2 (j:Int)=some (mG m)[j]:=cN hj;simp only [eX,hj',if_true,hg,bs,Oh h1];by_cases e:xo m (mG m)[j]=0 <;> simp [e,hck])
          (λn s _=>by
           unfold eX;rw [if_neg (Int.lt_irrefl _)]) (n:=k) (s0:=()) (by have:=hs.g;omega) trivial
         rw [show eX k m k 0=_ from key,ny];by_cases h9:iw (xo m) (mG m)=0
         .rw [if_pos h9,kG,h9]
         .rw [if_neg h9,lr]
       .rw [if_neg h7,lr,if_pos h7]
    .have e1:(1≤m.1/\m.1≤5)=True:=eq_true h1;have e2:(0≤m.2.1/\m.2.1≤3)=True:=eq_true h2;have e3:(0≤m.2.2.1/\m.2.2.1≤3)=True:=eq_true h3;have e4:(1≤m.2.2.2.1/\m.2.2.2.1≤3)=False:=eq_false h4;refine Eq.trans ?_ (congrArg some (if_pos λhh=>h4 hh.2.2.2).symm);simp [e1,e2,e3,e4]
   .have e1:(1≤m.1/\m.1≤5)=True:=eq_true h1;have e2:(0≤m.2.1/\m.2.1≤3)=True:=eq_true h2;have e3:(0≤m.2.2.1/\m.2.2.1≤3)=False:=eq_false h3;refine Eq.trans ?_ (congrArg some (if_pos λhh=>h3 hh.2.2.1).symm);simp [e1,e2,e3]
  .have e1:(1≤m.1/\m.1≤5)=True:=eq_true h1;have e2:(0≤m.2.1/\m.2.1≤3)=False:=eq_false h2;refine Eq.trans ?_ (congrArg some (if_pos λhh=>h2 hh.2.1).symm);simp [e1,e2]
 .have e1:(1≤m.1/\m.1≤5)=False:=eq_false h1;refine Eq.trans ?_ (congrArg some (if_pos λhh=>h1 hh.1).symm);simp [e1]
end Go.Proofs.YthnacobbednnbaaGreat
set_option linter.unusedVariables false
set_option linter.unusedSimpArgs false
namespace Go.Proofs.YthnacobbednnbaaGreat
open K Go Go.Proofs
theorem ve{r:List (List Int)}{l:List Int}(h:r.flatten.Nodup)(hl:l∈r):l.Nodup:=by
 obtain⟨s,t,rfl⟩:=List.append_of_mem hl;rw [List.flatten_append,flatten_cons,nodup_append] at h;have:=h.2.1;rw [nodup_append] at this;exact this.1
theorem Jz{σ:Type}{bad:σ->Int->Option Int}{add:σ->Int->σ}{x:Int}{l:List Int}{s:σ}{e:Int}(h:bad s x=some e):wk bad add (x::l) s= .error e:=by rw [wk,h]
theorem Jw{σ:Type}{bad:σ->Int->Option Int}{add:σ->Int->σ}{x:Int}{l:List Int}{s:σ}(h:bad s x=none):wk bad add (x::l) s=wk bad add l (add s x):=by rw [wk,h]
theorem Vd.of{m:ae}(h:nB m=0):Vd m:=by
 unfold nB at h;by_cases h1:(1≤mC m/\mC m≤5)/\(0≤mW m/\mW m≤3)/\(0≤mS m/\mS m≤3)/\1≤mH m/\mH m≤3
 .rw [if_neg (λhn=>hn h1)] at h;by_cases h2:(mD m).length=0
  .rw [if_pos h2] at h;cases h
  .rw [if_neg h2] at h;by_cases h3:6 < (mD m).length
   .rw [if_pos h3] at h;cases h
   .rw [if_neg h3] at h;by_cases h4:iw (mr (mC m)) (mD m)=0
    .rw [if_neg (λhn=>hn h4)] at h;by_cases h5:8 < (mG m).length
     .rw [if_pos h5] at h;cases h
     .rw [if_neg h5] at h;have hd:=λr hr=>xB.1 (pP.1 h4 r hr);have hx:∀r∈mD m,∀l∈r,∀x∈l,0≤x/\x < mC m:=λr hr l hl x hx=>(hd r hr).2.2 x (List.mem_flatten.2 ⟨l,hl,hx⟩)
      exact⟨h1.1.1,h1.1.2,h1.2.1.1,h1.2.1.2,h1.2.2.1.1,h1.2.2.1.2,h1.2.2.2.1,h1.2.2.2.2,by omega,by omega,λr hr=>(hd r hr).1,λr hr l hl=>by
       have hn:l.Nodup:=ve (hd r hr).2.1 hl;have:=sU (mC m).toNat l hn λx hxx=>by have:=hx r hr l hl x hxx;omega
       omega,hx,λr hr=>(hd r hr).2.1,by omega,λg hg=>by
        have:=pP.1 h g hg;unfold xo at this;split at this
        .rename_i hh;exact⟨hh.1.1,hh.1.2,hh.2.1,hh.2.2⟩
        .cases this⟩
    .rw [if_pos h4] at h;exact absurd h h4
 .rw [if_pos h1] at h;cases h
theorem Vd.chk{m:ae}(v:Vd m):nB m=0:=by
 unfold nB;have h1:(1≤mC m/\mC m≤5)/\(0≤mW m/\mW m≤3)/\(0≤mS m/\mS m≤3)/\1≤mH m/\mH m≤3:=⟨⟨v.c1,v.c5⟩,⟨v.w0,v.w3⟩,⟨v.s0,v.s3⟩,v.h1,v.h3⟩
 have h4:iw (mr (mC m)) (mD m)=0:=pP.2 λr hr=>xB.2 ⟨v.r3 r hr,v.nd r hr,λx hx=>by
  obtain⟨l,hl,hx⟩:=List.mem_flatten.1 hx;exact v.x5 r hr l hl x hx⟩
 have h9:iw (xo m) (mG m)=0:=pP.2 λg hg=>by
  have:=v.gl g hg;unfold xo;rw [if_pos ⟨⟨this.1,this.2.1⟩,this.2.2⟩]
 have d1:=v.d1;have d6:=v.d6;have g8:=v.g8;rw [if_neg (λhn=>hn h1),if_neg (by omega),if_neg (by omega),if_neg (λhn=>hn h4),if_neg (by omega),h9]
theorem Vd.sm{m:ae}(v:Vd m):Sm m:=⟨by have:=v.d6;omega,λr hr=>⟨by have:=v.r3 r hr;omega,λl hl=>by have:=v.l5 r hr l hl;omega⟩,by have:=v.g8;omega⟩
def qm(C:Int)(p:Option Int)(x:Int):Option Int:=if¬(0≤x/\x < C) then some 3 else if p.any (λy=>decide (x≤y)) then some 5 else none
def LV(C:Int)(p:Option Int×Int)(x:Int):Option Int:=qm C p.1 x
def PZ(p:Option Int×Int)(x:Int):Option Int×Int:=(some x,wI p.2 x)
def Eb(p:Option Int)(x:Int):Option Int:=some x
def ox(C:Int)(b:List Int):Int:=match wk (qm C) Eb b none with | .error e=>e | .ok _=>0
def jf(b:List Int):Int:=b.foldl wI 0
theorem Ny{C:Int}{p:Option Int}{x:Int}(h:qm C p x=none):(0≤x/\x < C)/\p.any (λy=>decide (x≤y))=false:=by
 unfold qm at h;split at h
 .cases h
 .rename_i h';split at h
  .cases h
  .rename_i h2;exact⟨Decidable.not_not.1 h',by simpa using h2⟩
theorem D8{C:Int}:∀(b:List Int) (p:Option Int) (s:Int),(∃e,wk (LV C) PZ b (p,s)= .error e/\wk (qm C) Eb b p= .error e)\/∃q,wk (LV C) PZ b (p,s)= .ok (q,b.foldl wI s)/\wk (qm C) Eb b p= .ok q
 |[],p,s=>.inr ⟨p,rfl,rfl⟩
 |x::b,p,s=>by
  cases e:qm C p x with
  |some c=>exact .inl ⟨c,Jz e,Jz e⟩
  |none=>
   rw [Jw (bad:=LV C) (s:=(p,s)) (x:=x) e,Jw e]
   exact D8 (C:=C) b (some x) (wI s x)
theorem zY{k:Nat}{m:ae}(hC:1≤mC m/\mC m≤5){b:List Int}(hk:b.length < k)(hb:b.length≤1000):
 fe k m b k (0,0)=some (if ox (mC m) b=0 then .ok (jf b) else .error (none,0,ox (mC m) b)):=by
 have key:=iL (T:=Int×Int) (f:=fe k m b) b (λ(s:Option Int×Int) j=>(s.2,j)) (λs _ x=>match LV (mC m) s x with |some e=>Except.error e |none=>.ok (PZ s x)) (λj s=>mf s.2/\s.1=if j=0 then none else b[j-1]?) (λr=>some (match r with | .error e=>Except.error (none,0,e) | .ok s=>.ok s.2))
  (λn s j hj hs=>by
   have hck:ck ((j:Int)+1)=some ((j:Int)+1):=cU (by omega) (by omega);have hc:ck (m.1 - 1)=some (m.1 - 1):=RD hC;refine⟨?_,λs' e=>?_⟩
   .simp only [fe,Int.ofNat_lt,hj,if_true,cN hj,bs,hc,lz];generalize b[j]=x;rw [show LV (mC m) s x=qm (mC m) s.1 x from rfl];by_cases h:0≤x/\x < mC m
    .have h':0≤x/\x≤m.1 - 1:=⟨h.1,by have:x < m.1:=h.2;omega⟩;have eb:qm (mC m) s.1 x=if s.1.any (λy=>decide (x≤y)) then some 5 else none:=by unfold qm;rw [if_neg (λhn=>hn h)]
     have ep:(if(0:Int) < (j:Int) then((ck ((j:Int) - 1)).bind λx12=>(aH b x12).bind λx13=>some (decide (x≤x13))) else some false)=some (s.1.any λy=>decide (x≤y)):=by
      rw [hs.2];by_cases h0:j=0
      .subst h0;simp
      .have c1:ck ((j:Int) - 1)=some ((j - 1:Nat):Int):=by rw [cU (by omega) (by omega),show((j:Int) - 1)=((j - 1:Nat):Int) by omega]
       rw [if_pos (by omega),c1,bs,cN (by omega),bs,if_neg h0,List.getElem?_eq_getElem (by omega)];rfl
     rw [eb];simp only [h',and_self,decide_true,not_true_eq_false,if_false,bs];rw [ep,bs];cases s.1.any λy=>decide (x≤y) with
     |true=>simp only [if_true]
     |false=>
      simp only [Bool.false_eq_true,if_false,(pC (k:=k) hs.1 h.1 (by omega)).1,bs,hck];rfl
    .have h':¬(0≤x/\x≤m.1 - 1):=λhh=>h ⟨hh.1,by show x < m.1;omega⟩;have eb:qm (mC m) s.1 x=some 3:=by unfold qm;rw [if_pos h]
     rw [eb];simp only [h',decide_false,Bool.false_eq_true,not_false_eq_true,if_true,bs]
   .cases e2:LV (mC m) s b[j] with
    |some c=>rw [e2] at e;cases e
    |none=>
     rw [e2] at e;cases e;have hx:=Ny e2;exact⟨(pC (k:=0) hs.1 hx.1.1 (by omega)).2.1,by show some b[j]=if j+1=0 then none else b[j+1 - 1]?;rw [if_neg (by omega)];simp [List.getElem?_eq_getElem hj]⟩)
  (λn s _=>by simp [fe]) (n:=k) (s0:=(none,0)) hk ⟨Dy,rfl⟩
 rw [show fe k m b k (0,0)=_ from key]
 have e1:dQ (λ(s:Option Int×Int) _ x=>match LV (mC m) s x with |some e=>Except.error e |none=>.ok (PZ s x)) 0 b (none,0)=wk (LV (mC m)) PZ b (none,0):=ru (bad:=LV (mC m)) (add:=PZ) b 0 (none,0)
 rw [e1]
 unfold ox
 have z:∀(l:List Int) (p:Option Int),wk (qm (mC m)) Eb l p≠.error 0:=by
  intro l
  induction l with
  |nil=>intro p h;cases h
  |cons x l ih=>
   intro p h;rw [wk] at h;cases hb:qm (mC m) p x with
   |some c=>
    rw [hb] at h;obtain rfl:c=0:=by injection h
    unfold qm at hb;split at hb
    .cases hb
    .split at hb <;> cases hb
   |none=>rw [hb] at h;exact ih _ h
 rcases D8 (C:=mC m) b none 0 with⟨e,h1,h2⟩ |⟨q,h1,h2⟩
 .
  rw [h1,h2];simp only [];rw [if_neg (λh0=>z b none (by rw [h2,h0]))]
 .
  rw [h1,h2];rfl
theorem J5{k:Nat}{m:ae}(hC:1≤mC m/\mC m≤5){b:List Int}(hk:b.length < k)(hb:b.length≤1000):gW k m b=some (ox (mC m) b):=by
 unfold gW
 have key:=iL (T:=Int) (f:=dj k m b) b (λ(s:Option Int) j=>j) (λs _ x=>match qm (mC m) s x with |some e=>Except.error e |none=>.ok (Eb s x)) (λj s=>s=if j=0 then none else b[j-1]?) (λr=>some (match r with | .error e=>Except.error e | .ok s=>.ok ()))
  (λn s j hj hs=>by
   have hck:ck ((j:Int)+1)=some ((j:Int)+1):=cU (by omega) (by omega);refine⟨?_,λs' e=>?_⟩
   .simp only [dj,Int.ofNat_lt,hj,if_true,cN hj,bs,Cc hC];generalize b[j]=x;by_cases h:0≤x/\x < mC m
    .have eb:qm (mC m) s x=if s.any (λy=>decide (x≤y)) then some 5 else none:=by unfold qm;rw [if_neg (λhn=>hn h)]
     have ep:(if(0:Int) < (j:Int) then((ck ((j:Int) - 1)).bind λx12=>(aH b x12).bind λx13=>some (decide (x≤x13))) else some false)=some (s.any λy=>decide (x≤y)):=by
      rw [hs];by_cases h0:j=0
      .subst h0;simp
      .have c1:ck ((j:Int) - 1)=some ((j - 1:Nat):Int):=by rw [cU (by omega) (by omega),show((j:Int) - 1)=((j - 1:Nat):Int) by omega]
       rw [if_pos (by omega),c1,bs,cN (by omega),bs,if_neg h0,List.getElem?_eq_getElem (by omega)];rfl
     rw [eb];simp only [h,and_self,decide_true,not_true_eq_false,if_false,bs];rw [ep,bs];cases s.any λy=>decide (x≤y) with
     |true=>simp only [if_true]
     |false=>simp only [Bool.false_eq_true,if_false,bs,hck]
    .have eb:qm (mC m) s x=some 3:=by unfold qm;rw [if_pos h]
     rw [eb];simp only [h,decide_false,Bool.false_eq_true,not_false_eq_true,if_true,bs]
   .cases e2:qm (mC m) s b[j] with
    |some c=>rw [e2] at e;cases e
    |none=>
     rw [e2] at e;cases e;show some b[j]=if j+1=0 then none else b[j+1 - 1]?;rw [if_neg (by omega)];simp [List.getElem?_eq_getElem hj])
  (λn s _=>by simp [dj]) (n:=k) (s0:=none) hk rfl
 rw [show dj k m b k 0=_ from key];have e1:dQ (λ(s:Option Int) _ x=>match qm (mC m) s x with |some e=>Except.error e |none=>.ok (Eb s x)) 0 b none=wk (qm (mC m)) Eb b none:=ru (bad:=qm (mC m)) (add:=Eb) b 0 none;rw [e1];unfold ox;cases wk (qm (mC m)) Eb b none with
 |error e=>exact lr
 |ok s=>exact kG
end Go.Proofs.YthnacobbednnbaaGreat
set_option linter.unusedVariables false
set_option linter.unusedSimpArgs false
namespace Go.Proofs.YthnacobbednnbaaGreat
open K Go Go.Proofs
theorem zy{C:Int}(hC:C≤5):∀(b:List Int) (s:Int),mf s->(∀x∈b,0≤x/\x < C)->mf (b.foldl wI s)/\∀i:Nat,eP (b.foldl wI s) i↔eP s i\/(i:Int)∈b
 |[],s,hs,_=>⟨hs,λi=>by simp⟩
 |x::b,s,hs,hb=>by
  have hx:=hb x mem_cons_self
  have hw:=pC (k:=0) hs hx.1 (by omega)
  have:=zy hC b (wI s x) hw.2.1 λy hy=>hb y (mem_cons_of_mem _ hy)
  refine⟨this.1,λi=>?_⟩
  show eP (b.foldl wI (wI s x)) i↔_
  rw [this.2 i,hw.2.2 i,mem_cons,or_assoc]
structure Bg(C:Int)(b:List Int):Prop where
 rng:∀x∈b,0≤x/\x < C
 asc:b.Pairwise (· < ·)
theorem Bd{C:Int}:∀{b:List Int} {p:Option Int},(∃q,wk (qm C) Eb b p= .ok q)↔(∀x∈b,0≤x/\x < C)/\b.Pairwise (· < ·)/\∀y,p=some y->∀x∈b.head?,y < x
 |[],p=>by simp [wk]
 |x::b,p=>by
  cases e:qm C p x with
  |some c=>
   rw [Jz e]
   constructor
   .
    rintro⟨q,h⟩;cases h
   .
    rintro⟨h1,h2,h3⟩
    exfalso
    unfold qm at e
    rw [if_neg (λhn=>hn (h1 x mem_cons_self))] at e
    cases p with
    |none=>cases e
    |some y=>
     have:=h3 y rfl x (by simp)
     rw [if_neg (by simp;omega)] at e
     cases e
  |none=>
   have hx:=Ny e
   rw [Jw e,Bd (b:=b) (p:=Eb p x)]
   constructor
   .
    rintro⟨h1,h2,h3⟩
    refine⟨λy hy=>?_,?_,λy hy z hz=>?_⟩
    .
     rcases mem_cons.1 hy with rfl |hy
     .
      exact hx.1
     .
      exact h1 y hy
    .
     rw [pairwise_cons]
     refine⟨λy hy=>?_,h2⟩
     cases b with
     |nil=>cases hy
     |cons z b=>
      have hz:=h3 x rfl z (by simp)
      rcases mem_cons.1 hy with rfl |hy
      .
       exact hz
      .
       have:=(pairwise_cons.1 h2).1 y hy;omega
    .
     have e2:=hx.2
     rw [hy] at e2
     simp at e2
     simp at hz
     omega
   .
    rintro⟨h1,h2,h3⟩
    rw [pairwise_cons] at h2
    refine⟨λy hy=>h1 y (mem_cons_of_mem _ hy),h2.2,λy hy z hz=>?_⟩
    obtain rfl:x=y:=by simpa [Eb] using hy
    exact h2.1 z (mem_of_mem_head? hz)
theorem D9{C:Int}:∀{l:List Int} {p:Option Int},wk (qm C) Eb l p≠.error 0
 |[],p,h=>by cases h
 |x::l,p,h=>by
  cases hb:qm C p x with
  |some c=>
   rw [Jz hb] at h
   obtain rfl:c=0:=by injection h
   unfold qm at hb
   split at hb
   .
    cases hb
   .
    split at hb <;> cases hb
  |none=>rw [Jw hb] at h;exact D9 h
theorem FA{C:Int}{b:List Int}:ox C b=0↔Bg C b:=by
 unfold ox;constructor
 .intro h;cases e:wk (qm C) Eb b none with
  |error c=>rw [e] at h;exact absurd (by rw [e,show c=0 from h]) (D9 (C:=C) (l:=b) (p:=none))
  |ok q=>have:=Bd.1 ⟨q,e⟩;exact⟨this.1,this.2.1⟩
 .rintro⟨h1,h2⟩;obtain⟨q,e⟩:=(Bd (p:=none)).2 ⟨h1,h2,λy hy=>by cases hy⟩;rw [e]
theorem Bg.set{C:Int}(hC:C≤5){b:List Int}(h:Bg C b):mf (jf b)/\∀c:Int,0≤c->rm (jf b) c=decide (c∈b):=by
 have:=zy hC b 0 Dy h.rng;refine⟨this.1,λc hc=>?_⟩;unfold rm;have e:((c.toNat:Nat):Int)=c:=by omega
 have h2:=this.2 c.toNat;rw [e] at h2;refine decide_eq_decide.2 ?_;show eP (b.foldl wI 0) c.toNat↔_;rw [h2];simp [eP]
def vk(m:ae)(i:Nat):Int:=match i with |0=>mC m - 1 |1=>((mD m).length:Int) - 1 |_=>(mD m).length
def yw(n:Int)(l:List Int):Bool:=l.all λx=>decide (0≤x/\x≤n)
theorem qC{k:Nat}{m:ae}(v:Vd m){i:Nat}(hi:i < 3){l:List Int}(hk:l.length < k)(hl:l.length≤1000):
 dJ k m (i:Int) l k 0=some (if yw (vk m i) l then .ok () else .error (none,0,3)):=by
 have c1:=v.c1
 have c5:=v.c5
 have d6:=v.d6
 have d1:=v.d1
 have key:=iL (T:=Int) (f:=dJ k m (i:Int) l) l (λ(_:Unit) j=>j) (λ_ _ x=>if 0≤x/\x≤vk m i then .ok () else Except.error ((none,0,3):Option ae×Int×Int)) (λ_ _=>True) (λr=>some r)
  (λn s j hj _=>by
   have hck:ck ((j:Int)+1)=some ((j:Int)+1):=cU (by omega) (by omega);have hc:ck (m.1 - 1)=some (mC m - 1):=RD ⟨c1,c5⟩;have hd:ck ((m.2.2.2.2.1.length:Int) - 1)=some (((mD m).length:Int) - 1):=cU (by show _≤((mD m).length:Int) - 1;omega) (by show((mD m).length:Int) - 1≤_;omega)
   have hg:aH [mC m - 1,((mD m).length:Int) - 1,((mD m).length:Int)] (i:Int)=some (vk m i):=by
    have:i=0\/i=1\/i=2:=by omega
    rcases this with rfl |rfl |rfl <;> rfl
   refine⟨?_,λ_ _=>trivial⟩;simp only [dJ,Int.ofNat_lt,hj,if_true,cN hj,bs,hc,hd];rw [show aH [mC m - 1,((mD m).length:Int) - 1,(m.2.2.2.2.1.length:Int)] (i:Int)=some (vk m i) from hg,bs,lz,bs];by_cases h:0≤l[j]/\l[j]≤vk m i
   .rw [if_pos h];simp only [h,and_self,decide_true,not_true_eq_false,if_false,hck,bs]
   .rw [if_neg h];simp only [h,decide_false,Bool.false_eq_true,not_false_eq_true,if_true])
  (λn s _=>by simp [dJ]) (n:=k) (s0:=()) hk trivial
 rw [show dJ k m (i:Int) l k 0=_ from key]
 congr 1
 have:∀(l:List Int) (j:Nat),dQ (λ(_:Unit) _ x=>if 0≤x/\x≤vk m i then .ok () else Except.error ((none,0,3):Option ae×Int×Int)) j l ()=if yw (vk m i) l then .ok () else .error (none,0,3):=by
  intro l
  induction l with
  |nil=>intro j;rfl
  |cons x l ih=>
   intro j;rw [dQ];by_cases h:0≤x/\x≤vk m i
   .rw [if_pos h];have:yw (vk m i) (x::l)=yw (vk m i) l:=by simp only [yw,all_cons,h,and_self,decide_true,Bool.true_and]
    rw [this];exact ih (j+1)
   .rw [if_neg h];have:yw (vk m i) (x::l)=false:=by simp only [yw,all_cons,h,decide_false,Bool.false_and]
    rw [this];rfl
 exact this l 0
theorem zl{k:Nat}{m:ae}(v:Vd m)(hk:10≤k):∀n:Nat,n≤32->wM k m n=some ()
 |0,_=>rfl
 |n+1,h=>by
  have e:IntKind.u8.wrap (n:Int)=(n:Int):=uj (by omega)
  unfold wM
  rw [zl v hk n (by omega),bs,e,xC v hk ⟨by omega,by omega⟩,bs]
theorem JF{k:Nat}{m:ae}(v:Vd m)(hk:10≤k):eJ k m=some ():=by
 have c1:=v.c1;have c5:=v.c5;unfold eJ
 have hc:m.1=1\/m.1=2\/m.1=3\/m.1=4\/m.1=5:=by
  have h1:1≤m.1:=c1;have h2:m.1≤5:=c5;omega
 have e:0≤pg .i64 1 m.1/\pg .i64 1 m.1≤32:=by
  rcases hc with h |h |h |h |h <;> rw [h] <;> decide
 rw [if_pos ⟨by rcases hc with h |h |h |h |h <;> omega,by omega⟩];exact zl v hk _ (by omega)
def SX(m:ae)(cs ds ns:List Int):Bool:=yw (vk m 0) cs && yw (vk m 1) ds && yw (vk m 2) ns
theorem H5{k:Nat}{m:ae}{b cs ds ns:List Int}(hs:Sm m)(hk:1010≤k)(hb:b.length≤1000)(h1:cs.length≤1000)(h2:ds.length≤1000)(h3:ns.length≤1000):
 kx k m b cs ds ns=some (if¬(nB m=0) then(none,0,nB m) else if¬(ox (mC m) b=0) then(none,0,ox (mC m) b) else if SX m cs ds ns then(some m,jf b,0) else(none,0,3)):=by
 unfold kx
 rw [Dx hs (by omega),bs]
 by_cases hc:nB m=0
 .
  have v:=Vd.of hc;rw [if_neg (λhn=>hn hc),if_neg (λhn=>hn hc),zY ⟨v.c1,v.c5⟩ (by omega) hb];by_cases hg:ox (mC m) b=0
  .rw [if_pos hg,kG,if_neg (λhn=>hn hg)];obtain⟨n,rfl⟩:∃n,k=n+4:=⟨k - 4,by omega⟩;have e0:=qC v (k:=n+4) (i:=0) (by omega) (l:=cs) (by omega) h1;have e1:=qC v (k:=n+4) (i:=1) (by omega) (l:=ds) (by omega) h2;have e2:=qC v (k:=n+4) (i:=2) (by omega) (l:=ns) (by omega) h3;have g0:aH [cs,ds,ns] (0:Int)=some cs:=rfl;have g1:aH [cs,ds,ns] (1:Int)=some ds:=rfl;have g2:aH [cs,ds,ns] (2:Int)=some ns:=rfl;have k0:ck ((0:Int)+1)=some 1:=rfl;have k1:ck ((1:Int)+1)=some 2:=rfl;have k2:ck ((2:Int)+1)=some 3:=rfl;have ln:(([cs,ds,ns]:List (List Int)).length:Int)=3:=rfl
   have s0:cY (n+4) m cs ds ns (n+4) 0=if yw (vk m 0) cs then cY (n+4) m cs ds ns (n+3) 1 else some (.error (none,0,3)):=by
    rw [cY,ln,if_pos (by decide),g0,bs,show dJ (n+4) m 0 cs (n+4) 0=_ from e0];cases yw (vk m 0) cs with
    |true=>simp only [if_true];rw [kG,k0,bs]
    |false=>simp only [Bool.false_eq_true,if_false];rw [lr]
   have s1:cY (n+4) m cs ds ns (n+3) 1=if yw (vk m 1) ds then cY (n+4) m cs ds ns (n+2) 2 else some (.error (none,0,3)):=by
    rw [cY,ln,if_pos (by decide),g1,bs,show dJ (n+4) m 1 ds (n+4) 0=_ from e1];cases yw (vk m 1) ds with
    |true=>simp only [if_true];rw [kG,k1,bs]
    |false=>simp only [Bool.false_eq_true,if_false];rw [lr]
   have s2:cY (n+4) m cs ds ns (n+2) 2=if yw (vk m 2) ns then cY (n+4) m cs ds ns (n+1) 3 else some (.error (none,0,3)):=by
    rw [cY,ln,if_pos (by decide),g2,bs,show dJ (n+4) m 2 ns (n+4) 0=_ from e2];cases yw (vk m 2) ns with
    |true=>simp only [if_true];rw [kG,k2,bs]
    |false=>simp only [Bool.false_eq_true,if_false];rw [lr]
   have s3:cY (n+4) m cs ds ns (n+1) 3=some (.ok ()):=by
    rw [cY,ln,if_neg (by decide)]
   rw [s0,s1,s2,s3];unfold SX
   have fin:((jx (n+4) m).bind λr32=>gI r32 none (λq33=>(eJ (n+4) q33).bind λr35=>some (some q33,jf b,(0:Int))))=some (some m,jf b,0):=by
    unfold jx;rw [bs,D4,JF v (by omega),bs]
   cases yw (vk m 0) cs with
   |false=>simp only [Bool.false_eq_true,if_false,Bool.false_and];rw [lr]
   |true=>
    cases yw (vk m 1) ds with
    |false=>simp only [if_true,Bool.false_eq_true,if_false,Bool.true_and,Bool.false_and];rw [lr]
    |true=>
     cases yw (vk m 2) ns with
     |false=>simp only [if_true,Bool.false_eq_true,if_false,Bool.true_and,Bool.and_false];rw [lr]
     |true=>simp only [if_true,Bool.true_and];rw [kG];exact fin
  .rw [if_neg hg,lr,if_pos hg]
 .
  rw [if_pos hc,if_pos hc]
end Go.Proofs.YthnacobbednnbaaGreat
set_option linter.unusedVariables false
set_option linter.unusedSimpArgs false
namespace Go.Proofs.YthnacobbednnbaaGreat
open K Go Go.Proofs
def jr(m:ae)(B:Int->Bool)(n:Nat):List Int:=(List.range (mC m).toNat).map λ(c:Nat)=>my m B n (c:Int)
def sj(m:ae)(B:Int->Bool):List (List Int):=(List.range ((mD m).length+1)).map (jr m B)
theorem uS{m:ae}{B:Int->Bool}{n:Nat}{c:Int}(h0:0≤c)(h1:c < mC m):aH (jr m B n) c=some (my m B n c):=by
 unfold jr;rw [aH,if_pos h0,List.getElem?_map,List.getElem?_range (by omega)];show some (my m B n ((c.toNat:Nat):Int))=_;rw [show((c.toNat:Nat):Int)=c by omega]
theorem GK{f:Int->Int}{C:Int}(h0:0≤C)(h5:C≤5):List.take C.toNat (lP f)=(List.range C.toNat).map λ(c:Nat)=>f (c:Int):=by
 have:C=0\/C=1\/C=2\/C=3\/C=4\/C=5:=by omega
 rcases this with rfl |rfl |rfl |rfl |rfl |rfl <;> rfl
theorem B0{k:Nat}{m:ae}{b:List Int}(hs:Sm m)(hk:1010≤k)(hb:b.length≤1000):
 jU k m b=some (if¬(nB m=0) then([],nB m) else if¬(ox (mC m) b=0) then([],ox (mC m) b) else(sj m λc=>decide (c∈b),0)):=by
 unfold jU
 rw [H5 hs hk hb (by simp) (by simp) (by simp),bs]
 by_cases hc:nB m=0
 .
  have v:=Vd.of hc;by_cases hg:ox (mC m) b=0
  .have hB:=(FA.1 hg).set v.c5;have ho:SX m [] [] []=true:=rfl;have c1:=v.c1;have c5:=v.c5;have d6:=v.d6;simp only [hc,hg,ho,not_true_eq_false,if_false,if_true,D4];rw [xC v (by omega) hB.1,bs]
   have hd:ck ((m.2.2.2.2.1.length:Int)+1)=some (((mD m).length+1:Nat):Int):=by
    rw [cU (by show _≤((mD m).length:Int)+1;omega) (by show((mD m).length:Int)+1≤_;omega)];rfl
   rw [hd,bs]
   have key:=iK (T:=List (List Int)×Int) (f:=eB k m (cr (O7 m (rm (jf b)))) (((mD m).length+1:Nat):Int)) (List.range ((mD m).length+1)) (λ(s:List (List Int)) j=>(s,j)) (λs j _=>s++[jr m (rm (jf b)) j]) (λj s=>s=(List.range j).map (jr m (rm (jf b)))) (λs=>some s)
    (λn s j hj hs=>by
     rw [length_range] at hj;have hck:ck ((j:Int)+1)=some ((j:Int)+1):=cU (by omega) (by omega);have hjlt:(j:Int) < (((mD m).length+1:Nat):Int):=by omega
     have hp:cf (0≤m.1/\m.1≤5)=some ():=dq ⟨by show 0≤mC m;omega,c5⟩
     have ht:List.take (Int.toNat m.1) (lP (O7 m (rm (jf b)) j))=jr m (rm (jf b)) j:=by
      rw [GK (by show 0≤mC m;omega) c5];unfold jr;refine List.map_congr_left λc hc=>?_;have:=List.mem_range.1 hc;exact LJ v (by omega) (by omega) (by show _ < mC m;omega)
     have hl:(jr m (rm (jf b)) j).length≤5:=by unfold jr;rw [length_map,length_range];omega
     have hsl:s.length=j:=by rw [hs,length_map,length_range]
     have hcl:iz k (jr m (rm (jf b)) j)=some (jr m (rm (jf b)) j):=by
      unfold iz;rw [dq (by show _≤_;omega),bs]
     have hok:cf (bA (length s+length [jr m (rm (jf b)) j]))=some ():=dq (by simp [bA];omega);refine⟨?_,?_⟩
     .simp only [eB,hjlt,if_true,IE (F:=O7 m (rm (jf b))) (show j < 7 by omega),bs,hp,ht,hcl,hok,hck]
     .rw [hs,List.range_succ,List.map_append];rfl)
    (λn s hs=>by
     rw [length_range];unfold eB;rw [if_neg (Int.lt_irrefl _)]) (n:=k) (s0:=[]) (by rw [length_range];omega) rfl
   rw [show eB k m (cr (O7 m (rm (jf b)))) (((mD m).length+1:Nat):Int) k ([],0)=_ from key.1,bs,key.2,length_range]
   have hcs:(List.range ((mD m).length+1)).map (jr m (rm (jf b)))=sj m λc=>decide (c∈b):=by
    unfold sj;refine List.map_congr_left λn hn=>?_;unfold jr;refine List.map_congr_left λc hc=>?_
    have hage:∀(n:Nat) (c:Int),0≤c->c < mC m->my m (rm (jf b)) n c=my m (λc=>decide (c∈b)) n c:=by
     intro n
     induction n with
     |zero=>intro c h0 h1;unfold my;rw [hB.2 c h0]
     |succ n ih=>
      intro c h0 h1;unfold my;cases e:xI m n c with
      |none=>simp only [];rw [ih c h0 h1]
      |some l=>
       have hb:=(vE v e).2
       have:(l.any λx=>decide (mW m≤my m (rm (jf b)) n x))=l.any λx=>decide (mW m≤my m (λc=>decide (c∈b)) n x):=by
        rw [Bool.eq_iff_iff];simp only [List.any_eq_true,decide_eq_true_eq];constructor
        .rintro⟨x,hx,h⟩;exact⟨x,hx,by rw [<-ih x (hb x hx).1 (hb x hx).2];exact h⟩
        .rintro⟨x,hx,h⟩;exact⟨x,hx,by rw [ih x (hb x hx).1 (hb x hx).2];exact h⟩
       simp only [];rw [ih c h0 h1,this]
    have:=List.mem_range.1 hc;exact hage n c (by omega) (by omega)
   rw [hcs]
  .simp only [hc,hg,not_true_eq_false,not_false_eq_true,if_false,if_true,D5]
 .
  simp only [hc,not_false_eq_true,if_true,D5]
end Go.Proofs.YthnacobbednnbaaGreat
set_option linter.unusedVariables false
set_option linter.unusedSimpArgs false
namespace Go.Proofs.YthnacobbednnbaaGreat
open K Go Go.Proofs
theorem Lo.mono{l:bK}{m n:Int}(h:Lo l m)(hn:m≤n):Lo l n:=⟨h.1,Int.le_trans h.2 hn⟩
theorem UV{α:Type}{l:List α}{x:α}{n:Nat}(h:l.length≤n)(hn:n≤1000000):bA (length l+length [x]):=by
 show length l+length [x]≤4294967296;simp only [length_cons,length_nil];omega
theorem BZ{k:Nat}(hk:50≤k){l:bK}{m:Int}{n:Nat}(hl:Lo l m)(hm:0≤m/\m≤1000)(hn:n≤8):W (ib k l (n:Int)) λr=>Lo r.2 (m+10)/\r.1.length=n/\(∀x∈r.1,0≤x/\x < (n:Int))/\r.1.Nodup:=by
 unfold ib;refine W.bind (R:=λr=>Lo (r.2.1,r.2.2.1,r.2.2.2) (m+10)/\r.1.length=n/\(∀x∈r.1,0≤x/\x < (n:Int))/\r.1.Nodup) ?_ λr h=>W.ret h
 refine W.loop (f:=d5 k (n:Int)) (λq y=>∃j:Nat,y.2.2.2.2=(j:Int)/\j≤n/\q=n - j/\Lo (y.1,y.2.1,y.2.2.1) (m+j)/\y.2.2.2.1.length=j/\(∀x∈y.2.2.2.1,0≤x/\x < (j:Int))/\y.2.2.2.1.Nodup) ?_ n k _ (by omega)
  ⟨0,rfl,by omega,by omega,by simpa using hl,rfl,by simp,by simp⟩
 rintro aR q ⟨nums,d,s,o,y⟩ ⟨j,hj,hle,hq,hlo,hlen,hx,hnd⟩ ih;simp only at hj hlo hlen hx hnd;subst hj;unfold d5;dsimp only;refine W.ite (λhlt=>?_) (λhge=>W.ret ⟨hlo.mono (by omega),by show o.length=n;omega,λx hx'=>by have:=hx x hx';omega,hnd⟩);obtain⟨r5,e5,a5,b5,c5⟩:=j8 (k:=k) (n:=(j:Int)) hlo (by omega) (by omega);have b5:=b5 (by omega);have ho:(o++[(j:Int)]).length=j+1:=by simp [hlen]
 have hr5:r5.1.toNat < (o++[(j:Int)]).length:=by omega
 have hjl:j < (o++[(j:Int)]).length:=by omega
 have hgj:(o++[(j:Int)])[j]=(j:Int):=by
  rw [List.getElem_append_right (by omega)];simp [hlen]
 rw [e5,bs,dq (UV (n:=8) (by omega) (by omega)),bs,yy a5 hr5,bs,cN (by omega),bs];have hgs:aH (List.set (o++[(j:Int)]) (Int.toNat (j:Int)) (o++[(j:Int)])[r5.1.toNat]) r5.1=some ((List.set (o++[(j:Int)]) (Int.toNat (j:Int)) (o++[(j:Int)])[r5.1.toNat])[r5.1.toNat]'(by rw [length_set];exact hr5)):=yy a5 (by rw [length_set];exact hr5);rw [hgs,bs,cU (by omega) (by omega),bs]
 have hp:(List.set (List.set (o++[(j:Int)]) (Int.toNat (j:Int)) (o++[(j:Int)])[r5.1.toNat]) (Int.toNat r5.1) (j:Int)).Perm (o++[(j:Int)]):=by
  have:= @set_set_perm Int (o++[(j:Int)]) j r5.1.toNat hjl hr5;rw [hgj] at this;exact this
 refine ih (q - 1) (_,_,_,_,(j:Int)+1) (by omega) ⟨j+1,by show(j:Int)+1=((j+1:Nat):Int);omega,by omega,by omega,c5.mono (by omega),by simp [hlen],λx hx'=>?_,hp.nodup_iff.2 ?_⟩
 .rcases List.mem_append.1 (hp.mem_iff.1 hx') with h |h
  .have:=hx x h;omega
  .rw [List.mem_singleton] at h;omega
 .rw [nodup_append];exact⟨hnd,by simp,λa ha b hb=>by rw [List.mem_singleton] at hb;subst hb;have:=hx a ha;omega⟩
theorem Is{out:List (List Int)}{i:Nat}{x:Int}(h:i < out.length):(out.set i (out[i]++[x])).flatten.Perm (out.flatten++[x]):=by
 have e1:out=out.take i++out[i]::out.drop (i+1):=by rw [<-drop_eq_getElem_cons h,take_append_drop]
 have e2:out.set i (out[i]++[x])=out.take i++(out[i]++[x])::out.drop (i+1):=set_eq_take_append_cons_drop.trans (if_pos h);rw [e2]
 have e3:out.flatten=(out.take i).flatten++(out[i]++(out.drop (i+1)).flatten):=by
  conv=>lhs;rw [e1]
  rw [List.flatten_append,flatten_cons]
 rw [e3,List.flatten_append,flatten_cons]
 have:((out.take i).flatten++((out[i]++[x])++(out.drop (i+1)).flatten)).Perm ((out.take i).flatten++(out[i]++((out.drop (i+1)).flatten++[x]))):=by
  refine List.Perm.append_left _ ?_;rw [List.append_assoc];exact List.Perm.append_left _ (perm_append_comm)
 refine this.trans ?_;simp
structure Rl(C:Int)(r:List (List Int)):Prop where
 r3:r.length≤3
 x5:∀l∈r,∀x∈l,0≤x/\x < C
 nd:r.flatten.Nodup
theorem Rl.l5{C:Int}(hC:0≤C/\C≤5){r:List (List Int)}(h:Rl C r):∀l∈r,l.length≤5:=λl hl=>by
 have:=sU C.toNat l (ve h.nd hl) λx hx=>by have:=h.x5 l hl x hx;omega
 omega
theorem G9{k:Nat}(hk:50≤k){l:bK}{m:Int}{n:Nat}(hl:Lo l m)(hm:0≤m/\m≤900)(hn:n≤5):
 W (kz k l (n:Int)) λr=>Lo r.2 (m+30)/\Rl (n:Int) r.1:=by
 unfold kz
 refine W.bind (DG (l:=(l.1,l.2.1,l.2.2)) hl (by omega) (by omega) (by omega) (by omega)) λr1 h1=>?_
 refine W.chk ⟨by omega,by show _≤_;omega⟩ ?_
 refine W.bind (BZ hk (l:=(r1.2.1,r1.2.2.1,r1.2.2.2)) (m:=m+1) (n:=n) h1.2.2 (by omega) (by omega)) λr4 h4=>?_
 obtain⟨lo4,len4,rng4,nd4⟩:=h4
 refine W.bind (R:=λx=>Lo (x.1,x.2.1,x.2.2.1) (m+30)/\Rl (n:Int) x.2.2.2) ?_ λx hx=>W.ret hx
 refine W.loop (f:=fF k r4) (λq y=>∃j:Nat,y.2.2.2.1=(j:Int)/\j≤n/\q=n - j/\Lo (y.1,y.2.1,y.2.2.1) (m+11+2 * j)/\y.2.2.2.2.length=r1.1.toNat/\(∀x∈y.2.2.2.2.flatten,x∈r4.1.take j)/\y.2.2.2.2.flatten.Nodup) ?_ n k _ (by omega)
  ⟨0,rfl,by omega,by omega,lo4.mono (by omega),by simp,by simp,by simp⟩
 rintro aR q ⟨nums,d,s,y,out⟩ ⟨j,hj,hle,hq,hlo,hlen,hx,hnd⟩ ih
 simp only at hj hlo hlen hx hnd
 subst hj
 unfold fF
 dsimp only
 refine W.ite (λhlt=>?_) (λhge=>W.ret ⟨hlo.mono (by omega),by show out.length≤3;omega,λl hl x hxx=>rng4 x (mem_of_mem_take (hx x (List.mem_flatten.2 ⟨l,hl,hxx⟩))),hnd⟩)
 have hj:j < r4.1.length:=by omega
 have hsub:∀x∈r4.1.take j,x∈r4.1.take (j+1):=λx hh=>by rw [take_add_one];exact List.mem_append_left _ hh
 refine W.bind (R:=λx=>Lo (x.1,x.2.1,x.2.2.1) (m+11+2 * j+2)/\x.2.2.2.length=r1.1.toNat/\(∀z∈x.2.2.2.flatten,z∈r4.1.take (j+1))/\x.2.2.2.flatten.Nodup) ?_ λx9 h9=>?_
 .
  refine W.bind (uq (l:=(nums,d,s)) hlo (by omega) (by omega) (by omega)) λr11 h11=>?_;refine W.ite (λ_=>W.ret ⟨h11.mono (by omega),hlen,λz hz=>hsub z (hx z hz),hnd⟩) (λ_=>?_);refine W.ck (by omega) (by omega) ?_;refine W.bind (j8 (l:=(r11.2.1,r11.2.2.1,r11.2.2.2)) h11 (by omega) (by omega)) λr13 h13=>?_;have b13:=h13.2.1 (by omega);have hi:r13.1.toNat < out.length:=by omega
  rw [yy h13.1 hi,bs,cN hj,bs]
  have hxj:r4.1[j]∉out.flatten:=λhin=>by
   have:=hx _ hin;obtain⟨i,hi',e⟩:=List.getElem_of_mem this;rw [length_take] at hi';rw [getElem_take] at e;have:=(getElem_inj nd4).1 e;omega
  have hlen2:(out[r13.1.toNat]).length≤5:=by
   have:=sU n _ (ve hnd (List.getElem_mem hi)) λx hxx=>rng4 x (mem_of_mem_take (hx x (List.mem_flatten.2 ⟨_,List.getElem_mem hi,hxx⟩)));omega
  rw [dq (by simp [bA];omega),bs];have hp:=Is (x:=r4.1[j]) hi;refine W.ret ⟨h13.2.2.mono (by omega),by show(List.set _ _ _).length=_;rw [length_set];exact hlen,λz hz=>?_,hp.nodup_iff.2 ?_⟩
  .rcases List.mem_append.1 (hp.mem_iff.1 hz) with h |h
   .exact hsub z (hx z h)
   .rw [List.mem_singleton.1 h,take_add_one,List.getElem?_eq_getElem hj];exact List.mem_append_right _ (by simp)
  .rw [nodup_append];exact⟨hnd,by simp,λa ha b hb e=>by rw [List.mem_singleton.1 hb] at e;exact hxj (e▸ha)⟩
 .
  refine W.ck (by omega) (by omega) ?_;exact ih (q - 1) (_,_,_,(j:Int)+1,_) (by omega) ⟨j+1,by show(j:Int)+1=((j+1:Nat):Int);omega,by omega,by omega,h9.1.mono (by omega),h9.2⟩
end Go.Proofs.YthnacobbednnbaaGreat
set_option linter.unusedVariables false
set_option linter.unusedSimpArgs false
namespace Go.Proofs.YthnacobbednnbaaGreat
open K Go Go.Proofs
theorem MB{c w s h:Int}{ds:List (List (List Int))}(hc:1≤c/\c≤5)(hw:0≤w/\w≤3)(hs:0≤s/\s≤3)(hh:1≤h/\h≤3)(d1:1≤ds.length)(d6:ds.length≤6)(hr:∀r∈ds,Rl c r):Vd (c,w,s,h,ds,[]):=
 ⟨hc.1,hc.2,hw.1,hw.2,hs.1,hs.2,hh.1,hh.2,d1,d6,λr h=>(hr r h).r3,λr h=>(hr r h).l5 ⟨by omega,hc.2⟩,λr h=>(hr r h).x5,λr h=>(hr r h).nd,by simp [mG],λg hg=>by cases hg⟩
theorem vB{k:Nat}{l:List Int}(h:l.length≤1000000):ip k l=some l:=by
 unfold ip;rw [dq (UW (by simp only [length_nil];omega)),bs];rfl
theorem t3{k:Nat}{l:List (List Int)}(hk:l.length < k)(h1:l.length≤1000000)(h2:∀x∈l,x.length≤1000000):gB k l=some l:=by
 unfold gB
 have key:=iK (T:=List (List Int)×Int) (f:=dC k l) l (λ(s:List (List Int)) j=>(s,j)) (λs j x=>s++[x]) (λj s=>s=l.take j) (λs=>some s)
  (λn s j hj hs=>by
   have hck:ck ((j:Int)+1)=some ((j:Int)+1):=cU (by omega) (by omega);have hl:s.length=j:=by rw [hs,length_take];omega
   have hok:cf (bA (length s+length [l[j]]))=some ():=dq (by simp [bA];omega);refine⟨?_,?_⟩
   .simp only [dC,Int.ofNat_lt,hj,if_true,cN hj,bs,vB (h2 _ (List.getElem_mem hj)),hok,hck]
   .rw [hs,take_add_one,List.getElem?_eq_getElem hj];rfl)
  (λn s hs=>by
   unfold dC;rw [if_neg (Int.lt_irrefl _)]) (n:=k) (s0:=[]) hk (by simp)
 rw [show dC k l k ([],0)=_ from key.1,bs,key.2,take_length]
theorem BY{k:Nat}(hk:50≤k){l:bK}{m:Int}{cs ds:Int}(hl:Lo l m)(hm:0≤m/\m≤400)(hc:1≤cs/\cs≤5)(hd:1≤ds/\ds≤6):
 W (kA k l cs ds) λr=>Lo r.2 (m+250)/\Vd r.1/\mG r.1=[]/\mC r.1≤cs/\((mD r.1).length:Int)≤ds:=by
 unfold kA
 refine W.bind (DG (l:=(l.1,l.2.1,l.2.2)) hl (by omega) (by omega) (by omega) (by omega)) λr2 h2=>?_
 refine W.bind (j8 (l:=(r2.2.1,r2.2.2.1,r2.2.2.2)) h2.2.2 (by omega) (by omega)) λr3 h3=>?_
 have b3:=h3.2.1 (by omega)
 refine W.bind (Hq (l:=(r3.2.1,r3.2.2.1,r3.2.2.2)) h3.2.2 (by omega) (by simp) (by simp)) λr4 h4=>?_
 refine W.bind (j8 (l:=(r4.2.1,r4.2.2.1,r4.2.2.2)) h4.2 (by omega) (by omega)) λr5 h5=>?_
 have b5:=h5.2.1 (by omega)
 refine W.bind (Hq (l:=(r5.2.1,r5.2.2.1,r5.2.2.2)) h5.2.2 (by omega) (by simp) (by simp)) λr6 h6=>?_
 refine W.bind (DG (l:=(r6.2.1,r6.2.2.1,r6.2.2.2)) h6.2 (by omega) (by omega) (by omega) (by omega)) λr7 h7=>?_
 refine W.bind (Hq (l:=(r7.2.1,r7.2.2.1,r7.2.2.2)) h7.2.2 (by omega) (by simp) (by simp)) λr8 h8=>?_
 have w4:0≤r4.1/\r4.1≤3:=by
  have:=h4.1;simp only [mem_cons,not_mem_nil,or_false] at this;omega
 have w6:0≤r6.1/\r6.1≤3:=by
  have:=h6.1;simp only [mem_cons,not_mem_nil,or_false] at this;omega
 have w8:1≤r8.1/\r8.1≤3:=by
  have:=h8.1;simp only [mem_cons,not_mem_nil,or_false] at this;omega
 have lo8:=h8.2
 refine W.bind (R:=λx=>Lo (x.2.1,x.2.2.1,x.2.2.2) (m+250)/\(1≤x.1.length/\(x.1.length:Int)≤ds)/\∀r∈x.1,Rl r2.1 r) ?_ λx hx=>W.ret ⟨hx.1,MB (by omega) w4 w6 w8 (by omega) (by omega) hx.2.2,rfl,h2.2.1,hx.2.1.2⟩
 refine W.bind (DG (l:=(r8.2.1,r8.2.2.1,r8.2.2.2)) lo8 (by omega) (by omega) (by omega) (by omega)) λr12 h12=>?_
 refine W.loop (f:=fG k r2) (λq y=>∃j:Nat,y.2.2.2.1.length=j/\y.2.2.2.2=r12.1 - j/\(j:Int)≤r12.1/\q=r12.1.toNat - j/\Lo (y.1,y.2.1,y.2.2.1) (m+10+33 * j)/\∀r∈y.2.2.2.1,Rl r2.1 r) ?_ r12.1.toNat k _ (by omega)
  ⟨0,rfl,by simp,by omega,by omega,h12.2.2.mono (by omega),by simp⟩
 rintro aR q ⟨nums,d,s,out,y⟩ ⟨j,hj,hy,hle,hq,hlo,hr⟩ ih
 simp only at hj hy hlo hr
 subst hy
 unfold fG
 dsimp only
 refine W.ite (λhlt=>?_) (λhge=>W.ret ⟨hlo.mono (by omega),⟨by show 1≤out.length;omega,by show(out.length:Int)≤ds;omega⟩,hr⟩)
 refine W.bind (R:=λx=>Lo (x.1,x.2.1,x.2.2.1) (m+10+33 * j+33)/\x.2.2.2.length=j+1/\∀r∈x.2.2.2,Rl r2.1 r) ?_ λx15 h15=>?_
 .
  refine W.bind (R:=λx=>Lo (x.1,x.2.1,x.2.2.1) (m+10+33 * j+1)/\(x.2.2.2=true->0 < out.length)) ?_ λx17 h17=>?_
  .refine W.ite (λh0=>?_) (λh0=>W.ret ⟨hlo.mono (by omega),λh=>by cases h⟩);exact W.bind (uq (l:=(nums,d,s)) hlo (by omega) (by omega) (by omega)) λr19 h19=>W.ret ⟨h19,λ_=>by omega⟩
  .refine W.ite (λht=>?_) (λht=>?_)
   .have h0:=h17.2 ht;refine W.ck (by omega) (by omega) ?_;have hi:((out.length:Int) - 1)=((out.length - 1:Nat):Int):=by omega
    have hlt':out.length - 1 < out.length:=by omega
    rw [hi,cN hlt',bs];have hrl:=hr _ (List.getElem_mem hlt');have hl5:=hrl.l5 (by omega);have hr3:=hrl.r3;rw [t3 (by omega) (by omega) (λx hx=>by have:=hl5 x hx;omega),bs,dq (by simp [bA];omega),bs];refine W.ret ⟨h17.1.mono (by omega),by simp [hj],λr hrr=>?_⟩;rcases List.mem_append.1 hrr with h |h
    .exact hr r h
    .rw [List.mem_singleton.1 h];exact hrl
   .have hc2:((r2.1.toNat:Nat):Int)=r2.1:=by omega
    have:=G9 hk (l:=(x17.1,x17.2.1,x17.2.2.1)) (m:=m+10+33 * j+1) (n:=r2.1.toNat) h17.1 (by omega) (by omega);rw [hc2] at this;refine W.bind this λr26 h26=>?_;rw [dq (by simp [bA];omega),bs];refine W.ret ⟨h26.1.mono (by omega),by simp [hj],λr hrr=>?_⟩;rcases List.mem_append.1 hrr with h |h
    .exact hr r h
    .rw [List.mem_singleton.1 h];exact h26.2
 .
  refine W.ck (by omega) (by omega) ?_;exact ih (q - 1) (_,_,_,_,_) (by omega) ⟨j+1,h15.2.1,by show r12.1 - j - 1=r12.1 - ((j+1:Nat):Int);omega,by omega,by omega,h15.1.mono (by omega),h15.2.2⟩
theorem CN{k:Nat}(hk:50≤k){l:bK}{m:Int}{c:Int}(hl:Lo l m)(hm:0≤m/\m≤900)(hc:1≤c/\c≤5):
 W (kB k l c) λr=>Lo r.2 (m+10)/\Bg c r.1:=by
 unfold kB
 refine W.bind (R:=λx=>Lo (x.2.1,x.2.2.1,x.2.2.2) (m+10)/\Bg c x.1) ?_ λx hx=>W.ret hx
 refine W.loop (f:=fH k c) (λq y=>∃j:Nat,y.2.2.2.2=(j:Int)/\(j:Int)≤c/\q=c.toNat - j/\Lo (y.1,y.2.1,y.2.2.1) (m+j)/\y.2.2.2.1.length≤j/\(∀x∈y.2.2.2.1,0≤x/\x < (j:Int))/\y.2.2.2.1.Pairwise (· < ·)) ?_ c.toNat k _ (by omega)
  ⟨0,rfl,by omega,by omega,by simpa using hl,by simp,by simp,by simp⟩
 rintro aR q ⟨nums,d,s,o,y⟩ ⟨j,hj,hle,hq,hlo,hlen,hx,hp⟩ ih
 simp only at hj hlo hlen hx hp
 subst hj
 unfold fH
 dsimp only
 refine W.ite (λhlt=>?_) (λhge=>W.ret ⟨hlo.mono (by omega),λx hxx=>by have:=hx x hxx;omega,hp⟩)
 refine W.bind (R:=λx=>Lo (x.1,x.2.1,x.2.2.1) (m+j+1)/\x.2.2.2.length≤j+1/\(∀z∈x.2.2.2,0≤z/\z < ((j+1:Nat):Int))/\x.2.2.2.Pairwise (· < ·)) ?_ λx5 h5=>?_
 .
  refine W.bind (uq (l:=(nums,d,s)) hlo (by omega) (by omega) (by omega)) λr7 h7=>?_;refine W.ite (λht=>?_) (λht=>W.ret ⟨h7,by show o.length≤j+1;omega,λz hz=>by have:=hx z hz;omega,hp⟩);rw [dq (by simp [bA];omega),bs];refine W.ret ⟨h7,by simp;omega,λz hz=>?_,?_⟩
  .rcases List.mem_append.1 hz with h |h
   .have:=hx z h;omega
   .rw [List.mem_singleton.1 h];omega
  .show Pairwise (· < ·) (o++[(j:Int)]);rw [pairwise_append];exact⟨hp,by simp,λa ha b hb=>by rw [List.mem_singleton.1 hb];exact(hx a ha).2⟩
 .
  refine W.ck (by omega) (by omega) ?_;exact ih (q - 1) (_,_,_,_,_) (by omega) ⟨j+1,by show(j:Int)+1=((j+1:Nat):Int);omega,by omega,by omega,h5.1.mono (by omega),h5.2⟩
theorem Bg.len{C:Int}(hC:0≤C/\C≤5){b:List Int}(h:Bg C b):b.length≤5:=by
 have:=sU C.toNat b (h.asc.imp λhab e=>by omega) λx hx=>by have:=h.rng x hx;omega
 omega
theorem G1{m:ae}{B:Int->Bool}{n:Nat}(h:0≤mC m):((jr m B n).length:Int)=mC m:=by
 unfold jr;rw [length_map,length_range];omega
theorem xE{m:ae}{B:Int->Bool}:(sj m B).length=(mD m).length+1:=by
 unfold sj;rw [length_map,length_range]
theorem vF{α ε:Type}:∀(l:List α) (j:Nat),dQ (λ(_:Unit) _ _=>(.ok ():Except ε Unit)) j l ()= .ok ()
 |[],_=>rfl
 |_::l,j=>vF l (j+1)
end Go.Proofs.YthnacobbednnbaaGreat
set_option linter.unusedVariables false
set_option linter.unusedSimpArgs false
namespace Go.Proofs.YthnacobbednnbaaGreat
open K Go Go.Proofs
theorem BD{k:Nat}{c:Int}{l:List Int}(hk:l.length < k)(hl:l.length≤1000):
 dR k c l k 0=some (match sw l c with |some s=>.error (s,true) |none=>.ok ()):=by
 have key:=iL (T:=Int) (f:=dR k c l) l (λ(_:Unit) j=>j) (λ_ j x=>if decide (c=x)=true then Except.error (((if 0 < j then [l[j-1]?.getD 0] else [])++(l[j+1]?).toList:List Int),true) else .ok ()) (λ_ _=>True) (λx=>some x)
  (λn s j hj _=>by
   refine⟨?_,λ_ _=>trivial⟩;have hck:ck ((j:Int)+1)=some ((j:Int)+1):=cU (by omega) (by omega);have c1:ck ((j:Int) - 1)=some ((j:Int) - 1):=cU (by omega) (by omega);simp only [dR,Int.ofNat_lt,hj,if_true,cN hj,bs,decide_eq_true_eq];by_cases e:l[j]=c
   .rw [if_neg (λhn=>hn e),if_pos e.symm]
    have e1:(if(0:Int) < (j:Int) then((ck ((j:Int) - 1)).bind λx17=>(aH l x17).bind λx18=>(cf (bA (length ([]:List Int)+length [x18]))).bind λ_=>some (([]:List Int)++[x18])) else some ([]:List Int))=some (if 0 < j then [l[j-1]?.getD 0] else []):=by
     by_cases h0:0 < j
     .have g:aH l ((j:Int) - 1)=some (l[j-1]?.getD 0):=by
       have:((j:Int) - 1)=((j - 1:Nat):Int):=by omega
       rw [this,cN (by omega),List.getElem?_eq_getElem (by omega:j - 1 < l.length)];rfl
      rw [if_pos (by omega),if_pos h0,c1,bs,g,bs,dq (by simp [bA]),bs];rfl
     .rw [if_neg (by omega),if_neg h0]
    rw [e1,bs];have hp:(if 0 < j then [l[j-1]?.getD 0] else []).length≤1:=by split <;> simp
    generalize (if 0 < j then [l[j-1]?.getD 0] else [])=p at *
    have e2:((ck ((j:Int)+1)).bind λx23=>if x23 < (l.length:Int) then((ck ((j:Int)+1)).bind λx24=>(aH l x24).bind λx25=>(cf (bA (length p+length [x25]))).bind λ_=>some (p++[x25])) else some p)=some (p++(l[j+1]?).toList):=by
     rw [hck,bs];by_cases h1:j+1 < l.length
     .have g:aH l ((j:Int)+1)=some l[j+1]:=by
       have:((j:Int)+1)=((j+1:Nat):Int):=by omega
       rw [this,cN h1]
      rw [if_pos (by omega),bs,g,bs,List.getElem?_eq_getElem h1,dq (by simp [bA];omega),bs];rfl
     .rw [if_neg (by omega),List.getElem?_eq_none (by omega)];simp
    rw [e2,bs]
   .rw [if_pos e,if_neg (λhn=>e hn.symm),hck,bs])
  (λn s _=>by simp [dR]) (n:=k) (s0:=()) hk trivial
 rw [show dR k c l k 0=_ from key]
 refine congrArg some ?_
 have:∀(m:List Int) (j:Nat),(∃p,l=p++m/\p.length=j)->dQ (λ(_:Unit) j x=>if decide (c=x)=true then Except.error (((if 0 < j then [l[j-1]?.getD 0] else [])++(l[j+1]?).toList:List Int),true) else .ok ()) j m ()=match m.findIdx? λy=>decide (c=y) with |some i=>.error (((if 0 < i+j then [l[i+j-1]?.getD 0] else [])++(l[i+j+1]?).toList:List Int),true) |none=>.ok ():=by
  intro m
  induction m with
  |nil=>intro j _;simp [dQ]
  |cons x m ih=>
   rintro j ⟨p,hp,hl⟩;rw [dQ,findIdx?_cons];by_cases h:decide (c=x)=true
   .simp [h]
   .simp only [h,if_false,Bool.false_eq_true];rw [ih (j+1) ⟨p++[x],by rw [hp];simp,by simp [hl]⟩];cases m.findIdx? λy=>decide (c=y) with
    |none=>rfl
    |some i=>
     simp only [Option.map_some];rw [show i+(j+1)=i+1+j by omega]
 rw [this l 0 ⟨[],rfl,rfl⟩]
 unfold sw
 cases l.findIdx? λy=>decide (c=y) with
 |none=>rfl
 |some i=>rfl
theorem yh{k:Nat}{m:ae}{c:Int}{d:Nat}(v:Vd m)(hk:10≤k)(hd:d < (mD m).length):
 jP k m (d:Int) c=some (match xI m d c with |some s=>(s,true) |none=>([],false)):=by
 have hm:=List.getElem_mem hd
 have hr:=v.r3 _ hm
 have hl:=v.l5 _ hm
 have hbes:xI m d c=ui (mD m)[d] c:=by unfold xI;rw [List.getElem?_eq_getElem hd];rfl
 have hg:aH m.2.2.2.2.1 (d:Int)=some (mD m)[d]:=cN hd
 generalize (mD m)[d]=r at *
 unfold jP
 have key:=iL (T:=Int) (f:=eA k m (d:Int) c) r (λ(_:Unit) j=>j) (λ_ _ l=>match sw l c with |some s=>Except.error (s,true) |none=>.ok ()) (λ_ _=>True) (λx=>some x)
  (λn s j hj _=>by
   refine⟨?_,λ_ _=>trivial⟩;have h5:=hl _ (List.getElem_mem hj);have hck:ck ((j:Int)+1)=some ((j:Int)+1):=cU (by omega) (by omega);simp only [eA,hg,bs,Int.ofNat_lt,hj,if_true,cN hj];rw [BD (by omega) (by omega)];cases sw r[j] c with
   |some s=>simp only [];rw [lr]
   |none=>simp only [];rw [kG,hck,bs])
  (λn s _=>by simp [eA,hg,bs]) (n:=k) (s0:=()) (by omega) trivial
 rw [show eA k m (d:Int) c k 0=_ from key]
 have:∀(r:List (List Int)) (j:Nat),dQ (λ(_:Unit) _ l=>match sw l c with |some s=>Except.error (s,true) |none=>.ok ()) j r ()=match ui r c with |some s=>.error (s,true) |none=>.ok ():=by
  intro r
  induction r with
  |nil=>intro j;rfl
  |cons l r ih=>
   intro j;rw [dQ];unfold ui;rw [findSome?_cons];cases sw l c with
   |none=>exact ih (j+1)
   |some s=>rfl
 rw [this,hbes]
 cases ui r c with
 |some s=>simp only [];rw [lr]
 |none=>simp only [];rw [kG]
theorem G7{k:Nat}{m:ae}{c:Int}{d:Nat}(v:Vd m)(hk:10≤k)(hd:d < (mD m).length):oQ k m (d:Int) c=some (kX m c d:Int):=by
 have d6:=v.d6;unfold oQ
 have key:∀(d n:Nat) (x:Int),d < (mD m).length->d+1 < n->0≤x->x+d≤100->eW k m c n (x,(d:Int))=some (.error (x+kX m c d))\/eW k m c n (x,(d:Int))=some (.ok (x+kX m c d)):=by
  intro d
  induction d with
  |zero=>
   intro n x hd hn hx hx2
   obtain⟨n,rfl⟩:∃n',n=n'+2:=⟨n - 2,by omega⟩;have c1:ck (x+1)=some (x+1):=cU (by omega) (by omega);have c2:ck (((0:Nat):Int) - 1)=some (-1):=rfl;rw [eW];simp only [Int.natCast_nonneg,if_true,yh v hk hd,bs];unfold kX;cases e:xI m 0 c with
   |some s=>left;simp
   |none=>
    right;simp only [Bool.false_eq_true,if_false,c1,c2,bs,Option.isSome_none];rw [eW,if_neg (show¬((0:Int)≤ -1) by decide)];rfl
  |succ d ih=>
   intro n x hd hn hx hx2
   obtain⟨n,rfl⟩:∃n',n=n'+1:=⟨n - 1,by omega⟩;have c1:ck (x+1)=some (x+1):=cU (by omega) (by omega);have c2:ck (((d+1:Nat):Int) - 1)=some (d:Int):=by rw [cU (by omega) (by omega),show(((d+1:Nat):Int) - 1)=(d:Int) by omega]
   rw [eW];simp only [Int.natCast_nonneg,if_true,yh v hk hd,bs];unfold kX;cases e:xI m (d+1) c with
   |some s=>left;simp
   |none=>
    simp only [Bool.false_eq_true,if_false,c1,c2,bs,Option.isSome_none];have:=ih n (x+1) (by omega) (by omega) (by omega) (by omega);rw [show x+((kX m c d+1:Nat):Int)=x+1+(kX m c d:Int) by omega];exact this
 rcases key d k 0 hd (by omega) (by omega) (by omega) with h |h
 .rw [h,lr,Int.zero_add]
 .rw [h,kG,Int.zero_add]
theorem zB{k:Nat}{m:ae}{B:Int->Bool}{n:Nat}(v:Vd m){r8:(List Int)×Bool}(hk:r8.1.length < k)(hl:r8.1.length≤1000)(hx:∀x∈r8.1,0≤x/\x < mC m):
 eV k m (jr m B n) r8 k (-1,0)=some (if r8.1.any λx=>decide (mW m≤my m B n x) then 0 else -1):=by
 have key:=iK (T:=Int×Int) (f:=eV k m (jr m B n) r8) r8.1 (λ(s:Int) j=>(s,j)) (λs _ x=>if decide (mW m≤my m B n x)=true then 0 else s) (λj s=>s=if(r8.1.take j).any λx=>decide (mW m≤my m B n x) then 0 else -1) (λs=>some s)
  (λf s j hj hs=>by
   have h5:=hx _ (List.getElem_mem hj);have hck:ck ((j:Int)+1)=some ((j:Int)+1):=cU (by omega) (by omega);refine⟨?_,?_⟩
   .simp only [eV,Int.ofNat_lt,hj,if_true,cN hj,bs,uS h5.1 h5.2,hck,decide_eq_true_eq];by_cases e:mW m≤my m B n r8.1[j]
    .have e':m.2.1≤my m B n r8.1[j]:=e;simp only [e,e',if_true,bs]
    .have e':¬m.2.1≤my m B n r8.1[j]:=e;simp only [e,e',if_false,bs]
   .rw [take_add_one,List.getElem?_eq_getElem hj,List.any_append,hs];by_cases e:decide (mW m≤my m B n r8.1[j])=true
    .simp [e]
    .simp [e])
  (λf s hs=>by
   unfold eV;rw [if_neg (Int.lt_irrefl _)]) (n:=k) (s0:= -1) hk (by simp)
 rw [show eV k m (jr m B n) r8 k (-1,0)=_ from key.1,key.2,take_length]
theorem G3{k:Nat}{m:ae}{B:Int->Bool}{d:Nat}(v:Vd m)(hk:10≤k)(hd:d < (mD m).length):oP k m (d:Int) (jr m B d)=some (jr m B (d+1)):=by
 have c1:=v.c1;have c5:=v.c5;have d6:=v.d6;unfold oP
 have key:=iK (T:=List Int×Int) (f:=fP k m (d:Int) (jr m B d)) (List.range (mC m).toNat) (λ(s:List Int) j=>(s,j)) (λs j _=>s++[my m B (d+1) (j:Int)]) (λj s=>s=(List.range j).map λ(c:Nat)=>my m B (d+1) (c:Int)) (λs=>some s)
  (λn s j hj hs=>by
   rw [length_range] at hj;have hck:ck ((j:Int)+1)=some ((j:Int)+1):=cU (by omega) (by omega);have j0:(0:Int)≤(j:Int):=by omega
   have j1:(j:Int) < mC m:=by omega
   have j2:(j:Int) < m.1:=j1;have hl:s.length=j:=by rw [hs,length_map,length_range]
   have hok:∀x:Int,cf (bA (length s+length [x]))=some ():=λx=>dq (by simp [bA];omega);have hge:=CQ (B:=B) v.w0 (d:=d) (c:=(j:Int));have hle:=CP (B:=B) v.w3 (d:=d) (c:=(j:Int));refine⟨?_,?_⟩
   .have hm2:m.2.2.2.1=mH m:=rfl;simp only [fP,j2,if_true,yh v hk hd,bs,hm2]
    have hage:my m B (d+1) (j:Int)=match xI m d (j:Int) with
     |none=>if mH m≤(kX m (j:Int) d:Int) then -1 else my m B d (j:Int)
     |some l=>if 0≤my m B d (j:Int) then my m B d (j:Int)+1 else if l.any λx=>decide (mW m≤my m B d x) then 0 else -1:=rfl
    rw [hage];cases e:xI m d (j:Int) with
    |none=>
     simp only [Bool.false_eq_true,not_false_eq_true,if_true,G7 v hk hd,bs,uS j0 j1,hok];by_cases hh:mH m≤(kX m (j:Int) d:Int)
     .simp only [hh,decide_true,if_true,bs,hck]
     .simp only [hh,decide_false,Bool.false_eq_true,if_false,bs,hck]
    |some l=>
     have hb:=vE v e;simp only [not_true_eq_false,if_false,bs,Bool.false_eq_true,uS j0 j1,hok];by_cases h0:0≤my m B d (j:Int)
     .have c2:ck (my m B d (j:Int)+1)=some (my m B d (j:Int)+1):=cU (by omega) (by omega);simp only [h0,if_true,c2,bs,hok,hck]
     .simp only [h0,if_false];rw [zB v (r8:=(l,true)) (by show l.length < k;omega) (by show l.length≤1000;omega) hb.2,bs,bs,hck,bs]
   .rw [hs,List.range_succ,List.map_append];rfl)
  (λn s hs=>by
   rw [length_range];unfold fP;rw [if_neg (by show¬(((mC m).toNat:Int) < mC m);omega)]) (n:=k) (s0:=[]) (by rw [length_range];omega) rfl
 rw [show fP k m (d:Int) (jr m B d) k ([],0)=_ from key.1,bs,key.2,length_range];rfl
theorem Ha{k:Nat}{m:ae}{b:List Int}(v:Vd m)(hk:10≤k)(hb:b.length < k)(hb2:b.length≤1000):oR k m b=some (sj m λc=>decide (c∈b)):=by
 have c1:=v.c1;have c5:=v.c5;have d6:=v.d6;unfold oR
 have key:=iK (T:=List Int×Int) (f:=fR k m b) (List.range (mC m).toNat) (λ(s:List Int) j=>(s,j)) (λs j _=>s++[my m (λc=>decide (c∈b)) 0 (j:Int)]) (λj s=>s=(List.range j).map λ(c:Nat)=>my m (λc=>decide (c∈b)) 0 (c:Int)) (λs=>some s)
  (λn s j hj hs=>by
   rw [length_range] at hj;have hck:ck ((j:Int)+1)=some ((j:Int)+1):=cU (by omega) (by omega);have j2:(j:Int) < m.1:=by show(j:Int) < mC m;omega
   have hl:s.length=j:=by rw [hs,length_map,length_range]
   have hok:∀x:Int,cf (bA (length s+length [x]))=some ():=λx=>dq (by simp [bA];omega);refine⟨?_,?_⟩
   .simp only [fR,j2,if_true,Dj (x:=(j:Int)) hb (by omega),bs,hok,hck];have hage:my m (λc=>decide (c∈b)) 0 (j:Int)=if decide ((j:Int)∈b) then mW m else -1:=rfl;rw [hage];cases decide ((j:Int)∈b) with
    |true=>simp only [if_true,bs]
    |false=>simp only [Bool.false_eq_true,if_false,bs]
   .rw [hs,List.range_succ,List.map_append];rfl)
  (λn s hs=>by
   rw [length_range];unfold fR;rw [if_neg (by show¬(((mC m).toNat:Int) < mC m);omega)]) (n:=k) (s0:=[]) (by rw [length_range];omega) rfl
 rw [show fR k m b k ([],0)=_ from key.1,bs,key.2,length_range]
 have key2:=iK (T:=List (List Int)×Int) (f:=fQ k m) (mD m) (λ(s:List (List Int)) j=>(s,j)) (λs j _=>s++[jr m (λc=>decide (c∈b)) (j+1)]) (λj s=>s=(List.range (j+1)).map (jr m λc=>decide (c∈b))) (λs=>some s)
  (λn s j hj hs=>by
   have hck:ck ((j:Int)+1)=some ((j:Int)+1):=cU (by omega) (by omega);have hl:s.length=j+1:=by rw [hs,length_map,length_range]
   have hok:∀x:List Int,cf (bA (length s+length [x]))=some ():=λx=>dq (by simp [bA];omega);have hj':(j:Int) < (m.2.2.2.2.1.length:Int):=Int.ofNat_lt.2 hj
   have hg:aH s (j:Int)=some (jr m (λc=>decide (c∈b)) j):=by
    rw [hs,aH,if_pos (by omega),List.getElem?_map,Int.toNat_natCast,List.getElem?_range (by omega)];rfl
   refine⟨?_,?_⟩
   .simp only [fQ,hj',if_true,hg,bs,G3 v hk hj,hok,hck]
   .rw [hs,List.range_succ (n:=j+1),List.map_append];rfl)
  (λn s hs=>by
   unfold fQ;rw [if_neg (Int.lt_irrefl _)]) (n:=k) (s0:=[jr m (λc=>decide (c∈b)) 0]) (by omega) rfl
 have e0:((List.range (mC m).toNat).map λ(c:Nat)=>my m (λc=>decide (c∈b)) 0 (c:Int))=jr m (λc=>decide (c∈b)) 0:=rfl;rw [e0,show fQ k m k ([jr m (λc=>decide (c∈b)) 0],0)=_ from key2.1,bs,key2.2];rfl
theorem BB{k:Nat}{m:ae}{b:List Int}(hs:Sm m)(hk:1010≤k)(hb:b.length≤1000):
 lQ k m b=some (if¬(nB m=0) then([],nB m) else if¬(ox (mC m) b=0) then([],ox (mC m) b) else(sj m λc=>decide (c∈b),0)):=by
 unfold lQ
 rw [Dk hs (by omega),bs]
 by_cases hc:nB m=0
 .
  have v:=Vd.of hc;rw [if_neg (λhn=>hn hc),if_neg (λhn=>hn hc),J5 ⟨v.c1,v.c5⟩ (by omega) hb,bs];by_cases hg:ox (mC m) b=0
  .rw [if_neg (λhn=>hn hg),if_neg (λhn=>hn hg),Ha v (by omega) (by omega) hb,bs]
  .rw [if_pos hg,if_pos hg]
 .
  rw [if_pos hc,if_pos hc]
