import Derived.Test.YtcpbmhgakdeceaaGreatVRF2
open Nat
open List hiding mem_of_getElem?
open Array hiding mem_of_getElem? mk
set_option linter.unusedVariables false
set_option linter.unusedSimpArgs false
namespace Go.Proofs.YtcpbmhgakdeceaaGreat
open K Go Go.Proofs
def W{α:Type}(x:Option α)(Q:α->Prop):Prop:=∃a,x=some a/\Q a
namespace W
variable {α β ε:Type}{Q:β->Prop}
theorem ret{a:β}(h:Q a):W (some a) Q:=⟨a,rfl,h⟩
theorem mono{x:Option β}{R:β->Prop}(h:W x R)(hq:∀a,R a->Q a):W x Q:=let ⟨a,e,r⟩:=h;⟨a,e,hq a r⟩
theorem bind{x:Option α}{f:α->Option β}{R:α->Prop}(h:W x R)(hf:∀a,R a->W (f a) Q):W (x.bind f) Q:=by
 obtain⟨a,rfl,r⟩:=h;grind
theorem ck{n:Int}{f:Int->Option β}(h1: -9223372036854775808≤n)(h2:n≤9223372036854775807)(hf:W (f n) Q):W ((K.ck n).bind f) Q:=by
 simp_all [K.ck,if_pos]
theorem chk{p:Prop}[Decidable p]{f:Unit->Option β}(h:p)(hf:W (f ()) Q):W ((bO p).bind f) Q:=by
 simp_all [bO,if_pos]
theorem at_{l:List α}{i:Int}{f:α->Option β}(h0:0≤i)(h1:i < l.length)(hf:∀x,l[i.toNat]? =some x->W (f x) Q):W ((aK l i).bind f) Q:=by
 simp_all [aK,if_pos,List.getElem?_eq_getElem]
theorem ite{p:Prop}[Decidable p]{a b:Option β}(h1:p->W a Q)(h2:¬p->W b Q):W (if p then a else b) Q:=by
 grind
theorem iteB{p:Prop}[Decidable p]{a b:Option α}{f:α->Option β}(h1:p->W (a.bind f) Q)(h2:¬p->W (b.bind f) Q):W ((if p then a else b).bind f) Q:=by
 grind
theorem bEE{x:Option (Except ε α)}{g:ε->Option β}{f:α->Option β}{R:Except ε α->Prop}(h:W x R)(hg:∀e,R (.error e)->W (g e) Q)(hf:∀a,R (.ok a)->W (f a) Q):W (K.bE x g f) Q:=by
 obtain⟨a,rfl,r⟩:=h;cases a with
 |error e=>exact hg e r
 |ok a=>exact hf a r
theorem loop{T:Type}{f:Nat->T->Option β}(I:Nat->T->Prop)(step:∀aM m y,I m y->(∀m' y',m' < m->I m' y'->W (f aM y') Q)->W (f (aM+1) y) Q):∀m aM y,m < aM->I m y->W (f aM y) Q:=by
 intro m
 induction m using Nat.strongRecOn with
 |_ m ih=>
  intro aM y hm hI;cases aM with
  |zero=>omega
  |succ aM=>grind
end W
theorem wrap_u64(n:Int):0≤IntKind.u64.wrap n/\IntKind.u64.wrap n < 18446744073709551616:=by
 simp_all [Int.emod_nonneg,Int.emod_lt_of_pos,IntKind.wrap,IntKind.signed,IntKind.bits]
theorem A3{n:Int}(h0:0≤n)(h1:n < 18446744073709551616):IntKind.u64.wrap n=n:=by
 simp_all [IntKind.wrap,IntKind.signed,IntKind.bits,Int.emod_eq_of_lt]
def Lo(l:bH)(m:Int):Prop:=0≤l.2.1/\l.2.1≤m
theorem NW{k:Nat}{l:bH}{m:Int}(h:Lo l m)(hm:m≤1000000000):W (jf k l) λr=>0≤r.1/\r.1 < 72057594037927936/\Lo r.2 (m+1):=by
 obtain⟨h0,h1⟩:=h;unfold jf
 have fin:∀x:Int,W ((K.ck (l.2.1+1)).bind λx4=>some (ji .u64 (uA .u64 (IntKind.u64.wrap ((uA .u64 x (ji .u64 x (29:Int))) * (2685821657736338717:Int))) (ji .u64 (IntKind.u64.wrap ((uA .u64 x (ji .u64 x (29:Int))) * (2685821657736338717:Int))) (32:Int))) (8:Int),(l.1,x4,x)))
  λr=>0≤r.1/\r.1 < 72057594037927936/\Lo r.2 (m+1):=λx=>by
  refine W.ck (by omega) (by omega) (W.ret ?_)
  generalize IntKind.u64.wrap ((uA .u64 x (ji .u64 x (29:Int))) * (2685821657736338717:Int))=y
  have hx:0≤uA .u64 y (ji .u64 y 32)/\uA .u64 y (ji .u64 y 32) < 18446744073709551616:=wrap_u64 _
  have e:ji .u64 (uA .u64 y (ji .u64 y 32)) 8=(uA .u64 y (ji .u64 y 32)) / 256:=by
   unfold ji;rw [Int.fdiv_eq_ediv_of_nonneg _ (by decide)];rfl
  refine⟨?_,?_,?_,?_⟩
  .
   omega
  .
   omega
  .
   grind
  simp_all
 refine W.iteB (λhlt=>?_) (λ_=>fin _);simp_all [aK,if_pos,List.getElem?_eq_getElem]
theorem lN{k:Nat}{l:bH}{m n:Int}(h:Lo l m)(hm:m≤1000000000)(hn:n≤1000000000):W (bY k l n) λr=>0≤r.1/\(0≤n->r.1≤n)/\Lo r.2 (m+1):=by
 unfold bY;refine W.ite (λh1=>W.ret ⟨Int.le_refl 0,λh=>h,h.1,by show l.2.1≤m+1;have:=h.2;omega⟩) (λh1=>?_);refine W.bind (NW h hm) λr hr=>?_;refine W.ck (by omega) (by omega) ?_;have e:IntKind.u64.wrap (n+1)=n+1:=A3 (by omega) (by omega);refine W.chk (by omega) ?_;rw [e];have h2:Int.tmod r.1 (n+1)=r.1 % (n+1):=Int.tmod_eq_emod_of_nonneg hr.1;have h3:=Int.emod_nonneg r.1 (show n+1≠0 by omega);have h4:=Int.emod_lt_of_pos r.1 (show 0 < n+1 by omega);grind [W.ck,W.ret]
theorem FW{k:Nat}{l:bH}{m a b:Int}(h:Lo l m)(hm:m≤1000000000)(ha:0≤a)(hab:a≤b)(hb:b≤1000000):W (gr k l a b) λr=>a≤r.1/\r.1≤b/\Lo r.2 (m+1):=by
 grind [gr,W.ck,W.bind,lN,W.ret]
theorem zL{k:Nat}{l:bH}{m a:Int}(h:Lo l m)(hm:m≤1000000000)(ha:0≤a)(hb:a≤1000000):W (eR k l a) λr=>Lo r.2 (m+1):=by
 grind [eR,W.ck,W.bind,lN,W.ret]
theorem Jt{k:Nat}{l:bH}{m:Int}{some_:List Int}(h:Lo l m)(hm:m≤1000000000)(h0:0 < some_.length)(h1:some_.length≤1000000):W (iL k l some_) λr=>r.1∈some_/\Lo r.2 (m+1):=by
 grind [iL,W.ck,W.bind,lN,W.at_,W.ret,List.mem_of_getElem?]
theorem cj{α:Type}{l:List α}{i:Nat}(h:i < l.length):aK l (i:Int)=some l[i]:=by
 rw [aK,if_pos (by omega)];simp_all
section
variable {α β γ ε σ T:Type}
theorem bs{a:α}{f:α->Option β}:(some a).bind f=f a:=by simp_all
theorem cE{n:Int}(h1: -9223372036854775808≤n)(h2:n≤9223372036854775807):K.ck n=some n:=by simp_all [K.ck,if_pos]
theorem cV{p:Prop}[Decidable p](h:p):bO p=some ():=by rw [bO,if_pos h]
theorem Ag{l:List α}{i:Int}(h0:0≤i)(h:i.toNat < l.length):aK l i=some l[i.toNat]:=by rw [aK,if_pos h0];simp_all
theorem jA{a:α}{g:ε->Option β}{f:α->Option β}:K.bE (some (.ok a)) g f=f a:=by simp_all [K.bE]
theorem lm{e:ε}{g:ε->Option β}{f:α->Option β}:K.bE (some (.error e)) g f=g e:=by simp_all [K.bE]
theorem vQ{q:α}{a:β}{b:α->β}:fS (some q) a b=b q:=by simp_all [fS]
theorem Gh{a:β}{b:α->β}:fS none a b=a:=by simp_all [fS]
theorem XJ{n:Nat}(h:n≤4294967296):aZ n:=h
def oK(g:σ->Nat->α->σ):Nat->List α->σ->σ
 |_,[],s=>s
 |j,x::l,s=>oK g (j+1) l (g s j x)
theorem gZ(l:List α)(mk:σ->Int->T)(g:σ->Nat->α->σ)(P:Nat->σ->Prop){f:Nat->T->Option β}(fin:σ->Option β)
 (step:∀n s (j:Nat) (h:j < l.length),P j s->f (n+1) (mk s j)=f n (mk (g s j l[j]) ((j:Int)+1))/\P (j+1) (g s j l[j]))
 (stop:∀n s,P l.length s->f (n+1) (mk s l.length)=fin s) {s0:σ} {n:Nat} (hn:l.length < n) (h0:P 0 s0):f n (mk s0 0)=fin (oK g 0 l s0)/\P l.length (oK g 0 l s0):=by
 have key:∀(m:List α) (pre:List α) (n:Nat) (s:σ),l=pre++m->m.length < n->P pre.length s->f n (mk s pre.length)=fin (oK g pre.length m s)/\P l.length (oK g pre.length m s):=by
  intro m
  induction m with
  |nil=>
   intro pre n s e hn hp;obtain⟨n,rfl⟩:∃n',n=n'+1:=⟨n - 1,by omega⟩;have:l.length=pre.length:=by grind
   rw [<-this] at hp⊢;exact⟨stop n s hp,hp⟩
  |cons x m ih=>
   intro pre n s e hn hp;simp only [length_cons] at hn;obtain⟨n,rfl⟩:∃n',n=n'+1:=⟨n - 1,by omega⟩;have hl:pre.length < l.length:=by grind
   have hx:l[pre.length]=x:=by simp [e]
   obtain⟨h1,h2⟩:=step n s pre.length hl hp;rw [hx] at h1 h2;have:=ih (pre++[x]) n (g s pre.length x) (by grind) (by omega) (by simp_all);rw [length_append] at this;simp only [length_cons,length_nil,Nat.zero_add] at this;rw [h1];exact this
 have:=key l [] n s0 rfl hn h0
 exact this
def dM(g:σ->Nat->α->Except ε σ):Nat->List α->σ->Except ε σ
 |_,[],s=>.ok s
 |j,x::l,s=>match g s j x with
  | .error e=>.error e
  | .ok s'=>dM g (j+1) l s'
theorem yU(l:List α)(mk:σ->Int->T)(g:σ->Nat->α->Except ε σ)(P:Nat->σ->Prop){f:Nat->T->Option β}(fin:Except ε σ->Option β)
 (step:∀n s (j:Nat) (h:j < l.length),P j s->(∃e,g s j l[j]= .error e/\f (n+1) (mk s j)=fin (.error e))\/(∃s',g s j l[j]= .ok s'/\f (n+1) (mk s j)=f n (mk s' ((j:Int)+1))/\P (j+1) s'))
 (stop:∀n s,P l.length s->f (n+1) (mk s l.length)=fin (.ok s)) {s0:σ} {n:Nat} (hn:l.length < n) (h0:P 0 s0):f n (mk s0 0)=fin (dM g 0 l s0):=by
 have key:∀(m:List α) (pre:List α) (n:Nat) (s:σ),l=pre++m->m.length < n->P pre.length s->f n (mk s pre.length)=fin (dM g pre.length m s):=by
  intro m
  induction m with
  |nil=>
   intro pre n s e hn hp;obtain⟨n,rfl⟩:∃n',n=n'+1:=⟨n - 1,by omega⟩;have:l.length=pre.length:=by grind
   rw [<-this] at hp⊢;exact stop n s hp
  |cons x m ih=>
   intro pre n s e hn hp;simp only [length_cons] at hn;obtain⟨n,rfl⟩:∃n',n=n'+1:=⟨n - 1,by omega⟩;have hl:pre.length < l.length:=by grind
   have hx:l[pre.length]=x:=by simp [e]
   rcases step n s pre.length hl hp with⟨e',h1,h2⟩ |⟨s',h1,h2,h3⟩
   .grind [dM]
   .rw [hx] at h1;have:=ih (pre++[x]) n s' (by grind) (by omega) (by simp_all);simp_all [length_append,length_cons,length_nil,Nat.zero_add,dM]
 exact key l [] n s0 rfl hn h0
end
section
variable {α β ε σ T:Type}
theorem iW(l:List α)(mk:σ->Int->T)(g:σ->Nat->α->Except ε σ)(P:Nat->σ->Prop){f:Nat->T->Option β}(fin:Except ε σ->Option β)
 (step:∀n s (j:Nat) (h:j < l.length),P j s->(f (n+1) (mk s j)=match g s j l[j] with | .error e=>fin (.error e) | .ok s'=>f n (mk s' ((j:Int)+1)))/\∀s',g s j l[j]= .ok s'->P (j+1) s')
 (stop:∀n s,P l.length s->f (n+1) (mk s l.length)=fin (.ok s)) {s0:σ} {n:Nat} (hn:l.length < n) (h0:P 0 s0):f n (mk s0 0)=fin (dM g 0 l s0):=
 yU l mk g P fin (λn s j h hp=>by
  obtain⟨h1,h2⟩:=step n s j h hp
  grind) stop hn h0
end
theorem xb{α:Type}(p:α->Bool):∀(l:List α) (j:Nat),dM (λ(_:Unit) j x=>if p x then Except.error (j:Int) else .ok ()) j l ()=match l.findIdx? p with |some i=>.error ((i+j:Nat):Int) |none=>.ok ()
 |[],j=>by simp [dM]
 |x::l,j=>by
  rw [dM,findIdx?_cons]
  by_cases h:p x=true
  .
   simp [h]
  .
   simp only [h,if_false,Bool.false_eq_true]
   rw [xb p l (j+1)]
   grind
theorem uU{k:Nat}{a b:List Int}(h:a.length < k)(hk:a.length≤1000000):fK k a b=some (decide (a=b)):=by
 unfold fK;by_cases hl:a.length=b.length
 .rw [if_neg (by simp [hl])]
  have key:=yU (f:=dW k a b) a (λ(_:Unit) j=>j) (λ_ j x=>if x=b[j]?.getD 0 then .ok () else Except.error false) (λ_ _=>True) (λr=>some r)
   (λn s j hj _=>by
    have hjb:j < b.length:=by omega
    have hb:b[j]?.getD 0=b[j]:=by simp_all
    have hck:ck ((j:Int)+1)=some ((j:Int)+1):=cE (by omega) (by omega);rw [hb];simp only [dW,Int.ofNat_lt,hj,if_true,cj hj,cj hjb,bs];by_cases e:a[j]=b[j] <;> simp [e,hck])
   (λn s _=>by simp [dW]) (n:=k) (s0:=()) h trivial
  rw [show dW k a b k 0=_ from key]
  have:∀(a:List Int) (j:Nat),a.length+j=b.length->dM (λ(_:Unit) j x=>if x=b[j]?.getD 0 then .ok () else Except.error false) j a ()=if a=b.drop j then .ok () else .error false:=by
   intro a
   induction a with
   |nil=>
    simp_all [drop_eq_nil_of_le,length_nil,dM]
   |cons x a ih=>
    intro j hj;simp only [length_cons] at hj;have hjb:j < b.length:=by omega
    have hd:b.drop j=b[j]::b.drop (j+1):=drop_eq_getElem_cons hjb;have hb:b[j]?.getD 0=b[j]:=by simp_all
    rw [dM,hb,hd];grind
  rw [this a 0 (by omega),drop_zero];by_cases e:a=b
  .rw [if_pos e,jA,decide_eq_true e]
  .rw [if_neg e,lm,decide_eq_false e]
 .rw [if_pos (by omega),decide_eq_false (λe=>hl (by rw [e]))]
def jL(s:Int):Prop:=0≤s/\s < 256
def ew(s:Int)(i:Nat):Prop:=s.toNat.testBit i=true
instance (s:Int) (i:Nat):Decidable (ew s i):=by unfold ew;infer_instance
theorem vE{x:Nat}(h:x < 256):IntKind.u8.wrap (x:Int)=x:=by
 grind [IntKind.wrap,IntKind.signed,IntKind.bits]
theorem wP{s:Int}(h:jL s):∃n:Nat,n < 256/\s=n:=⟨s.toNat,by have:=h.1;have:=h.2;omega,by have:=h.1;omega⟩
theorem Ju{n:Nat}(h:n < 256):(BitVec.ofInt IntKind.u8.bits (n:Int)).toNat=n:=by
 show(BitVec.ofInt 8 (n:Int)).toNat=n;simp_all
theorem Kp{n m:Nat}(hn:n < 256)(hm:m < 256):n |||m < 256:=or_lt_two_pow (n:=8) hn hm
theorem Oa{n m:Nat}(hn:n < 256):n &&& m < 256:=Nat.lt_of_le_of_lt and_le_left hn
theorem RG{a b:Int}(ha:jL a)(hb:jL b):jL (FV .u8 a b)/\∀i,ew (FV .u8 a b) i↔ew a i\/ew b i:=by
 obtain⟨n,hn,rfl⟩:=wP ha;obtain⟨m,hm,rfl⟩:=wP hb
 have e:FV .u8 (n:Int) (m:Int)=((n |||m:Nat):Int):=by
  grind [FV,BitVec.toNat_or,Ju,vE,Kp]
 rw [e];refine⟨⟨by omega,by grind [Kp]⟩,λi=>?_⟩;simp [ew,testBit_or]
theorem Rj{x:Int}(h0:0≤x)(h8:x < 8):jL (qA .u8 1 x)/\∀i:Nat,ew (qA .u8 1 x) i↔(i:Int)=x:=by
 obtain⟨n,rfl⟩:=Int.eq_ofNat_of_zero_le h0;have hn:n < 8:=by omega
 have e:qA .u8 1 (n:Int)=((2 ^ n:Nat):Int):=by
  unfold qA
  have h1:min (Int.toNat (n:Int)) IntKind.u8.bits=n:=by
   show min n 8=n;omega
  rw [h1,Int.one_mul];have h2:2 ^ n < 256:=Nat.pow_lt_pow_right (by decide) hn;grind [vE]
 rw [e];have h9:2 ^ n < 256:=Nat.pow_lt_pow_right (by decide) hn;refine⟨⟨Int.natCast_nonneg _,Int.ofNat_lt.2 h9⟩,λi=>?_⟩;simp only [ew,Int.toNat_natCast,testBit_two_pow,decide_eq_true_eq];omega
theorem EE{k:Nat}{s:Int}(hs:jL s){i:Nat}(hi:i < 8):fD k s (i:Int)=some (decide (ew s i)):=by
 obtain⟨n,hn,rfl⟩:=wP hs;unfold fD;rw [bO,if_pos (by omega)];show some _=some _;congr 1
 have e1:ji .u8 (n:Int) (i:Int)=((n >>> i:Nat):Int):=by
  unfold ji
  have h1:min (Int.toNat (i:Int)) IntKind.u8.bits=i:=by
   show min i 8=i;omega
  grind [Int.fdiv_eq_ediv_of_nonneg,Int.natCast_nonneg,Nat.shiftRight_eq_div_pow]
 have hlt:n >>> i < 256:=Nat.lt_of_le_of_lt (by rw [Nat.shiftRight_eq_div_pow];exact div_le_self _ _) hn
 have e2:sJ .u8 ((n >>> i:Nat):Int) 1=(((n >>> i) &&& 1:Nat):Int):=by
  grind [sJ,BitVec.ofInt,BitVec.toNat_and,Ju,vE,Oa]
 rw [e1,e2]
 have e3:(((n >>> i) &&& 1:Nat):Int)=1↔ew (n:Int) i:=by
  rw [ew,Int.toNat_natCast,testBit];grind
 simp_all
end Go.Proofs.YtcpbmhgakdeceaaGreat
set_option linter.unusedVariables false
set_option linter.unusedSimpArgs false
namespace Go.Proofs.YtcpbmhgakdeceaaGreat
open K Go Go.Proofs
abbrev mC(m:ab):Int:=m.1
abbrev mW(m:ab):Int:=m.2.1
abbrev mS(m:ab):Int:=m.2.2.1
abbrev mH(m:ab):Int:=m.2.2.2.1
abbrev mD(m:ab):List (List (List Int)):=m.2.2.2.2.1
abbrev mG(m:ab):List aC:=m.2.2.2.2.2
def tQ(l:List Int)(c:Int):Option (List Int):=(l.findIdx? λy=>decide (c=y)).map λi=>(if 0 < i then [l[i-1]?.getD 0] else [])++(l[i+1]?).toList
def vB(d:List (List Int))(c:Int):Option (List Int):=d.findSome? λl=>tQ l c
def Az(m:ab)(d:Nat)(c:Int):Option (List Int):=vB ((mD m)[d]?.getD []) c
def nv(m:ab)(c:Int):Nat->Nat
 |0=>if(Az m 0 c).isSome then 0 else 1
 |d+1=>if(Az m (d+1) c).isSome then 0 else nv m c d+1
def na(m:ab)(B:Int->Bool):Nat->Int->Int
 |0,c=>if B c then mW m else -1
 |d+1,c=>match Az m d c with
  |none=>if mH m≤(nv m c d:Int) then -1 else na m B d c
  |some l=>if 0≤na m B d c then na m B d c+1 else if l.any λx=>decide (mW m≤na m B d x) then 0 else -1
theorem EU{m:ab}{B:Int->Bool}(hw:0≤mW m):∀{d:Nat} {c:Int}, -1≤na m B d c
 |0,c=>by grind [na]
 |d+1,c=>by
  have:=EU (B:=B) hw (d:=d) (c:=c)
  grind [na]
theorem ET{m:ab}{B:Int->Bool}(hw:mW m≤3):∀{d:Nat} {c:Int},na m B d c≤3+d
 |0,c=>by grind [na]
 |d+1,c=>by
  have:=ET (B:=B) hw (d:=d) (c:=c)
  grind [na]
theorem Kv{k:Nat}{l:List Int}{x:Int}(hk:l.length < k)(hl:l.length≤1000000):ib k l x=some (match l.findIdx? (λy=>decide (x=y)) with |some i=>(i:Int) |none=> -1):=by
 unfold ib
 have key:=iW (f:=dC k l x) l (λ(_:Unit) j=>j) (λ_ j y=>if decide (x=y)=true then Except.error (j:Int) else .ok ()) (λ_ _=>True) (λr=>some r)
  (λn s j hj _=>by
   have hck:ck ((j:Int)+1)=some ((j:Int)+1):=cE (by omega) (by omega);refine⟨?_,λ_ _=>trivial⟩;simp only [dC,Int.ofNat_lt,hj,if_true,cj hj,bs,decide_eq_true_eq];grind)
  (λn s _=>by simp [dC]) (n:=k) (s0:=()) hk trivial
 rw [show dC k l x k 0=_ from key,xb (λy=>decide (x=y)) l 0];grind [decide,jA,lm]
def pD:List Int->List Int
 |[a,b]=>if b < a then [b,a] else [a,b]
 |l=>l
theorem wi{l:List Int}{x:Int}:x∈pD l↔x∈l:=by
 unfold pD;grind
theorem Nn{k:Nat}{l:List Int}(hk:10≤k)(hl:l.length≤2):gA k l=some (pD l):=by
 obtain⟨k,rfl⟩:∃n,k=n+4:=⟨k - 4,by omega⟩;have e0:ry (k+4) (IntKind.u64.wrap (0:Int))=some 0:=by kernel_rfl
 have e1:ry (k+4) (IntKind.u64.wrap (1:Int))=some 1:=by kernel_rfl
 have e2:ry (k+4) (IntKind.u64.wrap (2:Int))=some 2:=by kernel_rfl
 have c0:ck ((0:Int) - 0)=some 0:=rfl;have c1:ck ((1:Int) - 0)=some 1:=rfl;have c2:ck ((2:Int) - 0)=some 2:=rfl;have d1:ck ((0:Int)+1)=some 1:=rfl;have d2:ck ((1:Int)+1)=some 2:=rfl;have d3:ck ((1:Int) - 1)=some 0:=rfl;match l,hl with
 |[],_=>
  simp only [gA,length_nil,Int.ofNat_zero,e0,bs,de,cP,ce,bq,pD,c0,d1];rfl
 |[a],_=>
  simp_all [gA,bs,de,cP,ce,bq,pD]
 |[a,b],_=>
  have:(([a,b]:List Int).length:Int)=2:=rfl;have g0:aK [a,b] (0:Int)=some a:=rfl;have g1:aK [a,b] (1:Int)=some b:=rfl;have hn:∀x:Int,me (k+4) x=some false:=λx=>by simp [me]
  have hl:∀x y:Int,qE (k+4) x y=some (decide (x < y)):=λx y=>by simp [qE,hn]
  simp only [gA,this,e2,bs,de,cP,ce,bq,bL,c2,d1,d2,d3,g0,g1,hl];grind [pD,bL,bs,aK]
end Go.Proofs.YtcpbmhgakdeceaaGreat
set_option linter.unusedVariables false
set_option linter.unusedSimpArgs false
namespace Go.Proofs.YtcpbmhgakdeceaaGreat
open K Go Go.Proofs
structure Vd(m:ab):Prop where
 c1:1≤mC m
 c5:mC m≤5
 w0:0≤mW m
 w3:mW m≤3
 s0:0≤mS m
 s3:mS m≤3
 h1:1≤mH m
 h3:mH m≤3
 d1:1≤(mD m).length
 d6:(mD m).length≤6
 r3:∀r∈mD m,r.length≤3
 l5:∀r∈mD m,∀l∈r,l.length≤5
 x5:∀r∈mD m,∀l∈r,∀x∈l,0≤x/\x < mC m
 nd:∀r∈mD m,r.flatten.Nodup
 g8:(mG m).length≤8
 gl:∀g∈mG m,0≤g.1/\g.1 < mC m/\0≤g.2.1/\g.2.1≤(mD m).length
theorem Db{l:List Int}{c:Int}{s:List Int}(h:tQ l c=some s):s.length≤2/\∀x∈s,x∈l:=by
 unfold tQ at h;cases e:l.findIdx? (λy=>decide (c=y)) with
 |none=>simp_all
 |some i=>
  rw [e] at h;obtain rfl:=Option.some.inj h;have hi:i < l.length:=(List.findIdx?_eq_some_iff_getElem.1 e).1;grind
theorem K5{d:List (List Int)}{c:Int}{s:List Int}(h:vB d c=some s):∃l∈d,tQ l c=some s:=by
 simp_all [vB,List.exists_of_findSome?_eq_some]
theorem xh{m:ab}(v:Vd m){d:Nat}{c:Int}{s:List Int}(h:Az m d c=some s):s.length≤2/\∀x∈s,0≤x/\x < mC m:=by
 obtain⟨l,hl,h2⟩:=K5 h;cases e:(mD m)[d]? with
 |none=>simp_all
 |some r=>
  rw [e] at hl;have h3:=Db h2;exact⟨h3.1,λx hx=>v.x5 r (List.mem_of_getElem? e) l hl x (h3.2 x hx)⟩
def Tz(m:ab)(c:Int)(d:Nat):Int ⊕ List Int:=match Az m d c with
 |some s=>.inr (pD s)
 |none=>.inl (nv m c d)
theorem BK{k:Nat}{c:Int}{r:List (List Int)}(hk:10≤k)(hr:r.length≤3)(hl:∀l∈r,l.length≤5):
 cS k c r k 0=some (match vB r c with |some s=>.error (.inr (pD s)) |none=>.ok ()):=by
 have key:=iW (f:=cS k c r) r (λ(_:Unit) j=>j) (λ_ _ l=>match tQ l c with |some s=>Except.error (Sum.inr (pD s):Int ⊕ List Int) |none=>.ok ()) (λ_ _=>True) (λx=>some x)
  (λn s j hj _=>by
   refine⟨?_,λ_ _=>trivial⟩;have h5:=hl _ (List.getElem_mem hj);have hck:ck ((j:Int)+1)=some ((j:Int)+1):=cE (by omega) (by omega);simp only [cS,Int.ofNat_lt,hj,if_true,cj hj,bs];rw [Kv (by omega) (by omega),bs];generalize r[j]=l at *;have hb:tQ l c=(l.findIdx? λy=>decide (c=y)).map λi=>(if 0 < i then [l[i-1]?.getD 0] else [])++(l[i+1]?).toList:=rfl;cases e:l.findIdx? (λy=>decide (c=y)) with
   |none=>
    simp_all
   |some i=>
    rw [e] at hb;simp only [Option.map_some] at hb;have hi:i < l.length:=(List.findIdx?_eq_some_iff_getElem.1 e).1;rw [hb];have hlen:=(Db hb).1;have c1:ck ((i:Int) - 1)=some ((i:Int) - 1):=cE (by omega) (by omega);have c2:ck ((i:Int)+1)=some ((i:Int)+1):=cE (by omega) (by omega);have ok0:bO (aZ (length ([]:List Int)+length [l[i-1]?.getD 0]))=some ():=cV (by simp [aZ]);simp only [show(0:Int)≤(i:Int) from Int.natCast_nonneg _,if_true,c1,c2,bs]
    have e1:(if(0:Int) < (i:Int) then((aK l ((i:Int) - 1)).bind λx11=>(bO (aZ (length ([]:List Int)+length [x11]))).bind λ_=>some (([]:List Int)++[x11])) else some ([]:List Int))=some (if 0 < i then [l[i-1]?.getD 0] else []):=by
     by_cases h0:0 < i
     .have g:aK l ((i:Int) - 1)=some (l[i-1]?.getD 0):=by
       grind [cj,List.getElem?_eq_getElem]
      simp_all
     simp_all
    rw [e1,bs];generalize (if 0 < i then [l[i-1]?.getD 0] else [])=p at *
    have e2:(if(i:Int)+1 < (l.length:Int) then((aK l ((i:Int)+1)).bind λx18=>(bO (aZ (length p+length [x18]))).bind λ_=>some (p++[x18])) else some p)=some (p++(l[i+1]?).toList):=by
     by_cases h1:i+1 < l.length
     .have g:aK l ((i:Int)+1)=some l[i+1]:=by
       have:((i:Int)+1)=((i+1:Nat):Int):=by omega
       rw [this,cj h1]
      rw [if_pos (by omega),g,bs,List.getElem?_eq_getElem h1];grind [List.getElem?_eq_getElem,cV,length_append,aZ,bs]
     grind
    simp_all [bs,Nn])
  (λn s _=>by simp [cS]) (n:=k) (s0:=()) (by omega) trivial
 rw [show cS k c r k 0=_ from key]
 congr 1
 have:∀(r:List (List Int)) (j:Nat),dM (λ(_:Unit) _ l=>match tQ l c with |some s=>Except.error (Sum.inr (pD s):Int ⊕ List Int) |none=>.ok ()) j r ()=match vB r c with |some s=>.error (.inr (pD s)) |none=>.ok ():=by
  intro r
  induction r with
  |nil=>intro j;rfl
  |cons l r ih=>
   intro j;rw [dM];unfold vB;rw [findSome?_cons];cases tQ l c with
   |none=>exact ih (j+1)
   |some s=>rfl
 simp_all
theorem Gg{m:ab}{c:Int}:∀{d:Nat},nv m c d≤d+1
 |0=>by grind [nv]
 |d+1=>by have:=Gg (m:=m) (c:=c) (d:=d);grind [nv]
theorem wz{k:Nat}{m:ab}{c:Int}(v:Vd m)(hk:10≤k):∀(d m0:Nat),d < m0->d < (mD m).length->eG k m0 m c (d:Int)=some (Tz m c d)
 |d,0,h,_=>absurd h (not_lt_zero _)
 |d,m0+1,h,hd=>by
  have hm:=List.getElem_mem hd
  unfold eG
  rw [cj hd,bs,BK hk (v.r3 _ hm) (v.l5 _ hm)]
  have hbes:Az m d c=vB (mD m)[d] c:=by unfold Az;simp_all
  cases e:vB (mD m)[d] c with
  |some s=>
   simp_all [lm,Tz]
  |none=>
   rw [jA]
   unfold Tz
   rw [hbes,e]
   match d,hd,h with
   |0,hd,h=>
    simp_all [nv]
   |d+1,hd,h=>
    have h6:=v.d6
    have c1:ck (((d+1:Nat):Int) - 1)=some (d:Int):=by grind [cE]
    have ih:=wz v hk d m0 (by omega) (by omega) (c:=c)
    rw [if_pos (by omega),c1,bs,ih,bs]
    rw [hbes.symm] at e
    have hcold:nv m c (d+1)=nv m c d+1:=by grind [nv]
    have hle:=Gg (m:=m) (c:=c) (d:=d)
    unfold Tz
    cases e2:Az m d c with
    |some s=>
     simp only [Nz]
     have:nv m c d=0:=by cases d <;> simp [nv,e2]
     simp_all
    |none=>
     have c2:ck ((1:Int)+(nv m c d:Int))=some ((1:Int)+(nv m c d:Int)):=cE (by omega) (by omega)
     simp only [Nz,Ue,c2,bs,if_true,hcold]
     grind
end Go.Proofs.YtcpbmhgakdeceaaGreat
set_option linter.unusedVariables false
set_option linter.unusedSimpArgs false
namespace Go.Proofs.YtcpbmhgakdeceaaGreat
open K Go Go.Proofs
def mF(f:Int->Int):List Int:=[f 0,f 1,f 2,f 3,f 4]
def upd(f:Int->Int)(c v:Int):Int->Int:=λx=>if x=c then v else f x
theorem XM{c:Int}(h0:0≤c)(h:c < 5):c=0\/c=1\/c=2\/c=3\/c=4:=by omega
theorem zC{f:Int->Int}{c:Int}(h0:0≤c)(h:c < 5):aK (mF f) c=some (f c):=by
 rcases XM h0 h with rfl |rfl |rfl |rfl |rfl <;> rfl
theorem Fz{f:Int->Int}{c v:Int}(h0:0≤c)(h:c < 5):List.set (mF f) (Int.toNat c) v=mF (upd f c v):=by
 rcases XM h0 h with rfl |rfl |rfl |rfl |rfl <;> rfl
theorem oe{f g:Int->Int}(h:∀c,0≤c->c < 5->f c=g c):mF f=mF g:=by
 simp_all [mF]
def Ub(m:ab)(f:Int->Int)(d:Nat)(c:Int):Int:=match Az m d c with
 |none=>if mH m≤(nv m c d:Int) then -1 else f c
 |some l=>if 0≤f c then f c+1 else if l.any λx=>decide (mW m≤f x) then 0 else -1
def TA(m:ab)(f:Int->Int)(d:Nat):Int->Int:=λc=>if 0≤c/\c < mC m then Ub m f d c else f c
theorem xP{k:Nat}{m:ab}{f:Int->Int}(hw:0≤mW m){s:List Int}(hs:s.length < k)(hs2:s.length≤1000)(hx:∀x∈s,0≤x/\x < 5):
 cg k m (mF f) s k 0=some (match s.find? (λx=>decide (mW m≤f x)) with |some x=>.error x |none=>.ok ()):=by
 have key:=iW (f:=cg k m (mF f) s) s (λ(_:Unit) j=>j) (λ_ _ x=>if decide (mW m≤f x)=true then Except.error x else .ok ()) (λ_ _=>True) (λx=>some x)
  (λn _ j hj _=>by
   refine⟨?_,λ_ _=>trivial⟩;have h5:=hx _ (List.getElem_mem hj);have hck:ck ((j:Int)+1)=some ((j:Int)+1):=cE (by omega) (by omega);have him:uC (0:Int) m.2.1=mW m:=by show uC 0 (mW m)=mW m;grind [uC]
   simp only [cg,Int.ofNat_lt,hj,if_true,cj hj,bs,cV h5,zC h5.1 h5.2,him,hck,decide_eq_true_eq];grind)
  (λn s _=>by simp [cg]) (n:=k) (s0:=()) hs trivial
 rw [show cg k m (mF f) s k 0=_ from key]
 congr 1
 have:∀(s:List Int) (j:Nat),dM (λ(_:Unit) _ x=>if decide (mW m≤f x)=true then Except.error x else .ok ()) j s ()=match s.find? (λx=>decide (mW m≤f x)) with |some x=>.error x |none=>.ok ():=by
  intro s
  induction s with
  |nil=>intro j;rfl
  |cons x s ih=>
   intro j;rw [dM,find?_cons];grind
 simp_all
theorem Bn{s:List Int}:(pD s).length=s.length:=by
 unfold pD;grind
def M7(m:ab)(f:Int->Int)(l:List Int):Int:=((pD l).find? λx=>decide (mW m≤f x)).getD (-1)
theorem DY{k:Nat}{m:ab}{f:Int->Int}{c:Int}{d:Nat}(v:Vd m)(hk:10≤k)(hd:d < (mD m).length){l:List Int}(h:Az m d c=some l):
 dO k m (mF f) c (d:Int)=some (M7 m f l):=by
 have h6:=v.d6
 have c5:=v.c5
 have hb:=xh v h
 unfold dO
 rw [wz v hk d k (by omega) hd,bs]
 unfold Tz
 rw [h]
 have e1:K3 (Sum.inr (pD l):Int ⊕ List Int) (λn=>jt k n) (λl=>jq k l)=some (pD l):=rfl
 rw [e1,bs,xP v.w0 (by rw [Bn];omega) (by rw [Bn];omega) λx hx=>by grind [wi]]
 unfold M7
 cases(pD l).find? λx=>decide (mW m≤f x) with
 |none=>rw [jA];rfl
 |some x=>rw [lm];rfl
theorem M6{m:ab}{f:Int->Int}{l:List Int}(hx:∀x∈l,0≤x):0≤M7 m f l↔(l.any λx=>decide (mW m≤f x))=true:=by
 unfold M7;rw [List.any_eq_true];cases e:(pD l).find? λx=>decide (mW m≤f x) with
 |none=>
  simp_all [Option.getD_none,List.find?_eq_none,wi]
 |some x=>
  grind [List.mem_of_find?_eq_some,wi]
theorem J1{k:Nat}{m:ab}{f:Int->Int}{d:Nat}(v:Vd m)(hk:10≤k)(hd:d < (mD m).length)(hf:∀c,0≤c->c < mC m-> -1≤f c/\f c≤1000):
 iI k m (mF f) (d:Int)=some (mF (TA m f d)):=by
 have c5:=v.c5
 have c1:=v.c1
 have h6:=v.d6
 unfold iI
 have key:=gZ (T:=List Int×Int) (f:=cL k m (mF f) (d:Int)) (List.range (mC m).toNat) (λ(g:Int->Int) j=>(mF g,j)) (λg j _=>upd g (j:Int) (Ub m f d (j:Int))) (λj g=>g=λc=>if 0≤c/\c < (j:Int) then Ub m f d c else f c) (λg=>some (mF g))
  (λn g j hj hg=>by
   rw [length_range] at hj;have j0:(0:Int)≤(j:Int):=Int.natCast_nonneg _;have j1:(j:Int) < mC m:=by omega
   have j5:(j:Int) < 5:=by omega
   have hck:ck ((j:Int)+1)=some ((j:Int)+1):=cE (by omega) (by omega);have hp:bO ((0:Int)≤(j:Int)/\(j:Int) < 5)=some ():=cV ⟨j0,j5⟩;have hgj:g (j:Int)=f (j:Int):=by simp_all
   have hfj:=hf _ j0 j1;refine⟨?_,?_⟩
   .have hm1:(m.1:Int)=mC m:=rfl;have hm2:m.2.2.2.1=mH m:=rfl;simp only [cL,hm1,hm2,j1,if_true,wz v hk d k (by omega) hd,bs,hp,zC j0 j5,hck,Fz j0 j5];unfold Tz Ub;cases e:Az m d (j:Int) with
    |none=>
     simp only [Nz,Ue,if_true];by_cases hh:mH m≤(nv m (j:Int) d:Int)
     .simp_all
     .simp only [hh,if_false,bs];refine congrArg (λr=>cL k m (mF f) (d:Int) n (r,(j:Int)+1)) (oe λc _ _=>?_);simp_all [upd]
    |some l=>
     have hb:=xh v e;simp only [Nz,Bool.false_eq_true,if_false,not_false_eq_true,if_true];by_cases h0:0≤f (j:Int)
     .have hck2:ck (f (j:Int)+1)=some (f (j:Int)+1):=cE (by omega) (by omega);simp_all
     .simp only [h0,if_false,DY v hk hd e,bs];have ht:=M6 (m:=m) (f:=f) (l:=l) λx hx=>(hb.2 x hx).1;by_cases hany:(l.any λx=>decide (mW m≤f x))=true
      .simp_all
      .rw [if_neg λh=>hany (ht.1 h),bs,if_neg hany];refine congrArg (λr=>cL k m (mF f) (d:Int) n (r,(j:Int)+1)) (oe λc _ _=>?_);grind [upd]
   .rw [hg];funext c;unfold upd;grind)
  (λn g hg=>by
   rw [length_range];have:((mC m).toNat:Int)=mC m:=by omega
   simp_all [cL,if_neg,mC]) (n:=k) (s0:=f) (by grind) (by grind)
 rw [show cL k m (mF f) (d:Int) k (mF f,0)=_ from key.1,bs]
 congr 1
 refine oe λc _ _=>?_
 rw [key.2,length_range]
 unfold TA
 grind
end Go.Proofs.YtcpbmhgakdeceaaGreat
set_option linter.unusedVariables false
set_option linter.unusedSimpArgs false
namespace Go.Proofs.YtcpbmhgakdeceaaGreat
open K Go Go.Proofs
def cr(F:Nat->Int->Int):List (List Int):=[mF (F 0),mF (F 1),mF (F 2),mF (F 3),mF (F 4),mF (F 5),mF (F 6)]
def DO(F:Nat->Int->Int)(n:Nat)(f:Int->Int):Nat->Int->Int:=λi=>if i=n then f else F i
theorem XL{n:Nat}(h:n < 7):n=0\/n=1\/n=2\/n=3\/n=4\/n=5\/n=6:=by omega
theorem KZ{F:Nat->Int->Int}{n:Nat}(h:n < 7):aK (cr F) (n:Int)=some (mF (F n)):=by
 rcases XL h with rfl |rfl |rfl |rfl |rfl |rfl |rfl <;> rfl
theorem SB{F:Nat->Int->Int}{n:Nat}{f:Int->Int}(h:n < 7):List.set (cr F) n (mF f)=cr (DO F n f):=by
 rcases XL h with rfl |rfl |rfl |rfl |rfl |rfl |rfl <;> rfl
def TF(m:ab)(B:Int->Bool):Nat->Int->Int
 |0=>λc=>if B c then mW m else -1
 |n+1=>TA m (TF m B n) n
theorem AD{m:ab}(v:Vd m){B:Int->Bool}:∀(n:Nat) (c:Int),0≤c->c < mC m->TF m B n c=na m B n c
 |0,c,_,_=>rfl
 |n+1,c,h0,h1=>by
  have ih:=AD v (B:=B) n
  show TA m (TF m B n) n c=na m B (n+1) c
  unfold TA
  rw [if_pos ⟨h0,h1⟩]
  unfold Ub na
  cases e:Az m n c with
  |none=>simp_all
  |some l=>
   have hb:=(xh v e).2
   grind
def Qm(m:ab)(B:Int->Bool):Nat->Int->Int:=λn=>if n≤(mD m).length then TF m B n else λ_=>0
def vb(S:Int):Int->Bool:=λc=>decide (ew S c.toNat)
theorem IV{k:Nat}{m:ab}{S:Int}(hk:10≤k)(hS:jL S):fj k m S=some (mF λc=>if vb S c then mW m else -1):=by
 unfold fj
 have key:=gZ (T:=List Int×Int) (f:=cR k m S) (List.range 5) (λ(g:Int->Int) j=>(mF g,j)) (λg j _=>upd g (j:Int) (if vb S (j:Int) then mW m else -1)) (λj g=>∀c,0≤c->c < (j:Int)->g c=if vb S c then mW m else -1) (λg=>some (mF g))
  (λn g j hj hg=>by
   rw [length_range] at hj;have j0:(0:Int)≤(j:Int):=Int.natCast_nonneg _;have j5:(j:Int) < 5:=by omega
   have hck:ck ((j:Int)+1)=some ((j:Int)+1):=cE (by omega) (by omega);have hp:bO ((0:Int)≤(j:Int)/\(j:Int) < 5)=some ():=cV ⟨j0,j5⟩;have hp':bO ((0:Int)≤(j:Int)/\True)=some ():=cV ⟨j0,trivial⟩;refine⟨?_,?_⟩
   .simp only [cR,j5,if_true,hp,hp',bs,EE (k:=k) hS (by omega:j < 8),hck,Fz j0 j5];have hin:vb S (j:Int)=decide (ew S j):=by unfold vb;simp_all
    rw [hin];cases hh:decide (ew S j) with
    |true=>
     simp only [if_true,bs];refine congrArg (λr=>cR k m S n (r,(j:Int)+1)) (oe λc _ _=>?_);simp_all [upd]
    |false=>simp_all
   .intro c hc0 hc1;unfold upd;grind)
  (λn g hg=>by
   simp_all [length_range,cR,if_neg]) (n:=k) (s0:=λ_=>0) (by grind) (λc h0 h1=>by omega)
 have e0:([(0:Int),(0:Int),(0:Int),(0:Int),(0:Int)]:List Int)=mF λ_=>0:=rfl;rw [e0,show cR k m S k (mF λ_=>0,0)=_ from key.1,bs];refine congrArg some (oe λc h0 h5=>?_);simp_all
theorem za{k:Nat}{m:ab}{S:Int}(v:Vd m)(hk:10≤k)(hS:jL S):nu k m S=some (cr (Qm m (vb S))):=by
 have d6:=v.d6;have d1:=v.d1;have w0:=v.w0;have w3:=v.w3;unfold nu kC;have hm:bO (0≤S/\S < 256)=some ():=cV hS;have hp0:bO ((0:Int)≤0/\(0:Int) < 7)=some ():=cV ⟨by omega,by omega⟩;rw [hm,bs,IV hk hS,bs,hp0,bs]
 have key:=gZ (T:=List (List Int)×Int) (f:=bX k m) (mD m) (λ(F:Nat->Int->Int) j=>(cr F,j)) (λF j _=>DO F (j+1) (TA m (F j) j)) (λj F=>F=λn=>if n≤j then TF m (vb S) n else λ_=>0) (λF=>some (cr F))
  (λn F j hj hF=>by
   have j0:(0:Int)≤(j:Int):=Int.natCast_nonneg _;have hck:ck ((j:Int)+1)=some ((j:Int)+1):=cE (by omega) (by omega);have hp:bO ((0:Int)≤(j:Int)/\(j:Int) < 7)=some ():=cV ⟨j0,by omega⟩;have hp2:bO ((0:Int)≤(j:Int)+1/\(j:Int)+1 < 7)=some ():=cV ⟨by omega,by omega⟩;have hFj:F j=TF m (vb S) j:=by simp_all
   have hj':(j:Int) < (m.2.2.2.2.1.length:Int):=Int.ofNat_lt.2 hj
   have hnx:=J1 (k:=k) (f:=F j) v hk hj (λc h0 h1=>by
    rw [hFj,AD v j c h0 h1];have:=EU (B:=vb S) w0 (d:=j) (c:=c);have:=ET (B:=vb S) w3 (d:=j) (c:=c);omega)
   refine⟨?_,?_⟩
   .simp only [bX,hj',if_true,hck,hp,bs,KZ (F:=F) (show j < 7 by omega),hnx,hp2];grind [Int.toNat,SB]
   .rw [hF];funext i;unfold DO;by_cases e:i=j+1
    .subst e;simp only [if_true,Nat.le_refl];rfl
    grind)
  (λn F hF=>by
   unfold bX;simp_all) (n:=k) (s0:=DO (λ_ _=>0) 0 (λc=>if vb S c then mW m else -1)) (by omega) (by
   funext n;unfold DO;by_cases e:n=0
   .subst e;rfl
   simp_all)
 have e0:List.set uI (Int.toNat 0) (mF λc=>if vb S c then mW m else -1)=cr (DO (λ_ _=>0) 0 (λc=>if vb S c then mW m else -1)):=rfl;rw [e0,show bX k m k (cr (DO (λ_ _=>0) 0 (λc=>if vb S c then mW m else -1)),0)=_ from key.1,bs];rw [key.2];rfl
theorem OW{m:ab}(v:Vd m){B:Int->Bool}{n:Nat}{c:Int}(hn:n≤(mD m).length)(h0:0≤c)(h1:c < mC m):Qm m B n c=na m B n c:=by
 simp_all [Qm,if_pos,AD]
end Go.Proofs.YtcpbmhgakdeceaaGreat
set_option linter.unusedVariables false
set_option linter.unusedSimpArgs false
namespace Go.Proofs.YtcpbmhgakdeceaaGreat
open K Go Go.Proofs
def wk{σ:Type}(bad:σ->Int->Option Int)(add:σ->Int->σ):List Int->σ->Except Int σ
 |[],s=>.ok s
 |x::l,s=>match bad s x with
  |some e=>.error e
  |none=>wk bad add l (add s x)
theorem vF{σ:Type}{bad:σ->Int->Option Int}{add:σ->Int->σ}:∀(l:List Int) (j:Nat) (s:σ),dM (λs _ x=>match bad s x with |some e=>Except.error e |none=>.ok (add s x)) j l s=wk bad add l s
 |[],j,s=>rfl
 |x::l,j,s=>by
  rw [dM,wk]
  cases bad s x with
  |some e=>rfl
  |none=>exact vF l (j+1) (add s x)
theorem yo{σ:Type}{bad:σ->Int->Option Int}{add:σ->Int->σ}:∀(a b:List Int) (s:σ),wk bad add (a++b) s=match wk bad add a s with | .error e=>.error e | .ok s'=>wk bad add b s'
 |[],b,s=>rfl
 |x::a,b,s=>by
  rw [cons_append,wk,wk]
  cases bad s x with
  |some e=>rfl
  |none=>exact yo a b (add s x)
theorem zq{σ:Type}{bad:σ->Int->Option Int}{add:σ->Int->σ}:∀(r:List (List Int)) (j:Nat) (s:σ),dM (λs _ l=>wk bad add l s) j r s=wk bad add r.flatten s
 |[],j,s=>rfl
 |l::r,j,s=>by
  rw [dM,flatten_cons,yo]
  cases wk bad add l s with
  |error e=>rfl
  |ok s'=>exact zq r (j+1) s'
theorem Iz{σ τ:Type}{b1:σ->Int->Option Int}{a1:σ->Int->σ}{b2:τ->Int->Option Int}{a2:τ->Int->τ}(R:σ->τ->Prop)(hb:∀s t x,R s t->b1 s x=b2 t x)(ha:∀s t x,R s t->b1 s x=none->R (a1 s x) (a2 t x)):
 ∀(l:List Int) (s:σ) (t:τ),R s t->(∃e,wk b1 a1 l s= .error e/\wk b2 a2 l t= .error e)\/∃s' t',wk b1 a1 l s= .ok s'/\wk b2 a2 l t= .ok t'/\R s' t'
 |[],s,t,h=>.inr ⟨s,t,rfl,rfl,h⟩
 |x::l,s,t,h=>by
  rw [wk,wk,<-hb s t x h]
  cases e:b1 s x with
  |some c=>simp_all
  |none=>exact Iz R hb ha l _ _ (ha s t x h e)
theorem zr{σ:Type}{bad:σ->Int->Option Int}{add:σ->Int->σ}(P:σ->Prop)(hs:∀s x,P s->bad s x=none->P (add s x)):∀(l:List Int) (s s':σ),P s->wk bad add l s= .ok s'->P s'
 |[],s,s',h,e=>by cases e;exact h
 |x::l,s,s',h,e=>by
  rw [wk] at e
  cases hb:bad s x with
  |some c=>simp_all
  |none=>rw [hb] at e;exact zr P hs l _ s' (hs s x h hb) e
theorem l6{k:Nat}{a b c:Int}:ec k a b c=some (decide (b≤a/\a≤c)):=by
 grind [ec]
theorem uB{k:Nat}{a b c:Int}:fO k a b c=some (decide (b≤a/\a≤c)):=by
 grind [fO]
theorem Vr{n:Int}(h:1≤n/\n≤5):ck (n - 1)=some (n - 1):=by grind [cE]
theorem Ku{k:Nat}{m:ab}{x:Int}(h:1≤mC m/\mC m≤5):ic k m x=some (decide (0≤x/\x < mC m)):=by
 have h':IntKind.i64.wrap (m.1 - 1)=m.1 - 1:=vR (Vr h);unfold ic;rw [h',uB,bs];grind
theorem RF{k:Nat}{m:ab}{x:Int}:i8 k m x=some (decide (0≤x/\x≤(mD m).length)):=by
 grind [i8,uB,bs]
theorem zF{k:Nat}{l:List Int}{x:Int}(hk:l.length < k)(hl:l.length≤1000000):oR k l x=some (decide (x∈l)):=by
 unfold oR
 have key:=iW (f:=iy k l x) l (λ(_:Unit) j=>j) (λ_ j y=>if decide (y=x)=true then Except.error true else .ok ()) (λ_ _=>True) (λr=>some r)
  (λn s j hj _=>by
   have hck:ck ((j:Int)+1)=some ((j:Int)+1):=cE (by omega) (by omega);refine⟨?_,λ_ _=>trivial⟩;simp only [iy,Int.ofNat_lt,hj,if_true,cj hj,bs,decide_eq_true_eq];grind)
  (λn s _=>by simp [iy]) (n:=k) (s0:=()) hk trivial
 rw [show iy k l x k 0=_ from key]
 have:∀(l:List Int) (j:Nat),dM (λ(_:Unit) _ y=>if decide (y=x)=true then Except.error true else .ok ()) j l ()=if x∈l then .error true else .ok ():=by
  intro l
  induction l with
  |nil=>simp_all [dM]
  |cons y l ih=>
   intro j;rw [dM];grind
 grind [lm,jA]
def DF(C:Int)(s x:Int):Option Int:=if¬(0≤x/\x < C) then some 3 else if ew s x.toNat then some 4 else none
def uN(s x:Int):Int:=FV .u8 s (qA .u8 1 x)
def vC(C:Int)(s:List Int)(x:Int):Option Int:=if¬(0≤x/\x < C) then some 3 else if x∈s then some 4 else none
def AH(s:List Int)(x:Int):List Int:=s++[x]
theorem tB:jL 0:=⟨by decide,by decide⟩
theorem Qn{C s x:Int}(h:DF C s x=none):0≤x/\x < C:=by
 unfold DF at h;grind
theorem lM{k:Nat}{s x:Int}(hs:jL s)(h0:0≤x)(h8:x < 8):fC k s x=some (uN s x)/\jL (uN s x)/\∀i:Nat,ew (uN s x) i↔ew s i\/(i:Int)=x:=by
 have h1:=Rj h0 h8;have h2:=RG hs h1.1;refine⟨?_,h2.1,λi=>?_⟩
 .unfold fC;rw [cV h0,bs];rfl
 .show ew (FV .u8 s (qA .u8 1 x)) i↔_;simp_all
theorem Dc{C s x:Int}(hC:C≤5)(hs:jL s)(h:DF C s x=none):jL (uN s x):=by
 have:=Qn h;exact(lM (k:=0) hs this.1 (by omega)).2.1
def oM(C:Int)(r:List (List Int)):Int:=if 3 < r.length then 6 else match wk (vC C) AH r.flatten [] with | .error e=>e | .ok _=>0
theorem HC{k:Nat}{m:ab}(hC:1≤mC m/\mC m≤5){l:List Int}(hk:l.length < k)(hl:l.length≤1000){s:Int}(hs:jL s):
 dq k m l k (s,0)=some (wk (DF (mC m)) uN l s):=by
 have key:=iW (T:=Int×Int) (f:=dq k m l) l (λ(s:Int) j=>(s,j)) (λs _ x=>match DF (mC m) s x with |some e=>Except.error e |none=>.ok (uN s x)) (λ_ s=>jL s) (λr=>some r)
  (λn s j hj hs=>by
   have hck:ck ((j:Int)+1)=some ((j:Int)+1):=cE (by omega) (by omega);have hc:ck (m.1 - 1)=some (m.1 - 1):=Vr hC;refine⟨?_,λs' e=>?_⟩
   .simp only [dq,Int.ofNat_lt,hj,if_true,cj hj,bs,hc,l6];generalize l[j]=x;by_cases h:0≤x/\x < mC m
    .have h':0≤x/\x≤m.1 - 1:=⟨h.1,by grind⟩;have hh:=EE (k:=k) hs (i:=x.toNat) (by omega);have ex:((x.toNat:Nat):Int)=x:=by omega
     rw [ex] at hh;simp only [h',and_self,decide_true,not_true_eq_false,if_false,hh,bs];have eb:DF (mC m) s x=if ew s x.toNat then some 4 else none:=by unfold DF;simp_all
     rw [eb];by_cases h2:ew s x.toNat
     .simp_all
     .simp only [h2,decide_false,Bool.false_eq_true,if_false,(lM (k:=k) hs h.1 (by omega)).1,bs,hck]
    .have h':¬(0≤x/\x≤m.1 - 1):=λhh=>h ⟨hh.1,by grind⟩;have eb:DF (mC m) s x=some 3:=by unfold DF;simp_all
     simp_all
   .cases e2:DF (mC m) s l[j] with
    |some c=>simp_all
    |none=>grind [Dc])
  (λn s _=>by simp [dq]) (n:=k) (s0:=s) hk hs
 simp_all [dq,vF]
theorem HD{k:Nat}{m:ab}(hC:1≤mC m/\mC m≤5){r:List (List Int)}(hk:r.length < k)(hr:r.length≤1000)(hl:∀l∈r,l.length < k/\l.length≤1000):
 dr k m r k (0,0)=some (match wk (DF (mC m)) uN r.flatten 0 with | .error e=>.error e | .ok _=>.ok ()):=by
 have key:=iW (T:=Int×Int) (f:=dr k m r) r (λ(s:Int) j=>(s,j)) (λs _ l=>wk (DF (mC m)) uN l s) (λ_ s=>jL s) (λx=>some (match x with | .error e=>Except.error e | .ok _=>.ok ()))
  (λn s j hj hs=>by
   have hck:ck ((j:Int)+1)=some ((j:Int)+1):=cE (by omega) (by omega);have hlj:=hl _ (List.getElem_mem hj);refine⟨?_,λs' e=>zr jL (λs x=>Dc hC.2) _ _ _ hs e⟩;simp only [dr,Int.ofNat_lt,hj,if_true,cj hj,bs,HC hC hlj.1 hlj.2 hs];cases wk (DF (mC m)) uN r[j] s with
   |error e=>rw [lm]
   |ok s'=>rw [jA,hck,bs])
  (λn s _=>by simp [dr]) (n:=k) (s0:=0) hk tB
 simp_all [dr,zq]
theorem OL{C:Int}(hC:C≤5)(l:List Int):(∃e,wk (DF C) uN l 0= .error e/\wk (vC C) AH l []= .error e)\/∃s t,wk (DF C) uN l 0= .ok s/\wk (vC C) AH l []= .ok t/\(jL s/\∀i:Nat,ew s i↔(i:Int)∈t):=by
 refine Iz (λs t=>jL s/\∀i:Nat,ew s i↔(i:Int)∈t) (λs t x h=>?_) (λs t x h hb=>?_) l 0 [] ⟨tB,λi=>by simp [ew]⟩
 .unfold DF vC;grind
 .have hx:=Qn hb;have hw:=lM (k:=0) h.1 hx.1 (by omega);simp_all [AH]
theorem N5{k:Nat}{m:ab}(hC:1≤mC m/\mC m≤5){r:List (List Int)}(hk:1000 < k)(hr:r.length≤1000)(hl:∀l∈r,l.length≤1000):jW k m r=some (oM (mC m) r):=by
 unfold jW oM;by_cases h3:3 < r.length
 .grind
 .rw [if_neg (by omega),if_neg h3,HD hC (by omega) hr λl hh=>⟨by grind,hl l hh⟩];rcases OL hC.2 r.flatten with⟨e,h1,h2⟩ |⟨s,t,h1,h2,_⟩
  .simp_all [lm]
  simp_all [jA]
end Go.Proofs.YtcpbmhgakdeceaaGreat
set_option linter.unusedVariables false
set_option linter.unusedSimpArgs false
namespace Go.Proofs.YtcpbmhgakdeceaaGreat
open K Go Go.Proofs
theorem rX:∀(n:Nat) (l:List Int),l.Nodup->(∀x∈l,0≤x/\x < (n:Int))->l.length≤n
 |0,l,_,h=>by
  cases l with
  |nil=>simp
  |cons x l=>have:=h x (by simp);omega
 |n+1,l,hn,h=>by
  have h1:=rX n (l.erase (n:Int)) (hn.erase _) (λx hx=>by
   grind)
  grind
theorem Vs{C:Int}{s:List Int}{x:Int}(h:vC C s x=none):(0≤x/\x < C)/\x∉s:=by
 unfold vC at h;grind
def Mt(C:Int)(s:List Int):Prop:=s.Nodup/\∀x∈s,0≤x/\x < C
theorem Mt.add{C:Int}{s:List Int}{x:Int}(h:Mt C s)(hb:vC C s x=none):Mt C (AH s x):=by
 have:=Vs hb;refine⟨?_,λy hy=>?_⟩
 .unfold AH;rw [nodup_append];exact⟨h.1,by simp,λa ha b hb e=>by simp_all⟩
 .rcases List.mem_append.1 hy with hy |hy
  .exact h.2 y hy
  simp_all
theorem Mt.len{C:Int}{s:List Int}(hC:0≤C/\C≤5)(h:Mt C s):s.length≤5:=by
 have:=rX C.toNat s h.1 λx hx=>⟨(h.2 x hx).1,by have:=(h.2 x hx).2;omega⟩;omega
theorem D9{k:Nat}{m:ab}(hC:1≤mC m/\mC m≤5){r:List (List Int)}{y:List Int×Int}{l:List Int}(hy:aK r y.2=some l)(h6:10≤k)(hk:l.length < k)(hl:l.length≤1000){s:List Int}(hs:Mt (mC m) s):
 dT k m r y k (s,0)=some (wk (vC (mC m)) AH l s):=by
 have key:=iW (T:=List Int×Int) (f:=dT k m r y) l (λ(s:List Int) j=>(s,j)) (λs _ x=>match vC (mC m) s x with |some e=>Except.error e |none=>.ok (AH s x)) (λ_ s=>Mt (mC m) s) (λr=>some r)
  (λn s j hj hs=>by
   have hck:ck ((j:Int)+1)=some ((j:Int)+1):=cE (by omega) (by omega);have h5:=hs.len ⟨by omega,hC.2⟩;refine⟨?_,λs' e=>?_⟩
   .simp only [dT,hy,Int.ofNat_lt,hj,if_true,cj hj,bs,Ku hC];generalize l[j]=x;by_cases h:0≤x/\x < mC m
    .have eb:vC (mC m) s x=if x∈s then some 4 else none:=by unfold vC;simp_all
     rw [eb];simp only [h,and_self,decide_true,not_true_eq_false,if_false,zF (k:=k) (l:=s) (x:=x) (by omega) (by omega),bs];by_cases h2:x∈s
     .simp_all
     .have hok:bO (aZ (length s+length [x]))=some ():=cV (by grind [aZ]);simp only [h2,decide_false,Bool.false_eq_true,if_false,hok,bs,hck];rfl
    .have eb:vC (mC m) s x=some 3:=by unfold vC;simp_all
     simp_all
   .cases e2:vC (mC m) s l[j] with
    |some c=>simp_all
    |none=>rw [e2] at e;cases e;exact hs.add e2)
  (λn s _=>by simp [dT,hy,bs]) (n:=k) (s0:=s) hk hs
 exact key.trans (congrArg some (vF l 0 s))
theorem Nv{k:Nat}{m:ab}(hC:1≤mC m/\mC m≤5){r:List (List Int)}(hk:1000 < k)(hr:r.length≤1000)(hl:∀l∈r,l.length≤1000):jP k m r=some (oM (mC m) r):=by
 unfold jP oM;by_cases h3:3 < r.length
 .grind
 .rw [if_neg (by omega),if_neg h3]
  have key:=iW (T:=List Int×Int) (f:=dU k m r) r (λ(s:List Int) j=>(s,j)) (λs _ l=>wk (vC (mC m)) AH l s) (λ_ s=>Mt (mC m) s) (λx=>some (match x with | .error e=>Except.error e | .ok _=>.ok ()))
   (λn s j hj hs=>by
    have hck:ck ((j:Int)+1)=some ((j:Int)+1):=cE (by omega) (by omega);have hlj:=hl _ (List.getElem_mem hj);refine⟨?_,λs' e=>zr (Mt (mC m)) (λs x=>Mt.add) _ _ _ hs e⟩;have hg:aK r ((s,(j:Int)).2)=some r[j]:=cj hj;simp only [dU,Int.ofNat_lt,hj,if_true];rw [D9 hC hg (by omega) (by omega) hlj hs];cases wk (vC (mC m)) AH r[j] s with
    |error e=>rw [lm]
    |ok s'=>rw [jA,hck,bs])
   (λn s _=>by simp [dU]) (n:=k) (s0:=[]) (by omega) ⟨nodup_nil,λx hx=>by cases hx⟩
  rw [show dU k m r k ([],0)=_ from key,zq];cases wk (vC (mC m)) AH r.flatten [] with
  |error e=>exact lm
  |ok s=>exact jA
theorem IA{C:Int}:∀{l s t:List Int},wk (vC C) AH l s= .ok t->t=s++l
 |[],s,t,e=>by cases e;simp
 |x::l,s,t,e=>by
  rw [wk] at e
  cases hb:vC C s x with
  |some c=>simp_all
  |none=>
   rw [hb] at e
   have:=IA e
   simp_all [AH]
theorem Fg{C:Int}:∀{l s:List Int},(s++l).Nodup->(∀x∈l,0≤x/\x < C)->wk (vC C) AH l s= .ok (s++l)
 |[],s,_,_=>by simp [wk]
 |x::l,s,hn,hr=>by
  have hx:x∉s:=by
   grind
  have hb:vC C s x=none:=by
   unfold vC;simp_all
  rw [wk,hb];simp only [];rw [Fg (s:=AH s x) (by simp_all [AH]) λy hy=>hr y (mem_cons_of_mem _ hy)];simp_all [AH]
theorem yZ{C:Int}{r:List (List Int)}:oM C r=0↔r.length≤3/\r.flatten.Nodup/\∀x∈r.flatten,0≤x/\x < C:=by
 unfold oM;constructor
 .intro h;split at h
  .cases h
  .cases e:wk (vC C) AH r.flatten [] with
   |ok t=>
    have h1:=zr (Mt C) (λs x=>Mt.add) _ _ _ ⟨nodup_nil,λx hx=>by cases hx⟩ e;have h2:=IA e;rw [nil_append] at h2;subst h2;exact⟨by omega,h1.1,h1.2⟩
   |error c=>
    rw [e] at h;exfalso
    have:∀(l s:List Int),wk (vC C) AH l s≠.error 0:=by
     intro l
     induction l with
     |nil=>intro s h;cases h
     |cons x l ih=>
      grind [wk,vC]
    simp_all
 .rintro⟨h1,h2,h3⟩;rw [if_neg (by omega),Fg (by simp_all) h3]
def tH(m:ab)(g:aC):Int:=if(0≤g.1/\g.1 < mC m)/\0≤g.2.1/\g.2.1≤(mD m).length then 0 else 3
theorem J7{k:Nat}{m:ab}(hC:1≤mC m/\mC m≤5){g:aC}:fo k m g=some (tH m g):=by
 have hc:ck (m.1 - 1)=some (m.1 - 1):=Vr hC;unfold fo tH;have e:decide (0≤g.1/\g.1≤m.1 - 1)=decide (0≤g.1/\g.1 < mC m):=decide_eq_decide.2 ⟨λh=>⟨h.1,by grind⟩,λh=>⟨h.1,by grind⟩⟩;rw [hc,bs,l6,bs,e];by_cases h1:0≤g.1/\g.1 < mC m
 .by_cases h2:0≤g.2.1/\g.2.1≤(mD m).length <;> simp [h1,h2,l6]
 grind
theorem I7{k:Nat}{m:ab}(hC:1≤mC m/\mC m≤5){g:aC}:fh k m g=some (tH m g):=by
 unfold fh tH;rw [Ku hC,bs];by_cases h1:0≤g.1/\g.1 < mC m
 .by_cases h2:0≤g.2.1/\g.2.1≤(mD m).length <;> simp [h1,h2,RF]
 grind
def ku{α:Type}(f:α->Int)(l:List α):Int:=((l.map f).find? λe=>decide (e≠0)).getD 0
theorem oJ{α:Type}(f:α->Int):∀(l:List α) (j:Nat),dM (λ(_:Unit) _ x=>if¬(f x=0) then Except.error (f x) else .ok ()) j l ()=if ku f l=0 then .ok () else .error (ku f l)
 |[],j=>by simp [dM,ku]
 |x::l,j=>by
  rw [dM]
  by_cases h:f x=0
  .
   have:ku f (x::l)=ku f l:=by simp [ku,h]
   rw [this]
   simp only [h,not_true_eq_false,if_false]
   exact oJ f l (j+1)
  simp_all [ku]
theorem qZ{α:Type}{f:α->Int}{l:List α}:ku f l=0↔∀x∈l,f x=0:=by
 induction l with
 |nil=>simp [ku]
 |cons x l ih=>
  grind [ku]
structure Sm(m:ab):Prop where
 d:(mD m).length≤1000
 r:∀r∈mD m,r.length≤1000/\∀l∈r,l.length≤1000
 g:(mG m).length≤1000
def lj(m:ab):Int:=
 if¬((1≤mC m/\mC m≤5)/\(0≤mW m/\mW m≤3)/\(0≤mS m/\mS m≤3)/\1≤mH m/\mH m≤3) then 1
 else if(mD m).length=0 then 7 else if 6 < (mD m).length then 6 else if¬(ku (oM (mC m)) (mD m)=0) then ku (oM (mC m)) (mD m)
 else if 8 < (mG m).length then 6 else ku (tH m) (mG m)
theorem N6{k:Nat}{m:ab}(hs:Sm m)(hk:1000 < k):oD k m=some (lj m):=by
 unfold oD lj;simp only [l6,bs];by_cases h1:1≤mC m/\mC m≤5
 .by_cases h2:0≤mW m/\mW m≤3
  .by_cases h3:0≤mS m/\mS m≤3
   .by_cases h4:1≤mH m/\mH m≤3
    .have e1:(1≤m.1/\m.1≤5)=True:=eq_true h1;have e2:(0≤m.2.1/\m.2.1≤3)=True:=eq_true h2;have e3:(0≤m.2.2.1/\m.2.2.1≤3)=True:=eq_true h3;have e4:(1≤m.2.2.2.1/\m.2.2.2.1≤3)=True:=eq_true h4;simp only [e1,e2,e3,e4,decide_true,not_true_eq_false,if_false,Bool.not_true,Bool.false_eq_true,bs,and_self,h1,h2,h3,h4];by_cases h5:(mD m).length=0
     .simp_all
     .rw [if_neg (show¬((m.2.2.2.2.1.length:Int) < 1) by grind),if_neg h5];by_cases h6:6 < (mD m).length
      .grind
      .rw [if_neg (show¬((6:Int) < (m.2.2.2.2.1.length:Int)) by grind),if_neg h6]
       have key:=iW (f:=fJ k m) (mD m) (λ(_:Unit) j=>j) (λ_ _ x=>if¬(oM (mC m) x=0) then Except.error (oM (mC m) x) else .ok ()) (λ_ _=>True) (λr=>some r)
        (λn s j hj _=>by
         have hck:ck ((j:Int)+1)=some ((j:Int)+1):=cE (by omega) (by omega);have hr:=hs.r _ (List.getElem_mem hj);refine⟨?_,λ_ _=>trivial⟩;have hj':(j:Int) < (m.2.2.2.2.1.length:Int):=Int.ofNat_lt.2 hj;have hg:aK m.2.2.2.2.1 (j:Int)=some (mD m)[j]:=cj hj;simp only [fJ,hj',if_true,hg,bs,N5 h1 hk hr.1 hr.2];grind)
        (λn s _=>by
         unfold fJ;simp_all) (n:=k) (s0:=()) (by omega) trivial
       rw [show fJ k m k 0=_ from key,oJ];by_cases h7:ku (oM (mC m)) (mD m)=0
       .rw [if_pos h7,jA,show(if¬(ku (oM (mC m)) (mD m)=0) then ku (oM (mC m)) (mD m) else if 8 < (mG m).length then 6 else ku (tH m) (mG m))=(if 8 < (mG m).length then 6 else ku (tH m) (mG m)) from if_neg (λhn=>hn h7)];by_cases h8:8 < (mG m).length
        .grind
        .rw [if_neg (show¬((8:Int) < (m.2.2.2.2.2.length:Int)) by grind),if_neg h8]
         have key:=iW (f:=fH k m) (mG m) (λ(_:Unit) j=>j) (λ_ _ x=>if¬(tH m x=0) then Except.error (tH m x) else .ok ()) (λ_ _=>True) (λr=>some r)
          (λn s j hj _=>by
           have hck:ck ((j:Int)+1)=some ((j:Int)+1):=cE (by omega) (by omega);refine⟨?_,λ_ _=>trivial⟩;have hj':(j:Int) < (m.2.2.2.2.2.length:Int):=Int.ofNat_lt.2 hj;have hg:aK m.2.2.2.2.2 (j:Int)=some (mG m)[j]:=cj hj;simp only [fH,hj',if_true,hg,bs,J7 h1];grind)
          (λn s _=>by
           simp_all [fH,if_neg,Int.lt_irrefl]) (n:=k) (s0:=()) (by omega) trivial
         rw [show fH k m k 0=_ from key,oJ];by_cases h9:ku (tH m) (mG m)=0
         .rw [if_pos h9,jA,h9]
         .rw [if_neg h9,lm]
       .rw [if_neg h7,lm,if_pos h7]
    grind
   grind
  grind
 grind
theorem FA{k:Nat}{m:ab}(hs:Sm m)(hk:1000 < k):l8 k m=some (lj m):=by
 unfold l8 lj;simp only [uB,bs];by_cases h1:1≤mC m/\mC m≤5
 .by_cases h2:0≤mW m/\mW m≤3
  .by_cases h3:0≤mS m/\mS m≤3
   .by_cases h4:1≤mH m/\mH m≤3
    .have e1:(1≤m.1/\m.1≤5)=True:=eq_true h1;have e2:(0≤m.2.1/\m.2.1≤3)=True:=eq_true h2;have e3:(0≤m.2.2.1/\m.2.2.1≤3)=True:=eq_true h3;have e4:(1≤m.2.2.2.1/\m.2.2.2.1≤3)=True:=eq_true h4;simp only [e1,e2,e3,e4,decide_true,not_true_eq_false,if_false,Bool.not_true,Bool.false_eq_true,bs,and_self,h1,h2,h3,h4];by_cases h5:(mD m).length=0
     .simp_all
     .rw [if_neg (show¬((m.2.2.2.2.1.length:Int)=0) by simp_all),if_neg h5];by_cases h6:6 < (mD m).length
      .grind
      .rw [if_neg (show¬((6:Int) < (m.2.2.2.2.1.length:Int)) by grind),if_neg h6]
       have key:=iW (f:=fA k m) (mD m) (λ(_:Unit) j=>j) (λ_ _ x=>if¬(oM (mC m) x=0) then Except.error (oM (mC m) x) else .ok ()) (λ_ _=>True) (λr=>some r)
        (λn s j hj _=>by
         have hck:ck ((j:Int)+1)=some ((j:Int)+1):=cE (by omega) (by omega);have hr:=hs.r _ (List.getElem_mem hj);refine⟨?_,λ_ _=>trivial⟩;have hj':(j:Int) < (m.2.2.2.2.1.length:Int):=Int.ofNat_lt.2 hj;have hg:aK m.2.2.2.2.1 (j:Int)=some (mD m)[j]:=cj hj;simp only [fA,hj',if_true,hg,bs,Nv h1 hk hr.1 hr.2];grind)
        (λn s _=>by
         unfold fA;simp_all) (n:=k) (s0:=()) (by omega) trivial
       rw [show fA k m k 0=_ from key,oJ];by_cases h7:ku (oM (mC m)) (mD m)=0
       .rw [if_pos h7,jA,show(if¬(ku (oM (mC m)) (mD m)=0) then ku (oM (mC m)) (mD m) else if 8 < (mG m).length then 6 else ku (tH m) (mG m))=(if 8 < (mG m).length then 6 else ku (tH m) (mG m)) from if_neg (λhn=>hn h7)];by_cases h8:8 < (mG m).length
        .grind
        .rw [if_neg (show¬((8:Int) < (m.2.2.2.2.2.length:Int)) by grind),if_neg h8]
         have key:=iW (f:=fy k m) (mG m) (λ(_:Unit) j=>j) (λ_ _ x=>if¬(tH m x=0) then Except.error (tH m x) else .ok ()) (λ_ _=>True) (λr=>some r)
          (λn s j hj _=>by
           have hck:ck ((j:Int)+1)=some ((j:Int)+1):=cE (by omega) (by omega);refine⟨?_,λ_ _=>trivial⟩;have hj':(j:Int) < (m.2.2.2.2.2.length:Int):=Int.ofNat_lt.2 hj;have hg:aK m.2.2.2.2.2 (j:Int)=some (mG m)[j]:=cj hj;simp only [fy,hj',if_true,hg,bs,I7 h1];grind)
          (λn s _=>by
           simp_all [fy,if_neg,Int.lt_irrefl]) (n:=k) (s0:=()) (by omega) trivial
         rw [show fy k m k 0=_ from key,oJ];by_cases h9:ku (tH m) (mG m)=0
         .rw [if_pos h9,jA,h9]
         .rw [if_neg h9,lm]
       .rw [if_neg h7,lm,if_pos h7]
    grind
   grind
  grind
 grind
end Go.Proofs.YtcpbmhgakdeceaaGreat
set_option linter.unusedVariables false
set_option linter.unusedSimpArgs false
namespace Go.Proofs.YtcpbmhgakdeceaaGreat
open K Go Go.Proofs
theorem wL{r:List (List Int)}{l:List Int}(h:r.flatten.Nodup)(hl:l∈r):l.Nodup:=by
 grind
theorem MQ{σ:Type}{bad:σ->Int->Option Int}{add:σ->Int->σ}{x:Int}{l:List Int}{s:σ}{e:Int}(h:bad s x=some e):wk bad add (x::l) s= .error e:=by rw [wk,h]
theorem MN{σ:Type}{bad:σ->Int->Option Int}{add:σ->Int->σ}{x:Int}{l:List Int}{s:σ}(h:bad s x=none):wk bad add (x::l) s=wk bad add l (add s x):=by rw [wk,h]
theorem Vd.of{m:ab}(h:lj m=0):Vd m:=by
 unfold lj at h;by_cases h1:(1≤mC m/\mC m≤5)/\(0≤mW m/\mW m≤3)/\(0≤mS m/\mS m≤3)/\1≤mH m/\mH m≤3
 .rw [if_neg (λhn=>hn h1)] at h;by_cases h2:(mD m).length=0
  .omega
  .rw [if_neg h2] at h;by_cases h3:6 < (mD m).length
   .omega
   .rw [if_neg h3] at h;by_cases h4:ku (oM (mC m)) (mD m)=0
    .rw [if_neg (λhn=>hn h4)] at h;by_cases h5:8 < (mG m).length
     .omega
     .rw [if_neg h5] at h;have hd:=λr hr=>yZ.1 (qZ.1 h4 r hr);have hx:∀r∈mD m,∀l∈r,∀x∈l,0≤x/\x < mC m:=λr hr l hl x hx=>(hd r hr).2.2 x (List.mem_flatten.2 ⟨l,hl,hx⟩)
      exact⟨h1.1.1,h1.1.2,h1.2.1.1,h1.2.1.2,h1.2.2.1.1,h1.2.2.1.2,h1.2.2.2.1,h1.2.2.2.2,by omega,by omega,λr hr=>(hd r hr).1,λr hr l hl=>by
       have hn:l.Nodup:=wL (hd r hr).2.1 hl;have:=rX (mC m).toNat l hn λx hxx=>by grind
       omega,hx,λr hr=>(hd r hr).2.1,by omega,λg hg=>by
        grind [qZ,tH]⟩
    omega
 omega
theorem Vd.chk{m:ab}(v:Vd m):lj m=0:=by
 unfold lj;have h1:(1≤mC m/\mC m≤5)/\(0≤mW m/\mW m≤3)/\(0≤mS m/\mS m≤3)/\1≤mH m/\mH m≤3:=⟨⟨v.c1,v.c5⟩,⟨v.w0,v.w3⟩,⟨v.s0,v.s3⟩,v.h1,v.h3⟩
 have h4:ku (oM (mC m)) (mD m)=0:=qZ.2 λr hr=>yZ.2 ⟨v.r3 r hr,v.nd r hr,λx hx=>by
  obtain⟨l,hl,hx⟩:=List.mem_flatten.1 hx;exact v.x5 r hr l hl x hx⟩
 have h9:ku (tH m) (mG m)=0:=qZ.2 λg hg=>by
  have:=v.gl g hg;unfold tH;omega
 have d1:=v.d1;have d6:=v.d6;have g8:=v.g8;omega
theorem Vd.sm{m:ab}(v:Vd m):Sm m:=⟨by have:=v.d6;omega,λr hr=>⟨by have:=v.r3 r hr;omega,λl hl=>by have:=v.l5 r hr l hl;omega⟩,by have:=v.g8;omega⟩
def xG(C:Int)(p:Option Int)(x:Int):Option Int:=if¬(0≤x/\x < C) then some 3 else if p.any (λy=>decide (x≤y)) then some 5 else none
def O6(C:Int)(p:Option Int×Int)(x:Int):Option Int:=xG C p.1 x
def TG(p:Option Int×Int)(x:Int):Option Int×Int:=(some x,uN p.2 x)
def Pm(p:Option Int)(x:Int):Option Int:=some x
def yj(C:Int)(b:List Int):Int:=match wk (xG C) Pm b none with | .error e=>e | .ok _=>0
def i7(b:List Int):Int:=b.foldl uN 0
theorem Qo{C:Int}{p:Option Int}{x:Int}(h:xG C p x=none):(0≤x/\x < C)/\p.any (λy=>decide (x≤y))=false:=by
 unfold xG at h;grind
theorem Gm{C:Int}:∀(b:List Int) (p:Option Int) (s:Int),(∃e,wk (O6 C) TG b (p,s)= .error e/\wk (xG C) Pm b p= .error e)\/∃q,wk (O6 C) TG b (p,s)= .ok (q,b.foldl uN s)/\wk (xG C) Pm b p= .ok q
 |[],p,s=>.inr ⟨p,rfl,rfl⟩
 |x::b,p,s=>by
  cases e:xG C p x with
  |some c=>exact .inl ⟨c,MQ e,MQ e⟩
  |none=>
   rw [MN (bad:=O6 C) (s:=(p,s)) (x:=x) e,MN e]
   exact Gm (C:=C) b (some x) (uN s x)
theorem Cb{k:Nat}{m:ab}(hC:1≤mC m/\mC m≤5){b:List Int}(hk:b.length < k)(hb:b.length≤1000):
 fE k m b k (0,0)=some (if yj (mC m) b=0 then .ok (i7 b) else .error (none,0,yj (mC m) b)):=by
 have key:=iW (T:=Int×Int) (f:=fE k m b) b (λ(s:Option Int×Int) j=>(s.2,j)) (λs _ x=>match O6 (mC m) s x with |some e=>Except.error e |none=>.ok (TG s x)) (λj s=>jL s.2/\s.1=if j=0 then none else b[j-1]?) (λr=>some (match r with | .error e=>Except.error (none,0,e) | .ok s=>.ok s.2))
  (λn s j hj hs=>by
   have hck:ck ((j:Int)+1)=some ((j:Int)+1):=cE (by omega) (by omega);have hc:ck (m.1 - 1)=some (m.1 - 1):=Vr hC;refine⟨?_,λs' e=>?_⟩
   .simp only [fE,Int.ofNat_lt,hj,if_true,cj hj,bs,hc,l6];generalize b[j]=x;rw [show O6 (mC m) s x=xG (mC m) s.1 x from rfl];by_cases h:0≤x/\x < mC m
    .have h':0≤x/\x≤m.1 - 1:=⟨h.1,by grind⟩;have eb:xG (mC m) s.1 x=if s.1.any (λy=>decide (x≤y)) then some 5 else none:=by unfold xG;simp_all
     have ep:(if(0:Int) < (j:Int) then((ck ((j:Int) - 1)).bind λx12=>(aK b x12).bind λx13=>some (decide (x≤x13))) else some false)=some (s.1.any λy=>decide (x≤y)):=by
      rw [hs.2];by_cases h0:j=0
      .simp_all
      .have c1:ck ((j:Int) - 1)=some ((j - 1:Nat):Int):=by grind [cE]
       rw [if_pos (by omega),c1,bs,cj (by omega),bs,if_neg h0,List.getElem?_eq_getElem (by omega)];rfl
     rw [eb];simp only [h',and_self,decide_true,not_true_eq_false,if_false,bs];rw [ep,bs];cases s.1.any λy=>decide (x≤y) with
     |true=>simp_all
     |false=>
      simp only [Bool.false_eq_true,if_false,(lM (k:=k) hs.1 h.1 (by omega)).1,bs,hck];rfl
    .have h':¬(0≤x/\x≤m.1 - 1):=λhh=>h ⟨hh.1,by grind⟩;have eb:xG (mC m) s.1 x=some 3:=by unfold xG;simp_all
     simp_all
   .cases e2:O6 (mC m) s b[j] with
    |some c=>simp_all
    |none=>
     rw [e2] at e;cases e;have hx:=Qo e2;exact⟨(lM (k:=0) hs.1 hx.1.1 (by omega)).2.1,by show some b[j]=if j+1=0 then none else b[j+1 - 1]?;simp_all⟩)
  (λn s _=>by simp [fE]) (n:=k) (s0:=(none,0)) hk ⟨tB,rfl⟩
 rw [show fE k m b k (0,0)=_ from key]
 have e1:dM (λ(s:Option Int×Int) _ x=>match O6 (mC m) s x with |some e=>Except.error e |none=>.ok (TG s x)) 0 b (none,0)=wk (O6 (mC m)) TG b (none,0):=vF (bad:=O6 (mC m)) (add:=TG) b 0 (none,0)
 rw [e1]
 unfold yj
 have z:∀(l:List Int) (p:Option Int),wk (xG (mC m)) Pm l p≠.error 0:=by
  intro l
  induction l with
  |nil=>intro p h;cases h
  |cons x l ih=>
   intro p h;rw [wk] at h;cases hb:xG (mC m) p x with
   |some c=>
    grind [xG]
   |none=>grind
 rcases Gm (C:=mC m) b none 0 with⟨e,h1,h2⟩ |⟨q,h1,h2⟩
 .
  grind
 .
  rw [h1,h2];rfl
end Go.Proofs.YtcpbmhgakdeceaaGreat
set_option linter.unusedVariables false
set_option linter.unusedSimpArgs false
namespace Go.Proofs.YtcpbmhgakdeceaaGreat
open K Go Go.Proofs
theorem Bq{C:Int}(hC:C≤5):∀(b:List Int) (s:Int),jL s->(∀x∈b,0≤x/\x < C)->jL (b.foldl uN s)/\∀i:Nat,ew (b.foldl uN s) i↔ew s i\/(i:Int)∈b
 |[],s,hs,_=>⟨hs,λi=>by simp⟩
 |x::b,s,hs,hb=>by
  have hx:=hb x mem_cons_self
  have hw:=lM (k:=0) hs hx.1 (by omega)
  have:=Bq hC b (uN s x) hw.2.1 λy hy=>hb y (mem_cons_of_mem _ hy)
  grind
structure Bg(C:Int)(b:List Int):Prop where
 rng:∀x∈b,0≤x/\x < C
 asc:b.Pairwise (· < ·)
theorem DJ{C:Int}:∀{b:List Int} {p:Option Int},(∃q,wk (xG C) Pm b p= .ok q)↔(∀x∈b,0≤x/\x < C)/\b.Pairwise (· < ·)/\∀y,p=some y->∀x∈b.head?,y < x
 |[],p=>by simp [wk]
 |x::b,p=>by
  cases e:xG C p x with
  |some c=>
   rw [MQ e]
   constructor
   .
    simp_all
   .
    rintro⟨h1,h2,h3⟩
    exfalso
    unfold xG at e
    rw [if_neg (λhn=>hn (h1 x mem_cons_self))] at e
    cases p with
    |none=>cases e
    |some y=>
     have:=h3 y rfl x (by simp)
     grind
  |none=>
   have hx:=Qo e
   rw [MN e,DJ (b:=b) (p:=Pm p x)]
   constructor
   .
    rintro⟨h1,h2,h3⟩
    refine⟨λy hy=>?_,?_,λy hy z hz=>?_⟩
    .
     grind
    .
     rw [pairwise_cons]
     refine⟨λy hy=>?_,h2⟩
     cases b with
     |nil=>cases hy
     |cons z b=>
      have hz:=h3 x rfl z (by simp)
      grind [pairwise_cons]
    simp_all
   simp_all [pairwise_cons,mem_cons_of_mem,Pm,mem_of_mem_head?]
theorem Gn{C:Int}:∀{l:List Int} {p:Option Int},wk (xG C) Pm l p≠.error 0
 |[],p,h=>by cases h
 |x::l,p,h=>by
  cases hb:xG C p x with
  |some c=>
   rw [MQ hb] at h
   grind [xG]
  |none=>rw [MN hb] at h;exact Gn h
theorem ze{C:Int}{b:List Int}:yj C b=0↔Bg C b:=by
 unfold yj;constructor
 .intro h;cases e:wk (xG C) Pm b none with
  |error c=>simp_all [Gn]
  |ok q=>have:=DJ.1 ⟨q,e⟩;exact⟨this.1,this.2.1⟩
 .rintro⟨h1,h2⟩;obtain⟨q,e⟩:=(DJ (p:=none)).2 ⟨h1,h2,λy hy=>by cases hy⟩;rw [e]
theorem Bg.set{C:Int}(hC:C≤5){b:List Int}(h:Bg C b):jL (i7 b)/\∀c:Int,0≤c->vb (i7 b) c=decide (c∈b):=by
 have:=Bq hC b 0 tB h.rng;refine⟨this.1,λc hc=>?_⟩;unfold vb;have e:((c.toNat:Nat):Int)=c:=by omega
 have h2:=this.2 c.toNat;rw [e] at h2;refine decide_eq_decide.2 ?_;show ew (b.foldl uN 0) c.toNat↔_;simp_all [ew]
def yi(m:ab)(i:Nat):Int:=match i with |0=>mC m - 1 |1=>((mD m).length:Int) - 1 |_=>(mD m).length
def CL(n:Int)(l:List Int):Bool:=l.all λx=>decide (0≤x/\x≤n)
theorem rY{k:Nat}{m:ab}(v:Vd m){i:Nat}(hi:i < 3){l:List Int}(hk:l.length < k)(hl:l.length≤1000):
 dV k m (i:Int) l k 0=some (if CL (yi m i) l then .ok () else .error (none,0,3)):=by
 have c1:=v.c1
 have c5:=v.c5
 have d6:=v.d6
 have d1:=v.d1
 have key:=iW (T:=Int) (f:=dV k m (i:Int) l) l (λ(_:Unit) j=>j) (λ_ _ x=>if 0≤x/\x≤yi m i then .ok () else Except.error ((none,0,3):Option ab×Int×Int)) (λ_ _=>True) (λr=>some r)
  (λn s j hj _=>by
   have hck:ck ((j:Int)+1)=some ((j:Int)+1):=cE (by omega) (by omega);have hc:ck (m.1 - 1)=some (mC m - 1):=Vr ⟨c1,c5⟩;have hd:ck ((m.2.2.2.2.1.length:Int) - 1)=some (((mD m).length:Int) - 1):=cE (by omega) (by grind)
   have hg:aK [mC m - 1,((mD m).length:Int) - 1,((mD m).length:Int)] (i:Int)=some (yi m i):=by
    have:i=0\/i=1\/i=2:=by omega
    rcases this with rfl |rfl |rfl <;> rfl
   refine⟨?_,λ_ _=>trivial⟩;simp only [dV,Int.ofNat_lt,hj,if_true,cj hj,bs,hc,hd];rw [show aK [mC m - 1,((mD m).length:Int) - 1,(m.2.2.2.2.1.length:Int)] (i:Int)=some (yi m i) from hg,bs,l6,bs];grind)
  (λn s _=>by simp [dV]) (n:=k) (s0:=()) hk trivial
 rw [show dV k m (i:Int) l k 0=_ from key]
 congr 1
 have:∀(l:List Int) (j:Nat),dM (λ(_:Unit) _ x=>if 0≤x/\x≤yi m i then .ok () else Except.error ((none,0,3):Option ab×Int×Int)) j l ()=if CL (yi m i) l then .ok () else .error (none,0,3):=by
  intro l
  induction l with
  |nil=>intro j;rfl
  |cons x l ih=>
   intro j;rw [dM];by_cases h:0≤x/\x≤yi m i
   .simp_all [if_pos,CL,yi,all_cons,and_self,decide_true,Bool.true_and]
   .rw [if_neg h];have:CL (yi m i) (x::l)=false:=by simp only [CL,all_cons,h,decide_false,Bool.false_and]
    simp_all
 simp_all
theorem Bc{k:Nat}{m:ab}(v:Vd m)(hk:10≤k):∀n:Nat,n≤32->yn k m n=some ()
 |0,_=>rfl
 |n+1,h=>by
  have e:IntKind.u8.wrap (n:Int)=(n:Int):=vE (by omega)
  unfold yn
  rw [Bc v hk n (by omega),bs,e,za v hk ⟨by omega,by omega⟩,bs]
theorem MV{k:Nat}{m:ab}(v:Vd m)(hk:10≤k):eW k m=some ():=by
 have c1:=v.c1;have c5:=v.c5;unfold eW
 have hc:m.1=1\/m.1=2\/m.1=3\/m.1=4\/m.1=5:=by
  grind
 have e:0≤qA .i64 1 m.1/\qA .i64 1 m.1≤32:=by
  rcases hc with h |h |h |h |h <;> rw [h] <;> decide
 rw [if_pos ⟨by omega,by omega⟩];simp_all [Bc]
def VQ(m:ab)(cs ds ns:List Int):Bool:=CL (yi m 0) cs && CL (yi m 1) ds && CL (yi m 2) ns
theorem B0{k:Nat}{m:ab}{b cs ds ns:List Int}(hs:Sm m)(hk:1010≤k)(hb:b.length≤1000)(h1:cs.length≤1000)(h2:ds.length≤1000)(h3:ns.length≤1000):
 je k m b cs ds ns=some (if¬(lj m=0) then(none,0,lj m) else if¬(yj (mC m) b=0) then(none,0,yj (mC m) b) else if VQ m cs ds ns then(some m,i7 b,0) else(none,0,3)):=by
 unfold je
 rw [N6 hs (by omega),bs]
 by_cases hc:lj m=0
 .
  have v:=Vd.of hc;rw [if_neg (λhn=>hn hc),if_neg (λhn=>hn hc),Cb ⟨v.c1,v.c5⟩ (by omega) hb];by_cases hg:yj (mC m) b=0
  .rw [if_pos hg,jA,if_neg (λhn=>hn hg)];obtain⟨n,rfl⟩:∃n,k=n+4:=⟨k - 4,by omega⟩;have e0:=rY v (k:=n+4) (i:=0) (by omega) (l:=cs) (by omega) h1;have e1:=rY v (k:=n+4) (i:=1) (by omega) (l:=ds) (by omega) h2;have e2:=rY v (k:=n+4) (i:=2) (by omega) (l:=ns) (by omega) h3;have g0:aK [cs,ds,ns] (0:Int)=some cs:=rfl;have g1:aK [cs,ds,ns] (1:Int)=some ds:=rfl;have g2:aK [cs,ds,ns] (2:Int)=some ns:=rfl;have k0:ck ((0:Int)+1)=some 1:=rfl;have k1:ck ((1:Int)+1)=some 2:=rfl;have k2:ck ((2:Int)+1)=some 3:=rfl;have ln:(([cs,ds,ns]:List (List Int)).length:Int)=3:=rfl
   have s0:c7 (n+4) m cs ds ns (n+4) 0=if CL (yi m 0) cs then c7 (n+4) m cs ds ns (n+3) 1 else some (.error (none,0,3)):=by
    rw [c7,ln,if_pos (by decide),g0,bs,show dV (n+4) m 0 cs (n+4) 0=_ from e0];cases CL (yi m 0) cs with
    |true=>simp_all [if_true,jA,bs]
    |false=>simp_all [Bool.false_eq_true,if_false,lm]
   have s1:c7 (n+4) m cs ds ns (n+3) 1=if CL (yi m 1) ds then c7 (n+4) m cs ds ns (n+2) 2 else some (.error (none,0,3)):=by
    rw [c7,ln,if_pos (by decide),g1,bs,show dV (n+4) m 1 ds (n+4) 0=_ from e1];cases CL (yi m 1) ds with
    |true=>simp_all [if_true,jA,bs]
    |false=>simp_all [Bool.false_eq_true,if_false,lm]
   have s2:c7 (n+4) m cs ds ns (n+2) 2=if CL (yi m 2) ns then c7 (n+4) m cs ds ns (n+1) 3 else some (.error (none,0,3)):=by
    rw [c7,ln,if_pos (by decide),g2,bs,show dV (n+4) m 2 ns (n+4) 0=_ from e2];cases CL (yi m 2) ns with
    |true=>simp_all [if_true,jA,bs]
    |false=>simp_all [Bool.false_eq_true,if_false,lm]
   have s3:c7 (n+4) m cs ds ns (n+1) 3=some (.ok ()):=by
    rw [c7,ln,if_neg (by decide)]
   rw [s0,s1,s2,s3];unfold VQ
   have fin:((gK (n+4) m).bind λr32=>fS r32 none (λq33=>(eW (n+4) q33).bind λr35=>some (some q33,i7 b,(0:Int))))=some (some m,i7 b,0):=by
    grind [gK,bs,vQ,MV]
   cases CL (yi m 0) cs with
   |false=>simp_all [Bool.false_eq_true,if_false,Bool.false_and,lm]
   |true=>
    cases CL (yi m 1) ds with
    |false=>simp_all [if_true,Bool.false_eq_true,if_false,Bool.true_and,Bool.false_and,lm]
    |true=>
     cases CL (yi m 2) ns with
     |false=>simp_all [if_true,Bool.false_eq_true,if_false,Bool.true_and,Bool.and_false,lm]
     |true=>simp_all [if_true,Bool.true_and,jA]
  .rw [if_neg hg,lm,if_pos hg]
 simp_all
end Go.Proofs.YtcpbmhgakdeceaaGreat
set_option linter.unusedVariables false
set_option linter.unusedSimpArgs false
namespace Go.Proofs.YtcpbmhgakdeceaaGreat
open K Go Go.Proofs
def pZ(m:ab)(B:Int->Bool)(n:Nat):List Int:=(List.range (mC m).toNat).map λ(c:Nat)=>na m B n (c:Int)
def vd(m:ab)(B:Int->Bool):List (List Int):=(List.range ((mD m).length+1)).map (pZ m B)
theorem s9{m:ab}{B:Int->Bool}{n:Nat}{c:Int}(h0:0≤c)(h1:c < mC m):aK (pZ m B n) c=some (na m B n c):=by
 unfold pZ;rw [aK,if_pos h0,List.getElem?_map,List.getElem?_range (by omega)];grind
theorem HL{m:ab}{B:Int->Bool}{n:Nat}(h:n≤(mD m).length):aK (vd m B) (n:Int)=some (pZ m B n):=by
 unfold vd;rw [aK,if_pos (by omega),List.getElem?_map,Int.toNat_natCast,List.getElem?_range (by omega)];rfl
end Go.Proofs.YtcpbmhgakdeceaaGreat
set_option linter.unusedVariables false
set_option linter.unusedSimpArgs false
namespace Go.Proofs.YtcpbmhgakdeceaaGreat
open K Go Go.Proofs
theorem Lo.mono{l:bH}{m n:Int}(h:Lo l m)(hn:m≤n):Lo l n:=⟨h.1,Int.le_trans h.2 hn⟩
theorem We{α:Type}{l:List α}{x:α}{n:Nat}(h:l.length≤n)(hn:n≤1000000):aZ (length l+length [x]):=by
 show length l+length [x]≤4294967296;grind
theorem EB{k:Nat}(hk:50≤k){l:bH}{m:Int}{n:Nat}(hl:Lo l m)(hm:0≤m/\m≤1000)(hn:n≤8):W (iM k l (n:Int)) λr=>Lo r.2 (m+10)/\r.1.length=n/\(∀x∈r.1,0≤x/\x < (n:Int))/\r.1.Nodup:=by
 unfold iM;refine W.bind (R:=λr=>Lo (r.2.1,r.2.2.1,r.2.2.2) (m+10)/\r.1.length=n/\(∀x∈r.1,0≤x/\x < (n:Int))/\r.1.Nodup) ?_ λr h=>W.ret h
 refine W.loop (f:=eF k (n:Int)) (λq y=>∃j:Nat,y.2.2.2.2=(j:Int)/\j≤n/\q=n - j/\Lo (y.1,y.2.1,y.2.2.1) (m+j)/\y.2.2.2.1.length=j/\(∀x∈y.2.2.2.1,0≤x/\x < (j:Int))/\y.2.2.2.1.Nodup) ?_ n k _ (by omega)
  ⟨0,rfl,by omega,by omega,by simp_all,rfl,by simp,by simp⟩
 rintro aM q ⟨nums,d,s,o,y⟩ ⟨j,hj,hle,hq,hlo,hlen,hx,hnd⟩ ih;simp only at hj hlo hlen hx hnd;subst hj;unfold eF;dsimp only;refine W.ite (λhlt=>?_) (λhge=>W.ret ⟨hlo.mono (by omega),by grind,λx hx'=>by grind,hnd⟩);obtain⟨r5,e5,a5,b5,c5⟩:=lN (k:=k) (n:=(j:Int)) hlo (by omega) (by omega);have b5:=b5 (by omega);have ho:(o++[(j:Int)]).length=j+1:=by simp [hlen]
 have hr5:r5.1.toNat < (o++[(j:Int)]).length:=by omega
 have hjl:j < (o++[(j:Int)]).length:=by omega
 have hgj:(o++[(j:Int)])[j]=(j:Int):=by
  grind
 rw [e5,bs,cV (We (n:=8) (by omega) (by omega)),bs,Ag a5 hr5,bs,cj (by omega),bs];have hgs:aK (List.set (o++[(j:Int)]) (Int.toNat (j:Int)) (o++[(j:Int)])[r5.1.toNat]) r5.1=some ((List.set (o++[(j:Int)]) (Int.toNat (j:Int)) (o++[(j:Int)])[r5.1.toNat])[r5.1.toNat]'(by grind)):=Ag a5 (by grind);rw [hgs,bs,cE (by omega) (by omega),bs]
 have hp:(List.set (List.set (o++[(j:Int)]) (Int.toNat (j:Int)) (o++[(j:Int)])[r5.1.toNat]) (Int.toNat r5.1) (j:Int)).Perm (o++[(j:Int)]):=by
  have:= @set_set_perm Int (o++[(j:Int)]) j r5.1.toNat hjl hr5;rw [hgj] at this;exact this
 refine ih (q - 1) (_,_,_,_,(j:Int)+1) (by omega) ⟨j+1,by grind,by omega,by omega,c5.mono (by omega),by simp [hlen],λx hx'=>?_,hp.nodup_iff.2 ?_⟩
 .grind
 grind
theorem KL{out:List (List Int)}{i:Nat}{x:Int}(h:i < out.length):(out.set i (out[i]++[x])).flatten.Perm (out.flatten++[x]):=by
 have e1:out=out.take i++out[i]::out.drop (i+1):=by simp_all
 grind
structure Rl(C:Int)(r:List (List Int)):Prop where
 r3:r.length≤3
 x5:∀l∈r,∀x∈l,0≤x/\x < C
 nd:r.flatten.Nodup
theorem Rl.l5{C:Int}(hC:0≤C/\C≤5){r:List (List Int)}(h:Rl C r):∀l∈r,l.length≤5:=λl hl=>by
 have:=rX C.toNat l (wL h.nd hl) λx hx=>by have:=h.x5 l hl x hx;omega
 omega
theorem Jg{k:Nat}(hk:50≤k){l:bH}{m:Int}{n:Nat}(hl:Lo l m)(hm:0≤m/\m≤900)(hn:n≤5):
 W (kZ k l (n:Int)) λr=>Lo r.2 (m+30)/\Rl (n:Int) r.1:=by
 unfold kZ
 refine W.bind (FW (l:=(l.1,l.2.1,l.2.2)) hl (by omega) (by omega) (by omega) (by omega)) λr1 h1=>?_
 refine W.chk ⟨by omega,by show _≤_;omega⟩ ?_
 refine W.bind (EB hk (l:=(r1.2.1,r1.2.2.1,r1.2.2.2)) (m:=m+1) (n:=n) h1.2.2 (by omega) (by omega)) λr4 h4=>?_
 obtain⟨lo4,len4,rng4,nd4⟩:=h4
 refine W.bind (R:=λx=>Lo (x.1,x.2.1,x.2.2.1) (m+30)/\Rl (n:Int) x.2.2.2) ?_ λx hx=>W.ret hx
 refine W.loop (f:=f6 k r4) (λq y=>∃j:Nat,y.2.2.2.1=(j:Int)/\j≤n/\q=n - j/\Lo (y.1,y.2.1,y.2.2.1) (m+11+2 * j)/\y.2.2.2.2.length=r1.1.toNat/\(∀x∈y.2.2.2.2.flatten,x∈r4.1.take j)/\y.2.2.2.2.flatten.Nodup) ?_ n k _ (by omega)
  ⟨0,rfl,by omega,by omega,lo4.mono (by omega),by simp,by simp,by simp⟩
 rintro aM q ⟨nums,d,s,y,out⟩ ⟨j,hj,hle,hq,hlo,hlen,hx,hnd⟩ ih
 simp only at hj hlo hlen hx hnd
 subst hj
 unfold f6
 dsimp only
 refine W.ite (λhlt=>?_) (λhge=>W.ret ⟨hlo.mono (by omega),by grind,λl hl x hxx=>rng4 x (mem_of_mem_take (hx x (List.mem_flatten.2 ⟨l,hl,hxx⟩))),hnd⟩)
 have hj:j < r4.1.length:=by omega
 have hsub:∀x∈r4.1.take j,x∈r4.1.take (j+1):=λx hh=>by grind
 refine W.bind (R:=λx=>Lo (x.1,x.2.1,x.2.2.1) (m+11+2 * j+2)/\x.2.2.2.length=r1.1.toNat/\(∀z∈x.2.2.2.flatten,z∈r4.1.take (j+1))/\x.2.2.2.flatten.Nodup) ?_ λx9 h9=>?_
 .
  refine W.bind (zL (l:=(nums,d,s)) hlo (by omega) (by omega) (by omega)) λr11 h11=>?_;refine W.ite (λ_=>W.ret ⟨h11.mono (by omega),hlen,λz hz=>hsub z (hx z hz),hnd⟩) (λ_=>?_);refine W.ck (by omega) (by omega) ?_;refine W.bind (lN (l:=(r11.2.1,r11.2.2.1,r11.2.2.2)) h11 (by omega) (by omega)) λr13 h13=>?_;have b13:=h13.2.1 (by omega);have hi:r13.1.toNat < out.length:=by omega
  rw [Ag h13.1 hi,bs,cj hj,bs]
  have hxj:r4.1[j]∉out.flatten:=λhin=>by
   grind [List.getElem_of_mem,length_take,getElem_inj]
  have hlen2:(out[r13.1.toNat]).length≤5:=by
   have:=rX n _ (wL hnd (List.getElem_mem hi)) λx hxx=>rng4 x (mem_of_mem_take (hx x (List.mem_flatten.2 ⟨_,List.getElem_mem hi,hxx⟩)));omega
  rw [cV (by grind [aZ]),bs];have hp:=KL (x:=r4.1[j]) hi;refine W.ret ⟨h13.2.2.mono (by omega),by grind,λz hz=>?_,hp.nodup_iff.2 ?_⟩
  .grind [List.mem_singleton,take_add_one,List.getElem?_eq_getElem,List.mem_append_right]
  grind
 .
  refine W.ck (by omega) (by omega) ?_;exact ih (q - 1) (_,_,_,(j:Int)+1,_) (by omega) ⟨j+1,by grind,by omega,by omega,h9.1.mono (by omega),h9.2⟩
end Go.Proofs.YtcpbmhgakdeceaaGreat
set_option linter.unusedVariables false
set_option linter.unusedSimpArgs false
namespace Go.Proofs.YtcpbmhgakdeceaaGreat
open K Go Go.Proofs
theorem PD{c w s h:Int}{ds:List (List (List Int))}(hc:1≤c/\c≤5)(hw:0≤w/\w≤3)(hs:0≤s/\s≤3)(hh:1≤h/\h≤3)(d1:1≤ds.length)(d6:ds.length≤6)(hr:∀r∈ds,Rl c r):Vd (c,w,s,h,ds,[]):=
 ⟨hc.1,hc.2,hw.1,hw.2,hs.1,hs.2,hh.1,hh.2,d1,d6,λr h=>(hr r h).r3,λr h=>(hr r h).l5 ⟨by omega,hc.2⟩,λr h=>(hr r h).x5,λr h=>(hr r h).nd,by simp [mG],λg hg=>by cases hg⟩
theorem EP{k:Nat}{l:List Int}(h:l.length≤1000000):j7 k l=some l:=by
 grind [j7,cV,XJ,length_nil,bs]
theorem vf{k:Nat}{l:List (List Int)}(hk:l.length < k)(h1:l.length≤1000000)(h2:∀x∈l,x.length≤1000000):il k l=some l:=by
 unfold il
 have key:=gZ (T:=List (List Int)×Int) (f:=eg k l) l (λ(s:List (List Int)) j=>(s,j)) (λs j x=>s++[x]) (λj s=>s=l.take j) (λs=>some s)
  (λn s j hj hs=>by
   have hck:ck ((j:Int)+1)=some ((j:Int)+1):=cE (by omega) (by omega);have hl:s.length=j:=by grind
   have hok:bO (aZ (length s+length [l[j]]))=some ():=cV (by grind [aZ]);refine⟨?_,?_⟩
   .simp_all [eg,Int.ofNat_lt,if_true,cj,bs,EP,List.getElem_mem]
   simp_all)
  (λn s hs=>by
   unfold eg;simp_all) (n:=k) (s0:=[]) hk (by simp)
 simp_all
theorem Ez{k:Nat}(hk:50≤k){l:bH}{m:Int}{cs ds:Int}(hl:Lo l m)(hm:0≤m/\m≤400)(hc:1≤cs/\cs≤5)(hd:1≤ds/\ds≤6):
 W (k9 k l cs ds) λr=>Lo r.2 (m+250)/\Vd r.1/\mG r.1=[]/\mC r.1≤cs/\((mD r.1).length:Int)≤ds:=by
 unfold k9
 refine W.bind (FW (l:=(l.1,l.2.1,l.2.2)) hl (by omega) (by omega) (by omega) (by omega)) λr2 h2=>?_
 refine W.bind (lN (l:=(r2.2.1,r2.2.2.1,r2.2.2.2)) h2.2.2 (by omega) (by omega)) λr3 h3=>?_
 have b3:=h3.2.1 (by omega)
 refine W.bind (Jt (l:=(r3.2.1,r3.2.2.1,r3.2.2.2)) h3.2.2 (by omega) (by simp) (by simp)) λr4 h4=>?_
 refine W.bind (lN (l:=(r4.2.1,r4.2.2.1,r4.2.2.2)) h4.2 (by omega) (by omega)) λr5 h5=>?_
 have b5:=h5.2.1 (by omega)
 refine W.bind (Jt (l:=(r5.2.1,r5.2.2.1,r5.2.2.2)) h5.2.2 (by omega) (by simp) (by simp)) λr6 h6=>?_
 refine W.bind (FW (l:=(r6.2.1,r6.2.2.1,r6.2.2.2)) h6.2 (by omega) (by omega) (by omega) (by omega)) λr7 h7=>?_
 refine W.bind (Jt (l:=(r7.2.1,r7.2.2.1,r7.2.2.2)) h7.2.2 (by omega) (by simp) (by simp)) λr8 h8=>?_
 have w4:0≤r4.1/\r4.1≤3:=by
  grind
 have w6:0≤r6.1/\r6.1≤3:=by
  grind
 have w8:1≤r8.1/\r8.1≤3:=by
  grind
 have lo8:=h8.2
 refine W.bind (R:=λx=>Lo (x.2.1,x.2.2.1,x.2.2.2) (m+250)/\(1≤x.1.length/\(x.1.length:Int)≤ds)/\∀r∈x.1,Rl r2.1 r) ?_ λx hx=>W.ret ⟨hx.1,PD (by omega) w4 w6 w8 (by omega) (by omega) hx.2.2,rfl,h2.2.1,hx.2.1.2⟩
 refine W.bind (FW (l:=(r8.2.1,r8.2.2.1,r8.2.2.2)) lo8 (by omega) (by omega) (by omega) (by omega)) λr12 h12=>?_
 refine W.loop (f:=f7 k r2) (λq y=>∃j:Nat,y.2.2.2.1.length=j/\y.2.2.2.2=r12.1 - j/\(j:Int)≤r12.1/\q=r12.1.toNat - j/\Lo (y.1,y.2.1,y.2.2.1) (m+10+33 * j)/\∀r∈y.2.2.2.1,Rl r2.1 r) ?_ r12.1.toNat k _ (by omega)
  ⟨0,rfl,by simp,by omega,by omega,h12.2.2.mono (by omega),by simp⟩
 rintro aM q ⟨nums,d,s,out,y⟩ ⟨j,hj,hy,hle,hq,hlo,hr⟩ ih
 simp only at hj hy hlo hr
 subst hy
 unfold f7
 dsimp only
 refine W.ite (λhlt=>?_) (λhge=>W.ret ⟨hlo.mono (by omega),⟨by grind,by grind⟩,hr⟩)
 refine W.bind (R:=λx=>Lo (x.1,x.2.1,x.2.2.1) (m+10+33 * j+33)/\x.2.2.2.length=j+1/\∀r∈x.2.2.2,Rl r2.1 r) ?_ λx15 h15=>?_
 .
  refine W.bind (R:=λx=>Lo (x.1,x.2.1,x.2.2.1) (m+10+33 * j+1)/\(x.2.2.2=true->0 < out.length)) ?_ λx17 h17=>?_
  .refine W.ite (λh0=>?_) (λh0=>W.ret ⟨hlo.mono (by omega),λh=>by cases h⟩);grind [W.bind,zL,W.ret]
  .refine W.ite (λht=>?_) (λht=>?_)
   .have h0:=h17.2 ht;refine W.ck (by omega) (by omega) ?_;have hi:((out.length:Int) - 1)=((out.length - 1:Nat):Int):=by omega
    have hlt':out.length - 1 < out.length:=by omega
    rw [hi,cj hlt',bs];have hrl:=hr _ (List.getElem_mem hlt');have hl5:=hrl.l5 (by omega);have hr3:=hrl.r3;rw [vf (by omega) (by omega) (λx hx=>by grind),bs,cV (by grind [aZ]),bs];refine W.ret ⟨h17.1.mono (by omega),by simp [hj],λr hrr=>?_⟩;grind
   .have hc2:((r2.1.toNat:Nat):Int)=r2.1:=by omega
    have:=Jg hk (l:=(x17.1,x17.2.1,x17.2.2.1)) (m:=m+10+33 * j+1) (n:=r2.1.toNat) h17.1 (by omega) (by omega);rw [hc2] at this;refine W.bind this λr26 h26=>?_;rw [cV (by grind [aZ]),bs];refine W.ret ⟨h26.1.mono (by omega),by simp [hj],λr hrr=>?_⟩;grind
 .
  refine W.ck (by omega) (by omega) ?_;exact ih (q - 1) (_,_,_,_,_) (by omega) ⟨j+1,h15.2.1,by grind,by omega,by omega,h15.1.mono (by omega),h15.2.2⟩
theorem Bg.len{C:Int}(hC:0≤C/\C≤5){b:List Int}(h:Bg C b):b.length≤5:=by
 have:=rX C.toNat b (h.asc.imp λhab e=>by omega) λx hx=>by have:=h.rng x hx;omega
 omega
theorem AB{α ε:Type}:∀(l:List α) (j:Nat),dM (λ(_:Unit) _ _=>(.ok ():Except ε Unit)) j l ()= .ok ()
 |[],_=>rfl
 |_::l,j=>AB l (j+1)
end Go.Proofs.YtcpbmhgakdeceaaGreat
set_option linter.unusedVariables false
set_option linter.unusedSimpArgs false
namespace Go.Proofs.YtcpbmhgakdeceaaGreat
open K Go Go.Proofs
theorem Eb{k:Nat}{c:Int}{l:List Int}(hk:l.length < k)(hl:l.length≤1000):
 eo k c l k 0=some (match tQ l c with |some s=>.error (s,true) |none=>.ok ()):=by
 have key:=iW (T:=Int) (f:=eo k c l) l (λ(_:Unit) j=>j) (λ_ j x=>if decide (c=x)=true then Except.error (((if 0 < j then [l[j-1]?.getD 0] else [])++(l[j+1]?).toList:List Int),true) else .ok ()) (λ_ _=>True) (λx=>some x)
  (λn s j hj _=>by
   refine⟨?_,λ_ _=>trivial⟩;have hck:ck ((j:Int)+1)=some ((j:Int)+1):=cE (by omega) (by omega);have c1:ck ((j:Int) - 1)=some ((j:Int) - 1):=cE (by omega) (by omega);simp only [eo,Int.ofNat_lt,hj,if_true,cj hj,bs,decide_eq_true_eq];by_cases e:l[j]=c
   .rw [if_neg (λhn=>hn e),if_pos e.symm]
    have e1:(if(0:Int) < (j:Int) then((ck ((j:Int) - 1)).bind λx17=>(aK l x17).bind λx18=>(bO (aZ (length ([]:List Int)+length [x18]))).bind λ_=>some (([]:List Int)++[x18])) else some ([]:List Int))=some (if 0 < j then [l[j-1]?.getD 0] else []):=by
     by_cases h0:0 < j
     .have g:aK l ((j:Int) - 1)=some (l[j-1]?.getD 0):=by
       grind [cj,List.getElem?_eq_getElem]
      simp_all [if_pos,bs,cV,aZ]
     simp_all
    rw [e1,bs];have hp:(if 0 < j then [l[j-1]?.getD 0] else []).length≤1:=by grind
    generalize (if 0 < j then [l[j-1]?.getD 0] else [])=p at *
    have e2:((ck ((j:Int)+1)).bind λx23=>if x23 < (l.length:Int) then((ck ((j:Int)+1)).bind λx24=>(aK l x24).bind λx25=>(bO (aZ (length p+length [x25]))).bind λ_=>some (p++[x25])) else some p)=some (p++(l[j+1]?).toList):=by
     rw [hck,bs];by_cases h1:j+1 < l.length
     .have g:aK l ((j:Int)+1)=some l[j+1]:=by
       have:((j:Int)+1)=((j+1:Nat):Int):=by omega
       rw [this,cj h1]
      rw [if_pos (by omega),bs,g,bs,List.getElem?_eq_getElem h1,cV (by grind [aZ]),bs];rfl
     grind
    rw [e2,bs]
   grind)
  (λn s _=>by simp [eo]) (n:=k) (s0:=()) hk trivial
 rw [show eo k c l k 0=_ from key]
 refine congrArg some ?_
 have:∀(m:List Int) (j:Nat),(∃p,l=p++m/\p.length=j)->dM (λ(_:Unit) j x=>if decide (c=x)=true then Except.error (((if 0 < j then [l[j-1]?.getD 0] else [])++(l[j+1]?).toList:List Int),true) else .ok ()) j m ()=match m.findIdx? λy=>decide (c=y) with |some i=>.error (((if 0 < i+j then [l[i+j-1]?.getD 0] else [])++(l[i+j+1]?).toList:List Int),true) |none=>.ok ():=by
  intro m
  induction m with
  |nil=>simp_all [dM]
  |cons x m ih=>
   rintro j ⟨p,hp,hl⟩;rw [dM,findIdx?_cons];by_cases h:decide (c=x)=true
   .simp [h]
   .simp only [h,if_false,Bool.false_eq_true];rw [ih (j+1) ⟨p++[x],by grind,by simp [hl]⟩];cases m.findIdx? λy=>decide (c=y) with
    |none=>rfl
    |some i=>
     grind
 rw [this l 0 ⟨[],rfl,rfl⟩]
 unfold tQ
 grind
theorem zK{k:Nat}{m:ab}{c:Int}{d:Nat}(v:Vd m)(hk:10≤k)(hd:d < (mD m).length):
 ky k m (d:Int) c=some (match Az m d c with |some s=>(s,true) |none=>([],false)):=by
 have hm:=List.getElem_mem hd
 have hr:=v.r3 _ hm
 have hl:=v.l5 _ hm
 have hbes:Az m d c=vB (mD m)[d] c:=by unfold Az;simp_all
 have hg:aK m.2.2.2.2.1 (d:Int)=some (mD m)[d]:=cj hd
 generalize (mD m)[d]=r at *
 unfold ky
 have key:=iW (T:=Int) (f:=eP k m (d:Int) c) r (λ(_:Unit) j=>j) (λ_ _ l=>match tQ l c with |some s=>Except.error (s,true) |none=>.ok ()) (λ_ _=>True) (λx=>some x)
  (λn s j hj _=>by
   refine⟨?_,λ_ _=>trivial⟩;have h5:=hl _ (List.getElem_mem hj);have hck:ck ((j:Int)+1)=some ((j:Int)+1):=cE (by omega) (by omega);simp only [eP,hg,bs,Int.ofNat_lt,hj,if_true,cj hj];grind [Eb,tQ,lm,jA,bs])
  (λn s _=>by simp [eP,hg,bs]) (n:=k) (s0:=()) (by omega) trivial
 rw [show eP k m (d:Int) c k 0=_ from key]
 have:∀(r:List (List Int)) (j:Nat),dM (λ(_:Unit) _ l=>match tQ l c with |some s=>Except.error (s,true) |none=>.ok ()) j r ()=match vB r c with |some s=>.error (s,true) |none=>.ok ():=by
  intro r
  induction r with
  |nil=>intro j;rfl
  |cons l r ih=>
   intro j;rw [dM];unfold vB;rw [findSome?_cons];cases tQ l c with
   |none=>exact ih (j+1)
   |some s=>rfl
 grind [vB,lm,jA]
theorem Jd{k:Nat}{m:ab}{c:Int}{d:Nat}(v:Vd m)(hk:10≤k)(hd:d < (mD m).length):qd k m (d:Int) c=some (nv m c d:Int):=by
 have d6:=v.d6;unfold qd
 have key:∀(d n:Nat) (x:Int),d < (mD m).length->d+1 < n->0≤x->x+d≤100->fx k m c n (x,(d:Int))=some (.error (x+nv m c d))\/fx k m c n (x,(d:Int))=some (.ok (x+nv m c d)):=by
  intro d
  induction d with
  |zero=>
   intro n x hd hn hx hx2
   obtain⟨n,rfl⟩:∃n',n=n'+2:=⟨n - 2,by omega⟩;have c1:ck (x+1)=some (x+1):=cE (by omega) (by omega);have c2:ck (((0:Nat):Int) - 1)=some (-1):=rfl;rw [fx];simp only [Int.natCast_nonneg,if_true,zK v hk hd,bs];unfold nv;cases e:Az m 0 c with
   |some s=>left;simp
   |none=>
    simp_all [Bool.false_eq_true,if_false,bs,Option.isSome_none,fx,if_neg]
  |succ d ih=>
   intro n x hd hn hx hx2
   obtain⟨n,rfl⟩:∃n',n=n'+1:=⟨n - 1,by omega⟩;have c1:ck (x+1)=some (x+1):=cE (by omega) (by omega);have c2:ck (((d+1:Nat):Int) - 1)=some (d:Int):=by grind [cE]
   rw [fx];simp only [Int.natCast_nonneg,if_true,zK v hk hd,bs];unfold nv;grind
 rcases key d k 0 hd (by omega) (by omega) (by omega) with h |h
 .rw [h,lm,Int.zero_add]
 .rw [h,jA,Int.zero_add]
theorem By{k:Nat}{m:ab}{B:Int->Bool}{n:Nat}(v:Vd m){r8:(List Int)×Bool}(hk:r8.1.length < k)(hl:r8.1.length≤1000)(hx:∀x∈r8.1,0≤x/\x < mC m):
 gh k m (pZ m B n) r8 k (-1,0)=some (if r8.1.any λx=>decide (mW m≤na m B n x) then 0 else -1):=by
 have key:=gZ (T:=Int×Int) (f:=gh k m (pZ m B n) r8) r8.1 (λ(s:Int) j=>(s,j)) (λs _ x=>if decide (mW m≤na m B n x)=true then 0 else s) (λj s=>s=if(r8.1.take j).any λx=>decide (mW m≤na m B n x) then 0 else -1) (λs=>some s)
  (λf s j hj hs=>by
   have h5:=hx _ (List.getElem_mem hj);have hck:ck ((j:Int)+1)=some ((j:Int)+1):=cE (by omega) (by omega);refine⟨?_,?_⟩
   .simp only [gh,Int.ofNat_lt,hj,if_true,cj hj,bs,s9 h5.1 h5.2,hck,decide_eq_true_eq];grind
   .rw [take_add_one,List.getElem?_eq_getElem hj,List.any_append,hs];grind)
  (λf s hs=>by
   unfold gh;simp_all) (n:=k) (s0:= -1) hk (by simp)
 simp_all
theorem I6{k:Nat}{m:ab}{B:Int->Bool}{d:Nat}(v:Vd m)(hk:10≤k)(hd:d < (mD m).length):qc k m (d:Int) (pZ m B d)=some (pZ m B (d+1)):=by
 have c1:=v.c1;have c5:=v.c5;have d6:=v.d6;unfold qc
 have key:=gZ (T:=List Int×Int) (f:=gi k m (d:Int) (pZ m B d)) (List.range (mC m).toNat) (λ(s:List Int) j=>(s,j)) (λs j _=>s++[na m B (d+1) (j:Int)]) (λj s=>s=(List.range j).map λ(c:Nat)=>na m B (d+1) (c:Int)) (λs=>some s)
  (λn s j hj hs=>by
   rw [length_range] at hj;have hck:ck ((j:Int)+1)=some ((j:Int)+1):=cE (by omega) (by omega);have j0:(0:Int)≤(j:Int):=by omega
   have j1:(j:Int) < mC m:=by omega
   have j2:(j:Int) < m.1:=j1;have hl:s.length=j:=by simp_all
   have hok:∀x:Int,bO (aZ (length s+length [x]))=some ():=λx=>cV (by grind [aZ]);have hge:=EU (B:=B) v.w0 (d:=d) (c:=(j:Int));have hle:=ET (B:=B) v.w3 (d:=d) (c:=(j:Int));refine⟨?_,?_⟩
   .have hm2:m.2.2.2.1=mH m:=rfl;simp only [gi,j2,if_true,zK v hk hd,bs,hm2]
    have hage:na m B (d+1) (j:Int)=match Az m d (j:Int) with
     |none=>if mH m≤(nv m (j:Int) d:Int) then -1 else na m B d (j:Int)
     |some l=>if 0≤na m B d (j:Int) then na m B d (j:Int)+1 else if l.any λx=>decide (mW m≤na m B d x) then 0 else -1:=rfl
    rw [hage];cases e:Az m d (j:Int) with
    |none=>
     simp only [Bool.false_eq_true,not_false_eq_true,if_true,Jd v hk hd,bs,s9 j0 j1,hok];grind
    |some l=>
     have hb:=xh v e;simp only [not_true_eq_false,if_false,bs,Bool.false_eq_true,s9 j0 j1,hok];by_cases h0:0≤na m B d (j:Int)
     .have c2:ck (na m B d (j:Int)+1)=some (na m B d (j:Int)+1):=cE (by omega) (by omega);simp_all
     .simp only [h0,if_false];rw [By v (r8:=(l,true)) (by grind) (by grind) hb.2,bs,bs,hck,bs]
   simp_all [List.range_succ,List.map_append])
  (λn s hs=>by
   rw [length_range];unfold gi;grind) (n:=k) (s0:=[]) (by grind) rfl
 simp_all [gi,pZ,bs,length_range]
theorem Jh{k:Nat}{m:ab}{b:List Int}(v:Vd m)(hk:10≤k)(hb:b.length < k)(hb2:b.length≤1000):qf k m b=some (vd m λc=>decide (c∈b)):=by
 have c1:=v.c1;have c5:=v.c5;have d6:=v.d6;unfold qf
 have key:=gZ (T:=List Int×Int) (f:=gp k m b) (List.range (mC m).toNat) (λ(s:List Int) j=>(s,j)) (λs j _=>s++[na m (λc=>decide (c∈b)) 0 (j:Int)]) (λj s=>s=(List.range j).map λ(c:Nat)=>na m (λc=>decide (c∈b)) 0 (c:Int)) (λs=>some s)
  (λn s j hj hs=>by
   rw [length_range] at hj;have hck:ck ((j:Int)+1)=some ((j:Int)+1):=cE (by omega) (by omega);have j2:(j:Int) < m.1:=by simp_all
   have hl:s.length=j:=by simp_all
   have hok:∀x:Int,bO (aZ (length s+length [x]))=some ():=λx=>cV (by grind [aZ]);refine⟨?_,?_⟩
   .simp only [gp,j2,if_true,zF (x:=(j:Int)) hb (by omega),bs,hok,hck];have hage:na m (λc=>decide (c∈b)) 0 (j:Int)=if decide ((j:Int)∈b) then mW m else -1:=rfl;grind
   simp_all [List.range_succ,List.map_append])
  (λn s hs=>by
   rw [length_range];unfold gp;grind) (n:=k) (s0:=[]) (by grind) rfl
 rw [show gp k m b k ([],0)=_ from key.1,bs,key.2,length_range]
 have key2:=gZ (T:=List (List Int)×Int) (f:=gk k m) (mD m) (λ(s:List (List Int)) j=>(s,j)) (λs j _=>s++[pZ m (λc=>decide (c∈b)) (j+1)]) (λj s=>s=(List.range (j+1)).map (pZ m λc=>decide (c∈b))) (λs=>some s)
  (λn s j hj hs=>by
   have hck:ck ((j:Int)+1)=some ((j:Int)+1):=cE (by omega) (by omega);have hl:s.length=j+1:=by simp_all
   have hok:∀x:List Int,bO (aZ (length s+length [x]))=some ():=λx=>cV (by grind [aZ]);have hj':(j:Int) < (m.2.2.2.2.1.length:Int):=Int.ofNat_lt.2 hj
   have hg:aK s (j:Int)=some (pZ m (λc=>decide (c∈b)) j):=by
    simp_all [aK,if_pos,List.getElem?_map,Int.toNat_natCast,List.getElem?_range]
   simp_all [gk,if_true,bs,I6,List.range_succ,List.map_append])
  (λn s hs=>by
   unfold gk;simp_all) (n:=k) (s0:=[pZ m (λc=>decide (c∈b)) 0]) (by omega) rfl
 have e0:((List.range (mC m).toNat).map λ(c:Nat)=>na m (λc=>decide (c∈b)) 0 (c:Int))=pZ m (λc=>decide (c∈b)) 0:=rfl;rw [e0,show gk k m k ([pZ m (λc=>decide (c∈b)) 0],0)=_ from key2.1,bs,key2.2];rfl
end Go.Proofs.YtcpbmhgakdeceaaGreat
set_option linter.unusedVariables false
set_option linter.unusedSimpArgs false
namespace Go.Proofs.YtcpbmhgakdeceaaGreat
open K Go Go.Proofs
theorem wo{k:Nat}{l:List (List Int)}(hk:l.length < k)(hl:l.length≤1000000)(hx:∀x∈l,x.length < k/\x.length≤1000000):fR k l l=some true:=by
 unfold fR;rw [if_neg (λhn=>hn rfl)]
 have key:=iW (T:=Int) (f:=dL k l l) l (λ(_:Unit) j=>j) (λ_ _ _=>(.ok ():Except Bool Unit)) (λ_ _=>True) (λr=>some r)
  (λn s j hj _=>by
   have hck:ck ((j:Int)+1)=some ((j:Int)+1):=cE (by omega) (by omega);have h5:=hx _ (List.getElem_mem hj);refine⟨?_,λ_ _=>trivial⟩;simp only [dL,Int.ofNat_lt,hj,if_true,cj hj,bs,uU h5.1 h5.2,decide_true,not_true_eq_false,if_false,hck])
  (λn s _=>by simp [dL]) (n:=k) (s0:=()) hk trivial
 simp_all [dL,AB,jA]
theorem pX{k:Nat}{m:ab}(hk:1010≤k)(hs:Sm m):ij k m m=some true:=by
 have hd:=hs.d;have hg:=hs.g;unfold ij;have e0:((if¬(m.1=m.1) then(some true) else(if¬(m.2.1=m.2.1) then(some true) else(if¬(m.2.2.1=m.2.2.1) then(some true) else(if¬(m.2.2.2.1=m.2.2.2.1) then(some true) else(if¬((m.2.2.2.2.1.length:Int)=(m.2.2.2.2.1.length:Int)) then(some true) else(some (!decide ((m.2.2.2.2.2.length:Int)=(m.2.2.2.2.2.length:Int))))))))):Option Bool)=some false:=by simp
 rw [e0,bs,if_neg (by decide)]
 have key:=iW (T:=Int) (f:=dK k m m) (mD m) (λ(_:Unit) j=>j) (λ_ _ _=>(.ok ():Except Bool Unit)) (λ_ _=>True) (λr=>some r)
  (λn s j hj _=>by
   have hck:ck ((j:Int)+1)=some ((j:Int)+1):=cE (by omega) (by omega);have hr:=hs.r _ (List.getElem_mem hj);have hj':(j:Int) < (m.2.2.2.2.1.length:Int):=Int.ofNat_lt.2 hj;have hg:aK m.2.2.2.2.1 (j:Int)=some (mD m)[j]:=cj hj;refine⟨?_,λ_ _=>trivial⟩;simp only [dK,hj',if_true,hg,bs,wo (k:=k) (l:=(mD m)[j]) (by omega) (by omega) (λx hx=>by grind),not_true_eq_false,if_false,hck])
  (λn s _=>by
   unfold dK;simp_all) (n:=k) (s0:=()) (by omega) trivial
 rw [show dK k m m k 0=_ from key,AB,jA]
 have key:=iW (T:=Int) (f:=dJ k m m) (mG m) (λ(_:Unit) j=>j) (λ_ _ _=>(.ok ():Except Bool Unit)) (λ_ _=>True) (λr=>some r)
  (λn s j hj _=>by
   have hck:ck ((j:Int)+1)=some ((j:Int)+1):=cE (by omega) (by omega);have hj':(j:Int) < (m.2.2.2.2.2.length:Int):=Int.ofNat_lt.2 hj;have hg:aK m.2.2.2.2.2 (j:Int)=some (mG m)[j]:=cj hj;simp_all [dJ,if_true,bs,not_true_eq_false,if_false])
  (λn s _=>by
   unfold dJ;simp_all) (n:=k) (s0:=()) (by omega) trivial
 simp_all [dJ,AB,jA]
theorem ve{k:Nat}{m:ab}(hk:1010≤k)(hs:Sm m):ik k m=some m:=by
 have hd:=hs.d;have hg:=hs.g;unfold ik;rw [cV (by show _≤_;grind),bs]
 have key:=gZ (T:=List (List (List Int))×Int) (f:=ee k m) (mD m) (λ(s:List (List (List Int))) j=>(s,j)) (λs j x=>s++[x]) (λj s=>s=(mD m).take j) (λs=>some s)
  (λn s j hj hs'=>by
   have hck:ck ((j:Int)+1)=some ((j:Int)+1):=cE (by omega) (by omega);have hl:s.length=j:=by grind
   have hok:bO (aZ (length s+length [(mD m)[j]]))=some ():=cV (by grind [aZ]);have hj':(j:Int) < (m.2.2.2.2.1.length:Int):=Int.ofNat_lt.2 hj;have hg:aK m.2.2.2.2.1 (j:Int)=some (mD m)[j]:=cj hj;have hr:=hs.r _ (List.getElem_mem hj);refine⟨?_,?_⟩
   .simp only [ee,hj',if_true,hg,bs,vf (k:=k) (l:=(mD m)[j]) (by omega) (by omega) (λx hx=>by grind),hok,hck]
   simp_all)
  (λn s hs=>by
   unfold ee;simp_all) (n:=k) (s0:=[]) (by omega) (by simp)
 simp_all
theorem qB{k:Nat}{l:bH}{m:Int}{x:Au}(hl:Lo l m)(hm:0≤m/\m≤900)(hc:1≤x.1/\x.1≤5)(hd:x.2.2.2.2.1.length≤6):
 W (jh k l x) λr=>Lo r.2 (m+3)/\(0≤r.1.1/\r.1.1 < x.1)/\0≤r.1.2.1/\r.1.2.1≤(x.2.2.2.2.1.length:Int):=by
 unfold jh
 grind [W.ck,W.bind,lN,zL,W.ret]
theorem Vd.with{m:ab}(v:Vd m){gs:List aC}(h8:gs.length≤8)(hg:∀g∈gs,0≤g.1/\g.1 < mC m/\0≤g.2.1/\g.2.1≤(mD m).length):Vd (m.1,m.2.1,m.2.2.1,m.2.2.2.1,m.2.2.2.2.1,gs):=
 ⟨v.c1,v.c5,v.w0,v.w3,v.s0,v.s3,v.h1,v.h3,v.d1,v.d6,v.r3,v.l5,v.x5,v.nd,h8,hg⟩
theorem Af{k:Nat}(hk:50≤k){l:bH}{m:Int}{cs ds:Int}(hl:Lo l m)(hm:0≤m/\m≤400)(hc:1≤cs/\cs≤5)(hd:1≤ds/\ds≤6):
 W (jg k l cs ds) λr=>Lo r.2 (m+270)/\Vd r.1/\(mG r.1).length≤4/\mC r.1≤cs/\((mD r.1).length:Int)≤ds:=by
 unfold jg
 refine W.bind (Ez hk (l:=(l.1,l.2.1,l.2.2)) hl hm hc hd) λr2 h2=>?_
 obtain⟨lo2,v,hg,hcs,hds⟩:=h2
 have c1:=v.c1
 have c5:=v.c5
 have d6:=v.d6
 refine W.bind (R:=λx=>Lo (x.2.1,x.2.2.1,x.2.2.2) (m+270)/\x.1.length≤4/\∀g∈x.1,0≤g.1/\g.1 < mC r2.1/\0≤g.2.1/\g.2.1≤(mD r2.1).length) ?_ λx hx=>W.ret ⟨hx.1,v.with (by omega) hx.2.2,hx.2.1,hcs,hds⟩
 refine W.bind (lN (l:=(r2.2.1,r2.2.2.1,r2.2.2.2)) lo2 (by omega) (by omega)) λr6 h6=>?_
 have b6:=h6.2.1 (by omega)
 refine W.loop (f:=eV k r2) (λq y=>∃j:Nat,y.2.2.2.1.length=j/\y.2.2.2.2=r6.1 - j/\(j:Int)≤r6.1/\q=r6.1.toNat - j/\Lo (y.1,y.2.1,y.2.2.1) (m+251+3 * j)/\∀g∈y.2.2.2.1,0≤g.1/\g.1 < mC r2.1/\0≤g.2.1/\g.2.1≤(mD r2.1).length) ?_ r6.1.toNat k _ (by omega)
  ⟨0,rfl,by simp,by omega,by omega,h6.2.2.mono (by omega),by simp⟩
 rintro aM q ⟨nums,d,s,out,y⟩ ⟨j,hj,hy,hle,hq,hlo,hr⟩ ih
 simp only at hj hy hlo hr
 subst hy
 unfold eV
 dsimp only
 refine W.ite (λhlt=>?_) (λhge=>W.ret ⟨hlo.mono (by omega),by grind,hr⟩)
 refine W.bind (qB (l:=(nums,d,s)) (x:=(r2.1.1,r2.1.2.1,r2.1.2.2.1,r2.1.2.2.2.1,r2.1.2.2.2.2.1,())) hlo (by omega) ⟨c1,c5⟩ d6) λr9 h9=>?_
 rw [cV (by grind [aZ]),bs]
 refine W.ck (by omega) (by omega) ?_
 refine ih (q - 1) (_,_,_,_,_) (by omega) ⟨j+1,by simp [hj],by grind,by omega,by omega,h9.1.mono (by omega),λg hgg=>?_⟩
 grind
theorem Sm.with{m:ab}(h:Sm m){gs:List aC}(hg:gs.length≤1000):Sm (m.1,m.2.1,m.2.2.1,m.2.2.2.1,m.2.2.2.2.1,gs):=⟨h.d,h.r,hg⟩
theorem D3{k:Nat}(hk:1010≤k){m:ab}(hs:Sm m){g:aC}{l:bH}(hl:Lo l 0):
 W (jF k m g l) λr=>Lo r.2 270/\∃a b,r.1=[m,a,b]/\Vd a/\Sm b/\mC a≤4/\((mD a).length:Int)≤4/\b=(a.1,a.2.1,a.2.2.1,a.2.2.2.1,a.2.2.2.2.1,mG a++[g]):=by
 unfold jF
 refine W.bind (Af (k:=k) (by omega) (l:=(l.1,l.2.1,l.2.2)) hl (by omega) (by omega) (by omega)) λr3 h3=>?_
 obtain⟨lo3,v,hg,hcs,hds⟩:=h3
 rw [ve hk v.sm,bs,cV (by grind [aZ]),bs]
 exact W.ret ⟨lo3,_,_,rfl,v,v.sm.with (by grind),hcs,hds,rfl⟩
theorem Oe{k:Nat}(hk:1010≤k){m:ab}:W (qx k m) λb=>b=false->Sm m:=by
 unfold qx
 have l2:∀(y:Nat) (hy:y < (mD m).length),(mD m)[y].length≤20->W (iJ k m (y:Int) k 0) λr=>match r with | .error e=>e=true | .ok _=>∀l∈(mD m)[y],l.length≤1000:=by
  intro y hy h20
  refine W.loop (f:=iJ k m (y:Int)) (λq z=>∃j:Nat,z=(j:Int)/\j≤(mD m)[y].length/\q=(mD m)[y].length - j/\∀i (h:i < (mD m)[y].length),i < j->(mD m)[y][i].length≤1000) ?_ (mD m)[y].length k 0 (by omega)
   ⟨0,rfl,by omega,by omega,λi h h'=>by omega⟩
  rintro aM q z ⟨j,rfl,hle,hq,hx⟩ ih;unfold iJ;have hg:aK m.2.2.2.2.1 (y:Int)=some (mD m)[y]:=cj hy;rw [hg,bs];refine W.ite (λhlt=>?_) (λhge=>W.ret λl hl=>?_)
  .have hj:j < (mD m)[y].length:=by omega
   rw [bs,cj hj,bs];refine W.ite (λh=>W.ret rfl) (λh=>W.ck (by omega) (by omega) (ih (q - 1) _ (by omega) ⟨j+1,by omega,by omega,by omega,λi hi hij=>?_⟩));grind
  grind [List.getElem_of_mem]
 have l1:W (iK k m k 0) λr=>match r with | .error e=>e=true | .ok _=>(mD m).length≤20->∀r∈mD m,r.length≤1000/\∀l∈r,l.length≤1000:=by
  refine W.loop (f:=iK k m) (λq z=>∃j:Nat,z=(j:Int)/\j≤20/\j≤(mD m).length/\q=20 - j/\∀i (h:i < (mD m).length),i < j->(mD m)[i].length≤1000/\∀l∈(mD m)[i],l.length≤1000) ?_ 20 k 0 (by omega)
   ⟨0,rfl,by omega,by omega,by omega,λi h h'=>by omega⟩
  rintro aM q z ⟨j,rfl,h20,hle,hq,hx⟩ ih;unfold iK
  have e0:((if(j:Int) < (m.2.2.2.2.1.length:Int) then(some (decide ((j:Int) < 20))) else(some false)):Option Bool)=some (decide (j < (mD m).length/\j < 20)):=by
   by_cases h1:j < (mD m).length
   .rw [if_pos (show(j:Int) < ((mD m).length:Int) by omega)];by_cases h2:j < 20
    .grind
    grind
   grind
  rw [e0,bs];refine W.ite (λhb=>?_) (λhb=>W.ret λh r hr=>?_)
  .have hb:=of_decide_eq_true hb;have hg:aK m.2.2.2.2.1 (j:Int)=some (mD m)[j]:=cj hb.1;rw [hg,bs];refine W.bEE (R:=λr=>match r with | .error e=>e=true | .ok _=>(mD m)[j].length≤20/\∀l∈(mD m)[j],l.length≤1000) (W.ite (λh=>W.ret rfl) (λh=>(l2 j hb.1 (by omega)).mono λr hr=>?_)) (λe he=>W.ret he) (λ_ ho=>?_)
   .grind
   .refine W.ck (by omega) (by omega) (ih (q - 1) _ (by omega) ⟨j+1,by omega,by omega,by omega,by omega,λi hi hij=>?_⟩);grind
  .have hb:¬(j < (mD m).length/\j < 20):=λhh=>hb (decide_eq_true hh);obtain⟨i,hi,rfl⟩:=List.getElem_of_mem hr;grind
 refine W.bEE l1 (λe he=>W.ret λh=>by simp_all) (λ_ ho=>?_);by_cases h1:20 < (mD m).length
 .rw [if_pos (show(20:Int) < ((mD m).length:Int) by omega),bs];simp_all [W.ret]
 .rw [if_neg (show¬(20:Int) < ((mD m).length:Int) by omega),bs];refine W.ret λh=>⟨by omega,ho (by omega),?_⟩;grind
end Go.Proofs.YtcpbmhgakdeceaaGreat
set_option linter.unusedVariables false
set_option linter.unusedSimpArgs false
namespace Go.Proofs.YtcpbmhgakdeceaaGreat
open K Go Go.Proofs
def eh(C:Nat):Nat->List Int->Nat->List (List Int)
 |0,b,_=>[b]
 |n+1,b,f=>b::(List.range' f (C - f)).flatMap λ(c:Nat)=>eh C n (b++[(c:Int)]) (c+1)
theorem wn{b:List Int}{c:Int}:i7 (b++[c])=uN (i7 b) c:=by
 unfold i7;simp_all
theorem CC{σ:Type}{k:Nat}{Y:σ->Int->Option (σ×Bool)}{C:Nat}(hC:C≤5)(hk:10≤k)(g:σ->List Int->σ)(sV:Nat->σ->Prop):
 ∀(n m0:Nat) (b:List Int) (f:Nat) (s:σ) (r:Nat),C - f≤n->f≤C->n < m0->jL (i7 b)->(∀r s,∀b'∈eh C n b f,sV (r+1) s->Y s (i7 b')=some (g s b',true)/\sV r (g s b'))->sV ((eh C n b f).length+r) s->
  dN k Y (C:Int) m0 (i7 b) (f:Int) s=some (true,(eh C n b f).foldl g s)/\sV r ((eh C n b f).foldl g s)
 |n,0,b,f,s,r,_,_,h,_,_,_=>absurd h (not_lt_zero _)
 |0,m0+1,b,f,s,r,h1,h2,_,hm,hY,hI=>by
  have hf:f=C:=by omega
  subst hf
  unfold dN
  obtain⟨k,rfl⟩:∃n,k=n+1:=⟨k - 1,by omega⟩
  have hI:sV (r+1) s:=by rw [Nat.add_comm];exact hI
  have:=hY r s b (by simp [eh]) hI
  rw [this.1,bs,if_neg (by simp)]
  rw [dI,if_neg (Int.lt_irrefl _),jA]
  exact⟨rfl,this.2⟩
 |n+1,m0+1,b,f,s,r,h1,h2,h3,hm,hY,hI=>by
  unfold dN
  have hlen:(eh C (n+1) b f).length=((List.range' f (C - f)).flatMap λ(c:Nat)=>eh C n (b++[(c:Int)]) (c+1)).length+1:=by rw [eh,length_cons]
  rw [hlen] at hI
  have h0:=hY (((List.range' f (C - f)).flatMap λ(c:Nat)=>eh C n (b++[(c:Int)]) (c+1)).length+r) s b (by simp [eh]) (by grind)
  rw [h0.1,bs,if_neg (by simp)]
  have loop:∀(d x:Nat) (s:σ) (aM:Nat) (r:Nat),C - x=d->f≤x->x≤C->d < aM->sV (((List.range' x (C - x)).flatMap λ(c:Nat)=>eh C n (b++[(c:Int)]) (c+1)).length+r) s->
   dI k (i7 b) (C:Int) (dN k Y (C:Int) m0) aM ((x:Int),s)=some (.ok (((List.range' x (C - x)).flatMap λ(c:Nat)=>eh C n (b++[(c:Int)]) (c+1)).foldl g s))/\sV r (((List.range' x (C - x)).flatMap λ(c:Nat)=>eh C n (b++[(c:Int)]) (c+1)).foldl g s):=by
   intro d
   induction d with
   |zero=>
    intro x s aM r hd hx hx2 hfu hI;obtain⟨aM,rfl⟩:∃n,aM=n+1:=⟨aM - 1,by omega⟩;have:x=C:=by omega
    simp_all [Nat.sub_self,dI,if_neg,Int.lt_irrefl]
   |succ d ih=>
    intro x s aM r hd hx hx2 hfu hI;obtain⟨aM,rfl⟩:∃n,aM=n+1:=⟨aM - 1,by omega⟩;have hw:=lM (k:=k) hm (show(0:Int)≤(x:Int) by omega) (show(x:Int) < 8 by omega);have hck:ck ((x:Int)+1)=some (((x+1:Nat):Int)):=by grind [cE]
    have e:C - x=(C - (x+1))+1:=by omega
    rw [e,List.range'_succ,List.flatMap_cons,length_append,Nat.add_assoc] at hI
    have hsub:=CC hC hk g sV n m0 (b++[(x:Int)]) (x+1) s _ (by omega) (by omega) (by omega) (by simp_all [wn]) (λr s b' hb'=>hY r s b' (by
     rw [eh];grind)) hI
    rw [wn] at hsub;have hih:=ih (x+1) _ aM r (by omega) (by omega) (by omega) (by omega) hsub.2;rw [dI,if_pos (show(x:Int) < (C:Int) by omega),hw.1,bs,hck,bs,hsub.1,bs,if_neg (by simp),bs,hih.1];simp_all [List.range'_succ,List.flatMap_cons,List.foldl_append]
  have hl:=loop (C - f) f _ k r rfl (Nat.le_refl _) h2 (by omega) h0.2;rw [hl.1,jA];exact⟨rfl,hl.2⟩
def AW(m:ab)(but:Nat->Bool)(B:Int->Bool):Bool:=(mG m).zipIdx.all λg=>but g.2 || decide (g.1.2.2=decide (mS m≤na m B g.1.2.1.toNat g.1.1))
theorem yW{α ε:Type}{p:Nat->α->Bool}{e:ε}:∀(l:List α) (j:Nat),dM (λ(_:Unit) j x=>if p j x=true then .ok () else Except.error e) j l ()=if((l.zipIdx j).all λg=>p g.2 g.1)=true then .ok () else .error e
 |[],j=>rfl
 |x::l,j=>by
  rw [dM,zipIdx_cons,all_cons]
  cases h:p j x with
  |true=>simp only [if_true,Bool.true_and];exact yW l (j+1)
  |false=>simp
theorem CS{k:Nat}{m:ab}{S a2:Int}(v:Vd m)(hk:10≤k)(hS:jL S)(ha:jL a2):dz k m S a2=some (AW m (λi=>decide (ew a2 i)) (vb S)):=by
 have g8:=v.g8;have d6:=v.d6;unfold dz ir;rw [za v hk hS,bs]
 have key:=iW (T:=Int) (f:=cO k m a2 (cr (Qm m (vb S)))) (mG m) (λ(_:Unit) j=>j) (λ_ j x=>if(decide (ew a2 j) || decide (x.2.2=decide (mS m≤na m (vb S) x.2.1.toNat x.1)))=true then .ok () else Except.error ()) (λ_ _=>True) (λr=>some (match r with | .error _=>false | .ok _=>true))
  (λn s j hj _=>by
   have hck:ck ((j:Int)+1)=some ((j:Int)+1):=cE (by omega) (by omega);have hg:=v.gl _ (List.getElem_mem hj);have hj':(j:Int) < (m.2.2.2.2.2.length:Int):=Int.ofNat_lt.2 hj;have hget:aK m.2.2.2.2.2 (j:Int)=some (mG m)[j]:=cj hj;generalize (mG m)[j]=x at *;have c5:=v.c5;have e2:x.2.1=((x.2.1.toNat:Nat):Int):=by omega
   have hrow:aK (cr (Qm m (vb S))) x.2.1=some (mF (Qm m (vb S) x.2.1.toNat)):=by
    grind [KZ,Int.toNat_natCast]
   have hval:aK (mF (Qm m (vb S) x.2.1.toNat)) x.1=some (na m (vb S) x.2.1.toNat x.1):=by
    grind [zC,OW]
   refine⟨?_,λ_ _=>trivial⟩;have hm1:m.2.2.1=mS m:=rfl;simp only [cO,hj',if_true,hget,bs,EE (k:=k) ha (i:=j) (by omega),hrow,hval,hm1];grind)
  (λn s _=>by
   unfold cO;simp_all) (n:=k) (s0:=()) (by omega) trivial
 rw [show cO k m a2 (cr (Qm m (vb S))) k 0=_ from key,yW (p:=λj (x:aC)=>decide (ew a2 j) || decide (x.2.2=decide (mS m≤na m (vb S) x.2.1.toNat x.1)))];unfold AW;grind
end Go.Proofs.YtcpbmhgakdeceaaGreat
set_option linter.unusedVariables false
set_option linter.unusedSimpArgs false
namespace Go.Proofs.YtcpbmhgakdeceaaGreat
open K Go Go.Proofs
theorem zg{m:ab}(v:Vd m){A B:Int->Bool}(h:∀c,0≤c->c < mC m->A c=B c):∀(n:Nat) (c:Int),0≤c->c < mC m->na m A n c=na m B n c
 |0,c,h0,h1=>by simp_all [na]
 |n+1,c,h0,h1=>by
  have ih:=zg v h n
  unfold na
  cases e:Az m n c with
  |none=>simp_all
  |some l=>
   have hb:=(xh v e).2
   grind
theorem ER{α:Type}{l:List α}{p q:α->Bool}(h:∀x∈l,p x=q x):l.all p=l.all q:=by
 grind
theorem Ht{m:ab}(v:Vd m){but:Nat->Bool}{A B:Int->Bool}(h:∀c,0≤c->c < mC m->A c=B c):AW m but A=AW m but B:=by
 unfold AW;refine ER λg hg=>?_;obtain⟨x,i⟩:=g;have hx:=v.gl x (List.fst_mem_of_mem_zipIdx hg);show(but i || decide (x.2.2=decide (mS m≤na m A x.2.1.toNat x.1)))=(but i || decide (x.2.2=decide (mS m≤na m B x.2.1.toNat x.1)));grind [zg]
def vD(m:ab):List (List Int):=eh (mC m).toNat (mC m).toNat [] 0
theorem vS{C:Nat}:∀(n:Nat) (b:List Int) (f:Nat),Bg (C:Int) b->(∀x∈b,x < (f:Int))->∀b'∈eh C n b f,Bg (C:Int) b'
 |0,b,f,h,_,b',hb=>by
  simp_all [eh,List.mem_singleton]
 |n+1,b,f,h,hf,b',hb=>by
  rw [eh,mem_cons] at hb
  rcases hb with rfl |hb
  .
   exact h
  .
   obtain⟨c,hc,hb⟩:=List.mem_flatMap.1 hb
   rw [List.mem_range'_1] at hc
   refine vS n (b++[(c:Int)]) (c+1) ⟨λx hx=>?_,?_⟩ (λx hx=>?_) b' hb
   .
    rcases List.mem_append.1 hx with hx |hx
    .
     exact h.rng x hx
    grind
   .
    rw [pairwise_append]
    exact⟨h.asc,by simp,λa ha x hx=>by grind⟩
   grind
theorem Gq{m:ab}(v:Vd m){b:List Int}(h:b∈vD m):Bg (mC m) b:=by
 have c1:=v.c1;have:=vS (C:=(mC m).toNat) (mC m).toNat [] 0 ⟨by simp,by simp⟩ (by simp) b h;grind
theorem Df{m:ab}(v:Vd m):(vD m).length≤32:=by
 have c1:=v.c1;have c5:=v.c5;have:(mC m).toNat=1\/(mC m).toNat=2\/(mC m).toNat=3\/(mC m).toNat=4\/(mC m).toNat=5:=by omega
 unfold vD;rcases this with h |h |h |h |h <;> rw [h] <;> decide
def tJ(m:ab)(but:Nat->Bool):List (List Int):=(vD m).filter λb=>AW m but λc=>decide (c∈b)
theorem rJ{α β:Type}{p:α->Bool}{h:α->β}:∀(l:List α) (s:List β),l.foldl (λ(s:List β×Bool) b=>(if p b then s.1++[h b] else s.1,false)) (s,false)=(s++(l.filter p).map h,false)
 |[],s=>by simp
 |x::l,s=>by
  rw [foldl_cons,rJ l]
  grind
theorem sG{k:Nat}{m:ab}{a2:Int}(v:Vd m)(hk:50≤k)(ha:jL a2):bQ k m a2=some ((tJ m λi=>decide (ew a2 i)).map i7):=by
 have c1:=v.c1;have c5:=v.c5;unfold bQ kY;have hC:m.1=(((mC m).toNat:Nat):Int):=by grind
 have h:=CC (σ:=List Int×Bool) (k:=k) (Y:=my (λ(y5:(List Int)) (p7:Int)=>(dz k m p7 a2).bind λr9=>if r9=true then((bO (aZ (length y5+length [p7]))).bind λ_=>some (y5++[p7],true)) else(some (y5,true)))) (C:=(mC m).toNat) (by omega) (by omega)
  (λs b=>(if AW m (λi=>decide (ew a2 i)) (λc=>decide (c∈b)) then s.1++[i7 b] else s.1,false)) (λr s=>s.2=false/\s.1.length+r≤1000) (mC m).toNat k [] 0 ([],false) 0 (by omega) (by omega) (by omega) tB (λr s b' hb' hI=>by
   obtain⟨y,q⟩:=s;obtain⟨rfl,hI⟩:q=false/\y.length+(r+1)≤1000:=hI;have hbg:=Gq v hb';have hset:=hbg.set c5;have hex:AW m (λi=>decide (ew a2 i)) (vb (i7 b'))=AW m (λi=>decide (ew a2 i)) (λc=>decide (c∈b')):=Ht v λc h0 _=>hset.2 c h0;unfold my;simp only [];rw [CS v (by omega) hset.1 ha,hex,bs];cases AW m (λi=>decide (ew a2 i)) (λc=>decide (c∈b')) with
   |true=>
    simp only [if_true];grind [cV,aZ,bs,i7]
   |false=>
    grind) ⟨rfl,by have:=Df v;grind [vD]⟩
 rw [hC,show dN k (my (λ(y5:(List Int)) (p7:Int)=>(dz k m p7 a2).bind λr9=>if r9=true then((bO (aZ (length y5+length [p7]))).bind λ_=>some (y5++[p7],true)) else(some (y5,true)))) (((mC m).toNat:Nat):Int) k 0 0 ([],false)=_ from h.1,bs,bs];rw [rJ (p:=λb=>AW m (λi=>decide (ew a2 i)) λc=>decide (c∈b)) (h:=i7)];simp only [Bool.false_eq_true,if_false,nil_append];rfl
end Go.Proofs.YtcpbmhgakdeceaaGreat
set_option linter.unusedVariables false
set_option linter.unusedSimpArgs false
namespace Go.Proofs.YtcpbmhgakdeceaaGreat
open K Go Go.Proofs
def Ib(b:List Int):Nat:=match b.getLast? with |some x=>x.toNat+1 |none=>0
theorem zf{C:Nat}(hC:C≤5):∀(n:Nat) (b:List Int) (f:Nat),(eh C n b f).length≤6 ^ n
 |0,b,f=>by simp [eh]
 |n+1,b,f=>by
  have fl:∀l:List Nat,(l.flatMap λ(c:Nat)=>eh C n (b++[(c:Int)]) (c+1)).length≤l.length * 6 ^ n:=by
   intro l
   induction l with
   |nil=>simp
   |cons c l ih=>
    rw [List.flatMap_cons,length_append,length_cons,Nat.add_mul];have:=zf hC n (b++[(c:Int)]) (c+1);omega
  have:=fl (List.range' f (C - f));rw [List.length_range'] at this;rw [eh,length_cons,Nat.pow_succ];have h1:(C - f) * 6 ^ n≤5 * 6 ^ n:=mul_le_mul_right _ (by omega);grind
theorem wH{b:List Int}{c:Nat}:Ib (b++[(c:Int)])=c+1:=by
 unfold Ib;simp_all
theorem FB{k C:Nat}(hC:C≤5)(hk:10≤k):∀(n m0:Nat) (b:List Int),n≤5->C - Ib b≤n->Ib b≤C->n < m0->b.length+n≤5->(∀x∈b,0≤x/\x < 5)->lQ k m0 (C:Int) b=some (eh C n b (Ib b))
 |n,0,b,_,_,_,h,_,_=>absurd h (not_lt_zero _)
 |n,m0+1,b,h5,h1,h2,h3,hb,hx=>by
  unfold lQ
  have hn:((if(0:Int) < (b.length:Int) then((ck ((b.length:Int) - (1:Int))).bind λx4=>(aK b x4).bind λx5=>(ck (x5+(1:Int))).bind λx6=>some x6) else(some (0:Int))):Option Int)=some ((Ib b:Nat):Int):=by
   by_cases h0:b=[]
   .subst h0;rfl
   .have hl:0 < b.length:=List.length_pos_iff.2 h0;have c1:ck ((b.length:Int) - 1)=some (((b.length - 1:Nat):Int)):=by grind [cE]
    have hg:=cj (l:=b) (i:=b.length - 1) (by omega);have hxx:=hx _ (List.getElem_mem (l:=b) (n:=b.length - 1) (by omega));have hla:b.getLast? =some b[b.length - 1]:=by grind
    have c2:ck (b[b.length - 1]+1)=some (b[b.length - 1]+1):=cE (by omega) (by omega);rw [if_pos (by omega),c1,bs,hg,bs,c2,bs];grind [Ib]
  rw [hn,bs];cases n with
  |zero=>
   have hf:Ib b=C:=by omega
   rw [hf];obtain⟨k,rfl⟩:∃n,k=n+1:=⟨k - 1,by omega⟩;rw [iz,if_neg (Int.lt_irrefl _),bs];rfl
  |succ n=>
   have loop:∀(d x:Nat) (acc:List (List Int)) (aM:Nat),C - x=d->Ib b≤x->x≤C->d < aM->acc.length+((List.range' x (C - x)).flatMap λ(c:Nat)=>eh C n (b++[(c:Int)]) (c+1)).length≤100000->
    iz k (C:Int) b (lQ k m0) aM (acc,(x:Int))=some (acc++(List.range' x (C - x)).flatMap λ(c:Nat)=>eh C n (b++[(c:Int)]) (c+1)):=by
    intro d
    induction d with
    |zero=>
     intro x acc aM hd hx1 hx2 hfu hl;obtain⟨aM,rfl⟩:∃n,aM=n+1:=⟨aM - 1,by omega⟩;have:x=C:=by omega
     simp_all [iz,if_neg,Int.lt_irrefl,Nat.sub_self]
    |succ d ih=>
     intro x acc aM hd hx1 hx2 hfu hl;obtain⟨aM,rfl⟩:∃n,aM=n+1:=⟨aM - 1,by omega⟩;have e:C - x=(C - (x+1))+1:=by omega
     rw [e,List.range'_succ,List.flatMap_cons,length_append] at hl;have hck:ck ((x:Int)+1)=some (((x+1:Nat):Int)):=by grind [cE]
     have hsub:=FB hC hk n m0 (b++[(x:Int)]) (by omega) (by rw [wH];omega) (by rw [wH];omega) (by omega) (by simp;omega) (λy hy=>by
      grind)
     rw [wH] at hsub;have e0:([]:List Int)++b=b:=rfl;have hok:bO (aZ (acc.length+(eh C n (b++[(x:Int)]) (x+1)).length))=some ():=cV (show acc.length+(eh C n (b++[(x:Int)]) (x+1)).length≤4294967296 by omega);rw [iz,if_pos (show(x:Int) < (C:Int) by omega),cV (by grind [aZ]),bs,e0,cV (by grind [aZ]),bs,hsub,bs];dsimp only;rw [hok,bs,hck,bs];rw [ih (x+1) _ aM (by omega) (by omega) (by omega) (by omega) (by grind)];rw [e,List.range'_succ,List.flatMap_cons,List.append_assoc]
   have hlen:=zf hC (n+1) b (Ib b);rw [eh,length_cons] at hlen;have h6:6 ^ (n+1)≤6 ^ 5:=Nat.pow_le_pow_right (by decide) h5;have h7:(6:Nat) ^ 5=7776:=by decide
   have h1l:([b]:List (List Int)).length=1:=rfl;rw [loop (C - Ib b) (Ib b) [b] k rfl (Nat.le_refl _) h2 (by omega) (by omega),bs,eh];rfl
theorem Jf{k:Nat}{m:ab}(v:Vd m)(hk:10≤k):lQ k k m.1 []=some (vD m):=by
 have c1:=v.c1;have c5:=v.c5;have:=FB (k:=k) (C:=(mC m).toNat) (by omega) hk (mC m).toNat k [] (by omega) (by omega) (zero_le _) (by omega) (by simp;omega) (by simp);rw [show(((mC m).toNat:Nat):Int)=m.1 by grind] at this;exact this
theorem G5{k:Nat}{m:ab}{B:Int->Bool}(v:Vd m){x:aC}(hg:0≤x.1/\x.1 < mC m/\0≤x.2.1/\x.2.1≤(mD m).length):oh k m (vd m B) x=some (decide (x.2.2=decide (mS m≤na m B x.2.1.toNat x.1))):=by
 grind [oh,aK,vd,pZ,HL,bs,s9]
theorem Bz{k:Nat}{m:ab}{but:List Int}{B:Int->Bool}(v:Vd m)(hk:50≤k)(hb:but.length≤40):
 dh k m but (vd m B) k (true,0)=some (AW m (λi=>decide ((i:Int)∈but)) B):=by
 have g8:=v.g8
 have key:=gZ (T:=Bool×Int) (f:=dh k m but (vd m B)) (mG m) (λ(s:Bool) j=>(s,j)) (λs j x=>s && (decide ((j:Int)∈but) || decide (x.2.2=decide (mS m≤na m B x.2.1.toNat x.1)))) (λ_ _=>True) (λs=>some s)
  (λn s j hj _=>by
   have hck:ck ((j:Int)+1)=some ((j:Int)+1):=cE (by omega) (by omega);have hg:=v.gl _ (List.getElem_mem hj);have hj':(j:Int) < (m.2.2.2.2.2.length:Int):=Int.ofNat_lt.2 hj;have hget:aK m.2.2.2.2.2 (j:Int)=some (mG m)[j]:=cj hj;refine⟨?_,trivial⟩;simp only [dh,hj',if_true];cases s with
   |false=>simp_all
   |true=>
    simp only [if_true,zF (k:=k) (l:=but) (x:=(j:Int)) (by omega) (by omega),bs,Bool.true_and];cases decide ((j:Int)∈but) with
    |true=>simp_all
    |false=>simp_all [Bool.false_eq_true,if_false,bs,G5,Bool.false_or])
  (λn s _=>by
   unfold dh;simp_all) (n:=k) (s0:=true) (by omega) trivial
 rw [show dh k m but (vd m B) k (true,0)=_ from key.1]
 have:∀(l:List aC) (j:Nat) (s:Bool),oK (λs j (x:aC)=>s && (decide ((j:Int)∈but) || decide (x.2.2=decide (mS m≤na m B x.2.1.toNat x.1)))) j l s=(s && ((l.zipIdx j).all λg=>decide ((g.2:Int)∈but) || decide (g.1.2.2=decide (mS m≤na m B g.1.2.1.toNat g.1.1)))):=by
  intro l
  induction l with
  |nil=>simp_all [oK]
  |cons x l ih=>
   grind [oK,zipIdx_cons,Bool.and_assoc]
 rw [this,Bool.true_and]
 rfl
theorem nP{k:Nat}{m:ab}{but:List Int}(v:Vd m)(hk:50≤k)(hb:but.length≤40):fP k m but=some (tJ m λi=>decide ((i:Int)∈but)):=by
 have hlen:=Df v;unfold fP;rw [Jf v (by omega),bs]
 have key:=gZ (T:=List (List Int)×Int) (f:=dD k m but (vD m)) (vD m) (λ(s:List (List Int)) j=>(s,j)) (λs _ b=>if AW m (λi=>decide ((i:Int)∈but)) (λc=>decide (c∈b)) then s++[b] else s) (λj s=>s.length≤j) (λs=>some s)
  (λn s j hj hs=>by
   have hck:ck ((j:Int)+1)=some ((j:Int)+1):=cE (by omega) (by omega);have hbg:=Gq v (List.getElem_mem hj);have hl:=hbg.len ⟨by have:=v.c1;omega,v.c5⟩;refine⟨?_,?_⟩
   .simp only [dD,Int.ofNat_lt,hj,if_true,cj hj,bs,Jh (k:=k) v (by omega) (b:=(vD m)[j]) (by omega) (by omega),Bz (k:=k) v hk hb];cases AW m (λi=>decide ((i:Int)∈but)) (λc=>decide (c∈(vD m)[j])) with
    |true=>
     simp only [if_true];rw [cV (by grind [aZ]),bs,bs,hck,bs]
    |false=>simp_all
   grind)
  (λn s hs=>by
   unfold dD;simp_all) (n:=k) (s0:=[]) (by omega) (by simp)
 rw [show dD k m but (vD m) k ([],0)=_ from key.1,bs]
 have:∀(l:List (List Int)) (j:Nat) (s:List (List Int)),oK (λs _ b=>if AW m (λi=>decide ((i:Int)∈but)) (λc=>decide (c∈b)) then s++[b] else s) j l s=s++l.filter λb=>AW m (λi=>decide ((i:Int)∈but)) (λc=>decide (c∈b)):=by
  intro l
  induction l with
  |nil=>simp_all [oK]
  |cons b l ih=>
   grind [oK,AW,decide]
 rw [this];rfl
