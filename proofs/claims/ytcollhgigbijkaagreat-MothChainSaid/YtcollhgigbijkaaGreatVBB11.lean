import Derived.Test.YtcollhgigbijkaaGreatVBF2
open Nat
open List hiding mem_of_getElem?
open Array hiding mem_of_getElem? mk
set_option linter.unusedVariables false
set_option linter.unusedSimpArgs false
namespace Go.Proofs.YtcollhgigbijkaaGreat
open K Go Go.Proofs
def W{α:Type}(x:Option α)(Q:α->Prop):Prop:=∃a,x=some a/\Q a
namespace W
variable {α β ε:Type}{Q:β->Prop}
theorem ret{a:β}(h:Q a):W (some a) Q:=⟨a,rfl,h⟩
theorem mono{x:Option β}{R:β->Prop}(h:W x R)(hq:∀a,R a->Q a):W x Q:=let ⟨a,e,r⟩:=h;⟨a,e,hq a r⟩
theorem bind{x:Option α}{f:α->Option β}{R:α->Prop}(h:W x R)(hf:∀a,R a->W (f a) Q):W (x.bind f) Q:=by
 obtain⟨a,rfl,r⟩:=h;grind
theorem ck{n:Int}{f:Int->Option β}(h1: -9223372036854775808≤n)(h2:n≤9223372036854775807)(hf:W (f n) Q):W ((K.ck n).bind f) Q:=by
 simp_all [K.ck,if_pos]
theorem chk{p:Prop}[Decidable p]{f:Unit->Option β}(h:p)(hf:W (f ()) Q):W ((cN p).bind f) Q:=by
 simp_all [cN,if_pos]
theorem at_{l:List α}{i:Int}{f:α->Option β}(h0:0≤i)(h1:i < l.length)(hf:∀x,l[i.toNat]? =some x->W (f x) Q):W ((aJ l i).bind f) Q:=by
 simp_all [aJ,if_pos,List.getElem?_eq_getElem]
theorem ite{p:Prop}[Decidable p]{a b:Option β}(h1:p->W a Q)(h2:¬p->W b Q):W (if p then a else b) Q:=by
 grind
theorem iteB{p:Prop}[Decidable p]{a b:Option α}{f:α->Option β}(h1:p->W (a.bind f) Q)(h2:¬p->W (b.bind f) Q):W ((if p then a else b).bind f) Q:=by
 grind
theorem bEE{x:Option (Except ε α)}{g:ε->Option β}{f:α->Option β}{R:Except ε α->Prop}(h:W x R)(hg:∀e,R (.error e)->W (g e) Q)(hf:∀a,R (.ok a)->W (f a) Q):W (K.bE x g f) Q:=by
 obtain⟨a,rfl,r⟩:=h;cases a with
 |error e=>exact hg e r
 |ok a=>exact hf a r
theorem loop{T:Type}{f:Nat->T->Option β}(I:Nat->T->Prop)(step:∀aO m y,I m y->(∀m' y',m' < m->I m' y'->W (f aO y') Q)->W (f (aO+1) y) Q):∀m aO y,m < aO->I m y->W (f aO y) Q:=by
 intro m
 induction m using Nat.strongRecOn with
 |_ m ih=>
  intro aO y hm hI;cases aO with
  |zero=>omega
  |succ aO=>grind
end W
theorem wrap_u64(n:Int):0≤IntKind.u64.wrap n/\IntKind.u64.wrap n < 18446744073709551616:=by
 simp_all [Int.emod_nonneg,Int.emod_lt_of_pos,IntKind.wrap,IntKind.signed,IntKind.bits]
theorem yk{n:Int}(h0:0≤n)(h1:n < 18446744073709551616):IntKind.u64.wrap n=n:=by
 simp_all [IntKind.wrap,IntKind.signed,IntKind.bits,Int.emod_eq_of_lt]
def Lo(l:bT)(m:Int):Prop:=0≤l.2.1/\l.2.1≤m
theorem Jz{k:Nat}{l:bT}{m:Int}(h:Lo l m)(hm:m≤1000000000):W (gX k l) λr=>0≤r.1/\r.1 < 72057594037927936/\Lo r.2 (m+1):=by
 obtain⟨h0,h1⟩:=h;unfold gX
 have fin:∀x:Int,W ((K.ck (l.2.1+1)).bind λx4=>some (gZ .u64 (sa .u64 (IntKind.u64.wrap ((sa .u64 x (gZ .u64 x (29:Int))) * (2685821657736338717:Int))) (gZ .u64 (IntKind.u64.wrap ((sa .u64 x (gZ .u64 x (29:Int))) * (2685821657736338717:Int))) (32:Int))) (8:Int),(l.1,x4,x)))
  λr=>0≤r.1/\r.1 < 72057594037927936/\Lo r.2 (m+1):=λx=>by
  refine W.ck (by omega) (by omega) (W.ret ?_)
  generalize IntKind.u64.wrap ((sa .u64 x (gZ .u64 x (29:Int))) * (2685821657736338717:Int))=y
  have hx:0≤sa .u64 y (gZ .u64 y 32)/\sa .u64 y (gZ .u64 y 32) < 18446744073709551616:=wrap_u64 _
  have e:gZ .u64 (sa .u64 y (gZ .u64 y 32)) 8=(sa .u64 y (gZ .u64 y 32)) / 256:=by
   unfold gZ;rw [Int.fdiv_eq_ediv_of_nonneg _ (by decide)];rfl
  refine⟨?_,?_,?_,?_⟩
  .
   omega
  .
   omega
  .
   grind
  simp_all
 refine W.iteB (λhlt=>?_) (λ_=>fin _);simp_all [aJ,if_pos,List.getElem?_eq_getElem]
theorem mB{k:Nat}{l:bT}{m n:Int}(h:Lo l m)(hm:m≤1000000000)(hn:n≤1000000000):W (c8 k l n) λr=>0≤r.1/\(0≤n->r.1≤n)/\Lo r.2 (m+1):=by
 unfold c8;refine W.ite (λh1=>W.ret ⟨Int.le_refl 0,λh=>h,h.1,by show l.2.1≤m+1;have:=h.2;omega⟩) (λh1=>?_);refine W.bind (Jz h hm) λr hr=>?_;refine W.ck (by omega) (by omega) ?_;have e:IntKind.u64.wrap (n+1)=n+1:=yk (by omega) (by omega);refine W.chk (by omega) ?_;rw [e];have h2:Int.tmod r.1 (n+1)=r.1 % (n+1):=Int.tmod_eq_emod_of_nonneg hr.1;have h3:=Int.emod_nonneg r.1 (show n+1≠0 by omega);have h4:=Int.emod_lt_of_pos r.1 (show 0 < n+1 by omega);grind [W.ck,W.ret]
theorem Ce{k:Nat}{l:bT}{m a b:Int}(h:Lo l m)(hm:m≤1000000000)(ha:0≤a)(hab:a≤b)(hb:b≤1000000):W (fB k l a b) λr=>a≤r.1/\r.1≤b/\Lo r.2 (m+1):=by
 grind [fB,W.ck,W.bind,mB,W.ret]
theorem wZ{k:Nat}{l:bT}{m a:Int}(h:Lo l m)(hm:m≤1000000000)(ha:0≤a)(hb:a≤1000000):W (eX k l a) λr=>Lo r.2 (m+1):=by
 grind [eX,W.ck,W.bind,mB,W.ret]
theorem Gi{k:Nat}{l:bT}{m:Int}{some_:List Int}(h:Lo l m)(hm:m≤1000000000)(h0:0 < some_.length)(h1:some_.length≤1000000):W (gi k l some_) λr=>r.1∈some_/\Lo r.2 (m+1):=by
 grind [gi,W.ck,W.bind,mB,W.at_,W.ret,List.mem_of_getElem?]
theorem eA{α:Type}{l:List α}{i:Nat}(h:i < l.length):aJ l (i:Int)=some l[i]:=by
 rw [aJ,if_pos (by omega)];simp_all
section
variable {α β γ ε σ T:Type}
theorem bs{a:α}{f:α->Option β}:(some a).bind f=f a:=by simp_all
theorem dh{n:Int}(h1: -9223372036854775808≤n)(h2:n≤9223372036854775807):K.ck n=some n:=by simp_all [K.ck,if_pos]
theorem dE{p:Prop}[Decidable p](h:p):cN p=some ():=by rw [cN,if_pos h]
theorem xp{l:List α}{i:Int}(h0:0≤i)(h:i.toNat < l.length):aJ l i=some l[i.toNat]:=by rw [aJ,if_pos h0];simp_all
theorem pV{l:List α}{i:Int}{x:α}(h0:0≤i)(h:l[i.toNat]? =some x):aJ l i=some x:=by simp_all [aJ,if_pos]
theorem jh{a:α}{g:ε->Option β}{f:α->Option β}:K.bE (some (.ok a)) g f=f a:=by simp_all [K.bE]
theorem oc{e:ε}{g:ε->Option β}{f:α->Option β}:K.bE (some (.error e)) g f=g e:=by simp_all [K.bE]
theorem xF{q:α}{a:β}{b:α->β}:fX (some q) a b=b q:=by simp_all [fX]
theorem qS{a:β}{b:α->β}:fX none a b=a:=by simp_all [fX]
theorem TK{n:Nat}(h:n≤4294967296):cu n:=h
def sU(g:σ->Nat->α->σ):Nat->List α->σ->σ
 |_,[],s=>s
 |j,x::l,s=>sU g (j+1) l (g s j x)
theorem kZ(l:List α)(mk:σ->Int->T)(g:σ->Nat->α->σ)(P:Nat->σ->Prop){f:Nat->T->Option β}(fin:σ->Option β)
 (step:∀n s (j:Nat) (h:j < l.length),P j s->f (n+1) (mk s j)=f n (mk (g s j l[j]) ((j:Int)+1))/\P (j+1) (g s j l[j]))
 (stop:∀n s,P l.length s->f (n+1) (mk s l.length)=fin s) {s0:σ} {n:Nat} (hn:l.length < n) (h0:P 0 s0):f n (mk s0 0)=fin (sU g 0 l s0)/\P l.length (sU g 0 l s0):=by
 have key:∀(m:List α) (pre:List α) (n:Nat) (s:σ),l=pre++m->m.length < n->P pre.length s->f n (mk s pre.length)=fin (sU g pre.length m s)/\P l.length (sU g pre.length m s):=by
  intro m
  induction m with
  |nil=>
   intro pre n s e hn hp;obtain⟨n,rfl⟩:∃n',n=n'+1:=⟨n - 1,by omega⟩;have:l.length=pre.length:=by grind
   rw [<-this] at hp⊢;exact⟨stop n s hp,hp⟩
  |cons x m ih=>
   intro pre n s e hn hp;simp only [length_cons] at hn;obtain⟨n,rfl⟩:∃n',n=n'+1:=⟨n - 1,by omega⟩;have hl:pre.length < l.length:=by grind
   have hx:l[pre.length]=x:=by simp [e]
   obtain⟨h1,h2⟩:=step n s pre.length hl hp;rw [hx] at h1 h2;have:=ih (pre++[x]) n (g s pre.length x) (by grind) (by omega) (by simp_all);rw [length_append] at this;simp only [length_cons,length_nil,Nat.zero_add] at this;rw [h1];exact this
 have:=key l [] n s0 rfl hn h0
 exact this
def eU(g:σ->Nat->α->Except ε σ):Nat->List α->σ->Except ε σ
 |_,[],s=>.ok s
 |j,x::l,s=>match g s j x with
  | .error e=>.error e
  | .ok s'=>eU g (j+1) l s'
theorem D5(l:List α)(mk:σ->Int->T)(g:σ->Nat->α->Except ε σ)(P:Nat->σ->Prop){f:Nat->T->Option β}(fin:Except ε σ->Option β)
 (step:∀n s (j:Nat) (h:j < l.length),P j s->(∃e,g s j l[j]= .error e/\f (n+1) (mk s j)=fin (.error e))\/(∃s',g s j l[j]= .ok s'/\f (n+1) (mk s j)=f n (mk s' ((j:Int)+1))/\P (j+1) s'))
 (stop:∀n s,P l.length s->f (n+1) (mk s l.length)=fin (.ok s)) {s0:σ} {n:Nat} (hn:l.length < n) (h0:P 0 s0):f n (mk s0 0)=fin (eU g 0 l s0):=by
 have key:∀(m:List α) (pre:List α) (n:Nat) (s:σ),l=pre++m->m.length < n->P pre.length s->f n (mk s pre.length)=fin (eU g pre.length m s):=by
  intro m
  induction m with
  |nil=>
   intro pre n s e hn hp;obtain⟨n,rfl⟩:∃n',n=n'+1:=⟨n - 1,by omega⟩;have:l.length=pre.length:=by grind
   rw [<-this] at hp⊢;exact stop n s hp
  |cons x m ih=>
   intro pre n s e hn hp;simp only [length_cons] at hn;obtain⟨n,rfl⟩:∃n',n=n'+1:=⟨n - 1,by omega⟩;have hl:pre.length < l.length:=by grind
   have hx:l[pre.length]=x:=by simp [e]
   rcases step n s pre.length hl hp with⟨e',h1,h2⟩ |⟨s',h1,h2,h3⟩
   .grind [eU]
   .rw [hx] at h1;have:=ih (pre++[x]) n s' (by grind) (by omega) (by simp_all);simp_all [length_append,length_cons,length_nil,Nat.zero_add,eU]
 exact key l [] n s0 rfl hn h0
end
section
variable {α β ε σ T:Type}
theorem ml(l:List α)(mk:σ->Int->T)(g:σ->Nat->α->Except ε σ)(P:Nat->σ->Prop){f:Nat->T->Option β}(fin:Except ε σ->Option β)
 (step:∀n s (j:Nat) (h:j < l.length),P j s->(f (n+1) (mk s j)=match g s j l[j] with | .error e=>fin (.error e) | .ok s'=>f n (mk s' ((j:Int)+1)))/\∀s',g s j l[j]= .ok s'->P (j+1) s')
 (stop:∀n s,P l.length s->f (n+1) (mk s l.length)=fin (.ok s)) {s0:σ} {n:Nat} (hn:l.length < n) (h0:P 0 s0):f n (mk s0 0)=fin (eU g 0 l s0):=
 D5 l mk g P fin (λn s j h hp=>by
  obtain⟨h1,h2⟩:=step n s j h hp
  grind) stop hn h0
end
theorem pX{α:Type}(p:α->Bool):∀(l:List α) (j:Nat),eU (λ(_:Unit) j x=>if p x then Except.error (j:Int) else .ok ()) j l ()=match l.findIdx? p with |some i=>.error ((i+j:Nat):Int) |none=>.ok ()
 |[],j=>by simp [eU]
 |x::l,j=>by
  rw [eU,findIdx?_cons]
  by_cases h:p x=true
  .
   simp [h]
  .
   simp only [h,if_false,Bool.false_eq_true]
   rw [pX p l (j+1)]
   grind
theorem LP{k:Nat}{l:List Int}{x:Int}(hk:l.length < k)(hl:l.length≤1000000):W (rZ k l x) λr=>(0≤r↔x∈l):=by
 unfold rZ
 have key:=W.loop (f:=kC k l x) (Q:=λr=>match r with | .error e=>0≤e/\x∈l | .ok _=>x∉l)
  (λm y=>0≤y/\y≤l.length/\m=l.length - y.toNat/\∀j:Nat,(j:Int) < y->l[j]? ≠some x) (λaO m y hI ih=>by
   obtain⟨h0,h1,hm,hj⟩:=hI;unfold kC;refine W.ite (λhlt=>W.at_ h0 hlt λv hv=>W.ite (λe=>W.ret ⟨h0,?_⟩) (λe=>W.ck (by omega) (by omega) (ih (m - 1) _ (by omega) ⟨by omega,by omega,by omega,λj hjy=>?_⟩))) (λhge=>W.ret ?_)
   .grind
   .grind
   grind [List.mem_iff_getElem?,Nat.lt_or_ge,List.getElem?_eq_none])
 refine W.bEE (key l.length k 0 hk ⟨Int.le_refl 0,by omega,by simp,λj hj=>by omega⟩) (λe he=>W.ret ⟨λ_=>he.2,λ_=>he.1⟩) (λ_ ho=>W.ret ⟨λh=>by omega,λh=>absurd h ho⟩)
def lm(s:Int):Prop:=0≤s/\s < 256
def eG(s:Int)(i:Nat):Prop:=s.toNat.testBit i=true
instance (s:Int) (i:Nat):Decidable (eG s i):=by unfold eG;infer_instance
theorem td{x:Nat}(h:x < 256):IntKind.u8.wrap (x:Int)=x:=by
 grind [IntKind.wrap,IntKind.signed,IntKind.bits]
theorem uh{s:Int}(h:lm s):∃n:Nat,n < 256/\s=n:=⟨s.toNat,by have:=h.1;have:=h.2;omega,by have:=h.1;omega⟩
theorem Gj{n:Nat}(h:n < 256):(BitVec.ofInt IntKind.u8.bits (n:Int)).toNat=n:=by
 show(BitVec.ofInt 8 (n:Int)).toNat=n;simp_all
theorem G5{n m:Nat}(hn:n < 256)(hm:m < 256):n |||m < 256:=or_lt_two_pow (n:=8) hn hm
theorem JL{n m:Nat}(hn:n < 256):n &&& m < 256:=Nat.lt_of_le_of_lt and_le_left hn
theorem Ny{a b:Int}(ha:lm a)(hb:lm b):lm (Cd .u8 a b)/\∀i,eG (Cd .u8 a b) i↔eG a i\/eG b i:=by
 obtain⟨n,hn,rfl⟩:=uh ha;obtain⟨m,hm,rfl⟩:=uh hb
 have e:Cd .u8 (n:Int) (m:Int)=((n |||m:Nat):Int):=by
  grind [Cd,BitVec.toNat_or,Gj,td,G5]
 rw [e];refine⟨⟨by omega,by grind [G5]⟩,λi=>?_⟩;simp [eG,testBit_or]
theorem Na{x:Int}(h0:0≤x)(h8:x < 8):lm (nU .u8 1 x)/\∀i:Nat,eG (nU .u8 1 x) i↔(i:Int)=x:=by
 obtain⟨n,rfl⟩:=Int.eq_ofNat_of_zero_le h0;have hn:n < 8:=by omega
 have e:nU .u8 1 (n:Int)=((2 ^ n:Nat):Int):=by
  unfold nU
  have h1:min (Int.toNat (n:Int)) IntKind.u8.bits=n:=by
   show min n 8=n;omega
  rw [h1,Int.one_mul];have h2:2 ^ n < 256:=Nat.pow_lt_pow_right (by decide) hn;grind [td]
 rw [e];have h9:2 ^ n < 256:=Nat.pow_lt_pow_right (by decide) hn;refine⟨⟨Int.natCast_nonneg _,Int.ofNat_lt.2 h9⟩,λi=>?_⟩;simp only [eG,Int.toNat_natCast,testBit_two_pow,decide_eq_true_eq];omega
theorem Hi{k:Nat}{s:Int}(hs:lm s){i:Nat}(hi:i < 8):eK k s (i:Int)=some (decide (eG s i)):=by
 obtain⟨n,hn,rfl⟩:=uh hs;unfold eK;rw [cN,if_pos (by omega)];show some _=some _;congr 1
 have e1:gZ .u8 (n:Int) (i:Int)=((n >>> i:Nat):Int):=by
  unfold gZ
  have h1:min (Int.toNat (i:Int)) IntKind.u8.bits=i:=by
   show min i 8=i;omega
  grind [Int.fdiv_eq_ediv_of_nonneg,Int.natCast_nonneg,Nat.shiftRight_eq_div_pow]
 have hlt:n >>> i < 256:=Nat.lt_of_le_of_lt (by rw [Nat.shiftRight_eq_div_pow];exact div_le_self _ _) hn
 have e2:pU .u8 ((n >>> i:Nat):Int) 1=(((n >>> i) &&& 1:Nat):Int):=by
  grind [pU,BitVec.ofInt,BitVec.toNat_and,Gj,td,JL]
 rw [e1,e2]
 have e3:(((n >>> i) &&& 1:Nat):Int)=1↔eG (n:Int) i:=by
  rw [eG,Int.toNat_natCast,testBit];grind
 simp_all
end Go.Proofs.YtcollhgigbijkaaGreat
set_option linter.unusedVariables false
set_option linter.unusedSimpArgs false
namespace Go.Proofs.YtcollhgigbijkaaGreat
open K Go Go.Proofs
abbrev mC(m:ae):Int:=m.1
abbrev mW(m:ae):Int:=m.2.1
abbrev mS(m:ae):Int:=m.2.2.1
abbrev mH(m:ae):Int:=m.2.2.2.1
abbrev mD(m:ae):List (List (List Int)):=m.2.2.2.2.1
abbrev mG(m:ae):List bY:=m.2.2.2.2.2
def qV(l:List Int)(c:Int):Option (List Int):=(l.findIdx? λy=>decide (c=y)).map λi=>(if 0 < i then [l[i-1]?.getD 0] else [])++(l[i+1]?).toList
def tc(d:List (List Int))(c:Int):Option (List Int):=d.findSome? λl=>qV l c
def uV(m:ae)(d:Nat)(c:Int):Option (List Int):=tc ((mD m)[d]?.getD []) c
def o7(m:ae)(c:Int):Nat->Nat
 |0=>if(uV m 0 c).isSome then 0 else 1
 |d+1=>if(uV m (d+1) c).isSome then 0 else o7 m c d+1
def lO(m:ae)(B:Int->Bool):Nat->Int->Int
 |0,c=>if B c then mW m else -1
 |d+1,c=>match uV m d c with
  |none=>if mH m≤(o7 m c d:Int) then -1 else lO m B d c
  |some l=>if 0≤lO m B d c then lO m B d c+1 else if l.any λx=>decide (mW m≤lO m B d x) then 0 else -1
theorem HV{m:ae}{B:Int->Bool}(hw:0≤mW m):∀{d:Nat} {c:Int}, -1≤lO m B d c
 |0,c=>by grind [lO]
 |d+1,c=>by
  have:=HV (B:=B) hw (d:=d) (c:=c)
  grind [lO]
theorem HU{m:ae}{B:Int->Bool}(hw:mW m≤3):∀{d:Nat} {c:Int},lO m B d c≤3+d
 |0,c=>by grind [lO]
 |d+1,c=>by
  have:=HU (B:=B) hw (d:=d) (c:=c)
  grind [lO]
theorem G9{k:Nat}{l:List Int}{x:Int}(hk:l.length < k)(hl:l.length≤1000000):fV k l x=some (match l.findIdx? (λy=>decide (x=y)) with |some i=>(i:Int) |none=> -1):=by
 unfold fV
 have key:=ml (f:=dj k l x) l (λ(_:Unit) j=>j) (λ_ j y=>if decide (x=y)=true then Except.error (j:Int) else .ok ()) (λ_ _=>True) (λr=>some r)
  (λn s j hj _=>by
   have hck:ck ((j:Int)+1)=some ((j:Int)+1):=dh (by omega) (by omega);refine⟨?_,λ_ _=>trivial⟩;simp only [dj,Int.ofNat_lt,hj,if_true,eA hj,bs,decide_eq_true_eq];grind)
  (λn s _=>by simp [dj]) (n:=k) (s0:=()) hk trivial
 rw [show dj k l x k 0=_ from key,pX (λy=>decide (x=y)) l 0];grind [decide,jh,oc]
def mF:List Int->List Int
 |[a,b]=>if b < a then [b,a] else [a,b]
 |l=>l
theorem nB{l:List Int}{x:Int}:x∈mF l↔x∈l:=by
 unfold mF;grind
theorem I7{k:Nat}{l:List Int}(hk:10≤k)(hl:l.length≤2):fF k l=some (mF l):=by
 obtain⟨k,rfl⟩:∃n,k=n+4:=⟨k - 4,by omega⟩;have e0:oU (k+4) (IntKind.u64.wrap (0:Int))=some 0:=by kernel_rfl
 have e1:oU (k+4) (IntKind.u64.wrap (1:Int))=some 1:=by kernel_rfl
 have e2:oU (k+4) (IntKind.u64.wrap (2:Int))=some 2:=by kernel_rfl
 have c0:ck ((0:Int) - 0)=some 0:=rfl;have c1:ck ((1:Int) - 0)=some 1:=rfl;have c2:ck ((2:Int) - 0)=some 2:=rfl;have d1:ck ((0:Int)+1)=some 1:=rfl;have d2:ck ((1:Int)+1)=some 2:=rfl;have d3:ck ((1:Int) - 1)=some 0:=rfl;match l,hl with
 |[],_=>
  simp only [fF,length_nil,Int.ofNat_zero,e0,bs,cR,cx,bP,bb,mF,c0,d1];rfl
 |[a],_=>
  simp_all [fF,bs,cR,cx,bP,bb,mF]
 |[a,b],_=>
  have:(([a,b]:List Int).length:Int)=2:=rfl;have g0:aJ [a,b] (0:Int)=some a:=rfl;have g1:aJ [a,b] (1:Int)=some b:=rfl;have hn:∀x:Int,kD (k+4) x=some false:=λx=>by simp [kD]
  have hl:∀x y:Int,nY (k+4) x y=some (decide (x < y)):=λx y=>by simp [nY,hn]
  simp only [fF,this,e2,bs,cR,cx,bP,bb,bD,c2,d1,d2,d3,g0,g1,hl];grind [mF,bD,bs,aJ]
end Go.Proofs.YtcollhgigbijkaaGreat
set_option linter.unusedVariables false
set_option linter.unusedSimpArgs false
namespace Go.Proofs.YtcollhgigbijkaaGreat
open K Go Go.Proofs
structure Vd(m:ae):Prop where
 c1:1≤mC m
 c5:mC m≤5
 w0:0≤mW m
 w3:mW m≤3
 s0:0≤mS m
 s3:mS m≤3
 h1:1≤mH m
 h3:mH m≤3
 d1:1≤(mD m).length
 d6:(mD m).length≤6
 r3:∀r∈mD m,r.length≤3
 l5:∀r∈mD m,∀l∈r,l.length≤5
 x5:∀r∈mD m,∀l∈r,∀x∈l,0≤x/\x < mC m
 nd:∀r∈mD m,r.flatten.Nodup
 g8:(mG m).length≤8
 gl:∀g∈mG m,0≤g.1/\g.1 < mC m/\0≤g.2.1/\g.2.1≤(mD m).length
theorem zC{l:List Int}{c:Int}{s:List Int}(h:qV l c=some s):s.length≤2/\∀x∈s,x∈l:=by
 unfold qV at h;cases e:l.findIdx? (λy=>decide (c=y)) with
 |none=>simp_all
 |some i=>
  rw [e] at h;obtain rfl:=Option.some.inj h;have hi:i < l.length:=(List.findIdx?_eq_some_iff_getElem.1 e).1;grind
theorem HN{d:List (List Int)}{c:Int}{s:List Int}(h:tc d c=some s):∃l∈d,qV l c=some s:=by
 simp_all [tc,List.exists_of_findSome?_eq_some]
theorem oa{m:ae}(v:Vd m){d:Nat}{c:Int}{s:List Int}(h:uV m d c=some s):s.length≤2/\∀x∈s,0≤x/\x < mC m:=by
 obtain⟨l,hl,h2⟩:=HN h;cases e:(mD m)[d]? with
 |none=>simp_all
 |some r=>
  rw [e] at hl;have h3:=zC h2;exact⟨h3.1,λx hx=>v.x5 r (List.mem_of_getElem? e) l hl x (h3.2 x hx)⟩
def OA(m:ae)(c:Int)(d:Nat):Int ⊕ List Int:=match uV m d c with
 |some s=>.inr (mF s)
 |none=>.inl (o7 m c d)
theorem yJ{k:Nat}{c:Int}{r:List (List Int)}(hk:10≤k)(hr:r.length≤3)(hl:∀l∈r,l.length≤5):
 cD k c r k 0=some (match tc r c with |some s=>.error (.inr (mF s)) |none=>.ok ()):=by
 have key:=ml (f:=cD k c r) r (λ(_:Unit) j=>j) (λ_ _ l=>match qV l c with |some s=>Except.error (Sum.inr (mF s):Int ⊕ List Int) |none=>.ok ()) (λ_ _=>True) (λx=>some x)
  (λn s j hj _=>by
   refine⟨?_,λ_ _=>trivial⟩;have h5:=hl _ (List.getElem_mem hj);have hck:ck ((j:Int)+1)=some ((j:Int)+1):=dh (by omega) (by omega);simp only [cD,Int.ofNat_lt,hj,if_true,eA hj,bs];rw [G9 (by omega) (by omega),bs];generalize r[j]=l at *;have hb:qV l c=(l.findIdx? λy=>decide (c=y)).map λi=>(if 0 < i then [l[i-1]?.getD 0] else [])++(l[i+1]?).toList:=rfl;cases e:l.findIdx? (λy=>decide (c=y)) with
   |none=>
    simp_all
   |some i=>
    rw [e] at hb;simp only [Option.map_some] at hb;have hi:i < l.length:=(List.findIdx?_eq_some_iff_getElem.1 e).1;rw [hb];have hlen:=(zC hb).1;have c1:ck ((i:Int) - 1)=some ((i:Int) - 1):=dh (by omega) (by omega);have c2:ck ((i:Int)+1)=some ((i:Int)+1):=dh (by omega) (by omega);have ok0:cN (cu (length ([]:List Int)+length [l[i-1]?.getD 0]))=some ():=dE (by simp [cu]);simp only [show(0:Int)≤(i:Int) from Int.natCast_nonneg _,if_true,c1,c2,bs]
    have e1:(if(0:Int) < (i:Int) then((aJ l ((i:Int) - 1)).bind λx11=>(cN (cu (length ([]:List Int)+length [x11]))).bind λ_=>some (([]:List Int)++[x11])) else some ([]:List Int))=some (if 0 < i then [l[i-1]?.getD 0] else []):=by
     by_cases h0:0 < i
     .have g:aJ l ((i:Int) - 1)=some (l[i-1]?.getD 0):=by
       grind [eA,List.getElem?_eq_getElem]
      simp_all
     simp_all
    rw [e1,bs];generalize (if 0 < i then [l[i-1]?.getD 0] else [])=p at *
    have e2:(if(i:Int)+1 < (l.length:Int) then((aJ l ((i:Int)+1)).bind λx18=>(cN (cu (length p+length [x18]))).bind λ_=>some (p++[x18])) else some p)=some (p++(l[i+1]?).toList):=by
     by_cases h1:i+1 < l.length
     .have g:aJ l ((i:Int)+1)=some l[i+1]:=by
       have:((i:Int)+1)=((i+1:Nat):Int):=by omega
       rw [this,eA h1]
      rw [if_pos (by omega),g,bs,List.getElem?_eq_getElem h1];grind [List.getElem?_eq_getElem,dE,length_append,cu,bs]
     grind
    simp_all [bs,I7])
  (λn s _=>by simp [cD]) (n:=k) (s0:=()) (by omega) trivial
 rw [show cD k c r k 0=_ from key]
 congr 1
 have:∀(r:List (List Int)) (j:Nat),eU (λ(_:Unit) _ l=>match qV l c with |some s=>Except.error (Sum.inr (mF s):Int ⊕ List Int) |none=>.ok ()) j r ()=match tc r c with |some s=>.error (.inr (mF s)) |none=>.ok ():=by
  intro r
  induction r with
  |nil=>intro j;rfl
  |cons l r ih=>
   intro j;rw [eU];unfold tc;rw [findSome?_cons];cases qV l c with
   |none=>exact ih (j+1)
   |some s=>rfl
 simp_all
theorem CP{m:ae}{c:Int}:∀{d:Nat},o7 m c d≤d+1
 |0=>by grind [o7]
 |d+1=>by have:=CP (m:=m) (c:=c) (d:=d);grind [o7]
theorem t3{k:Nat}{m:ae}{c:Int}(v:Vd m)(hk:10≤k):∀(d m0:Nat),d < m0->d < (mD m).length->dS k m0 m c (d:Int)=some (OA m c d)
 |d,0,h,_=>absurd h (not_lt_zero _)
 |d,m0+1,h,hd=>by
  have hm:=List.getElem_mem hd
  unfold dS
  rw [eA hd,bs,yJ hk (v.r3 _ hm) (v.l5 _ hm)]
  have hbes:uV m d c=tc (mD m)[d] c:=by unfold uV;simp_all
  cases e:tc (mD m)[d] c with
  |some s=>
   simp_all [oc,OA]
  |none=>
   rw [jh]
   unfold OA
   rw [hbes,e]
   match d,hd,h with
   |0,hd,h=>
    simp_all [o7]
   |d+1,hd,h=>
    have h6:=v.d6
    have c1:ck (((d+1:Nat):Int) - 1)=some (d:Int):=by grind [dh]
    have ih:=t3 v hk d m0 (by omega) (by omega) (c:=c)
    rw [if_pos (by omega),c1,bs,ih,bs]
    rw [hbes.symm] at e
    have hcold:o7 m c (d+1)=o7 m c d+1:=by grind [o7]
    have hle:=CP (m:=m) (c:=c) (d:=d)
    unfold OA
    cases e2:uV m d c with
    |some s=>
     simp only [Jf]
     have:o7 m c d=0:=by cases d <;> simp [o7,e2]
     simp_all
    |none=>
     have c2:ck ((1:Int)+(o7 m c d:Int))=some ((1:Int)+(o7 m c d:Int)):=dh (by omega) (by omega)
     simp only [Jf,O1,c2,bs,if_true,hcold]
     grind
end Go.Proofs.YtcollhgigbijkaaGreat
set_option linter.unusedVariables false
set_option linter.unusedSimpArgs false
namespace Go.Proofs.YtcollhgigbijkaaGreat
open K Go Go.Proofs
def ky(f:Int->Int):List Int:=[f 0,f 1,f 2,f 3,f 4]
def upd(f:Int->Int)(c v:Int):Int->Int:=λx=>if x=c then v else f x
theorem Tt{c:Int}(h0:0≤c)(h:c < 5):c=0\/c=1\/c=2\/c=3\/c=4:=by omega
theorem tg{f:Int->Int}{c:Int}(h0:0≤c)(h:c < 5):aJ (ky f) c=some (f c):=by
 rcases Tt h0 h with rfl |rfl |rfl |rfl |rfl <;> rfl
theorem BJ{f:Int->Int}{c v:Int}(h0:0≤c)(h:c < 5):List.set (ky f) (Int.toNat c) v=ky (upd f c v):=by
 rcases Tt h0 h with rfl |rfl |rfl |rfl |rfl <;> rfl
theorem l9{f g:Int->Int}(h:∀c,0≤c->c < 5->f c=g c):ky f=ky g:=by
 simp_all [ky]
def OX(m:ae)(f:Int->Int)(d:Nat)(c:Int):Int:=match uV m d c with
 |none=>if mH m≤(o7 m c d:Int) then -1 else f c
 |some l=>if 0≤f c then f c+1 else if l.any λx=>decide (mW m≤f x) then 0 else -1
def OC(m:ae)(f:Int->Int)(d:Nat):Int->Int:=λc=>if 0≤c/\c < mC m then OX m f d c else f c
theorem vb{k:Nat}{m:ae}{f:Int->Int}(hw:0≤mW m){s:List Int}(hs:s.length < k)(hs2:s.length≤1000)(hx:∀x∈s,0≤x/\x < 5):
 bS k m (ky f) s k 0=some (match s.find? (λx=>decide (mW m≤f x)) with |some x=>.error x |none=>.ok ()):=by
 have key:=ml (f:=bS k m (ky f) s) s (λ(_:Unit) j=>j) (λ_ _ x=>if decide (mW m≤f x)=true then Except.error x else .ok ()) (λ_ _=>True) (λx=>some x)
  (λn _ j hj _=>by
   refine⟨?_,λ_ _=>trivial⟩;have h5:=hx _ (List.getElem_mem hj);have hck:ck ((j:Int)+1)=some ((j:Int)+1):=dh (by omega) (by omega);have him:sb (0:Int) m.2.1=mW m:=by show sb 0 (mW m)=mW m;grind [sb]
   simp only [bS,Int.ofNat_lt,hj,if_true,eA hj,bs,dE h5,tg h5.1 h5.2,him,hck,decide_eq_true_eq];grind)
  (λn s _=>by simp [bS]) (n:=k) (s0:=()) hs trivial
 rw [show bS k m (ky f) s k 0=_ from key]
 congr 1
 have:∀(s:List Int) (j:Nat),eU (λ(_:Unit) _ x=>if decide (mW m≤f x)=true then Except.error x else .ok ()) j s ()=match s.find? (λx=>decide (mW m≤f x)) with |some x=>.error x |none=>.ok ():=by
  intro s
  induction s with
  |nil=>intro j;rfl
  |cons x s ih=>
   intro j;rw [eU,find?_cons];grind
 simp_all
theorem yB{s:List Int}:(mF s).length=s.length:=by
 unfold mF;grind
def Aj(m:ae)(f:Int->Int)(l:List Int):Int:=((mF l).find? λx=>decide (mW m≤f x)).getD (-1)
theorem tI{k:Nat}{m:ae}{f:Int->Int}{c:Int}{d:Nat}(v:Vd m)(hk:10≤k)(hd:d < (mD m).length){l:List Int}(h:uV m d c=some l):
 cY k m (ky f) c (d:Int)=some (Aj m f l):=by
 have h6:=v.d6
 have c5:=v.c5
 have hb:=oa v h
 unfold cY
 rw [t3 v hk d k (by omega) hd,bs]
 unfold OA
 rw [h]
 have e1:HL (Sum.inr (mF l):Int ⊕ List Int) (λn=>ic k n) (λl=>ib k l)=some (mF l):=rfl
 rw [e1,bs,vb v.w0 (by rw [yB];omega) (by rw [yB];omega) λx hx=>by grind [nB]]
 unfold Aj
 cases(mF l).find? λx=>decide (mW m≤f x) with
 |none=>rw [jh];rfl
 |some x=>rw [oc];rfl
theorem BF{m:ae}{f:Int->Int}{l:List Int}(hx:∀x∈l,0≤x):0≤Aj m f l↔(l.any λx=>decide (mW m≤f x))=true:=by
 unfold Aj;rw [List.any_eq_true];cases e:(mF l).find? λx=>decide (mW m≤f x) with
 |none=>
  simp_all [Option.getD_none,List.find?_eq_none,nB]
 |some x=>
  grind [List.mem_of_find?_eq_some,nB]
theorem GU{k:Nat}{m:ae}{f:Int->Int}{d:Nat}(v:Vd m)(hk:10≤k)(hd:d < (mD m).length)(hf:∀c,0≤c->c < mC m-> -1≤f c/\f c≤1000):
 gh k m (ky f) (d:Int)=some (ky (OC m f d)):=by
 have c5:=v.c5
 have c1:=v.c1
 have h6:=v.d6
 unfold gh
 have key:=kZ (T:=List Int×Int) (f:=cp k m (ky f) (d:Int)) (List.range (mC m).toNat) (λ(g:Int->Int) j=>(ky g,j)) (λg j _=>upd g (j:Int) (OX m f d (j:Int))) (λj g=>g=λc=>if 0≤c/\c < (j:Int) then OX m f d c else f c) (λg=>some (ky g))
  (λn g j hj hg=>by
   rw [length_range] at hj;have j0:(0:Int)≤(j:Int):=Int.natCast_nonneg _;have j1:(j:Int) < mC m:=by omega
   have j5:(j:Int) < 5:=by omega
   have hck:ck ((j:Int)+1)=some ((j:Int)+1):=dh (by omega) (by omega);have hp:cN ((0:Int)≤(j:Int)/\(j:Int) < 5)=some ():=dE ⟨j0,j5⟩;have hgj:g (j:Int)=f (j:Int):=by simp_all
   have hfj:=hf _ j0 j1;refine⟨?_,?_⟩
   .have hm1:(m.1:Int)=mC m:=rfl;have hm2:m.2.2.2.1=mH m:=rfl;simp only [cp,hm1,hm2,j1,if_true,t3 v hk d k (by omega) hd,bs,hp,tg j0 j5,hck,BJ j0 j5];unfold OA OX;cases e:uV m d (j:Int) with
    |none=>
     simp only [Jf,O1,if_true];by_cases hh:mH m≤(o7 m (j:Int) d:Int)
     .simp_all
     .simp only [hh,if_false,bs];refine congrArg (λr=>cp k m (ky f) (d:Int) n (r,(j:Int)+1)) (l9 λc _ _=>?_);simp_all [upd]
    |some l=>
     have hb:=oa v e;simp only [Jf,Bool.false_eq_true,if_false,not_false_eq_true,if_true];by_cases h0:0≤f (j:Int)
     .have hck2:ck (f (j:Int)+1)=some (f (j:Int)+1):=dh (by omega) (by omega);simp_all
     .simp only [h0,if_false,tI v hk hd e,bs];have ht:=BF (m:=m) (f:=f) (l:=l) λx hx=>(hb.2 x hx).1;by_cases hany:(l.any λx=>decide (mW m≤f x))=true
      .simp_all
      .rw [if_neg λh=>hany (ht.1 h),bs,if_neg hany];refine congrArg (λr=>cp k m (ky f) (d:Int) n (r,(j:Int)+1)) (l9 λc _ _=>?_);grind [upd]
   .rw [hg];funext c;unfold upd;grind)
  (λn g hg=>by
   rw [length_range];have:((mC m).toNat:Int)=mC m:=by omega
   simp_all [cp,if_neg,mC]) (n:=k) (s0:=f) (by grind) (by grind)
 rw [show cp k m (ky f) (d:Int) k (ky f,0)=_ from key.1,bs]
 congr 1
 refine l9 λc _ _=>?_
 rw [key.2,length_range]
 unfold OC
 grind
end Go.Proofs.YtcollhgigbijkaaGreat
set_option linter.unusedVariables false
set_option linter.unusedSimpArgs false
namespace Go.Proofs.YtcollhgigbijkaaGreat
open K Go Go.Proofs
def cr(F:Nat->Int->Int):List (List Int):=[ky (F 0),ky (F 1),ky (F 2),ky (F 3),ky (F 4),ky (F 5),ky (F 6)]
def Af(F:Nat->Int->Int)(n:Nat)(f:Int->Int):Nat->Int->Int:=λi=>if i=n then f else F i
theorem To{n:Nat}(h:n < 7):n=0\/n=1\/n=2\/n=3\/n=4\/n=5\/n=6:=by omega
theorem ux{F:Nat->Int->Int}{n:Nat}(h:n < 7):aJ (cr F) (n:Int)=some (ky (F n)):=by
 rcases To h with rfl |rfl |rfl |rfl |rfl |rfl |rfl <;> rfl
theorem NZ{F:Nat->Int->Int}{n:Nat}{f:Int->Int}(h:n < 7):List.set (cr F) n (ky f)=cr (Af F n f):=by
 rcases To h with rfl |rfl |rfl |rfl |rfl |rfl |rfl <;> rfl
def OH(m:ae)(B:Int->Bool):Nat->Int->Int
 |0=>λc=>if B c then mW m else -1
 |n+1=>OC m (OH m B n) n
theorem xQ{m:ae}(v:Vd m){B:Int->Bool}:∀(n:Nat) (c:Int),0≤c->c < mC m->OH m B n c=lO m B n c
 |0,c,_,_=>rfl
 |n+1,c,h0,h1=>by
  have ih:=xQ v (B:=B) n
  show OC m (OH m B n) n c=lO m B (n+1) c
  unfold OC
  rw [if_pos ⟨h0,h1⟩]
  unfold OX lO
  cases e:uV m n c with
  |none=>simp_all
  |some l=>
   have hb:=(oa v e).2
   grind
def NY(m:ae)(B:Int->Bool):Nat->Int->Int:=λn=>if n≤(mD m).length then OH m B n else λ_=>0
def qN(S:Int):Int->Bool:=λc=>decide (eG S c.toNat)
theorem FG{k:Nat}{m:ae}{S:Int}(hk:10≤k)(hS:lm S):eD k m S=some (ky λc=>if qN S c then mW m else -1):=by
 unfold eD
 have key:=kZ (T:=List Int×Int) (f:=cC k m S) (List.range 5) (λ(g:Int->Int) j=>(ky g,j)) (λg j _=>upd g (j:Int) (if qN S (j:Int) then mW m else -1)) (λj g=>∀c,0≤c->c < (j:Int)->g c=if qN S c then mW m else -1) (λg=>some (ky g))
  (λn g j hj hg=>by
   rw [length_range] at hj;have j0:(0:Int)≤(j:Int):=Int.natCast_nonneg _;have j5:(j:Int) < 5:=by omega
   have hck:ck ((j:Int)+1)=some ((j:Int)+1):=dh (by omega) (by omega);have hp:cN ((0:Int)≤(j:Int)/\(j:Int) < 5)=some ():=dE ⟨j0,j5⟩;have hp':cN ((0:Int)≤(j:Int)/\True)=some ():=dE ⟨j0,trivial⟩;refine⟨?_,?_⟩
   .simp only [cC,j5,if_true,hp,hp',bs,Hi (k:=k) hS (by omega:j < 8),hck,BJ j0 j5];have hin:qN S (j:Int)=decide (eG S j):=by unfold qN;simp_all
    rw [hin];cases hh:decide (eG S j) with
    |true=>
     simp only [if_true,bs];refine congrArg (λr=>cC k m S n (r,(j:Int)+1)) (l9 λc _ _=>?_);simp_all [upd]
    |false=>simp_all
   .intro c hc0 hc1;unfold upd;grind)
  (λn g hg=>by
   simp_all [length_range,cC,if_neg]) (n:=k) (s0:=λ_=>0) (by grind) (λc h0 h1=>by omega)
 have e0:([(0:Int),(0:Int),(0:Int),(0:Int),(0:Int)]:List Int)=ky λ_=>0:=rfl;rw [e0,show cC k m S k (ky λ_=>0,0)=_ from key.1,bs];refine congrArg some (l9 λc h0 h5=>?_);simp_all
theorem sE{k:Nat}{m:ae}{S:Int}(v:Vd m)(hk:10≤k)(hS:lm S):lb k m S=some (cr (NY m (qN S))):=by
 have d6:=v.d6;have d1:=v.d1;have w0:=v.w0;have w3:=v.w3;unfold lb i8;have hm:cN (0≤S/\S < 256)=some ():=dE hS;have hp0:cN ((0:Int)≤0/\(0:Int) < 7)=some ():=dE ⟨by omega,by omega⟩;rw [hm,bs,FG hk hS,bs,hp0,bs]
 have key:=kZ (T:=List (List Int)×Int) (f:=bL k m) (mD m) (λ(F:Nat->Int->Int) j=>(cr F,j)) (λF j _=>Af F (j+1) (OC m (F j) j)) (λj F=>F=λn=>if n≤j then OH m (qN S) n else λ_=>0) (λF=>some (cr F))
  (λn F j hj hF=>by
   have j0:(0:Int)≤(j:Int):=Int.natCast_nonneg _;have hck:ck ((j:Int)+1)=some ((j:Int)+1):=dh (by omega) (by omega);have hp:cN ((0:Int)≤(j:Int)/\(j:Int) < 7)=some ():=dE ⟨j0,by omega⟩;have hp2:cN ((0:Int)≤(j:Int)+1/\(j:Int)+1 < 7)=some ():=dE ⟨by omega,by omega⟩;have hFj:F j=OH m (qN S) j:=by simp_all
   have hj':(j:Int) < (m.2.2.2.2.1.length:Int):=Int.ofNat_lt.2 hj
   have hnx:=GU (k:=k) (f:=F j) v hk hj (λc h0 h1=>by
    rw [hFj,xQ v j c h0 h1];have:=HV (B:=qN S) w0 (d:=j) (c:=c);have:=HU (B:=qN S) w3 (d:=j) (c:=c);omega)
   refine⟨?_,?_⟩
   .simp only [bL,hj',if_true,hck,hp,bs,ux (F:=F) (show j < 7 by omega),hnx,hp2];grind [Int.toNat,NZ]
   .rw [hF];funext i;unfold Af;by_cases e:i=j+1
    .subst e;simp only [if_true,Nat.le_refl];rfl
    grind)
  (λn F hF=>by
   unfold bL;simp_all) (n:=k) (s0:=Af (λ_ _=>0) 0 (λc=>if qN S c then mW m else -1)) (by omega) (by
   funext n;unfold Af;by_cases e:n=0
   .subst e;rfl
   simp_all)
 have e0:List.set sC (Int.toNat 0) (ky λc=>if qN S c then mW m else -1)=cr (Af (λ_ _=>0) 0 (λc=>if qN S c then mW m else -1)):=rfl;rw [e0,show bL k m k (cr (Af (λ_ _=>0) 0 (λc=>if qN S c then mW m else -1)),0)=_ from key.1,bs];rw [key.2];rfl
theorem CN{m:ae}(v:Vd m){B:Int->Bool}{n:Nat}{c:Int}(hn:n≤(mD m).length)(h0:0≤c)(h1:c < mC m):NY m B n c=lO m B n c:=by
 simp_all [NY,if_pos,xQ]
end Go.Proofs.YtcollhgigbijkaaGreat
set_option linter.unusedVariables false
set_option linter.unusedSimpArgs false
namespace Go.Proofs.YtcollhgigbijkaaGreat
open K Go Go.Proofs
def wk{σ:Type}(bad:σ->Int->Option Int)(add:σ->Int->σ):List Int->σ->Except Int σ
 |[],s=>.ok s
 |x::l,s=>match bad s x with
  |some e=>.error e
  |none=>wk bad add l (add s x)
theorem wL{σ:Type}{bad:σ->Int->Option Int}{add:σ->Int->σ}:∀(l:List Int) (j:Nat) (s:σ),eU (λs _ x=>match bad s x with |some e=>Except.error e |none=>.ok (add s x)) j l s=wk bad add l s
 |[],j,s=>rfl
 |x::l,j,s=>by
  rw [eU,wk]
  cases bad s x with
  |some e=>rfl
  |none=>exact wL l (j+1) (add s x)
theorem vB{σ:Type}{bad:σ->Int->Option Int}{add:σ->Int->σ}:∀(a b:List Int) (s:σ),wk bad add (a++b) s=match wk bad add a s with | .error e=>.error e | .ok s'=>wk bad add b s'
 |[],b,s=>rfl
 |x::a,b,s=>by
  rw [cons_append,wk,wk]
  cases bad s x with
  |some e=>rfl
  |none=>exact vB a b (add s x)
theorem BB{σ:Type}{bad:σ->Int->Option Int}{add:σ->Int->σ}:∀(r:List (List Int)) (j:Nat) (s:σ),eU (λs _ l=>wk bad add l s) j r s=wk bad add r.flatten s
 |[],j,s=>rfl
 |l::r,j,s=>by
  rw [eU,flatten_cons,vB]
  cases wk bad add l s with
  |error e=>rfl
  |ok s'=>exact BB r (j+1) s'
theorem E5{σ τ:Type}{b1:σ->Int->Option Int}{a1:σ->Int->σ}{b2:τ->Int->Option Int}{a2:τ->Int->τ}(R:σ->τ->Prop)(hb:∀s t x,R s t->b1 s x=b2 t x)(ha:∀s t x,R s t->b1 s x=none->R (a1 s x) (a2 t x)):
 ∀(l:List Int) (s:σ) (t:τ),R s t->(∃e,wk b1 a1 l s= .error e/\wk b2 a2 l t= .error e)\/∃s' t',wk b1 a1 l s= .ok s'/\wk b2 a2 l t= .ok t'/\R s' t'
 |[],s,t,h=>.inr ⟨s,t,rfl,rfl,h⟩
 |x::l,s,t,h=>by
  rw [wk,wk,<-hb s t x h]
  cases e:b1 s x with
  |some c=>simp_all
  |none=>exact E5 R hb ha l _ _ (ha s t x h e)
theorem Ab{σ:Type}{bad:σ->Int->Option Int}{add:σ->Int->σ}(P:σ->Prop)(hs:∀s x,P s->bad s x=none->P (add s x)):∀(l:List Int) (s s':σ),P s->wk bad add l s= .ok s'->P s'
 |[],s,s',h,e=>by cases e;exact h
 |x::l,s,s',h,e=>by
  rw [wk] at e
  cases hb:bad s x with
  |some c=>simp_all
  |none=>rw [hb] at e;exact Ab P hs l _ s' (hs s x h hb) e
theorem kx{k:Nat}{a b c:Int}:dz k a b c=some (decide (b≤a/\a≤c)):=by
 grind [dz]
theorem QO{n:Int}(h:1≤n/\n≤5):ck (n - 1)=some (n - 1):=by grind [dh]
def zY(C:Int)(s x:Int):Option Int:=if¬(0≤x/\x < C) then some 3 else if eG s x.toNat then some 4 else none
def xR(s x:Int):Int:=Cd .u8 s (nU .u8 1 x)
def Bh(C:Int)(s:List Int)(x:Int):Option Int:=if¬(0≤x/\x < C) then some 3 else if x∈s then some 4 else none
def CY(s:List Int)(x:Int):List Int:=s++[x]
theorem BY:lm 0:=⟨by decide,by decide⟩
theorem LN{C s x:Int}(h:zY C s x=none):0≤x/\x < C:=by
 unfold zY at h;grind
theorem ou{k:Nat}{s x:Int}(hs:lm s)(h0:0≤x)(h8:x < 8):fK k s x=some (xR s x)/\lm (xR s x)/\∀i:Nat,eG (xR s x) i↔eG s i\/(i:Int)=x:=by
 have h1:=Na h0 h8;have h2:=Ny hs h1.1;refine⟨?_,h2.1,λi=>?_⟩
 .unfold fK;rw [dE h0,bs];rfl
 .show eG (Cd .u8 s (nU .u8 1 x)) i↔_;simp_all
theorem zD{C s x:Int}(hC:C≤5)(hs:lm s)(h:zY C s x=none):lm (xR s x):=by
 have:=LN h;exact(ou (k:=0) hs this.1 (by omega)).2.1
def sw(C:Int)(r:List (List Int)):Int:=if 3 < r.length then 6 else match wk (Bh C) CY r.flatten [] with | .error e=>e | .ok _=>0
theorem Ed{k:Nat}{m:ae}(hC:1≤mC m/\mC m≤5){l:List Int}(hk:l.length < k)(hl:l.length≤1000){s:Int}(hs:lm s):
 c9 k m l k (s,0)=some (wk (zY (mC m)) xR l s):=by
 have key:=ml (T:=Int×Int) (f:=c9 k m l) l (λ(s:Int) j=>(s,j)) (λs _ x=>match zY (mC m) s x with |some e=>Except.error e |none=>.ok (xR s x)) (λ_ s=>lm s) (λr=>some r)
  (λn s j hj hs=>by
   have hck:ck ((j:Int)+1)=some ((j:Int)+1):=dh (by omega) (by omega);have hc:ck (m.1 - 1)=some (m.1 - 1):=QO hC;refine⟨?_,λs' e=>?_⟩
   .simp only [c9,Int.ofNat_lt,hj,if_true,eA hj,bs,hc,kx];generalize l[j]=x;by_cases h:0≤x/\x < mC m
    .have h':0≤x/\x≤m.1 - 1:=⟨h.1,by grind⟩;have hh:=Hi (k:=k) hs (i:=x.toNat) (by omega);have ex:((x.toNat:Nat):Int)=x:=by omega
     rw [ex] at hh;simp only [h',and_self,decide_true,not_true_eq_false,if_false,hh,bs];have eb:zY (mC m) s x=if eG s x.toNat then some 4 else none:=by unfold zY;simp_all
     rw [eb];by_cases h2:eG s x.toNat
     .simp_all
     .simp only [h2,decide_false,Bool.false_eq_true,if_false,(ou (k:=k) hs h.1 (by omega)).1,bs,hck]
    .have h':¬(0≤x/\x≤m.1 - 1):=λhh=>h ⟨hh.1,by grind⟩;have eb:zY (mC m) s x=some 3:=by unfold zY;simp_all
     simp_all
   .cases e2:zY (mC m) s l[j] with
    |some c=>simp_all
    |none=>grind [zD])
  (λn s _=>by simp [c9]) (n:=k) (s0:=s) hk hs
 simp_all [c9,wL]
theorem Ee{k:Nat}{m:ae}(hC:1≤mC m/\mC m≤5){r:List (List Int)}(hk:r.length < k)(hr:r.length≤1000)(hl:∀l∈r,l.length < k/\l.length≤1000):
 de k m r k (0,0)=some (match wk (zY (mC m)) xR r.flatten 0 with | .error e=>.error e | .ok _=>.ok ()):=by
 have key:=ml (T:=Int×Int) (f:=de k m r) r (λ(s:Int) j=>(s,j)) (λs _ l=>wk (zY (mC m)) xR l s) (λ_ s=>lm s) (λx=>some (match x with | .error e=>Except.error e | .ok _=>.ok ()))
  (λn s j hj hs=>by
   have hck:ck ((j:Int)+1)=some ((j:Int)+1):=dh (by omega) (by omega);have hlj:=hl _ (List.getElem_mem hj);refine⟨?_,λs' e=>Ab lm (λs x=>zD hC.2) _ _ _ hs e⟩;simp only [de,Int.ofNat_lt,hj,if_true,eA hj,bs,Ed hC hlj.1 hlj.2 hs];cases wk (zY (mC m)) xR r[j] s with
   |error e=>rw [oc]
   |ok s'=>rw [jh,hck,bs])
  (λn s _=>by simp [de]) (n:=k) (s0:=0) hk BY
 simp_all [de,BB]
theorem Kt{C:Int}(hC:C≤5)(l:List Int):(∃e,wk (zY C) xR l 0= .error e/\wk (Bh C) CY l []= .error e)\/∃s t,wk (zY C) xR l 0= .ok s/\wk (Bh C) CY l []= .ok t/\(lm s/\∀i:Nat,eG s i↔(i:Int)∈t):=by
 refine E5 (λs t=>lm s/\∀i:Nat,eG s i↔(i:Int)∈t) (λs t x h=>?_) (λs t x h hb=>?_) l 0 [] ⟨BY,λi=>by simp [eG]⟩
 .unfold zY Bh;grind
 .have hx:=LN hb;have hw:=ou (k:=0) h.1 hx.1 (by omega);simp_all [CY]
theorem JH{k:Nat}{m:ae}(hC:1≤mC m/\mC m≤5){r:List (List Int)}(hk:1000 < k)(hr:r.length≤1000)(hl:∀l∈r,l.length≤1000):iK k m r=some (sw (mC m) r):=by
 unfold iK sw;by_cases h3:3 < r.length
 .grind
 .rw [if_neg (by omega),if_neg h3,Ee hC (by omega) hr λl hh=>⟨by grind,hl l hh⟩];rcases Kt hC.2 r.flatten with⟨e,h1,h2⟩ |⟨s,t,h1,h2,_⟩
  .simp_all [oc]
  simp_all [jh]
end Go.Proofs.YtcollhgigbijkaaGreat
set_option linter.unusedVariables false
set_option linter.unusedSimpArgs false
namespace Go.Proofs.YtcollhgigbijkaaGreat
open K Go Go.Proofs
theorem rH:∀(n:Nat) (l:List Int),l.Nodup->(∀x∈l,0≤x/\x < (n:Int))->l.length≤n
 |0,l,_,h=>by
  cases l with
  |nil=>simp
  |cons x l=>have:=h x (by simp);omega
 |n+1,l,hn,h=>by
  have h1:=rH n (l.erase (n:Int)) (hn.erase _) (λx hx=>by
   grind)
  grind
theorem Qk{C:Int}{s:List Int}{x:Int}(h:Bh C s x=none):(0≤x/\x < C)/\x∉s:=by
 unfold Bh at h;grind
def Mt(C:Int)(s:List Int):Prop:=s.Nodup/\∀x∈s,0≤x/\x < C
theorem Mt.add{C:Int}{s:List Int}{x:Int}(h:Mt C s)(hb:Bh C s x=none):Mt C (CY s x):=by
 have:=Qk hb;refine⟨?_,λy hy=>?_⟩
 .unfold CY;rw [nodup_append];exact⟨h.1,by simp,λa ha b hb e=>by simp_all⟩
 .rcases List.mem_append.1 hy with hy |hy
  .exact h.2 y hy
  simp_all
theorem Mt.len{C:Int}{s:List Int}(hC:0≤C/\C≤5)(h:Mt C s):s.length≤5:=by
 have:=rH C.toNat s h.1 λx hx=>⟨(h.2 x hx).1,by have:=(h.2 x hx).2;omega⟩;omega
theorem E6{C:Int}:∀{l s t:List Int},wk (Bh C) CY l s= .ok t->t=s++l
 |[],s,t,e=>by cases e;simp
 |x::l,s,t,e=>by
  rw [wk] at e
  cases hb:Bh C s x with
  |some c=>simp_all
  |none=>
   rw [hb] at e
   have:=E6 e
   simp_all [CY]
theorem BD{C:Int}:∀{l s:List Int},(s++l).Nodup->(∀x∈l,0≤x/\x < C)->wk (Bh C) CY l s= .ok (s++l)
 |[],s,_,_=>by simp [wk]
 |x::l,s,hn,hr=>by
  have hx:x∉s:=by
   grind
  have hb:Bh C s x=none:=by
   unfold Bh;simp_all
  rw [wk,hb];simp only [];rw [BD (s:=CY s x) (by simp_all [CY]) λy hy=>hr y (mem_cons_of_mem _ hy)];simp_all [CY]
theorem ww{C:Int}{r:List (List Int)}:sw C r=0↔r.length≤3/\r.flatten.Nodup/\∀x∈r.flatten,0≤x/\x < C:=by
 unfold sw;constructor
 .intro h;split at h
  .cases h
  .cases e:wk (Bh C) CY r.flatten [] with
   |ok t=>
    have h1:=Ab (Mt C) (λs x=>Mt.add) _ _ _ ⟨nodup_nil,λx hx=>by cases hx⟩ e;have h2:=E6 e;rw [nil_append] at h2;subst h2;exact⟨by omega,h1.1,h1.2⟩
   |error c=>
    rw [e] at h;exfalso
    have:∀(l s:List Int),wk (Bh C) CY l s≠.error 0:=by
     intro l
     induction l with
     |nil=>intro s h;cases h
     |cons x l ih=>
      grind [wk,Bh]
    simp_all
 .rintro⟨h1,h2,h3⟩;rw [if_neg (by omega),BD (by simp_all) h3]
def Hk(m:ae)(g:bY):Int:=if(0≤g.1/\g.1 < mC m)/\0≤g.2.1/\g.2.1≤(mD m).length then 0 else 3
theorem Nw{k:Nat}{m:ae}(hC:1≤mC m/\mC m≤5){g:bY}:fR k m g=some (Hk m g):=by
 have hc:ck (m.1 - 1)=some (m.1 - 1):=QO hC;unfold fR Hk;have e:decide (0≤g.1/\g.1≤m.1 - 1)=decide (0≤g.1/\g.1 < mC m):=decide_eq_decide.2 ⟨λh=>⟨h.1,by grind⟩,λh=>⟨h.1,by grind⟩⟩;rw [hc,bs,kx,bs,e];by_cases h1:0≤g.1/\g.1 < mC m
 .by_cases h2:0≤g.2.1/\g.2.1≤(mD m).length <;> simp [h1,h2,kx]
 grind
def ly{α:Type}(f:α->Int)(l:List α):Int:=((l.map f).find? λe=>decide (e≠0)).getD 0
theorem sd{α:Type}(f:α->Int):∀(l:List α) (j:Nat),eU (λ(_:Unit) _ x=>if¬(f x=0) then Except.error (f x) else .ok ()) j l ()=if ly f l=0 then .ok () else .error (ly f l)
 |[],j=>by simp [eU,ly]
 |x::l,j=>by
  rw [eU]
  by_cases h:f x=0
  .
   have:ly f (x::l)=ly f l:=by simp [ly,h]
   rw [this]
   simp only [h,not_true_eq_false,if_false]
   exact sd f l (j+1)
  simp_all [ly]
theorem oL{α:Type}{f:α->Int}{l:List α}:ly f l=0↔∀x∈l,f x=0:=by
 induction l with
 |nil=>simp [ly]
 |cons x l ih=>
  grind [ly]
structure Sm(m:ae):Prop where
 d:(mD m).length≤1000
 r:∀r∈mD m,r.length≤1000/\∀l∈r,l.length≤1000
 g:(mG m).length≤1000
def qe(m:ae):Int:=
 if¬((1≤mC m/\mC m≤5)/\(0≤mW m/\mW m≤3)/\(0≤mS m/\mS m≤3)/\1≤mH m/\mH m≤3) then 1
 else if(mD m).length=0 then 7 else if 6 < (mD m).length then 6 else if¬(ly (sw (mC m)) (mD m)=0) then ly (sw (mC m)) (mD m)
 else if 8 < (mG m).length then 6 else ly (Hk m) (mG m)
theorem JI{k:Nat}{m:ae}(hs:Sm m)(hk:1000 < k):mh k m=some (qe m):=by
 unfold mh qe;simp only [kx,bs];by_cases h1:1≤mC m/\mC m≤5
 .by_cases h2:0≤mW m/\mW m≤3
  .by_cases h3:0≤mS m/\mS m≤3
   .by_cases h4:1≤mH m/\mH m≤3
    .have e1:(1≤m.1/\m.1≤5)=True:=eq_true h1;have e2:(0≤m.2.1/\m.2.1≤3)=True:=eq_true h2;have e3:(0≤m.2.2.1/\m.2.2.1≤3)=True:=eq_true h3;have e4:(1≤m.2.2.2.1/\m.2.2.2.1≤3)=True:=eq_true h4;simp only [e1,e2,e3,e4,decide_true,not_true_eq_false,if_false,Bool.not_true,Bool.false_eq_true,bs,and_self,h1,h2,h3,h4];by_cases h5:(mD m).length=0
     .simp_all
     .rw [if_neg (show¬((m.2.2.2.2.1.length:Int) < 1) by grind),if_neg h5];by_cases h6:6 < (mD m).length
      .grind
      .rw [if_neg (show¬((6:Int) < (m.2.2.2.2.1.length:Int)) by grind),if_neg h6]
       have key:=ml (f:=eQ k m) (mD m) (λ(_:Unit) j=>j) (λ_ _ x=>if¬(sw (mC m) x=0) then Except.error (sw (mC m) x) else .ok ()) (λ_ _=>True) (λr=>some r)
        (λn s j hj _=>by
         have hck:ck ((j:Int)+1)=some ((j:Int)+1):=dh (by omega) (by omega);have hr:=hs.r _ (List.getElem_mem hj);refine⟨?_,λ_ _=>trivial⟩;have hj':(j:Int) < (m.2.2.2.2.1.length:Int):=Int.ofNat_lt.2 hj;have hg:aJ m.2.2.2.2.1 (j:Int)=some (mD m)[j]:=eA hj;simp only [eQ,hj',if_true,hg,bs,JH h1 hk hr.1 hr.2];grind)
        (λn s _=>by
         unfold eQ;simp_all) (n:=k) (s0:=()) (by omega) trivial
       rw [show eQ k m k 0=_ from key,sd];by_cases h7:ly (sw (mC m)) (mD m)=0
       .rw [if_pos h7,jh,show(if¬(ly (sw (mC m)) (mD m)=0) then ly (sw (mC m)) (mD m) else if 8 < (mG m).length then 6 else ly (Hk m) (mG m))=(if 8 < (mG m).length then 6 else ly (Hk m) (mG m)) from if_neg (λhn=>hn h7)];by_cases h8:8 < (mG m).length
        .grind
        .rw [if_neg (show¬((8:Int) < (m.2.2.2.2.2.length:Int)) by grind),if_neg h8]
         have key:=ml (f:=eP k m) (mG m) (λ(_:Unit) j=>j) (λ_ _ x=>if¬(Hk m x=0) then Except.error (Hk m x) else .ok ()) (λ_ _=>True) (λr=>some r)
          (λn s j hj _=>by
           have hck:ck ((j:Int)+1)=some ((j:Int)+1):=dh (by omega) (by omega);refine⟨?_,λ_ _=>trivial⟩;have hj':(j:Int) < (m.2.2.2.2.2.length:Int):=Int.ofNat_lt.2 hj;have hg:aJ m.2.2.2.2.2 (j:Int)=some (mG m)[j]:=eA hj;simp only [eP,hj',if_true,hg,bs,Nw h1];grind)
          (λn s _=>by
           simp_all [eP,if_neg,Int.lt_irrefl]) (n:=k) (s0:=()) (by omega) trivial
         rw [show eP k m k 0=_ from key,sd];by_cases h9:ly (Hk m) (mG m)=0
         .rw [if_pos h9,jh,h9]
         .rw [if_neg h9,oc]
       .rw [if_neg h7,oc,if_pos h7]
    grind
   grind
  grind
 grind
end Go.Proofs.YtcollhgigbijkaaGreat
set_option linter.unusedVariables false
set_option linter.unusedSimpArgs false
namespace Go.Proofs.YtcollhgigbijkaaGreat
open K Go Go.Proofs
theorem ue{r:List (List Int)}{l:List Int}(h:r.flatten.Nodup)(hl:l∈r):l.Nodup:=by
 grind
theorem IM{σ:Type}{bad:σ->Int->Option Int}{add:σ->Int->σ}{x:Int}{l:List Int}{s:σ}{e:Int}(h:bad s x=some e):wk bad add (x::l) s= .error e:=by rw [wk,h]
theorem IJ{σ:Type}{bad:σ->Int->Option Int}{add:σ->Int->σ}{x:Int}{l:List Int}{s:σ}(h:bad s x=none):wk bad add (x::l) s=wk bad add l (add s x):=by rw [wk,h]
theorem Vd.of{m:ae}(h:qe m=0):Vd m:=by
 unfold qe at h;by_cases h1:(1≤mC m/\mC m≤5)/\(0≤mW m/\mW m≤3)/\(0≤mS m/\mS m≤3)/\1≤mH m/\mH m≤3
 .rw [if_neg (λhn=>hn h1)] at h;by_cases h2:(mD m).length=0
  .omega
  .rw [if_neg h2] at h;by_cases h3:6 < (mD m).length
   .omega
   .rw [if_neg h3] at h;by_cases h4:ly (sw (mC m)) (mD m)=0
    .rw [if_neg (λhn=>hn h4)] at h;by_cases h5:8 < (mG m).length
     .omega
     .rw [if_neg h5] at h;have hd:=λr hr=>ww.1 (oL.1 h4 r hr);have hx:∀r∈mD m,∀l∈r,∀x∈l,0≤x/\x < mC m:=λr hr l hl x hx=>(hd r hr).2.2 x (List.mem_flatten.2 ⟨l,hl,hx⟩)
      exact⟨h1.1.1,h1.1.2,h1.2.1.1,h1.2.1.2,h1.2.2.1.1,h1.2.2.1.2,h1.2.2.2.1,h1.2.2.2.2,by omega,by omega,λr hr=>(hd r hr).1,λr hr l hl=>by
       have hn:l.Nodup:=ue (hd r hr).2.1 hl;have:=rH (mC m).toNat l hn λx hxx=>by grind
       omega,hx,λr hr=>(hd r hr).2.1,by omega,λg hg=>by
        grind [oL,Hk]⟩
    omega
 omega
theorem Vd.chk{m:ae}(v:Vd m):qe m=0:=by
 unfold qe;have h1:(1≤mC m/\mC m≤5)/\(0≤mW m/\mW m≤3)/\(0≤mS m/\mS m≤3)/\1≤mH m/\mH m≤3:=⟨⟨v.c1,v.c5⟩,⟨v.w0,v.w3⟩,⟨v.s0,v.s3⟩,v.h1,v.h3⟩
 have h4:ly (sw (mC m)) (mD m)=0:=oL.2 λr hr=>ww.2 ⟨v.r3 r hr,v.nd r hr,λx hx=>by
  obtain⟨l,hl,hx⟩:=List.mem_flatten.1 hx;exact v.x5 r hr l hl x hx⟩
 have h9:ly (Hk m) (mG m)=0:=oL.2 λg hg=>by
  have:=v.gl g hg;unfold Hk;omega
 have d1:=v.d1;have d6:=v.d6;have g8:=v.g8;omega
theorem Vd.sm{m:ae}(v:Vd m):Sm m:=⟨by have:=v.d6;omega,λr hr=>⟨by have:=v.r3 r hr;omega,λl hl=>by have:=v.l5 r hr l hl;omega⟩,by have:=v.g8;omega⟩
def uW(C:Int)(p:Option Int)(x:Int):Option Int:=if¬(0≤x/\x < C) then some 3 else if p.any (λy=>decide (x≤y)) then some 5 else none
def KJ(C:Int)(p:Option Int×Int)(x:Int):Option Int:=uW C p.1 x
def OI(p:Option Int×Int)(x:Int):Option Int×Int:=(some x,xR p.2 x)
def KT(p:Option Int)(x:Int):Option Int:=some x
def qW(C:Int)(b:List Int):Int:=match wk (uW C) KT b none with | .error e=>e | .ok _=>0
def gR(b:List Int):Int:=b.foldl xR 0
theorem LO{C:Int}{p:Option Int}{x:Int}(h:uW C p x=none):(0≤x/\x < C)/\p.any (λy=>decide (x≤y))=false:=by
 unfold uW at h;grind
theorem CU{C:Int}:∀(b:List Int) (p:Option Int) (s:Int),(∃e,wk (KJ C) OI b (p,s)= .error e/\wk (uW C) KT b p= .error e)\/∃q,wk (KJ C) OI b (p,s)= .ok (q,b.foldl xR s)/\wk (uW C) KT b p= .ok q
 |[],p,s=>.inr ⟨p,rfl,rfl⟩
 |x::b,p,s=>by
  cases e:uW C p x with
  |some c=>exact .inl ⟨c,IM e,IM e⟩
  |none=>
   rw [IJ (bad:=KJ C) (s:=(p,s)) (x:=x) e,IJ e]
   exact CU (C:=C) b (some x) (xR s x)
theorem yW{k:Nat}{m:ae}(hC:1≤mC m/\mC m≤5){b:List Int}(hk:b.length < k)(hb:b.length≤1000):
 eL k m b k (0,0)=some (if qW (mC m) b=0 then .ok (gR b) else .error (none,0,qW (mC m) b)):=by
 have key:=ml (T:=Int×Int) (f:=eL k m b) b (λ(s:Option Int×Int) j=>(s.2,j)) (λs _ x=>match KJ (mC m) s x with |some e=>Except.error e |none=>.ok (OI s x)) (λj s=>lm s.2/\s.1=if j=0 then none else b[j-1]?) (λr=>some (match r with | .error e=>Except.error (none,0,e) | .ok s=>.ok s.2))
  (λn s j hj hs=>by
   have hck:ck ((j:Int)+1)=some ((j:Int)+1):=dh (by omega) (by omega);have hc:ck (m.1 - 1)=some (m.1 - 1):=QO hC;refine⟨?_,λs' e=>?_⟩
   .simp only [eL,Int.ofNat_lt,hj,if_true,eA hj,bs,hc,kx];generalize b[j]=x;rw [show KJ (mC m) s x=uW (mC m) s.1 x from rfl];by_cases h:0≤x/\x < mC m
    .have h':0≤x/\x≤m.1 - 1:=⟨h.1,by grind⟩;have eb:uW (mC m) s.1 x=if s.1.any (λy=>decide (x≤y)) then some 5 else none:=by unfold uW;simp_all
     have ep:(if(0:Int) < (j:Int) then((ck ((j:Int) - 1)).bind λx12=>(aJ b x12).bind λx13=>some (decide (x≤x13))) else some false)=some (s.1.any λy=>decide (x≤y)):=by
      rw [hs.2];by_cases h0:j=0
      .simp_all
      .have c1:ck ((j:Int) - 1)=some ((j - 1:Nat):Int):=by grind [dh]
       rw [if_pos (by omega),c1,bs,eA (by omega),bs,if_neg h0,List.getElem?_eq_getElem (by omega)];rfl
     rw [eb];simp only [h',and_self,decide_true,not_true_eq_false,if_false,bs];rw [ep,bs];cases s.1.any λy=>decide (x≤y) with
     |true=>simp_all
     |false=>
      simp only [Bool.false_eq_true,if_false,(ou (k:=k) hs.1 h.1 (by omega)).1,bs,hck];rfl
    .have h':¬(0≤x/\x≤m.1 - 1):=λhh=>h ⟨hh.1,by grind⟩;have eb:uW (mC m) s.1 x=some 3:=by unfold uW;simp_all
     simp_all
   .cases e2:KJ (mC m) s b[j] with
    |some c=>simp_all
    |none=>
     rw [e2] at e;cases e;have hx:=LO e2;exact⟨(ou (k:=0) hs.1 hx.1.1 (by omega)).2.1,by show some b[j]=if j+1=0 then none else b[j+1 - 1]?;simp_all⟩)
  (λn s _=>by simp [eL]) (n:=k) (s0:=(none,0)) hk ⟨BY,rfl⟩
 rw [show eL k m b k (0,0)=_ from key]
 have e1:eU (λ(s:Option Int×Int) _ x=>match KJ (mC m) s x with |some e=>Except.error e |none=>.ok (OI s x)) 0 b (none,0)=wk (KJ (mC m)) OI b (none,0):=wL (bad:=KJ (mC m)) (add:=OI) b 0 (none,0)
 rw [e1]
 unfold qW
 have z:∀(l:List Int) (p:Option Int),wk (uW (mC m)) KT l p≠.error 0:=by
  intro l
  induction l with
  |nil=>intro p h;cases h
  |cons x l ih=>
   intro p h;rw [wk] at h;cases hb:uW (mC m) p x with
   |some c=>
    grind [uW]
   |none=>grind
 rcases CU (C:=mC m) b none 0 with⟨e,h1,h2⟩ |⟨q,h1,h2⟩
 .
  grind
 .
  rw [h1,h2];rfl
end Go.Proofs.YtcollhgigbijkaaGreat
set_option linter.unusedVariables false
set_option linter.unusedSimpArgs false
namespace Go.Proofs.YtcollhgigbijkaaGreat
open K Go Go.Proofs
theorem yD{C:Int}(hC:C≤5):∀(b:List Int) (s:Int),lm s->(∀x∈b,0≤x/\x < C)->lm (b.foldl xR s)/\∀i:Nat,eG (b.foldl xR s) i↔eG s i\/(i:Int)∈b
 |[],s,hs,_=>⟨hs,λi=>by simp⟩
 |x::b,s,hs,hb=>by
  have hx:=hb x mem_cons_self
  have hw:=ou (k:=0) hs hx.1 (by omega)
  have:=yD hC b (xR s x) hw.2.1 λy hy=>hb y (mem_cons_of_mem _ hy)
  grind
structure Bg(C:Int)(b:List Int):Prop where
 rng:∀x∈b,0≤x/\x < C
 asc:b.Pairwise (· < ·)
theorem Ac{C:Int}:∀{b:List Int} {p:Option Int},(∃q,wk (uW C) KT b p= .ok q)↔(∀x∈b,0≤x/\x < C)/\b.Pairwise (· < ·)/\∀y,p=some y->∀x∈b.head?,y < x
 |[],p=>by simp [wk]
 |x::b,p=>by
  cases e:uW C p x with
  |some c=>
   rw [IM e]
   constructor
   .
    simp_all
   .
    rintro⟨h1,h2,h3⟩
    exfalso
    unfold uW at e
    rw [if_neg (λhn=>hn (h1 x mem_cons_self))] at e
    cases p with
    |none=>cases e
    |some y=>
     have:=h3 y rfl x (by simp)
     grind
  |none=>
   have hx:=LO e
   rw [IJ e,Ac (b:=b) (p:=KT p x)]
   constructor
   .
    rintro⟨h1,h2,h3⟩
    refine⟨λy hy=>?_,?_,λy hy z hz=>?_⟩
    .
     grind
    .
     rw [pairwise_cons]
     refine⟨λy hy=>?_,h2⟩
     cases b with
     |nil=>cases hy
     |cons z b=>
      have hz:=h3 x rfl z (by simp)
      grind [pairwise_cons]
    simp_all
   simp_all [pairwise_cons,mem_cons_of_mem,KT,mem_of_mem_head?]
theorem CV{C:Int}:∀{l:List Int} {p:Option Int},wk (uW C) KT l p≠.error 0
 |[],p,h=>by cases h
 |x::l,p,h=>by
  cases hb:uW C p x with
  |some c=>
   rw [IM hb] at h
   grind [uW]
  |none=>rw [IJ hb] at h;exact CV h
theorem oV{C:Int}{b:List Int}:qW C b=0↔Bg C b:=by
 unfold qW;constructor
 .intro h;cases e:wk (uW C) KT b none with
  |error c=>simp_all [CV]
  |ok q=>have:=Ac.1 ⟨q,e⟩;exact⟨this.1,this.2.1⟩
 .rintro⟨h1,h2⟩;obtain⟨q,e⟩:=(Ac (p:=none)).2 ⟨h1,h2,λy hy=>by cases hy⟩;rw [e]
theorem Bg.set{C:Int}(hC:C≤5){b:List Int}(h:Bg C b):lm (gR b)/\∀c:Int,0≤c->qN (gR b) c=decide (c∈b):=by
 have:=yD hC b 0 BY h.rng;refine⟨this.1,λc hc=>?_⟩;unfold qN;have e:((c.toNat:Nat):Int)=c:=by omega
 have h2:=this.2 c.toNat;rw [e] at h2;refine decide_eq_decide.2 ?_;show eG (b.foldl xR 0) c.toNat↔_;simp_all [eG]
def uU(m:ae)(i:Nat):Int:=match i with |0=>mC m - 1 |1=>((mD m).length:Int) - 1 |_=>(mD m).length
def yg(n:Int)(l:List Int):Bool:=l.all λx=>decide (0≤x/\x≤n)
theorem pB{k:Nat}{m:ae}(v:Vd m){i:Nat}(hi:i < 3){l:List Int}(hk:l.length < k)(hl:l.length≤1000):
 dr k m (i:Int) l k 0=some (if yg (uU m i) l then .ok () else .error (none,0,3)):=by
 have c1:=v.c1
 have c5:=v.c5
 have d6:=v.d6
 have d1:=v.d1
 have key:=ml (T:=Int) (f:=dr k m (i:Int) l) l (λ(_:Unit) j=>j) (λ_ _ x=>if 0≤x/\x≤uU m i then .ok () else Except.error ((none,0,3):Option ae×Int×Int)) (λ_ _=>True) (λr=>some r)
  (λn s j hj _=>by
   have hck:ck ((j:Int)+1)=some ((j:Int)+1):=dh (by omega) (by omega);have hc:ck (m.1 - 1)=some (mC m - 1):=QO ⟨c1,c5⟩;have hd:ck ((m.2.2.2.2.1.length:Int) - 1)=some (((mD m).length:Int) - 1):=dh (by omega) (by grind)
   have hg:aJ [mC m - 1,((mD m).length:Int) - 1,((mD m).length:Int)] (i:Int)=some (uU m i):=by
    have:i=0\/i=1\/i=2:=by omega
    rcases this with rfl |rfl |rfl <;> rfl
   refine⟨?_,λ_ _=>trivial⟩;simp only [dr,Int.ofNat_lt,hj,if_true,eA hj,bs,hc,hd];rw [show aJ [mC m - 1,((mD m).length:Int) - 1,(m.2.2.2.2.1.length:Int)] (i:Int)=some (uU m i) from hg,bs,kx,bs];grind)
  (λn s _=>by simp [dr]) (n:=k) (s0:=()) hk trivial
 rw [show dr k m (i:Int) l k 0=_ from key]
 congr 1
 have:∀(l:List Int) (j:Nat),eU (λ(_:Unit) _ x=>if 0≤x/\x≤uU m i then .ok () else Except.error ((none,0,3):Option ae×Int×Int)) j l ()=if yg (uU m i) l then .ok () else .error (none,0,3):=by
  intro l
  induction l with
  |nil=>intro j;rfl
  |cons x l ih=>
   intro j;rw [eU];by_cases h:0≤x/\x≤uU m i
   .simp_all [if_pos,yg,uU,all_cons,and_self,decide_true,Bool.true_and]
   .rw [if_neg h];have:yg (uU m i) (x::l)=false:=by simp only [yg,all_cons,h,decide_false,Bool.false_and]
    simp_all
 simp_all
theorem yt{k:Nat}{m:ae}(v:Vd m)(hk:10≤k):∀n:Nat,n≤32->vA k m n=some ()
 |0,_=>rfl
 |n+1,h=>by
  have e:IntKind.u8.wrap (n:Int)=(n:Int):=td (by omega)
  unfold vA
  rw [yt v hk n (by omega),bs,e,sE v hk ⟨by omega,by omega⟩,bs]
theorem IQ{k:Nat}{m:ae}(v:Vd m)(hk:10≤k):eg k m=some ():=by
 have c1:=v.c1;have c5:=v.c5;unfold eg
 have hc:m.1=1\/m.1=2\/m.1=3\/m.1=4\/m.1=5:=by
  grind
 have e:0≤nU .i64 1 m.1/\nU .i64 1 m.1≤32:=by
  rcases hc with h |h |h |h |h <;> rw [h] <;> decide
 rw [if_pos ⟨by omega,by omega⟩];simp_all [yt]
def OB(m:ae)(cs ds ns:List Int):Bool:=yg (uU m 0) cs && yg (uU m 1) ds && yg (uU m 2) ns
theorem yV{k:Nat}{m:ae}{b cs ds ns:List Int}(hs:Sm m)(hk:1010≤k)(hb:b.length≤1000)(h1:cs.length≤1000)(h2:ds.length≤1000)(h3:ns.length≤1000):
 jA k m b cs ds ns=some (if¬(qe m=0) then(none,0,qe m) else if¬(qW (mC m) b=0) then(none,0,qW (mC m) b) else if OB m cs ds ns then(some m,gR b,0) else(none,0,3)):=by
 unfold jA
 rw [JI hs (by omega),bs]
 by_cases hc:qe m=0
 .
  have v:=Vd.of hc;rw [if_neg (λhn=>hn hc),if_neg (λhn=>hn hc),yW ⟨v.c1,v.c5⟩ (by omega) hb];by_cases hg:qW (mC m) b=0
  .rw [if_pos hg,jh,if_neg (λhn=>hn hg)];obtain⟨n,rfl⟩:∃n,k=n+4:=⟨k - 4,by omega⟩;have e0:=pB v (k:=n+4) (i:=0) (by omega) (l:=cs) (by omega) h1;have e1:=pB v (k:=n+4) (i:=1) (by omega) (l:=ds) (by omega) h2;have e2:=pB v (k:=n+4) (i:=2) (by omega) (l:=ns) (by omega) h3;have g0:aJ [cs,ds,ns] (0:Int)=some cs:=rfl;have g1:aJ [cs,ds,ns] (1:Int)=some ds:=rfl;have g2:aJ [cs,ds,ns] (2:Int)=some ns:=rfl;have k0:ck ((0:Int)+1)=some 1:=rfl;have k1:ck ((1:Int)+1)=some 2:=rfl;have k2:ck ((2:Int)+1)=some 3:=rfl;have ln:(([cs,ds,ns]:List (List Int)).length:Int)=3:=rfl
   have s0:cM (n+4) m cs ds ns (n+4) 0=if yg (uU m 0) cs then cM (n+4) m cs ds ns (n+3) 1 else some (.error (none,0,3)):=by
    rw [cM,ln,if_pos (by decide),g0,bs,show dr (n+4) m 0 cs (n+4) 0=_ from e0];cases yg (uU m 0) cs with
    |true=>simp_all [if_true,jh,bs]
    |false=>simp_all [Bool.false_eq_true,if_false,oc]
   have s1:cM (n+4) m cs ds ns (n+3) 1=if yg (uU m 1) ds then cM (n+4) m cs ds ns (n+2) 2 else some (.error (none,0,3)):=by
    rw [cM,ln,if_pos (by decide),g1,bs,show dr (n+4) m 1 ds (n+4) 0=_ from e1];cases yg (uU m 1) ds with
    |true=>simp_all [if_true,jh,bs]
    |false=>simp_all [Bool.false_eq_true,if_false,oc]
   have s2:cM (n+4) m cs ds ns (n+2) 2=if yg (uU m 2) ns then cM (n+4) m cs ds ns (n+1) 3 else some (.error (none,0,3)):=by
    rw [cM,ln,if_pos (by decide),g2,bs,show dr (n+4) m 2 ns (n+4) 0=_ from e2];cases yg (uU m 2) ns with
    |true=>simp_all [if_true,jh,bs]
    |false=>simp_all [Bool.false_eq_true,if_false,oc]
   have s3:cM (n+4) m cs ds ns (n+1) 3=some (.ok ()):=by
    rw [cM,ln,if_neg (by decide)]
   rw [s0,s1,s2,s3];unfold OB
   have fin:((iG (n+4) m).bind λr32=>fX r32 none (λq33=>(eg (n+4) q33).bind λr35=>some (some q33,gR b,(0:Int))))=some (some m,gR b,0):=by
    grind [iG,bs,xF,IQ]
   cases yg (uU m 0) cs with
   |false=>simp_all [Bool.false_eq_true,if_false,Bool.false_and,oc]
   |true=>
    cases yg (uU m 1) ds with
    |false=>simp_all [if_true,Bool.false_eq_true,if_false,Bool.true_and,Bool.false_and,oc]
    |true=>
     cases yg (uU m 2) ns with
     |false=>simp_all [if_true,Bool.false_eq_true,if_false,Bool.true_and,Bool.and_false,oc]
     |true=>simp_all [if_true,Bool.true_and,jh]
  .rw [if_neg hg,oc,if_pos hg]
 simp_all
end Go.Proofs.YtcollhgigbijkaaGreat
set_option linter.unusedVariables false
set_option linter.unusedSimpArgs false
namespace Go.Proofs.YtcollhgigbijkaaGreat
open K Go Go.Proofs
def o6(m:ae)(B:Int->Bool)(n:Nat):List Int:=(List.range (mC m).toNat).map λ(c:Nat)=>lO m B n (c:Int)
def fq(m:ae)(B:Int->Bool):List (List Int):=(List.range ((mD m).length+1)).map (o6 m B)
theorem qs{m:ae}{B:Int->Bool}{n:Nat}{c:Int}(h0:0≤c)(h1:c < mC m):aJ (o6 m B n) c=some (lO m B n c):=by
 unfold o6;rw [aJ,if_pos h0,List.getElem?_map,List.getElem?_range (by omega)];grind
theorem oO{m:ae}{B:Int->Bool}{n:Nat}(h:n≤(mD m).length):aJ (fq m B) (n:Int)=some (o6 m B n):=by
 unfold fq;rw [aJ,if_pos (by omega),List.getElem?_map,Int.toNat_natCast,List.getElem?_range (by omega)];rfl
theorem Fz{f:Int->Int}{C:Int}(h0:0≤C)(h5:C≤5):List.take C.toNat (ky f)=(List.range C.toNat).map λ(c:Nat)=>f (c:Int):=by
 have:C=0\/C=1\/C=2\/C=3\/C=4\/C=5:=by omega
 rcases this with rfl |rfl |rfl |rfl |rfl |rfl <;> rfl
theorem AW{k:Nat}{m:ae}{b:List Int}(hs:Sm m)(hk:1010≤k)(hb:b.length≤1000):
 i9 k m b=some (if¬(qe m=0) then([],qe m) else if¬(qW (mC m) b=0) then([],qW (mC m) b) else(fq m λc=>decide (c∈b),0)):=by
 unfold i9
 rw [yV hs hk hb (by simp) (by simp) (by simp),bs]
 by_cases hc:qe m=0
 .
  have v:=Vd.of hc;by_cases hg:qW (mC m) b=0
  .have hB:=(oV.1 hg).set v.c5;have ho:OB m [] [] []=true:=rfl;have c1:=v.c1;have c5:=v.c5;have d6:=v.d6;simp only [hc,hg,ho,not_true_eq_false,if_false,if_true,xF];rw [sE v (by omega) hB.1,bs]
   have hd:ck ((m.2.2.2.2.1.length:Int)+1)=some (((mD m).length+1:Nat):Int):=by
    rw [dh (by omega) (by grind)];rfl
   rw [hd,bs]
   have key:=kZ (T:=List (List Int)×Int) (f:=dZ k m (cr (NY m (qN (gR b)))) (((mD m).length+1:Nat):Int)) (List.range ((mD m).length+1)) (λ(s:List (List Int)) j=>(s,j)) (λs j _=>s++[o6 m (qN (gR b)) j]) (λj s=>s=(List.range j).map (o6 m (qN (gR b)))) (λs=>some s)
    (λn s j hj hs=>by
     rw [length_range] at hj;have hck:ck ((j:Int)+1)=some ((j:Int)+1):=dh (by omega) (by omega);have hjlt:(j:Int) < (((mD m).length+1:Nat):Int):=by omega
     have hp:cN (0≤m.1/\m.1≤5)=some ():=dE ⟨by grind,c5⟩
     have ht:List.take (Int.toNat m.1) (ky (NY m (qN (gR b)) j))=o6 m (qN (gR b)) j:=by
      rw [Fz (by omega) c5];unfold o6;refine List.map_congr_left λc hc=>?_;have:=List.mem_range.1 hc;exact CN v (by omega) (by omega) (by omega)
     have hl:(o6 m (qN (gR b)) j).length≤5:=by grind
     have hsl:s.length=j:=by simp_all
     have hcl:gQ k (o6 m (qN (gR b)) j)=some (o6 m (qN (gR b)) j):=by
      unfold gQ;rw [dE (by show _≤_;omega),bs]
     have hok:cN (cu (length s+length [o6 m (qN (gR b)) j]))=some ():=dE (by grind [cu]);refine⟨?_,?_⟩
     .simp only [dZ,hjlt,if_true,ux (F:=NY m (qN (gR b))) (show j < 7 by omega),bs,hp,ht,hcl,hok,hck]
     simp_all [List.range_succ,List.map_append])
    (λn s hs=>by
     simp_all [length_range,dZ,if_neg,Int.lt_irrefl]) (n:=k) (s0:=[]) (by grind) rfl
   rw [show dZ k m (cr (NY m (qN (gR b)))) (((mD m).length+1:Nat):Int) k ([],0)=_ from key.1,bs,key.2,length_range]
   have hcs:(List.range ((mD m).length+1)).map (o6 m (qN (gR b)))=fq m λc=>decide (c∈b):=by
    unfold fq;refine List.map_congr_left λn hn=>?_;unfold o6;refine List.map_congr_left λc hc=>?_
    have hage:∀(n:Nat) (c:Int),0≤c->c < mC m->lO m (qN (gR b)) n c=lO m (λc=>decide (c∈b)) n c:=by
     intro n
     induction n with
     |zero=>simp_all [lO]
     |succ n ih=>
      intro c h0 h1;unfold lO;cases e:uV m n c with
      |none=>simp_all
      |some l=>
       have hb:=(oa v e).2;grind
    simp_all
   rw [hcs]
  simp_all [not_true_eq_false,not_false_eq_true,if_false,if_true,qS]
 simp_all [not_false_eq_true,if_true,qS]
end Go.Proofs.YtcollhgigbijkaaGreat
set_option linter.unusedVariables false
set_option linter.unusedSimpArgs false
namespace Go.Proofs.YtcollhgigbijkaaGreat
open K Go Go.Proofs
theorem Lo.mono{l:bT}{m n:Int}(h:Lo l m)(hn:m≤n):Lo l n:=⟨h.1,Int.le_trans h.2 hn⟩
theorem Tm{α:Type}{l:List α}{x:α}{n:Nat}(h:l.length≤n)(hn:n≤1000000):cu (length l+length [x]):=by
 show length l+length [x]≤4294967296;grind
theorem AV{k:Nat}(hk:50≤k){l:bT}{m:Int}{n:Nat}(hl:Lo l m)(hm:0≤m/\m≤1000)(hn:n≤8):W (gk k l (n:Int)) λr=>Lo r.2 (m+10)/\r.1.length=n/\(∀x∈r.1,0≤x/\x < (n:Int))/\r.1.Nodup:=by
 unfold gk;refine W.bind (R:=λr=>Lo (r.2.1,r.2.2.1,r.2.2.2) (m+10)/\r.1.length=n/\(∀x∈r.1,0≤x/\x < (n:Int))/\r.1.Nodup) ?_ λr h=>W.ret h
 refine W.loop (f:=dQ k (n:Int)) (λq y=>∃j:Nat,y.2.2.2.2=(j:Int)/\j≤n/\q=n - j/\Lo (y.1,y.2.1,y.2.2.1) (m+j)/\y.2.2.2.1.length=j/\(∀x∈y.2.2.2.1,0≤x/\x < (j:Int))/\y.2.2.2.1.Nodup) ?_ n k _ (by omega)
  ⟨0,rfl,by omega,by omega,by simp_all,rfl,by simp,by simp⟩
 rintro aO q ⟨nums,d,s,o,y⟩ ⟨j,hj,hle,hq,hlo,hlen,hx,hnd⟩ ih;simp only at hj hlo hlen hx hnd;subst hj;unfold dQ;dsimp only;refine W.ite (λhlt=>?_) (λhge=>W.ret ⟨hlo.mono (by omega),by grind,λx hx'=>by grind,hnd⟩);obtain⟨r5,e5,a5,b5,c5⟩:=mB (k:=k) (n:=(j:Int)) hlo (by omega) (by omega);have b5:=b5 (by omega);have ho:(o++[(j:Int)]).length=j+1:=by simp [hlen]
 have hr5:r5.1.toNat < (o++[(j:Int)]).length:=by omega
 have hjl:j < (o++[(j:Int)]).length:=by omega
 have hgj:(o++[(j:Int)])[j]=(j:Int):=by
  grind
 rw [e5,bs,dE (Tm (n:=8) (by omega) (by omega)),bs,xp a5 hr5,bs,eA (by omega),bs];have hgs:aJ (List.set (o++[(j:Int)]) (Int.toNat (j:Int)) (o++[(j:Int)])[r5.1.toNat]) r5.1=some ((List.set (o++[(j:Int)]) (Int.toNat (j:Int)) (o++[(j:Int)])[r5.1.toNat])[r5.1.toNat]'(by grind)):=xp a5 (by grind);rw [hgs,bs,dh (by omega) (by omega),bs]
 have hp:(List.set (List.set (o++[(j:Int)]) (Int.toNat (j:Int)) (o++[(j:Int)])[r5.1.toNat]) (Int.toNat r5.1) (j:Int)).Perm (o++[(j:Int)]):=by
  have:= @set_set_perm Int (o++[(j:Int)]) j r5.1.toNat hjl hr5;rw [hgj] at this;exact this
 refine ih (q - 1) (_,_,_,_,(j:Int)+1) (by omega) ⟨j+1,by grind,by omega,by omega,c5.mono (by omega),by simp [hlen],λx hx'=>?_,hp.nodup_iff.2 ?_⟩
 .grind
 grind
theorem Hw{out:List (List Int)}{i:Nat}{x:Int}(h:i < out.length):(out.set i (out[i]++[x])).flatten.Perm (out.flatten++[x]):=by
 have e1:out=out.take i++out[i]::out.drop (i+1):=by simp_all
 grind
structure Rl(C:Int)(r:List (List Int)):Prop where
 r3:r.length≤3
 x5:∀l∈r,∀x∈l,0≤x/\x < C
 nd:r.flatten.Nodup
theorem Rl.l5{C:Int}(hC:0≤C/\C≤5){r:List (List Int)}(h:Rl C r):∀l∈r,l.length≤5:=λl hl=>by
 have:=rH C.toNat l (ue h.nd hl) λx hx=>by have:=h.x5 l hl x hx;omega
 omega
theorem FZ{k:Nat}(hk:50≤k){l:bT}{m:Int}{n:Nat}(hl:Lo l m)(hm:0≤m/\m≤900)(hn:n≤5):
 W (jC k l (n:Int)) λr=>Lo r.2 (m+30)/\Rl (n:Int) r.1:=by
 unfold jC
 refine W.bind (Ce (l:=(l.1,l.2.1,l.2.2)) hl (by omega) (by omega) (by omega) (by omega)) λr1 h1=>?_
 refine W.chk ⟨by omega,by show _≤_;omega⟩ ?_
 refine W.bind (AV hk (l:=(r1.2.1,r1.2.2.1,r1.2.2.2)) (m:=m+1) (n:=n) h1.2.2 (by omega) (by omega)) λr4 h4=>?_
 obtain⟨lo4,len4,rng4,nd4⟩:=h4
 refine W.bind (R:=λx=>Lo (x.1,x.2.1,x.2.2.1) (m+30)/\Rl (n:Int) x.2.2.2) ?_ λx hx=>W.ret hx
 refine W.loop (f:=fg k r4) (λq y=>∃j:Nat,y.2.2.2.1=(j:Int)/\j≤n/\q=n - j/\Lo (y.1,y.2.1,y.2.2.1) (m+11+2 * j)/\y.2.2.2.2.length=r1.1.toNat/\(∀x∈y.2.2.2.2.flatten,x∈r4.1.take j)/\y.2.2.2.2.flatten.Nodup) ?_ n k _ (by omega)
  ⟨0,rfl,by omega,by omega,lo4.mono (by omega),by simp,by simp,by simp⟩
 rintro aO q ⟨nums,d,s,y,out⟩ ⟨j,hj,hle,hq,hlo,hlen,hx,hnd⟩ ih
 simp only at hj hlo hlen hx hnd
 subst hj
 unfold fg
 dsimp only
 refine W.ite (λhlt=>?_) (λhge=>W.ret ⟨hlo.mono (by omega),by grind,λl hl x hxx=>rng4 x (mem_of_mem_take (hx x (List.mem_flatten.2 ⟨l,hl,hxx⟩))),hnd⟩)
 have hj:j < r4.1.length:=by omega
 have hsub:∀x∈r4.1.take j,x∈r4.1.take (j+1):=λx hh=>by grind
 refine W.bind (R:=λx=>Lo (x.1,x.2.1,x.2.2.1) (m+11+2 * j+2)/\x.2.2.2.length=r1.1.toNat/\(∀z∈x.2.2.2.flatten,z∈r4.1.take (j+1))/\x.2.2.2.flatten.Nodup) ?_ λx9 h9=>?_
 .
  refine W.bind (wZ (l:=(nums,d,s)) hlo (by omega) (by omega) (by omega)) λr11 h11=>?_;refine W.ite (λ_=>W.ret ⟨h11.mono (by omega),hlen,λz hz=>hsub z (hx z hz),hnd⟩) (λ_=>?_);refine W.ck (by omega) (by omega) ?_;refine W.bind (mB (l:=(r11.2.1,r11.2.2.1,r11.2.2.2)) h11 (by omega) (by omega)) λr13 h13=>?_;have b13:=h13.2.1 (by omega);have hi:r13.1.toNat < out.length:=by omega
  rw [xp h13.1 hi,bs,eA hj,bs]
  have hxj:r4.1[j]∉out.flatten:=λhin=>by
   grind [List.getElem_of_mem,length_take,getElem_inj]
  have hlen2:(out[r13.1.toNat]).length≤5:=by
   have:=rH n _ (ue hnd (List.getElem_mem hi)) λx hxx=>rng4 x (mem_of_mem_take (hx x (List.mem_flatten.2 ⟨_,List.getElem_mem hi,hxx⟩)));omega
  rw [dE (by grind [cu]),bs];have hp:=Hw (x:=r4.1[j]) hi;refine W.ret ⟨h13.2.2.mono (by omega),by grind,λz hz=>?_,hp.nodup_iff.2 ?_⟩
  .grind [List.mem_singleton,take_add_one,List.getElem?_eq_getElem,List.mem_append_right]
  grind
 .
  refine W.ck (by omega) (by omega) ?_;exact ih (q - 1) (_,_,_,(j:Int)+1,_) (by omega) ⟨j+1,by grind,by omega,by omega,h9.1.mono (by omega),h9.2⟩
end Go.Proofs.YtcollhgigbijkaaGreat
set_option linter.unusedVariables false
set_option linter.unusedSimpArgs false
namespace Go.Proofs.YtcollhgigbijkaaGreat
open K Go Go.Proofs
theorem K0{c w s h:Int}{ds:List (List (List Int))}(hc:1≤c/\c≤5)(hw:0≤w/\w≤3)(hs:0≤s/\s≤3)(hh:1≤h/\h≤3)(d1:1≤ds.length)(d6:ds.length≤6)(hr:∀r∈ds,Rl c r):Vd (c,w,s,h,ds,[]):=
 ⟨hc.1,hc.2,hw.1,hw.2,hs.1,hs.2,hh.1,hh.2,d1,d6,λr h=>(hr r h).r3,λr h=>(hr r h).l5 ⟨by omega,hc.2⟩,λr h=>(hr r h).x5,λr h=>(hr r h).nd,by simp [mG],λg hg=>by cases hg⟩
theorem Bc{k:Nat}{l:List Int}(h:l.length≤1000000):iO k l=some l:=by
 grind [iO,dE,TK,length_nil,bs]
theorem zu{k:Nat}{l:List (List Int)}(hk:l.length < k)(h1:l.length≤1000000)(h2:∀x∈l,x.length≤1000000):gY k l=some l:=by
 unfold gY
 have key:=kZ (T:=List (List Int)×Int) (f:=dC k l) l (λ(s:List (List Int)) j=>(s,j)) (λs j x=>s++[x]) (λj s=>s=l.take j) (λs=>some s)
  (λn s j hj hs=>by
   have hck:ck ((j:Int)+1)=some ((j:Int)+1):=dh (by omega) (by omega);have hl:s.length=j:=by grind
   have hok:cN (cu (length s+length [l[j]]))=some ():=dE (by grind [cu]);refine⟨?_,?_⟩
   .simp_all [dC,Int.ofNat_lt,if_true,eA,bs,Bc,List.getElem_mem]
   simp_all)
  (λn s hs=>by
   unfold dC;simp_all) (n:=k) (s0:=[]) hk (by simp)
 simp_all
theorem AU{k:Nat}(hk:50≤k){l:bT}{m:Int}{cs ds:Int}(hl:Lo l m)(hm:0≤m/\m≤400)(hc:1≤cs/\cs≤5)(hd:1≤ds/\ds≤6):
 W (iq k l cs ds) λr=>Lo r.2 (m+250)/\Vd r.1/\mG r.1=[]/\mC r.1≤cs/\((mD r.1).length:Int)≤ds:=by
 unfold iq
 refine W.bind (Ce (l:=(l.1,l.2.1,l.2.2)) hl (by omega) (by omega) (by omega) (by omega)) λr2 h2=>?_
 refine W.bind (mB (l:=(r2.2.1,r2.2.2.1,r2.2.2.2)) h2.2.2 (by omega) (by omega)) λr3 h3=>?_
 have b3:=h3.2.1 (by omega)
 refine W.bind (Gi (l:=(r3.2.1,r3.2.2.1,r3.2.2.2)) h3.2.2 (by omega) (by simp) (by simp)) λr4 h4=>?_
 refine W.bind (mB (l:=(r4.2.1,r4.2.2.1,r4.2.2.2)) h4.2 (by omega) (by omega)) λr5 h5=>?_
 have b5:=h5.2.1 (by omega)
 refine W.bind (Gi (l:=(r5.2.1,r5.2.2.1,r5.2.2.2)) h5.2.2 (by omega) (by simp) (by simp)) λr6 h6=>?_
 refine W.bind (Ce (l:=(r6.2.1,r6.2.2.1,r6.2.2.2)) h6.2 (by omega) (by omega) (by omega) (by omega)) λr7 h7=>?_
 refine W.bind (Gi (l:=(r7.2.1,r7.2.2.1,r7.2.2.2)) h7.2.2 (by omega) (by simp) (by simp)) λr8 h8=>?_
 have w4:0≤r4.1/\r4.1≤3:=by
  grind
 have w6:0≤r6.1/\r6.1≤3:=by
  grind
 have w8:1≤r8.1/\r8.1≤3:=by
  grind
 have lo8:=h8.2
 refine W.bind (R:=λx=>Lo (x.2.1,x.2.2.1,x.2.2.2) (m+250)/\(1≤x.1.length/\(x.1.length:Int)≤ds)/\∀r∈x.1,Rl r2.1 r) ?_ λx hx=>W.ret ⟨hx.1,K0 (by omega) w4 w6 w8 (by omega) (by omega) hx.2.2,rfl,h2.2.1,hx.2.1.2⟩
 refine W.bind (Ce (l:=(r8.2.1,r8.2.2.1,r8.2.2.2)) lo8 (by omega) (by omega) (by omega) (by omega)) λr12 h12=>?_
 refine W.loop (f:=fh k r2) (λq y=>∃j:Nat,y.2.2.2.1.length=j/\y.2.2.2.2=r12.1 - j/\(j:Int)≤r12.1/\q=r12.1.toNat - j/\Lo (y.1,y.2.1,y.2.2.1) (m+10+33 * j)/\∀r∈y.2.2.2.1,Rl r2.1 r) ?_ r12.1.toNat k _ (by omega)
  ⟨0,rfl,by simp,by omega,by omega,h12.2.2.mono (by omega),by simp⟩
 rintro aO q ⟨nums,d,s,out,y⟩ ⟨j,hj,hy,hle,hq,hlo,hr⟩ ih
 simp only at hj hy hlo hr
 subst hy
 unfold fh
 dsimp only
 refine W.ite (λhlt=>?_) (λhge=>W.ret ⟨hlo.mono (by omega),⟨by grind,by grind⟩,hr⟩)
 refine W.bind (R:=λx=>Lo (x.1,x.2.1,x.2.2.1) (m+10+33 * j+33)/\x.2.2.2.length=j+1/\∀r∈x.2.2.2,Rl r2.1 r) ?_ λx15 h15=>?_
 .
  refine W.bind (R:=λx=>Lo (x.1,x.2.1,x.2.2.1) (m+10+33 * j+1)/\(x.2.2.2=true->0 < out.length)) ?_ λx17 h17=>?_
  .refine W.ite (λh0=>?_) (λh0=>W.ret ⟨hlo.mono (by omega),λh=>by cases h⟩);grind [W.bind,wZ,W.ret]
  .refine W.ite (λht=>?_) (λht=>?_)
   .have h0:=h17.2 ht;refine W.ck (by omega) (by omega) ?_;have hi:((out.length:Int) - 1)=((out.length - 1:Nat):Int):=by omega
    have hlt':out.length - 1 < out.length:=by omega
    rw [hi,eA hlt',bs];have hrl:=hr _ (List.getElem_mem hlt');have hl5:=hrl.l5 (by omega);have hr3:=hrl.r3;rw [zu (by omega) (by omega) (λx hx=>by grind),bs,dE (by grind [cu]),bs];refine W.ret ⟨h17.1.mono (by omega),by simp [hj],λr hrr=>?_⟩;grind
   .have hc2:((r2.1.toNat:Nat):Int)=r2.1:=by omega
    have:=FZ hk (l:=(x17.1,x17.2.1,x17.2.2.1)) (m:=m+10+33 * j+1) (n:=r2.1.toNat) h17.1 (by omega) (by omega);rw [hc2] at this;refine W.bind this λr26 h26=>?_;rw [dE (by grind [cu]),bs];refine W.ret ⟨h26.1.mono (by omega),by simp [hj],λr hrr=>?_⟩;grind
 .
  refine W.ck (by omega) (by omega) ?_;exact ih (q - 1) (_,_,_,_,_) (by omega) ⟨j+1,h15.2.1,by grind,by omega,by omega,h15.1.mono (by omega),h15.2.2⟩
theorem Bf{k:Nat}(hk:50≤k){l:bT}{m:Int}{c:Int}(hl:Lo l m)(hm:0≤m/\m≤900)(hc:1≤c/\c≤5):
 W (jD k l c) λr=>Lo r.2 (m+10)/\Bg c r.1:=by
 unfold jD
 refine W.bind (R:=λx=>Lo (x.2.1,x.2.2.1,x.2.2.2) (m+10)/\Bg c x.1) ?_ λx hx=>W.ret hx
 refine W.loop (f:=fi k c) (λq y=>∃j:Nat,y.2.2.2.2=(j:Int)/\(j:Int)≤c/\q=c.toNat - j/\Lo (y.1,y.2.1,y.2.2.1) (m+j)/\y.2.2.2.1.length≤j/\(∀x∈y.2.2.2.1,0≤x/\x < (j:Int))/\y.2.2.2.1.Pairwise (· < ·)) ?_ c.toNat k _ (by omega)
  ⟨0,rfl,by omega,by omega,by simp_all,by simp,by simp,by simp⟩
 rintro aO q ⟨nums,d,s,o,y⟩ ⟨j,hj,hle,hq,hlo,hlen,hx,hp⟩ ih
 simp only at hj hlo hlen hx hp
 subst hj
 unfold fi
 dsimp only
 refine W.ite (λhlt=>?_) (λhge=>W.ret ⟨hlo.mono (by omega),λx hxx=>by grind,hp⟩)
 refine W.bind (R:=λx=>Lo (x.1,x.2.1,x.2.2.1) (m+j+1)/\x.2.2.2.length≤j+1/\(∀z∈x.2.2.2,0≤z/\z < ((j+1:Nat):Int))/\x.2.2.2.Pairwise (· < ·)) ?_ λx5 h5=>?_
 .
  refine W.bind (wZ (l:=(nums,d,s)) hlo (by omega) (by omega) (by omega)) λr7 h7=>?_;refine W.ite (λht=>?_) (λht=>W.ret ⟨h7,by grind,λz hz=>by grind,hp⟩);grind [dE,cu,bs,W.ret,List.mem_singleton]
 .
  refine W.ck (by omega) (by omega) ?_;exact ih (q - 1) (_,_,_,_,_) (by omega) ⟨j+1,by grind,by omega,by omega,h5.1.mono (by omega),h5.2⟩
theorem Bg.len{C:Int}(hC:0≤C/\C≤5){b:List Int}(h:Bg C b):b.length≤5:=by
 have:=rH C.toNat b (h.asc.imp λhab e=>by omega) λx hx=>by have:=h.rng x hx;omega
 omega
theorem FT{m:ae}{B:Int->Bool}{n:Nat}(h:0≤mC m):((o6 m B n).length:Int)=mC m:=by
 unfold o6;grind
theorem mr{m:ae}{B:Int->Bool}:(fq m B).length=(mD m).length+1:=by
 unfold fq;simp_all
theorem HQ{α ε:Type}:∀(l:List α) (j:Nat),eU (λ(_:Unit) _ _=>(.ok ():Except ε Unit)) j l ()= .ok ()
 |[],_=>rfl
 |_::l,j=>HQ l (j+1)
theorem Fa{k:Nat}{m:ae}{B:Int->Bool}(v:Vd m)(hk:10≤k):mi k m (fq m B)=some true:=by
 have c1:=v.c1;have d6:=v.d6;unfold mi;have hd:ck ((m.2.2.2.2.1.length:Int)+1)=some (((mD m).length:Int)+1):=dh (by omega) (by grind);rw [hd,bs,if_neg (λhn=>hn (by rw [mr];omega))]
 have key:=ml (T:=Int) (f:=eS k m (fq m B)) (fq m B) (λ(_:Unit) j=>j) (λ_ _ _=>(.ok ():Except Bool Unit)) (λ_ _=>True) (λr=>some r)
  (λn s j hj _=>by
   have hck:ck ((j:Int)+1)=some ((j:Int)+1):=dh (by omega) (by grind [mr]);refine⟨?_,λ_ _=>trivial⟩;have hj2:j≤(mD m).length:=by grind [mr]
   simp only [eS,Int.ofNat_lt,hj,if_true,oO hj2,bs,hck];rw [if_neg (λhn=>hn (FT (by omega)))])
  (λn s _=>by simp [eS]) (n:=k) (s0:=()) (by rw [mr];omega) trivial
 simp_all [eS,fq,HQ,jh]
end Go.Proofs.YtcollhgigbijkaaGreat
set_option linter.unusedVariables false
set_option linter.unusedSimpArgs false
namespace Go.Proofs.YtcollhgigbijkaaGreat
open K Go Go.Proofs
theorem Az{k:Nat}{c:Int}{l:List Int}(hk:l.length < k)(hl:l.length≤1000):
 dH k c l k 0=some (match qV l c with |some s=>.error (s,true) |none=>.ok ()):=by
 have key:=ml (T:=Int) (f:=dH k c l) l (λ(_:Unit) j=>j) (λ_ j x=>if decide (c=x)=true then Except.error (((if 0 < j then [l[j-1]?.getD 0] else [])++(l[j+1]?).toList:List Int),true) else .ok ()) (λ_ _=>True) (λx=>some x)
  (λn s j hj _=>by
   refine⟨?_,λ_ _=>trivial⟩;have hck:ck ((j:Int)+1)=some ((j:Int)+1):=dh (by omega) (by omega);have c1:ck ((j:Int) - 1)=some ((j:Int) - 1):=dh (by omega) (by omega);simp only [dH,Int.ofNat_lt,hj,if_true,eA hj,bs,decide_eq_true_eq];by_cases e:l[j]=c
   .rw [if_neg (λhn=>hn e),if_pos e.symm]
    have e1:(if(0:Int) < (j:Int) then((ck ((j:Int) - 1)).bind λx17=>(aJ l x17).bind λx18=>(cN (cu (length ([]:List Int)+length [x18]))).bind λ_=>some (([]:List Int)++[x18])) else some ([]:List Int))=some (if 0 < j then [l[j-1]?.getD 0] else []):=by
     by_cases h0:0 < j
     .have g:aJ l ((j:Int) - 1)=some (l[j-1]?.getD 0):=by
       grind [eA,List.getElem?_eq_getElem]
      simp_all [if_pos,bs,dE,cu]
     simp_all
    rw [e1,bs];have hp:(if 0 < j then [l[j-1]?.getD 0] else []).length≤1:=by grind
    generalize (if 0 < j then [l[j-1]?.getD 0] else [])=p at *
    have e2:((ck ((j:Int)+1)).bind λx23=>if x23 < (l.length:Int) then((ck ((j:Int)+1)).bind λx24=>(aJ l x24).bind λx25=>(cN (cu (length p+length [x25]))).bind λ_=>some (p++[x25])) else some p)=some (p++(l[j+1]?).toList):=by
     rw [hck,bs];by_cases h1:j+1 < l.length
     .have g:aJ l ((j:Int)+1)=some l[j+1]:=by
       have:((j:Int)+1)=((j+1:Nat):Int):=by omega
       rw [this,eA h1]
      rw [if_pos (by omega),bs,g,bs,List.getElem?_eq_getElem h1,dE (by grind [cu]),bs];rfl
     grind
    rw [e2,bs]
   grind)
  (λn s _=>by simp [dH]) (n:=k) (s0:=()) hk trivial
 rw [show dH k c l k 0=_ from key]
 refine congrArg some ?_
 have:∀(m:List Int) (j:Nat),(∃p,l=p++m/\p.length=j)->eU (λ(_:Unit) j x=>if decide (c=x)=true then Except.error (((if 0 < j then [l[j-1]?.getD 0] else [])++(l[j+1]?).toList:List Int),true) else .ok ()) j m ()=match m.findIdx? λy=>decide (c=y) with |some i=>.error (((if 0 < i+j then [l[i+j-1]?.getD 0] else [])++(l[i+j+1]?).toList:List Int),true) |none=>.ok ():=by
  intro m
  induction m with
  |nil=>simp_all [eU]
  |cons x m ih=>
   rintro j ⟨p,hp,hl⟩;rw [eU,findIdx?_cons];by_cases h:decide (c=x)=true
   .simp [h]
   .simp only [h,if_false,Bool.false_eq_true];rw [ih (j+1) ⟨p++[x],by grind,by simp [hl]⟩];cases m.findIdx? λy=>decide (c=y) with
    |none=>rfl
    |some i=>
     grind
 rw [this l 0 ⟨[],rfl,rfl⟩]
 unfold qV
 grind
theorem Jc{k:Nat}{m:ae}{c:Int}{d:Nat}(v:Vd m)(hk:10≤k)(hd:d < (mD m).length):
 kO k m (d:Int) c=some (match uV m d c with |some s=>(s,true) |none=>([],false)):=by
 have hm:=List.getElem_mem hd
 have hr:=v.r3 _ hm
 have hl:=v.l5 _ hm
 have hbes:uV m d c=tc (mD m)[d] c:=by unfold uV;simp_all
 have hg:aJ m.2.2.2.2.1 (d:Int)=some (mD m)[d]:=eA hd
 generalize (mD m)[d]=r at *
 unfold kO
 have key:=ml (T:=Int) (f:=dX k m (d:Int) c) r (λ(_:Unit) j=>j) (λ_ _ l=>match qV l c with |some s=>Except.error (s,true) |none=>.ok ()) (λ_ _=>True) (λx=>some x)
  (λn s j hj _=>by
   refine⟨?_,λ_ _=>trivial⟩;have h5:=hl _ (List.getElem_mem hj);have hck:ck ((j:Int)+1)=some ((j:Int)+1):=dh (by omega) (by omega);simp only [dX,hg,bs,Int.ofNat_lt,hj,if_true,eA hj];grind [Az,qV,oc,jh,bs])
  (λn s _=>by simp [dX,hg,bs]) (n:=k) (s0:=()) (by omega) trivial
 rw [show dX k m (d:Int) c k 0=_ from key]
 have:∀(r:List (List Int)) (j:Nat),eU (λ(_:Unit) _ l=>match qV l c with |some s=>Except.error (s,true) |none=>.ok ()) j r ()=match tc r c with |some s=>.error (s,true) |none=>.ok ():=by
  intro r
  induction r with
  |nil=>intro j;rfl
  |cons l r ih=>
   intro j;rw [eU];unfold tc;rw [findSome?_cons];cases qV l c with
   |none=>exact ih (j+1)
   |some s=>rfl
 grind [tc,oc,jh]
end Go.Proofs.YtcollhgigbijkaaGreat
set_option linter.unusedVariables false
set_option linter.unusedSimpArgs false
namespace Go.Proofs.YtcollhgigbijkaaGreat
open K Go Go.Proofs
theorem QQ{m:ae}(v:Vd m){gs:List bY}(h8:gs.length≤8)(hg:∀g∈gs,0≤g.1/\g.1 < mC m/\0≤g.2.1/\g.2.1≤(mD m).length):Vd (m.1,m.2.1,m.2.2.1,m.2.2.2.1,m.2.2.2.2.1,gs):=
 ⟨v.c1,v.c5,v.w0,v.w3,v.s0,v.s3,v.h1,v.h3,v.d1,v.d6,v.r3,v.l5,v.x5,v.nd,h8,hg⟩
theorem QT{m:ae}(h:Sm m){gs:List bY}(hg:gs.length≤1000):Sm (m.1,m.2.1,m.2.2.1,m.2.2.2.1,m.2.2.2.2.1,gs):=⟨h.d,h.r,hg⟩
end Go.Proofs.YtcollhgigbijkaaGreat
set_option linter.unusedVariables false
set_option linter.unusedSimpArgs false
namespace Go.Proofs.YtcollhgigbijkaaGreat
open K Go Go.Proofs
end Go.Proofs.YtcollhgigbijkaaGreat
set_option linter.unusedVariables false
set_option linter.unusedSimpArgs false
namespace Go.Proofs.YtcollhgigbijkaaGreat
open K Go Go.Proofs
theorem wA{m:ae}(v:Vd m){A B:Int->Bool}(h:∀c,0≤c->c < mC m->A c=B c):∀(n:Nat) (c:Int),0≤c->c < mC m->lO m A n c=lO m B n c
 |0,c,h0,h1=>by simp_all [lO]
 |n+1,c,h0,h1=>by
  have ih:=wA v h n
  unfold lO
  cases e:uV m n c with
  |none=>simp_all
  |some l=>
   have hb:=(oa v e).2
   grind
end Go.Proofs.YtcollhgigbijkaaGreat
set_option linter.unusedVariables false
set_option linter.unusedSimpArgs false
namespace Go.Proofs.YtcollhgigbijkaaGreat
open K Go Go.Proofs
end Go.Proofs.YtcollhgigbijkaaGreat
set_option linter.unusedVariables false
set_option linter.unusedSimpArgs false
namespace Go.Proofs.YtcollhgigbijkaaGreat
open K Go Go.Proofs
end Go.Proofs.YtcollhgigbijkaaGreat
set_option linter.unusedVariables false
set_option linter.unusedSimpArgs false
namespace Go.Proofs.YtcollhgigbijkaaGreat
open K Go Go.Proofs
end Go.Proofs.YtcollhgigbijkaaGreat
set_option linter.unusedVariables false
set_option linter.unusedSimpArgs false
namespace Go.Proofs.YtcollhgigbijkaaGreat
open K Go Go.Proofs
theorem CO{k:Nat}{m:ae}{b:List Int}(v:Vd m)(hk:10≤k)(hb:Bg (mC m) b):∃F:Nat->Int->Int,lb k m (gR b)=some (cr F)/\∀(n:Nat) (c:Int),n≤(mD m).length->0≤c->c < mC m->F n c=lO m (λc=>decide (c∈b)) n c:=by
 have hs:=hb.set v.c5;refine⟨_,sE v hk hs.1,λn c hn h0 h1=>?_⟩;grind [CN,wA]
end Go.Proofs.YtcollhgigbijkaaGreat
set_option linter.unusedVariables false
set_option linter.unusedSimpArgs false
namespace Go.Proofs.YtcollhgigbijkaaGreat
open K Go Go.Proofs
def f8(m:ae)(B:Int->Bool)(c:Int):Int:=match (List.range ((mD m).length+1)).findIdx? λn=>decide (0≤lO m B n c) with
 |some i=>i
 |none=> -1
theorem FM{k:Nat}{m:ae}{B:Int->Bool}{c:Int}{f:Nat->Int->Option (Except Int Unit)}(hk:(mD m).length+1 < k)(hl:(mD m).length≤1000)
 (step:∀(n j:Nat),j < (mD m).length+1->f (n+1) (j:Int)=if 0≤lO m B j c then some (.error (j:Int)) else f n ((j:Int)+1)) (stop:∀n,f (n+1) (((mD m).length:Int)+1)=some (.ok ())):K.bE (f k 0) some (λ_=>some (-1:Int))=some (f8 m B c):=by
 have key:=ml (T:=Int) (f:=f) (List.range ((mD m).length+1)) (λ(_:Unit) j=>j) (λ_ j x=>if decide (0≤lO m B x c)=true then Except.error (j:Int) else .ok ()) (λ_ _=>True) (λr=>some r)
  (λn s j hj _=>by
   grind)
  (λn s _=>by simp_all) (n:=k) (s0:=()) (by simp_all) trivial
 rw [show f k 0=_ from key,pX]
 grind [f8,K.bE]
theorem DZ{k:Nat}{m:ae}{b:List Int}{c:Int}(v:Vd m)(hk:50≤k)(hb:Bg (mC m) b)(h0:0≤c)(h1:c < mC m):eE k m (gR b) c=some (f8 m (λc=>decide (c∈b)) c):=by
 unfold eE;obtain⟨F,e,h⟩:=CO (k:=k) v (by omega) hb;have d6:=v.d6;have c5:=v.c5;have hlen:ck (((mD m).length:Int)+1)=some (((mD m).length:Int)+1):=dh (by omega) (by omega);rw [e,bs,show m.2.2.2.2.1=mD m from rfl,hlen,bs];refine FM (by omega) (by omega) (λn j hj=>?_) (λn=>?_)
 .have hck:ck ((j:Int)+1)=some ((j:Int)+1):=dh (by omega) (by omega);have hj7:j < 7:=by omega
  rw [dA,if_pos (by omega),ux hj7,bs,tg h0 (by omega),bs,h j c (by omega) h0 h1,hck,bs]
 .rw [dA,if_neg (Int.lt_irrefl _)]
theorem DF{m:ae}{B:Int->Bool}{c:Int}: -1≤f8 m B c/\f8 m B c≤(mD m).length:=by
 grind [f8,List.findIdx?_eq_some_iff_findIdx_eq,length_range]
theorem O7{m:ae}{c:Int}:OB m [c] [] []=decide (0≤c/\c < mC m):=by
 simp only [OB,yg,uU,all_cons,List.all_nil,Bool.and_true];grind
end Go.Proofs.YtcollhgigbijkaaGreat
set_option linter.unusedVariables false
set_option linter.unusedSimpArgs false
namespace Go.Proofs.YtcollhgigbijkaaGreat
open K Go Go.Proofs
theorem Bg.one{C x:Int}(h0:0≤x)(h1:x < C):Bg C [x]:=⟨λy hy=>by simp_all,pairwise_singleton _ _⟩
end Go.Proofs.YtcollhgigbijkaaGreat
set_option linter.unusedVariables false
set_option linter.unusedSimpArgs false
namespace Go.Proofs.YtcollhgigbijkaaGreat
open K Go Go.Proofs
def f7(A:Nat->Int->Int)(c:Int):Nat->Nat
 |0=>0
 |n+1=>if 0≤A n c then f7 A c n else n+1
theorem ox{A:Nat->Int->Int}{c:Int}:∀{n:Nat},f7 A c n≤n
 |0=>Nat.le_refl 0
 |n+1=>by
  rw [f7]
  split
  .
   exact Nat.le_succ_of_le ox
  omega
theorem oy{A:Nat->Int->Int}{c:Int}:∀{n:Nat},0≤A n c->f7 A c n≠0->0≤A (f7 A c n) c/\A (f7 A c n - 1) c < 0
 |0,_,h=>absurd rfl h
 |n+1,h,h0=>by
  rw [f7] at h0⊢
  split
  .
   rename_i hn
   rw [if_pos hn] at h0
   exact oy hn h0
  simp_all
def nz(m:ae)(A:Nat->Int->Int)(c:Int)(d:Nat):Int:=match uV m d c with
 |some l=>Aj m (A d) l
 |none=> -1
def nk(m:ae)(A:Nat->Int->Int):Nat->Int->Nat->List (Int×Nat)
 |0,_,_=>[]
 |f+1,c,n=>if f7 A c n=0 then [] else(nz m A c (f7 A c n - 1),f7 A c n - 1)::nk m A f (nz m A c (f7 A c n - 1)) (f7 A c n - 1)
structure Oy(m:ae)(B:Int->Bool)(A:Nat->Int->Int):Prop where
 eq:∀(n:Nat) (c:Int),n≤(mD m).length->0≤c->c < mC m->A n c=lO m B n c
theorem tK{m:ae}{B:Int->Bool}{A:Nat->Int->Int}(v:Vd m)(hA:Oy m B A){c:Int}{d:Nat}(h0:0≤c)(h1:c < mC m)(hd:d < (mD m).length)(ha:A d c < 0)(hb:0≤A (d+1) c):
 ∃l,uV m d c=some l/\0≤nz m A c d/\nz m A c d < mC m/\mW m≤A d (nz m A c d)/\nz m A c d∈l/\A (d+1) c=0:=by
 rw [hA.eq d c (by omega) h0 h1] at ha
 rw [hA.eq (d+1) c (by omega) h0 h1] at hb⊢
 rw [lO] at hb⊢
 have w0:=v.w0
 cases e:uV m d c with
 |none=>
  grind
 |some l=>
  simp only [e] at hb⊢;have hx:=oa v e;rw [if_neg (by omega)] at hb⊢
  have hany:(l.any λx=>decide (mW m≤lO m B d x))=true:=by
   grind
  have hany':(l.any λx=>decide (mW m≤A d x))=true:=by
   rw [List.any_eq_true] at hany⊢;obtain⟨x,hxl,hx2⟩:=hany;exact⟨x,hxl,by rw [hA.eq d x (by omega) (hx.2 x hxl).1 (hx.2 x hxl).2];exact hx2⟩
  refine⟨l,rfl,?_⟩;unfold nz;simp only [e];have hge:=(BF (m:=m) (f:=A d) (λx h=>(hx.2 x h).1)).2 hany';unfold Aj at hge⊢;cases hf:(mF l).find? λx=>decide (mW m≤A d x) with
  |none=>simp_all
  |some y=>
   have hy:=List.find?_some hf;have hyl:=nB.1 (List.mem_of_find?_eq_some hf);simp_all
theorem xI{m:ae}{B:Int->Bool}{A:Nat->Int->Int}(v:Vd m)(hA:Oy m B A):∀(f:Nat) (c:Int) (n:Nat),n < f->0≤c->c < mC m->n≤(mD m).length->0≤A n c->∀t∈nk m A f c n,0≤t.1/\t.1 < mC m/\t.2 < n
 |0,_,_,h,_,_,_,_=>absurd h (not_lt_zero _)
 |f+1,c,n,hf,h0,h1,hn,ha=>by
  intro t ht
  rw [nk] at ht
  split at ht
  .
   cases ht
  .
   rename_i hs
   have hle:=ox (A:=A) (c:=c) (n:=n)
   have hat:=oy ha hs
   obtain⟨d,hd⟩:∃d,f7 A c n=d+1:=⟨f7 A c n - 1,by omega⟩
   rw [hd,Nat.add_sub_cancel] at hat
   rw [hd,Nat.add_sub_cancel] at ht
   obtain⟨l,e,g0,g1,gw,_⟩:=tK v hA (d:=d) h0 h1 (by omega) hat.2 hat.1
   have w0:=v.w0
   rcases mem_cons.1 ht with rfl |ht
   .
    omega
   .
    have:=xI v hA f _ d (by omega) g0 g1 (by omega) (by omega) t ht
    omega
def Fv(c:Int)(n:Nat):be:=(c,(n:Int))
def M7(M:List (be×be))(t:be):List be->List (be×be)
 |[]=>nO M t (-1,0)
 |t'::l=>M7 (nO M t t') t' l
theorem D6{M:List (be×be)}{s t v:be}(h:s≠t):(M.map λp=>if p.1=t then(t,v) else p).find? (λp=>decide (p.1=s))=M.find? λp=>decide (p.1=s):=by
 induction M with
 |nil=>rfl
 |cons p M ih=>
  grind
theorem BW{M:List (be×be)}{s t v d:be}(h:s≠t):ik (nO M t v) s d=ik M s d:=by
 have:(nO M t v).find? (λp=>decide (p.1=s))=M.find? λp=>decide (p.1=s):=by
  unfold nO;by_cases hm:t∈M.map (·.1)
  .rw [if_pos hm,D6 h]
  grind
 simp_all [ik]
theorem wq{t v:be}:∀{M:List (be×be)},t∈M.map (·.1)->(M.map λp=>if p.1=t then(t,v) else p).find? (λp=>decide (p.1=t))=some (t,v)
 |[],h=>by cases h
 |p::M,h=>by
  rw [map_cons,find?_cons]
  by_cases hp:p.1=t
  .
   simp_all
  .
   rw [if_neg hp]
   have e2:decide (p.1=t)=false:=by simp_all
   rw [e2]
   rw [map_cons,mem_cons] at h
   exact wq (h.resolve_left (Ne.symm hp))
theorem BX{M:List (be×be)}{t v d:be}:ik (nO M t v) t d=v:=by
 have:(nO M t v).find? (λp=>decide (p.1=t))=some (t,v):=by
  unfold nO;by_cases hm:t∈M.map (·.1)
  .rw [if_pos hm,wq hm]
  grind
 simp_all [ik]
theorem F5{s d:be}:∀{l:List be} {M:List (be×be)} {t:be},s≠t->(∀x∈l,s≠x)->ik (M7 M t l) s d=ik M s d
 |[],M,t,h,_=>BW h
 |t'::l,M,t,h,hl=>by
  rw [M7,F5 (hl t' (mem_cons_self ..)) (λx hx=>hl x (mem_cons_of_mem _ hx)),BW h]
theorem F6{M:List (be×be)}{t d:be}{l:List be}(h:∀x∈l,t≠x):ik (M7 M t l) t d=l.headD (-1,0):=by
 cases l with
 |nil=>exact BX
 |cons t' l=>
  simp_all [M7,F5,mem_cons_self,mem_cons_of_mem,BX]
def Cc(l:List (Int×Nat)):List be:=l.map λt=>Fv t.1 t.2
theorem wO{m:ae}(v:Vd m){c:Int}{n:Nat}(h0:0≤c)(h1:c < mC m)(hn:n≤(mD m).length):wP (c,(n:Int)):=by
 have:=v.c5;have:=v.d6;exact⟨⟨by omega,by omega⟩,by omega,by omega⟩
theorem uD{k:Nat}{m:ae}{B:Int->Bool}{F:Nat->Int->Int}(v:Vd m)(hA:Oy m B F){y6:Int×Int×(List (be×be))}(h0:0≤y6.1)(h1:y6.1 < mC m):∀(n f:Nat),n < f->n≤(mD m).length->cZ k (cr F) y6 f (n:Int)=some (f7 F y6.1 n:Int)
 |n,0,h,_=>absurd h (not_lt_zero _)
 |0,f+1,_,_=>by
  rw [cZ,if_neg (by decide),bs,if_neg (by decide)];rfl
 |n+1,f+1,h,hn=>by
  have d6:=v.d6
  have c5:=v.c5
  have hck:ck (((n+1:Nat):Int) - 1)=some (n:Int):=by grind [dh]
  rw [cZ,if_pos (by omega),hck,bs,ux (by omega),bs,tg h0 (by omega),bs,bs,f7]
  by_cases ha:0≤F n y6.1
  .
   rw [if_pos (decide_eq_true ha),bs,if_pos ha]
   exact uD v hA h0 h1 n f (by omega) (by omega)
  grind
theorem uE{k:Nat}{m:ae}{B:Int->Bool}{F:Nat->Int->Int}(v:Vd m)(hk:50≤k)(hA:Oy m B F):∀(f f':Nat) (c:Int) (n:Nat) (M:List (be×be)),n < f->f≤f'->n≤(mD m).length->0≤c->c < mC m->0≤F n c->
 c6 k m (cr F) f' (c,(n:Int),M)=some (M7 M (Fv c n) (Cc (nk m F f c n)))
 |0,_,_,_,_,h,_,_,_,_,_=>absurd h (not_lt_zero _)
 |f+1,0,_,_,_,_,h,_,_,_,_=>by omega
 |f+1,f'+1,c,n,M,hf,hf',hn,h0,h1,ha=>by
  have d6:=v.d6
  have c5:=v.c5
  have hle:=ox (A:=F) (c:=c) (n:=n)
  rw [c6,show cZ k (cr F) (c,(n:Int),M) k (c,(n:Int),M).2.1=some (f7 F c n:Int) from uD v hA h0 h1 n k (by omega) hn,bs,dE (wO v h0 h1 hn),bs,nk]
  by_cases hs:f7 F c n=0
  .
   rw [if_pos (by omega),if_pos hs,oc];rfl
  .
   have hat:=oy ha hs
   obtain⟨d,hd⟩:∃d,f7 F c n=d+1:=⟨f7 F c n - 1,by omega⟩
   rw [hd,Nat.add_sub_cancel] at hat
   obtain⟨l,e,g0,g1,gw,_⟩:=tK v hA (d:=d) h0 h1 (by omega) hat.2 hat.1
   have w0:=v.w0
   have hck:ck (((d+1:Nat):Int) - 1)=some (d:Int):=by grind [dh]
   have ht:cY k m (ky (F d)) c (d:Int)=some (nz m F c d):=by
    grind [tI,nz]
   rw [if_neg (by omega),if_neg hs,hd,hck,bs,ux (by omega),bs,bs,ht,bs,bs,bs,jh,Nat.add_sub_cancel];rw [show c6 k m (cr F) f' _=_ from uE v hk hA f f' (nz m F c d) d (nO M (c,(n:Int)) (nz m F c d,(d:Int))) (by omega) (by omega) (by omega) g0 g1 (by omega)];rfl
theorem wn{k:Nat}{m:ae}(v:Vd m):∀(l:List (Int×Nat)) (c:Int) (n f:Nat) (M R:List (be×be)) (out:List Int),l.length < f->out.length+l.length≤100->0≤c->c < mC m->n≤(mD m).length->(∀t∈l,0≤t.1/\t.1 < mC m/\t.2 < n)->(l.map (·.2)).Pairwise (· > ·)->
 (∀s d,s=Fv c n\/s∈Cc l->ik R s d=ik (M7 M (Fv c n) (Cc l)) s d)->eR k R f (c,(n:Int),out)=some (out++l.map (·.1))
 |l,c,n,0,_,_,_,h,_,_,_,_,_,_,_=>absurd h (not_lt_zero _)
 |[],c,n,f+1,M,R,out,hf,ho,h0,h1,hn,ht,hp,hR=>by
  have e:ik R (c,(n:Int)) (0,0)=(-1,0):=by
   rw [hR (c,(n:Int)) (0,0) (.inl rfl)];exact F6 (by intro x hx;cases hx)
  have hg:=dE (wO v h0 h1 hn);simp_all [eR,bs,not_true_eq_false,if_false,map_nil,append_nil]
 |t::l,c,n,f+1,M,R,out,hf,ho,h0,h1,hn,ht,hp,hR=>by
  have ht0:=ht t (mem_cons_self ..)
  have hne:∀x∈Cc (t::l),Fv c n≠x:=λx hx=>by
   obtain⟨y,hy,rfl⟩:=List.mem_map.1 hx;have:=(ht y hy).2.2;intro h;have:(n:Int)=(y.2:Int):=congrArg Prod.snd h;omega
  have e:ik R (c,(n:Int)) (0,0)=Fv t.1 t.2:=by
   rw [hR (c,(n:Int)) (0,0) (.inl rfl)];exact F6 hne
  have hok:cu (length out+length [(Fv t.1 t.2).1]):=Tm (n:=100) (by omega) (by omega);have hg:=dE (wO v h0 h1 hn);have hn':¬(Fv t.1 t.2=(-1,0)):=λh=>by have:t.1= -1:=congrArg Prod.fst h;omega
  simp only [eR,hg,bs,e,hn',not_false_eq_true,if_true,dE hok];rw [map_cons,pairwise_cons] at hp
  have:=wn (k:=k) v l t.1 t.2 f (nO M (Fv c n) (Fv t.1 t.2)) R (out++[t.1]) (by simp_all) (by grind) ht0.1 ht0.2.1 (by omega)
   (λy hy=>⟨(ht y (mem_cons_of_mem _ hy)).1,(ht y (mem_cons_of_mem _ hy)).2.1,hp.1 _ (List.mem_map_of_mem hy)⟩) hp.2 (λs d hs=>hR s d (.inr (by
    rcases hs with rfl |hs
    .exact mem_cons_self ..
    .exact mem_cons_of_mem _ hs)))
  simp_all [eR,Fv]
theorem xH{m:ae}{B:Int->Bool}{A:Nat->Int->Int}(v:Vd m)(hA:Oy m B A):∀(f:Nat) (c:Int) (n:Nat),n < f->0≤c->c < mC m->n≤(mD m).length->0≤A n c->((nk m A f c n).map (·.2)).Pairwise (· > ·)/\(nk m A f c n).length≤n
 |0,_,_,h,_,_,_,_=>absurd h (not_lt_zero _)
 |f+1,c,n,hf,h0,h1,hn,ha=>by
  rw [nk]
  split
  .
   simp_all
  .
   rename_i hs
   have hle:=ox (A:=A) (c:=c) (n:=n)
   have hat:=oy ha hs
   obtain⟨d,hd⟩:∃d,f7 A c n=d+1:=⟨f7 A c n - 1,by omega⟩
   rw [hd,Nat.add_sub_cancel] at hat⊢
   obtain⟨l,e,g0,g1,gw,_⟩:=tK v hA (d:=d) h0 h1 (by omega) hat.2 hat.1
   have w0:=v.w0
   have ih:=xH v hA f (nz m A c d) d (by omega) g0 g1 (by omega) (by omega)
   refine⟨?_,by grind⟩
   rw [map_cons,pairwise_cons]
   refine⟨λx hx=>?_,ih.1⟩
   obtain⟨y,hy,rfl⟩:=List.mem_map.1 hx
   exact(xI v hA f _ d (by omega) g0 g1 (by omega) (by omega) y hy).2.2
theorem FV{k:Nat}:∀(d:Nat) (a l b:List Int) (f:Nat),l.length≤d->d < f->a.length=b.length->a.length+l.length+b.length≤100->cL k f (a++l++b,(a.length:Int),(a.length:Int)+l.length - 1)=some (a++l.reverse++b)
 |_,_,_,_,0,_,h,_,_=>absurd h (not_lt_zero _)
 |d,a,[],b,f+1,_,_,_,_=>by
  rw [cL,if_neg (by grind)];rfl
 |d,a,[x],b,f+1,_,_,_,_=>by
  simp_all [cL,if_neg]
 |0,a,x::y::l,b,f+1,h,_,_,_=>by simp at h
 |d+1,a,x::y::l,b,f+1,h,hf,hab,hc=>by
  obtain⟨l',z,e⟩:∃l' z,y::l=l'++[z]:=⟨(y::l).dropLast,(y::l).getLast (by simp),(List.dropLast_concat_getLast (by simp)).symm⟩
  rw [e] at h hc⊢
  simp only [length_cons,length_append,length_nil] at h hc
  have hi:(a.length:Int)+((x::(l'++[z])).length:Nat) - 1=((a.length+1+l'.length:Nat):Int):=by grind
  have hl:a++x::(l'++[z])++b=a++(x::(l'++([z]++b))):=by simp
  rw [hi,hl]
  have e1:aJ (a++(x::(l'++([z]++b)))) (a.length:Int)=some x:=pV (by omega) (by simp_all)
  have e2:aJ (a++(x::(l'++([z]++b)))) ((a.length+1+l'.length:Nat):Int)=some z:=pV (by omega) (by
   rw [Int.toNat_natCast,List.getElem?_append_right (by omega),show a.length+1+l'.length - a.length=l'.length+1 by omega,getElem?_cons_succ,List.getElem?_append_right (Nat.le_refl _),Nat.sub_self];rfl)
  have s1:List.set (a++(x::(l'++([z]++b)))) a.length z=a++(z::(l'++([z]++b))):=by simp_all
  have e3:aJ (a++(z::(l'++([z]++b)))) ((a.length+1+l'.length:Nat):Int)=some z:=pV (by omega) (by
   rw [Int.toNat_natCast,List.getElem?_append_right (by omega),show a.length+1+l'.length - a.length=l'.length+1 by omega,getElem?_cons_succ,List.getElem?_append_right (Nat.le_refl _),Nat.sub_self];rfl)
  have s2:List.set (a++(z::(l'++([z]++b)))) (a.length+1+l'.length) x=a++(z::(l'++([x]++b))):=by
   grind
  have c1:ck ((a.length:Int)+1)=some ((a.length:Int)+1):=dh (by omega) (by omega);have c2:ck (((a.length+1+l'.length:Nat):Int) - 1)=some (((a.length+1+l'.length:Nat):Int) - 1):=dh (by omega) (by omega);rw [cL,if_pos (by grind)];simp only [e1,e2,bs,Int.toNat_natCast,s1,e3,c1,c2,s2];have:=FV (k:=k) d (a++[z]) l' (x::b) f (by omega) (by omega) (by simp;omega) (by grind);simp_all
theorem Av{k:Nat}{l:List Int}(hk:200≤k)(hl:l.length≤90):fP k l=some l.reverse:=by
 unfold fP;have hck:ck ((l.length:Int) - 1)=some ((l.length:Int) - 1):=dh (by omega) (by omega);have:=FV (k:=k) l.length [] l [] k (Nat.le_refl _) (by omega) rfl (by simp;omega);simp_all
def xJ(m:ae)(b:List Int)(c:Int):List Int×Int:=if¬(qe m=0) then([],qe m) else if¬(qW (mC m) b=0) then([],qW (mC m) b) else if¬(0≤c/\c < mC m) then([],3) else
 if f8 m (λy=>decide (y∈b)) c < 0 then([],11) else((c::(nk m (lO m λy=>decide (y∈b)) 10 c (f8 m (λy=>decide (y∈b)) c).toNat).map (·.1)).reverse,0)
theorem tN{A A':Nat->Int->Int}{c:Int}:∀{n:Nat},(∀i,i < n->A i c=A' i c)->f7 A c n=f7 A' c n
 |0,_=>rfl
 |n+1,h=>by rw [f7,f7,h n (lt_succ_self n),tN λi hi=>h i (lt_succ_of_lt hi)]
theorem Ak{m:ae}(v:Vd m){A A':Nat->Int->Int}{c:Int}{d:Nat}(h:∀x,0≤x->x < mC m->A d x=A' d x):nz m A c d=nz m A' c d:=by
 unfold nz;split
 .rename_i l e;have hb:=oa v e;unfold Aj;congr 1
  have:∀s:List Int,(∀x∈s,x∈l)->s.find? (λx=>decide (mW m≤A d x))=s.find? λx=>decide (mW m≤A' d x):=by
   intro s hs
   induction s with
   |nil=>rfl
   |cons x s ih=>
    grind
  simp_all [nB]
 .rfl
theorem uA{m:ae}{B:Int->Bool}{A:Nat->Int->Int}(v:Vd m)(hA:Oy m B A):∀(f:Nat) (c:Int) (n:Nat),n < f->0≤c->c < mC m->n≤(mD m).length->0≤A n c->nk m A f c n=nk m (lO m B) f c n
 |0,_,_,h,_,_,_,_=>absurd h (not_lt_zero _)
 |f+1,c,n,hf,h0,h1,hn,ha=>by
  have e1:f7 A c n=f7 (lO m B) c n:=tN λi hi=>hA.eq i c (by omega) h0 h1
  rw [nk,nk,<-e1]
  split
  .
   rfl
  .
   rename_i hs
   have hle:=ox (A:=A) (c:=c) (n:=n)
   have hat:=oy ha hs
   obtain⟨d,hd⟩:∃d,f7 A c n=d+1:=⟨f7 A c n - 1,by omega⟩
   rw [hd,Nat.add_sub_cancel] at hat⊢
   obtain⟨l,e,g0,g1,gw,_⟩:=tK v hA (d:=d) h0 h1 (by omega) hat.2 hat.1
   have w0:=v.w0
   have e2:nz m A c d=nz m (lO m B) c d:=Ak v λx g0 g1=>hA.eq d x (by omega) g0 g1
   rw [<-e2,uA v hA f _ d (by omega) g0 g1 (by omega) (by omega)]
theorem rA{m:ae}{B:Int->Bool}{c:Int}(h:¬f8 m B c < 0):∃n:Nat,f8 m B c=n/\n≤(mD m).length/\0≤lO m B n c:=by
 have hle:=DF (m:=m) (B:=B) (c:=c);unfold f8 at h⊢;cases e:(List.range ((mD m).length+1)).findIdx? λn=>decide (0≤lO m B n c) with
 |none=>simp_all
 |some i=>
  obtain⟨h1,h2,_⟩:=List.findIdx?_eq_some_iff_getElem.1 e;grind
theorem D1{k:Nat}{m:ae}{b:List Int}{c:Int}(hs:Sm m)(hk:1010≤k)(hb:b.length≤1000):kB k m b c=some (xJ m b c):=by
 unfold kB xJ;rw [yV hs hk hb (by simp) (by simp) (by simp),bs];by_cases hc:qe m=0
 .have v:=Vd.of hc;have c1:=v.c1;have c5:=v.c5;have d6:=v.d6;by_cases hg:qW (mC m) b=0
  .have hB:=oV.1 hg;simp only [hc,hg,not_true_eq_false,if_false,show OB m [c] [] []=decide (0≤c/\c < mC m) from O7,decide_eq_true_eq];by_cases hn:0≤c/\c < mC m
   .simp only [hn,and_self,if_true,xF,not_true_eq_false,if_false];rw [DZ v (by omega) hB hn.1 hn.2,bs];by_cases hx:f8 m (λy=>decide (y∈b)) c < 0
    .simp_all
    .rw [if_neg hx,if_neg hx];obtain⟨n,en,hnl,ha⟩:=rA hx;rw [en];obtain⟨F,eF,hF⟩:=CO (k:=k) v (by omega) hB;have hA:Oy m (λy=>decide (y∈b)) F:=⟨hF⟩;have ha':0≤F n c:=by simp_all
     have hbk:=uE (k:=k) v (by omega) hA 10 k c n [] (by omega) (by omega) hnl hn.1 hn.2 ha';unfold iJ;rw [eF,bs,show c6 k m (cr F) k ((c,(n:Int)).1,(c,(n:Int)).2,[])=_ from hbk,bs,Int.toNat_natCast];have hck:=xI v hA 10 c n (by omega) hn.1 hn.2 hnl ha';have hpw:=xH v hA 10 c n (by omega) hn.1 hn.2 hnl ha'
     rw [wn v (nk m F 10 c n) c n k [] _ [c] (by omega) (by grind) hn.1 hn.2 hnl hck hpw.1 (λs d _=>rfl),bs,
      Av (by omega) (by grind),bs,uA v hA 10 c n (by omega) hn.1 hn.2 hnl ha']
     rfl
   .simp only [hn,not_false_eq_true,if_true,if_false,qS];simp_all
  simp_all [not_true_eq_false,not_false_eq_true,if_true,if_false,qS]
 simp_all [not_false_eq_true,if_true,qS]
end Go.Proofs.YtcollhgigbijkaaGreat
set_option linter.unusedVariables false
set_option linter.unusedSimpArgs false
namespace Go.Proofs.YtcollhgigbijkaaGreat
open K Go Go.Proofs
theorem Hf:qL 1200=some true:=by decide+kernel
theorem W.get{α:Type}{x:Option α}{a:α}(h:W x λy=>y=a):x=some a:=by
 obtain⟨b,e,rfl⟩:=h;exact e
