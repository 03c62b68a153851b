import Derived.Test.YtddkbkkogpolaaaGreatVGF2
open Nat
open List hiding mem_of_getElem?
open Array hiding mem_of_getElem? mk
set_option linter.unusedVariables false
set_option linter.unusedSimpArgs false
namespace Go.Proofs.YtddkbkkogpolaaaGreat
open K Go Go.Proofs
def W{α:Type}(x:Option α)(Q:α->Prop):Prop:=∃a,x=some a/\Q a
namespace W
variable {α β ε:Type}{Q:β->Prop}
theorem ret{a:β}(h:Q a):W (some a) Q:=⟨a,rfl,h⟩
theorem mono{x:Option β}{R:β->Prop}(h:W x R)(hq:∀a,R a->Q a):W x Q:=let ⟨a,e,r⟩:=h;⟨a,e,hq a r⟩
theorem bind{x:Option α}{f:α->Option β}{R:α->Prop}(h:W x R)(hf:∀a,R a->W (f a) Q):W (x.bind f) Q:=by
 obtain⟨a,rfl,r⟩:=h;grind
theorem ck{n:Int}{f:Int->Option β}(h1: -9223372036854775808≤n)(h2:n≤9223372036854775807)(hf:W (f n) Q):W ((K.ck n).bind f) Q:=by
 simp_all [K.ck,if_pos]
theorem chk{p:Prop}[Decidable p]{f:Unit->Option β}(h:p)(hf:W (f ()) Q):W ((cM p).bind f) Q:=by
 simp_all [cM,if_pos]
theorem at_{l:List α}{i:Int}{f:α->Option β}(h0:0≤i)(h1:i < l.length)(hf:∀x,l[i.toNat]? =some x->W (f x) Q):W ((aR l i).bind f) Q:=by
 simp_all [aR,if_pos,List.getElem?_eq_getElem]
theorem ite{p:Prop}[Decidable p]{a b:Option β}(h1:p->W a Q)(h2:¬p->W b Q):W (if p then a else b) Q:=by
 grind
theorem iteB{p:Prop}[Decidable p]{a b:Option α}{f:α->Option β}(h1:p->W (a.bind f) Q)(h2:¬p->W (b.bind f) Q):W ((if p then a else b).bind f) Q:=by
 grind
theorem bEE{x:Option (Except ε α)}{g:ε->Option β}{f:α->Option β}{R:Except ε α->Prop}(h:W x R)(hg:∀e,R (.error e)->W (g e) Q)(hf:∀a,R (.ok a)->W (f a) Q):W (K.bE x g f) Q:=by
 obtain⟨a,rfl,r⟩:=h;cases a with
 |error e=>exact hg e r
 |ok a=>exact hf a r
theorem loop{T:Type}{f:Nat->T->Option β}(I:Nat->T->Prop)(step:∀aE m y,I m y->(∀m' y',m' < m->I m' y'->W (f aE y') Q)->W (f (aE+1) y) Q):∀m aE y,m < aE->I m y->W (f aE y) Q:=by
 intro m
 induction m using Nat.strongRecOn with
 |_ m ih=>
  intro aE y hm hI;cases aE with
  |zero=>omega
  |succ aE=>grind
end W
theorem wrap_u64(n:Int):0≤IntKind.u64.wrap n/\IntKind.u64.wrap n < 18446744073709551616:=by
 simp_all [Int.emod_nonneg,Int.emod_lt_of_pos,IntKind.wrap,IntKind.signed,IntKind.bits]
theorem yY{n:Int}(h0:0≤n)(h1:n < 18446744073709551616):IntKind.u64.wrap n=n:=by
 simp_all [IntKind.wrap,IntKind.signed,IntKind.bits,Int.emod_eq_of_lt]
def Lo(l:bW)(m:Int):Prop:=0≤l.2.1/\l.2.1≤m
theorem LM{k:Nat}{l:bW}{m:Int}(h:Lo l m)(hm:m≤1000000000):W (iu k l) λr=>0≤r.1/\r.1 < 72057594037927936/\Lo r.2 (m+1):=by
 obtain⟨h0,h1⟩:=h;unfold iu
 have fin:∀x:Int,W ((K.ck (l.2.1+1)).bind λx4=>some (ix .u64 (sX .u64 (IntKind.u64.wrap ((sX .u64 x (ix .u64 x (29:Int))) * (2685821657736338717:Int))) (ix .u64 (IntKind.u64.wrap ((sX .u64 x (ix .u64 x (29:Int))) * (2685821657736338717:Int))) (32:Int))) (8:Int),(l.1,x4,x)))
  λr=>0≤r.1/\r.1 < 72057594037927936/\Lo r.2 (m+1):=λx=>by
  refine W.ck (by omega) (by omega) (W.ret ?_)
  generalize IntKind.u64.wrap ((sX .u64 x (ix .u64 x (29:Int))) * (2685821657736338717:Int))=y
  have hx:0≤sX .u64 y (ix .u64 y 32)/\sX .u64 y (ix .u64 y 32) < 18446744073709551616:=wrap_u64 _
  have e:ix .u64 (sX .u64 y (ix .u64 y 32)) 8=(sX .u64 y (ix .u64 y 32)) / 256:=by
   unfold ix;rw [Int.fdiv_eq_ediv_of_nonneg _ (by decide)];rfl
  refine⟨?_,?_,?_,?_⟩
  .
   omega
  .
   omega
  .
   grind
  simp_all
 refine W.iteB (λhlt=>?_) (λ_=>fin _);simp_all [aR,if_pos,List.getElem?_eq_getElem]
theorem kM{k:Nat}{l:bW}{m n:Int}(h:Lo l m)(hm:m≤1000000000)(hn:n≤1000000000):W (cE k l n) λr=>0≤r.1/\(0≤n->r.1≤n)/\Lo r.2 (m+1):=by
 unfold cE;refine W.ite (λh1=>W.ret ⟨Int.le_refl 0,λh=>h,h.1,by show l.2.1≤m+1;have:=h.2;omega⟩) (λh1=>?_);refine W.bind (LM h hm) λr hr=>?_;refine W.ck (by omega) (by omega) ?_;have e:IntKind.u64.wrap (n+1)=n+1:=yY (by omega) (by omega);refine W.chk (by omega) ?_;rw [e];have h2:Int.tmod r.1 (n+1)=r.1 % (n+1):=Int.tmod_eq_emod_of_nonneg hr.1;have h3:=Int.emod_nonneg r.1 (show n+1≠0 by omega);have h4:=Int.emod_lt_of_pos r.1 (show 0 < n+1 by omega);grind [W.ck,W.ret]
theorem D5{k:Nat}{l:bW}{m a b:Int}(h:Lo l m)(hm:m≤1000000000)(ha:0≤a)(hab:a≤b)(hb:b≤1000000):W (fQ k l a b) λr=>a≤r.1/\r.1≤b/\Lo r.2 (m+1):=by
 grind [fQ,W.ck,W.bind,kM,W.ret]
theorem xP{k:Nat}{l:bW}{m a:Int}(h:Lo l m)(hm:m≤1000000000)(ha:0≤a)(hb:a≤1000000):W (fx k l a) λr=>Lo r.2 (m+1):=by
 grind [fx,W.ck,W.bind,kM,W.ret]
theorem H2{k:Nat}{l:bW}{m:Int}{some_:List Int}(h:Lo l m)(hm:m≤1000000000)(h0:0 < some_.length)(h1:some_.length≤1000000):W (gX k l some_) λr=>r.1∈some_/\Lo r.2 (m+1):=by
 grind [gX,W.ck,W.bind,kM,W.at_,W.ret,List.mem_of_getElem?]
theorem dZ{α:Type}{l:List α}{i:Nat}(h:i < l.length):aR l (i:Int)=some l[i]:=by
 rw [aR,if_pos (by omega)];simp_all
section
variable {α β γ ε σ T:Type}
theorem bs{a:α}{f:α->Option β}:(some a).bind f=f a:=by simp_all
theorem dE{n:Int}(h1: -9223372036854775808≤n)(h2:n≤9223372036854775807):K.ck n=some n:=by simp_all [K.ck,if_pos]
theorem dF{p:Prop}[Decidable p](h:p):cM p=some ():=by rw [cM,if_pos h]
theorem ym{l:List α}{i:Int}(h0:0≤i)(h:i.toNat < l.length):aR l i=some l[i.toNat]:=by rw [aR,if_pos h0];simp_all
theorem mM{a:α}{g:ε->Option β}{f:α->Option β}:K.bE (some (.ok a)) g f=f a:=by simp_all [K.bE]
theorem nS{e:ε}{g:ε->Option β}{f:α->Option β}:K.bE (some (.error e)) g f=g e:=by simp_all [K.bE]
theorem yz{q:α}{a:β}{b:α->β}:f9 (some q) a b=b q:=by simp_all [f9]
theorem yA{a:β}{b:α->β}:f9 none a b=a:=by simp_all [f9]
theorem VF{n:Nat}(h:n≤4294967296):bQ n:=h
def qd(g:σ->Nat->α->σ):Nat->List α->σ->σ
 |_,[],s=>s
 |j,x::l,s=>qd g (j+1) l (g s j x)
theorem lM(l:List α)(mk:σ->Int->T)(g:σ->Nat->α->σ)(P:Nat->σ->Prop){f:Nat->T->Option β}(fin:σ->Option β)
 (step:∀n s (j:Nat) (h:j < l.length),P j s->f (n+1) (mk s j)=f n (mk (g s j l[j]) ((j:Int)+1))/\P (j+1) (g s j l[j]))
 (stop:∀n s,P l.length s->f (n+1) (mk s l.length)=fin s) {s0:σ} {n:Nat} (hn:l.length < n) (h0:P 0 s0):f n (mk s0 0)=fin (qd g 0 l s0)/\P l.length (qd g 0 l s0):=by
 have key:∀(m:List α) (pre:List α) (n:Nat) (s:σ),l=pre++m->m.length < n->P pre.length s->f n (mk s pre.length)=fin (qd g pre.length m s)/\P l.length (qd g pre.length m s):=by
  intro m
  induction m with
  |nil=>
   intro pre n s e hn hp;obtain⟨n,rfl⟩:∃n',n=n'+1:=⟨n - 1,by omega⟩;have:l.length=pre.length:=by grind
   rw [<-this] at hp⊢;exact⟨stop n s hp,hp⟩
  |cons x m ih=>
   intro pre n s e hn hp;simp only [length_cons] at hn;obtain⟨n,rfl⟩:∃n',n=n'+1:=⟨n - 1,by omega⟩;have hl:pre.length < l.length:=by grind
   have hx:l[pre.length]=x:=by simp [e]
   obtain⟨h1,h2⟩:=step n s pre.length hl hp;rw [hx] at h1 h2;have:=ih (pre++[x]) n (g s pre.length x) (by grind) (by omega) (by simp_all);rw [length_append] at this;simp only [length_cons,length_nil,Nat.zero_add] at this;rw [h1];exact this
 have:=key l [] n s0 rfl hn h0
 exact this
def eJ(g:σ->Nat->α->Except ε σ):Nat->List α->σ->Except ε σ
 |_,[],s=>.ok s
 |j,x::l,s=>match g s j x with
  | .error e=>.error e
  | .ok s'=>eJ g (j+1) l s'
theorem xc(l:List α)(mk:σ->Int->T)(g:σ->Nat->α->Except ε σ)(P:Nat->σ->Prop){f:Nat->T->Option β}(fin:Except ε σ->Option β)
 (step:∀n s (j:Nat) (h:j < l.length),P j s->(∃e,g s j l[j]= .error e/\f (n+1) (mk s j)=fin (.error e))\/(∃s',g s j l[j]= .ok s'/\f (n+1) (mk s j)=f n (mk s' ((j:Int)+1))/\P (j+1) s'))
 (stop:∀n s,P l.length s->f (n+1) (mk s l.length)=fin (.ok s)) {s0:σ} {n:Nat} (hn:l.length < n) (h0:P 0 s0):f n (mk s0 0)=fin (eJ g 0 l s0):=by
 have key:∀(m:List α) (pre:List α) (n:Nat) (s:σ),l=pre++m->m.length < n->P pre.length s->f n (mk s pre.length)=fin (eJ g pre.length m s):=by
  intro m
  induction m with
  |nil=>
   intro pre n s e hn hp;obtain⟨n,rfl⟩:∃n',n=n'+1:=⟨n - 1,by omega⟩;have:l.length=pre.length:=by grind
   rw [<-this] at hp⊢;exact stop n s hp
  |cons x m ih=>
   intro pre n s e hn hp;simp only [length_cons] at hn;obtain⟨n,rfl⟩:∃n',n=n'+1:=⟨n - 1,by omega⟩;have hl:pre.length < l.length:=by grind
   have hx:l[pre.length]=x:=by simp [e]
   rcases step n s pre.length hl hp with⟨e',h1,h2⟩ |⟨s',h1,h2,h3⟩
   .grind [eJ]
   .rw [hx] at h1;have:=ih (pre++[x]) n s' (by grind) (by omega) (by simp_all);simp_all [length_append,length_cons,length_nil,Nat.zero_add,eJ]
 exact key l [] n s0 rfl hn h0
end
section
variable {α β ε σ T:Type}
theorem nn(l:List α)(mk:σ->Int->T)(g:σ->Nat->α->Except ε σ)(P:Nat->σ->Prop){f:Nat->T->Option β}(fin:Except ε σ->Option β)
 (step:∀n s (j:Nat) (h:j < l.length),P j s->(f (n+1) (mk s j)=match g s j l[j] with | .error e=>fin (.error e) | .ok s'=>f n (mk s' ((j:Int)+1)))/\∀s',g s j l[j]= .ok s'->P (j+1) s')
 (stop:∀n s,P l.length s->f (n+1) (mk s l.length)=fin (.ok s)) {s0:σ} {n:Nat} (hn:l.length < n) (h0:P 0 s0):f n (mk s0 0)=fin (eJ g 0 l s0):=
 xc l mk g P fin (λn s j h hp=>by
  obtain⟨h1,h2⟩:=step n s j h hp
  grind) stop hn h0
end
theorem u5{α:Type}(p:α->Bool):∀(l:List α) (j:Nat),eJ (λ(_:Unit) j x=>if p x then Except.error (j:Int) else .ok ()) j l ()=match l.findIdx? p with |some i=>.error ((i+j:Nat):Int) |none=>.ok ()
 |[],j=>by simp [eJ]
 |x::l,j=>by
  rw [eJ,findIdx?_cons]
  by_cases h:p x=true
  .
   simp [h]
  .
   simp only [h,if_false,Bool.false_eq_true]
   rw [u5 p l (j+1)]
   grind
theorem S5{k:Nat}{l:List Int}{x:Int}(hk:l.length < k)(hl:l.length≤1000000):W (uV k l x) λr=>(0≤r↔x∈l):=by
 unfold uV
 have key:=W.loop (f:=lg k l x) (Q:=λr=>match r with | .error e=>0≤e/\x∈l | .ok _=>x∉l)
  (λm y=>0≤y/\y≤l.length/\m=l.length - y.toNat/\∀j:Nat,(j:Int) < y->l[j]? ≠some x) (λaE m y hI ih=>by
   obtain⟨h0,h1,hm,hj⟩:=hI;unfold lg;refine W.ite (λhlt=>W.at_ h0 hlt λv hv=>W.ite (λe=>W.ret ⟨h0,?_⟩) (λe=>W.ck (by omega) (by omega) (ih (m - 1) _ (by omega) ⟨by omega,by omega,by omega,λj hjy=>?_⟩))) (λhge=>W.ret ?_)
   .grind
   .grind
   grind [List.mem_iff_getElem?,Nat.lt_or_ge,List.getElem?_eq_none])
 refine W.bEE (key l.length k 0 hk ⟨Int.le_refl 0,by omega,by simp,λj hj=>by omega⟩) (λe he=>W.ret ⟨λ_=>he.2,λ_=>he.1⟩) (λ_ ho=>W.ret ⟨λh=>by omega,λh=>absurd h ho⟩)
theorem zy{k:Nat}{a b:List Int}(h:a.length < k)(hk:a.length≤1000000):eC k a b=some (decide (a=b)):=by
 unfold eC;by_cases hl:a.length=b.length
 .rw [if_neg (by simp [hl])]
  have key:=xc (f:=dJ k a b) a (λ(_:Unit) j=>j) (λ_ j x=>if x=b[j]?.getD 0 then .ok () else Except.error false) (λ_ _=>True) (λr=>some r)
   (λn s j hj _=>by
    have hjb:j < b.length:=by omega
    have hb:b[j]?.getD 0=b[j]:=by simp_all
    have hck:ck ((j:Int)+1)=some ((j:Int)+1):=dE (by omega) (by omega);rw [hb];simp only [dJ,Int.ofNat_lt,hj,if_true,dZ hj,dZ hjb,bs];by_cases e:a[j]=b[j] <;> simp [e,hck])
   (λn s _=>by simp [dJ]) (n:=k) (s0:=()) h trivial
  rw [show dJ k a b k 0=_ from key]
  have:∀(a:List Int) (j:Nat),a.length+j=b.length->eJ (λ(_:Unit) j x=>if x=b[j]?.getD 0 then .ok () else Except.error false) j a ()=if a=b.drop j then .ok () else .error false:=by
   intro a
   induction a with
   |nil=>
    simp_all [drop_eq_nil_of_le,length_nil,eJ]
   |cons x a ih=>
    intro j hj;simp only [length_cons] at hj;have hjb:j < b.length:=by omega
    have hd:b.drop j=b[j]::b.drop (j+1):=drop_eq_getElem_cons hjb;have hb:b[j]?.getD 0=b[j]:=by simp_all
    rw [eJ,hb,hd];grind
  rw [this a 0 (by omega),drop_zero];by_cases e:a=b
  .rw [if_pos e,mM,decide_eq_true e]
  .rw [if_neg e,nS,decide_eq_false e]
 .rw [if_pos (by omega),decide_eq_false (λe=>hl (by rw [e]))]
def iZ(s:Int):Prop:=0≤s/\s < 256
def ec(s:Int)(i:Nat):Prop:=s.toNat.testBit i=true
instance (s:Int) (i:Nat):Decidable (ec s i):=by unfold ec;infer_instance
theorem tZ{x:Nat}(h:x < 256):IntKind.u8.wrap (x:Int)=x:=by
 grind [IntKind.wrap,IntKind.signed,IntKind.bits]
theorem uO{s:Int}(h:iZ s):∃n:Nat,n < 256/\s=n:=⟨s.toNat,by have:=h.1;have:=h.2;omega,by have:=h.1;omega⟩
theorem H3{n:Nat}(h:n < 256):(BitVec.ofInt IntKind.u8.bits (n:Int)).toNat=n:=by
 show(BitVec.ofInt 8 (n:Int)).toNat=n;simp_all
theorem IK{n m:Nat}(hn:n < 256)(hm:m < 256):n |||m < 256:=or_lt_two_pow (n:=8) hn hm
theorem LX{n m:Nat}(hn:n < 256):n &&& m < 256:=Nat.lt_of_le_of_lt and_le_left hn
theorem PV{a b:Int}(ha:iZ a)(hb:iZ b):iZ (D4 .u8 a b)/\∀i,ec (D4 .u8 a b) i↔ec a i\/ec b i:=by
 obtain⟨n,hn,rfl⟩:=uO ha;obtain⟨m,hm,rfl⟩:=uO hb
 have e:D4 .u8 (n:Int) (m:Int)=((n |||m:Nat):Int):=by
  grind [D4,BitVec.toNat_or,H3,tZ,IK]
 rw [e];refine⟨⟨by omega,by grind [IK]⟩,λi=>?_⟩;simp [ec,testBit_or]
theorem PG{x:Int}(h0:0≤x)(h8:x < 8):iZ (oZ .u8 1 x)/\∀i:Nat,ec (oZ .u8 1 x) i↔(i:Int)=x:=by
 obtain⟨n,rfl⟩:=Int.eq_ofNat_of_zero_le h0;have hn:n < 8:=by omega
 have e:oZ .u8 1 (n:Int)=((2 ^ n:Nat):Int):=by
  unfold oZ
  have h1:min (Int.toNat (n:Int)) IntKind.u8.bits=n:=by
   show min n 8=n;omega
  rw [h1,Int.one_mul];have h2:2 ^ n < 256:=Nat.pow_lt_pow_right (by decide) hn;grind [tZ]
 rw [e];have h9:2 ^ n < 256:=Nat.pow_lt_pow_right (by decide) hn;refine⟨⟨Int.natCast_nonneg _,Int.ofNat_lt.2 h9⟩,λi=>?_⟩;simp only [ec,Int.toNat_natCast,testBit_two_pow,decide_eq_true_eq];omega
theorem CH{k:Nat}{s:Int}(hs:iZ s){i:Nat}(hi:i < 8):fa k s (i:Int)=some (decide (ec s i)):=by
 obtain⟨n,hn,rfl⟩:=uO hs;unfold fa;rw [cM,if_pos (by omega)];show some _=some _;congr 1
 have e1:ix .u8 (n:Int) (i:Int)=((n >>> i:Nat):Int):=by
  unfold ix
  have h1:min (Int.toNat (i:Int)) IntKind.u8.bits=i:=by
   show min i 8=i;omega
  grind [Int.fdiv_eq_ediv_of_nonneg,Int.natCast_nonneg,Nat.shiftRight_eq_div_pow]
 have hlt:n >>> i < 256:=Nat.lt_of_le_of_lt (by rw [Nat.shiftRight_eq_div_pow];exact div_le_self _ _) hn
 have e2:qO .u8 ((n >>> i:Nat):Int) 1=(((n >>> i) &&& 1:Nat):Int):=by
  grind [qO,BitVec.ofInt,BitVec.toNat_and,H3,tZ,LX]
 rw [e1,e2]
 have e3:(((n >>> i) &&& 1:Nat):Int)=1↔ec (n:Int) i:=by
  rw [ec,Int.toNat_natCast,testBit];grind
 simp_all
end Go.Proofs.YtddkbkkogpolaaaGreat
set_option linter.unusedVariables false
set_option linter.unusedSimpArgs false
namespace Go.Proofs.YtddkbkkogpolaaaGreat
open K Go Go.Proofs
abbrev mC(m:ae):Int:=m.1
abbrev mW(m:ae):Int:=m.2.1
abbrev mS(m:ae):Int:=m.2.2.1
abbrev mH(m:ae):Int:=m.2.2.2.1
abbrev mD(m:ae):List (List (List Int)):=m.2.2.2.2.1
abbrev mG(m:ae):List bH:=m.2.2.2.2.2
def AS(l:List Int)(c:Int):Option (List Int):=(l.findIdx? λy=>decide (c=y)).map λi=>(if 0 < i then [l[i-1]?.getD 0] else [])++(l[i+1]?).toList
def AT(d:List (List Int))(c:Int):Option (List Int):=d.findSome? λl=>AS l c
def En(m:ae)(d:Nat)(c:Int):Option (List Int):=AT ((mD m)[d]?.getD []) c
def pT(m:ae)(c:Int):Nat->Nat
 |0=>if(En m 0 c).isSome then 0 else 1
 |d+1=>if(En m (d+1) c).isSome then 0 else pT m c d+1
def pU(m:ae)(B:Int->Bool):Nat->Int->Int
 |0,c=>if B c then mW m else -1
 |d+1,c=>match En m d c with
  |none=>if mH m≤(pT m c d:Int) then -1 else pU m B d c
  |some l=>if 0≤pU m B d c then pU m B d c+1 else if l.any λx=>decide (mW m≤pU m B d x) then 0 else -1
theorem Jz{m:ae}{B:Int->Bool}(hw:0≤mW m):∀{d:Nat} {c:Int}, -1≤pU m B d c
 |0,c=>by grind [pU]
 |d+1,c=>by
  have:=Jz (B:=B) hw (d:=d) (c:=c)
  grind [pU]
theorem Jy{m:ae}{B:Int->Bool}(hw:mW m≤3):∀{d:Nat} {c:Int},pU m B d c≤3+d
 |0,c=>by grind [pU]
 |d+1,c=>by
  have:=Jy (B:=B) hw (d:=d) (c:=c)
  grind [pU]
theorem IP{k:Nat}{l:List Int}{x:Int}(hk:l.length < k)(hl:l.length≤1000000):gu k l x=some (match l.findIdx? (λy=>decide (x=y)) with |some i=>(i:Int) |none=> -1):=by
 unfold gu
 have key:=nn (f:=dq k l x) l (λ(_:Unit) j=>j) (λ_ j y=>if decide (x=y)=true then Except.error (j:Int) else .ok ()) (λ_ _=>True) (λr=>some r)
  (λn s j hj _=>by
   have hck:ck ((j:Int)+1)=some ((j:Int)+1):=dE (by omega) (by omega);refine⟨?_,λ_ _=>trivial⟩;simp only [dq,Int.ofNat_lt,hj,if_true,dZ hj,bs,decide_eq_true_eq];grind)
  (λn s _=>by simp [dq]) (n:=k) (s0:=()) hk trivial
 rw [show dq k l x k 0=_ from key,u5 (λy=>decide (x=y)) l 0];grind [decide,mM,nS]
def oe:List Int->List Int
 |[a,b]=>if b < a then [b,a] else [a,b]
 |l=>l
theorem uj{l:List Int}{x:Int}:x∈oe l↔x∈l:=by
 unfold oe;grind
theorem Lc{k:Nat}{l:List Int}(hk:10≤k)(hl:l.length≤2):fW k l=some (oe l):=by
 obtain⟨k,rfl⟩:∃n,k=n+4:=⟨k - 4,by omega⟩;have e0:pP (k+4) (IntKind.u64.wrap (0:Int))=some 0:=by kernel_rfl
 have e1:pP (k+4) (IntKind.u64.wrap (1:Int))=some 1:=by kernel_rfl
 have e2:pP (k+4) (IntKind.u64.wrap (2:Int))=some 2:=by kernel_rfl
 have c0:ck ((0:Int) - 0)=some 0:=rfl;have c1:ck ((1:Int) - 0)=some 1:=rfl;have c2:ck ((2:Int) - 0)=some 2:=rfl;have d1:ck ((0:Int)+1)=some 1:=rfl;have d2:ck ((1:Int)+1)=some 2:=rfl;have d3:ck ((1:Int) - 1)=some 0:=rfl;match l,hl with
 |[],_=>
  simp only [fW,length_nil,Int.ofNat_zero,e0,bs,cV,cH,bX,bi,oe,c0,d1];rfl
 |[a],_=>
  simp_all [fW,bs,cV,cH,bX,bi,oe]
 |[a,b],_=>
  have:(([a,b]:List Int).length:Int)=2:=rfl;have g0:aR [a,b] (0:Int)=some a:=rfl;have g1:aR [a,b] (1:Int)=some b:=rfl;have hn:∀x:Int,li (k+4) x=some false:=λx=>by simp [li]
  have hl:∀x y:Int,o5 (k+4) x y=some (decide (x < y)):=λx y=>by simp [o5,hn]
  simp only [fW,this,e2,bs,cV,cH,bX,bi,bJ,c2,d1,d2,d3,g0,g1,hl];grind [oe,bJ,bs,aR]
end Go.Proofs.YtddkbkkogpolaaaGreat
set_option linter.unusedVariables false
set_option linter.unusedSimpArgs false
namespace Go.Proofs.YtddkbkkogpolaaaGreat
open K Go Go.Proofs
structure Vd(m:ae):Prop where
 c1:1≤mC m
 c5:mC m≤5
 w0:0≤mW m
 w3:mW m≤3
 s0:0≤mS m
 s3:mS m≤3
 h1:1≤mH m
 h3:mH m≤3
 d1:1≤(mD m).length
 d6:(mD m).length≤6
 r3:∀r∈mD m,r.length≤3
 l5:∀r∈mD m,∀l∈r,l.length≤5
 x5:∀r∈mD m,∀l∈r,∀x∈l,0≤x/\x < mC m
 nd:∀r∈mD m,r.flatten.Nodup
 g8:(mG m).length≤8
 gl:∀g∈mG m,0≤g.1/\g.1 < mC m/\0≤g.2.1/\g.2.1≤(mD m).length
theorem AQ{l:List Int}{c:Int}{s:List Int}(h:AS l c=some s):s.length≤2/\∀x∈s,x∈l:=by
 unfold AS at h;cases e:l.findIdx? (λy=>decide (c=y)) with
 |none=>simp_all
 |some i=>
  rw [e] at h;obtain rfl:=Option.some.inj h;have hi:i < l.length:=(List.findIdx?_eq_some_iff_getElem.1 e).1;grind
theorem Jq{d:List (List Int)}{c:Int}{s:List Int}(h:AT d c=some s):∃l∈d,AS l c=some s:=by
 simp_all [AT,List.exists_of_findSome?_eq_some]
theorem vh{m:ae}(v:Vd m){d:Nat}{c:Int}{s:List Int}(h:En m d c=some s):s.length≤2/\∀x∈s,0≤x/\x < mC m:=by
 obtain⟨l,hl,h2⟩:=Jq h;cases e:(mD m)[d]? with
 |none=>simp_all
 |some r=>
  rw [e] at hl;have h3:=AQ h2;exact⟨h3.1,λx hx=>v.x5 r (List.mem_of_getElem? e) l hl x (h3.2 x hx)⟩
def QK(m:ae)(c:Int)(d:Nat):Int ⊕ List Int:=match En m d c with
 |some s=>.inr (oe s)
 |none=>.inl (pT m c d)
theorem zI{k:Nat}{c:Int}{r:List (List Int)}(hk:10≤k)(hr:r.length≤3)(hl:∀l∈r,l.length≤5):
 cK k c r k 0=some (match AT r c with |some s=>.error (.inr (oe s)) |none=>.ok ()):=by
 have key:=nn (f:=cK k c r) r (λ(_:Unit) j=>j) (λ_ _ l=>match AS l c with |some s=>Except.error (Sum.inr (oe s):Int ⊕ List Int) |none=>.ok ()) (λ_ _=>True) (λx=>some x)
  (λn s j hj _=>by
   refine⟨?_,λ_ _=>trivial⟩;have h5:=hl _ (List.getElem_mem hj);have hck:ck ((j:Int)+1)=some ((j:Int)+1):=dE (by omega) (by omega);simp only [cK,Int.ofNat_lt,hj,if_true,dZ hj,bs];rw [IP (by omega) (by omega),bs];generalize r[j]=l at *;have hb:AS l c=(l.findIdx? λy=>decide (c=y)).map λi=>(if 0 < i then [l[i-1]?.getD 0] else [])++(l[i+1]?).toList:=rfl;cases e:l.findIdx? (λy=>decide (c=y)) with
   |none=>
    simp_all
   |some i=>
    rw [e] at hb;simp only [Option.map_some] at hb;have hi:i < l.length:=(List.findIdx?_eq_some_iff_getElem.1 e).1;rw [hb];have hlen:=(AQ hb).1;have c1:ck ((i:Int) - 1)=some ((i:Int) - 1):=dE (by omega) (by omega);have c2:ck ((i:Int)+1)=some ((i:Int)+1):=dE (by omega) (by omega);have ok0:cM (bQ (length ([]:List Int)+length [l[i-1]?.getD 0]))=some ():=dF (by simp [bQ]);simp only [show(0:Int)≤(i:Int) from Int.natCast_nonneg _,if_true,c1,c2,bs]
    have e1:(if(0:Int) < (i:Int) then((aR l ((i:Int) - 1)).bind λx11=>(cM (bQ (length ([]:List Int)+length [x11]))).bind λ_=>some (([]:List Int)++[x11])) else some ([]:List Int))=some (if 0 < i then [l[i-1]?.getD 0] else []):=by
     by_cases h0:0 < i
     .have g:aR l ((i:Int) - 1)=some (l[i-1]?.getD 0):=by
       grind [dZ,List.getElem?_eq_getElem]
      simp_all
     simp_all
    rw [e1,bs];generalize (if 0 < i then [l[i-1]?.getD 0] else [])=p at *
    have e2:(if(i:Int)+1 < (l.length:Int) then((aR l ((i:Int)+1)).bind λx18=>(cM (bQ (length p+length [x18]))).bind λ_=>some (p++[x18])) else some p)=some (p++(l[i+1]?).toList):=by
     by_cases h1:i+1 < l.length
     .have g:aR l ((i:Int)+1)=some l[i+1]:=by
       have:((i:Int)+1)=((i+1:Nat):Int):=by omega
       rw [this,dZ h1]
      rw [if_pos (by omega),g,bs,List.getElem?_eq_getElem h1];grind [List.getElem?_eq_getElem,dF,length_append,bQ,bs]
     grind
    simp_all [bs,Lc])
  (λn s _=>by simp [cK]) (n:=k) (s0:=()) (by omega) trivial
 rw [show cK k c r k 0=_ from key]
 congr 1
 have:∀(r:List (List Int)) (j:Nat),eJ (λ(_:Unit) _ l=>match AS l c with |some s=>Except.error (Sum.inr (oe s):Int ⊕ List Int) |none=>.ok ()) j r ()=match AT r c with |some s=>.error (.inr (oe s)) |none=>.ok ():=by
  intro r
  induction r with
  |nil=>intro j;rfl
  |cons l r ih=>
   intro j;rw [eJ];unfold AT;rw [findSome?_cons];cases AS l c with
   |none=>exact ih (j+1)
   |some s=>rfl
 simp_all
theorem Ei{m:ae}{c:Int}:∀{d:Nat},pT m c d≤d+1
 |0=>by grind [pT]
 |d+1=>by have:=Ei (m:=m) (c:=c) (d:=d);grind [pT]
theorem uy{k:Nat}{m:ae}{c:Int}(v:Vd m)(hk:10≤k):∀(d m0:Nat),d < m0->d < (mD m).length->ew k m0 m c (d:Int)=some (QK m c d)
 |d,0,h,_=>absurd h (not_lt_zero _)
 |d,m0+1,h,hd=>by
  have hm:=List.getElem_mem hd
  unfold ew
  rw [dZ hd,bs,zI hk (v.r3 _ hm) (v.l5 _ hm)]
  have hbes:En m d c=AT (mD m)[d] c:=by unfold En;simp_all
  cases e:AT (mD m)[d] c with
  |some s=>
   simp_all [nS,QK]
  |none=>
   rw [mM]
   unfold QK
   rw [hbes,e]
   match d,hd,h with
   |0,hd,h=>
    simp_all [pT]
   |d+1,hd,h=>
    have h6:=v.d6
    have c1:ck (((d+1:Nat):Int) - 1)=some (d:Int):=by grind [dE]
    have ih:=uy v hk d m0 (by omega) (by omega) (c:=c)
    rw [if_pos (by omega),c1,bs,ih,bs]
    rw [hbes.symm] at e
    have hcold:pT m c (d+1)=pT m c d+1:=by grind [pT]
    have hle:=Ei (m:=m) (c:=c) (d:=d)
    unfold QK
    cases e2:En m d c with
    |some s=>
     simp only [Lp]
     have:pT m c d=0:=by cases d <;> simp [pT,e2]
     simp_all
    |none=>
     have c2:ck ((1:Int)+(pT m c d:Int))=some ((1:Int)+(pT m c d:Int)):=dE (by omega) (by omega)
     simp only [Lp,Re,c2,bs,if_true,hcold]
     grind
end Go.Proofs.YtddkbkkogpolaaaGreat
set_option linter.unusedVariables false
set_option linter.unusedSimpArgs false
namespace Go.Proofs.YtddkbkkogpolaaaGreat
open K Go Go.Proofs
def kN(f:Int->Int):List Int:=[f 0,f 1,f 2,f 3,f 4]
def upd(f:Int->Int)(c v:Int):Int->Int:=λx=>if x=c then v else f x
theorem VJ{c:Int}(h0:0≤c)(h:c < 5):c=0\/c=1\/c=2\/c=3\/c=4:=by omega
theorem xK{f:Int->Int}{c:Int}(h0:0≤c)(h:c < 5):aR (kN f) c=some (f c):=by
 rcases VJ h0 h with rfl |rfl |rfl |rfl |rfl <;> rfl
theorem DC{f:Int->Int}{c v:Int}(h0:0≤c)(h:c < 5):List.set (kN f) (Int.toNat c) v=kN (upd f c v):=by
 rcases VJ h0 h with rfl |rfl |rfl |rfl |rfl <;> rfl
theorem m9{f g:Int->Int}(h:∀c,0≤c->c < 5->f c=g c):kN f=kN g:=by
 simp_all [kN]
def Q8(m:ae)(f:Int->Int)(d:Nat)(c:Int):Int:=match En m d c with
 |none=>if mH m≤(pT m c d:Int) then -1 else f c
 |some l=>if 0≤f c then f c+1 else if l.any λx=>decide (mW m≤f x) then 0 else -1
def QL(m:ae)(f:Int->Int)(d:Nat):Int->Int:=λc=>if 0≤c/\c < mC m then Q8 m f d c else f c
theorem vO{k:Nat}{m:ae}{f:Int->Int}(hw:0≤mW m){s:List Int}(hs:s.length < k)(hs2:s.length≤1000)(hx:∀x∈s,0≤x/\x < 5):
 bY k m (kN f) s k 0=some (match s.find? (λx=>decide (mW m≤f x)) with |some x=>.error x |none=>.ok ()):=by
 have key:=nn (f:=bY k m (kN f) s) s (λ(_:Unit) j=>j) (λ_ _ x=>if decide (mW m≤f x)=true then Except.error x else .ok ()) (λ_ _=>True) (λx=>some x)
  (λn _ j hj _=>by
   refine⟨?_,λ_ _=>trivial⟩;have h5:=hx _ (List.getElem_mem hj);have hck:ck ((j:Int)+1)=some ((j:Int)+1):=dE (by omega) (by omega);have him:sY (0:Int) m.2.1=mW m:=by show sY 0 (mW m)=mW m;grind [sY]
   simp only [bY,Int.ofNat_lt,hj,if_true,dZ hj,bs,dF h5,xK h5.1 h5.2,him,hck,decide_eq_true_eq];grind)
  (λn s _=>by simp [bY]) (n:=k) (s0:=()) hs trivial
 rw [show bY k m (kN f) s k 0=_ from key]
 congr 1
 have:∀(s:List Int) (j:Nat),eJ (λ(_:Unit) _ x=>if decide (mW m≤f x)=true then Except.error x else .ok ()) j s ()=match s.find? (λx=>decide (mW m≤f x)) with |some x=>.error x |none=>.ok ():=by
  intro s
  induction s with
  |nil=>intro j;rfl
  |cons x s ih=>
   intro j;rw [eJ,find?_cons];grind
 simp_all
theorem zu{s:List Int}:(oe s).length=s.length:=by
 unfold oe;grind
def K0(m:ae)(f:Int->Int)(l:List Int):Int:=((oe l).find? λx=>decide (mW m≤f x)).getD (-1)
theorem BD{k:Nat}{m:ae}{f:Int->Int}{c:Int}{d:Nat}(v:Vd m)(hk:10≤k)(hd:d < (mD m).length){l:List Int}(h:En m d c=some l):
 dD k m (kN f) c (d:Int)=some (K0 m f l):=by
 have h6:=v.d6
 have c5:=v.c5
 have hb:=vh v h
 unfold dD
 rw [uy v hk d k (by omega) hd,bs]
 unfold QK
 rw [h]
 have e1:Jo (Sum.inr (oe l):Int ⊕ List Int) (λn=>iJ k n) (λl=>iH k l)=some (oe l):=rfl
 rw [e1,bs,vO v.w0 (by rw [zu];omega) (by rw [zu];omega) λx hx=>by grind [uj]]
 unfold K0
 cases(oe l).find? λx=>decide (mW m≤f x) with
 |none=>rw [mM];rfl
 |some x=>rw [nS];rfl
theorem KZ{m:ae}{f:Int->Int}{l:List Int}(hx:∀x∈l,0≤x):0≤K0 m f l↔(l.any λx=>decide (mW m≤f x))=true:=by
 unfold K0;rw [List.any_eq_true];cases e:(oe l).find? λx=>decide (mW m≤f x) with
 |none=>
  simp_all [Option.getD_none,List.find?_eq_none,uj]
 |some x=>
  grind [List.mem_of_find?_eq_some,uj]
theorem IB{k:Nat}{m:ae}{f:Int->Int}{d:Nat}(v:Vd m)(hk:10≤k)(hd:d < (mD m).length)(hf:∀c,0≤c->c < mC m-> -1≤f c/\f c≤1000):
 gW k m (kN f) (d:Int)=some (kN (QL m f d)):=by
 have c5:=v.c5
 have c1:=v.c1
 have h6:=v.d6
 unfold gW
 have key:=lM (T:=List Int×Int) (f:=cD k m (kN f) (d:Int)) (List.range (mC m).toNat) (λ(g:Int->Int) j=>(kN g,j)) (λg j _=>upd g (j:Int) (Q8 m f d (j:Int))) (λj g=>g=λc=>if 0≤c/\c < (j:Int) then Q8 m f d c else f c) (λg=>some (kN g))
  (λn g j hj hg=>by
   rw [length_range] at hj;have j0:(0:Int)≤(j:Int):=Int.natCast_nonneg _;have j1:(j:Int) < mC m:=by omega
   have j5:(j:Int) < 5:=by omega
   have hck:ck ((j:Int)+1)=some ((j:Int)+1):=dE (by omega) (by omega);have hp:cM ((0:Int)≤(j:Int)/\(j:Int) < 5)=some ():=dF ⟨j0,j5⟩;have hgj:g (j:Int)=f (j:Int):=by simp_all
   have hfj:=hf _ j0 j1;refine⟨?_,?_⟩
   .have hm1:(m.1:Int)=mC m:=rfl;have hm2:m.2.2.2.1=mH m:=rfl;simp only [cD,hm1,hm2,j1,if_true,uy v hk d k (by omega) hd,bs,hp,xK j0 j5,hck,DC j0 j5];unfold QK Q8;cases e:En m d (j:Int) with
    |none=>
     simp only [Lp,Re,if_true];by_cases hh:mH m≤(pT m (j:Int) d:Int)
     .simp_all
     .simp only [hh,if_false,bs];refine congrArg (λr=>cD k m (kN f) (d:Int) n (r,(j:Int)+1)) (m9 λc _ _=>?_);simp_all [upd]
    |some l=>
     have hb:=vh v e;simp only [Lp,Bool.false_eq_true,if_false,not_false_eq_true,if_true];by_cases h0:0≤f (j:Int)
     .have hck2:ck (f (j:Int)+1)=some (f (j:Int)+1):=dE (by omega) (by omega);simp_all
     .simp only [h0,if_false,BD v hk hd e,bs];have ht:=KZ (m:=m) (f:=f) (l:=l) λx hx=>(hb.2 x hx).1;by_cases hany:(l.any λx=>decide (mW m≤f x))=true
      .simp_all
      .rw [if_neg λh=>hany (ht.1 h),bs,if_neg hany];refine congrArg (λr=>cD k m (kN f) (d:Int) n (r,(j:Int)+1)) (m9 λc _ _=>?_);grind [upd]
   .rw [hg];funext c;unfold upd;grind)
  (λn g hg=>by
   rw [length_range];have:((mC m).toNat:Int)=mC m:=by omega
   simp_all [cD,if_neg,mC]) (n:=k) (s0:=f) (by grind) (by grind)
 rw [show cD k m (kN f) (d:Int) k (kN f,0)=_ from key.1,bs]
 congr 1
 refine m9 λc _ _=>?_
 rw [key.2,length_range]
 unfold QL
 grind
end Go.Proofs.YtddkbkkogpolaaaGreat
set_option linter.unusedVariables false
set_option linter.unusedSimpArgs false
namespace Go.Proofs.YtddkbkkogpolaaaGreat
open K Go Go.Proofs
def cr(F:Nat->Int->Int):List (List Int):=[kN (F 0),kN (F 1),kN (F 2),kN (F 3),kN (F 4),kN (F 5),kN (F 6)]
def By(F:Nat->Int->Int)(n:Nat)(f:Int->Int):Nat->Int->Int:=λi=>if i=n then f else F i
theorem VI{n:Nat}(h:n < 7):n=0\/n=1\/n=2\/n=3\/n=4\/n=5\/n=6:=by omega
theorem CX{F:Nat->Int->Int}{n:Nat}(h:n < 7):aR (cr F) (n:Int)=some (kN (F n)):=by
 rcases VI h with rfl |rfl |rfl |rfl |rfl |rfl |rfl <;> rfl
theorem Qg{F:Nat->Int->Int}{n:Nat}{f:Int->Int}(h:n < 7):List.set (cr F) n (kN f)=cr (By F n f):=by
 rcases VI h with rfl |rfl |rfl |rfl |rfl |rfl |rfl <;> rfl
def QP(m:ae)(B:Int->Bool):Nat->Int->Int
 |0=>λc=>if B c then mW m else -1
 |n+1=>QL m (QP m B n) n
theorem yH{m:ae}(v:Vd m){B:Int->Bool}:∀(n:Nat) (c:Int),0≤c->c < mC m->QP m B n c=pU m B n c
 |0,c,_,_=>rfl
 |n+1,c,h0,h1=>by
  have ih:=yH v (B:=B) n
  show QL m (QP m B n) n c=pU m B (n+1) c
  unfold QL
  rw [if_pos ⟨h0,h1⟩]
  unfold Q8 pU
  cases e:En m n c with
  |none=>simp_all
  |some l=>
   have hb:=(vh v e).2
   grind
def Gy(m:ae)(B:Int->Bool):Nat->Int->Int:=λn=>if n≤(mD m).length then QP m B n else λ_=>0
def nL(S:Int):Int->Bool:=λc=>decide (ec S c.toNat)
theorem Hq{k:Nat}{m:ae}{S:Int}(hk:10≤k)(hS:iZ S):eT k m S=some (kN λc=>if nL S c then mW m else -1):=by
 unfold eT
 have key:=lM (T:=List Int×Int) (f:=cJ k m S) (List.range 5) (λ(g:Int->Int) j=>(kN g,j)) (λg j _=>upd g (j:Int) (if nL S (j:Int) then mW m else -1)) (λj g=>∀c,0≤c->c < (j:Int)->g c=if nL S c then mW m else -1) (λg=>some (kN g))
  (λn g j hj hg=>by
   rw [length_range] at hj;have j0:(0:Int)≤(j:Int):=Int.natCast_nonneg _;have j5:(j:Int) < 5:=by omega
   have hck:ck ((j:Int)+1)=some ((j:Int)+1):=dE (by omega) (by omega);have hp:cM ((0:Int)≤(j:Int)/\(j:Int) < 5)=some ():=dF ⟨j0,j5⟩;have hp':cM ((0:Int)≤(j:Int)/\True)=some ():=dF ⟨j0,trivial⟩;refine⟨?_,?_⟩
   .simp only [cJ,j5,if_true,hp,hp',bs,CH (k:=k) hS (by omega:j < 8),hck,DC j0 j5];have hin:nL S (j:Int)=decide (ec S j):=by unfold nL;simp_all
    rw [hin];cases hh:decide (ec S j) with
    |true=>
     simp only [if_true,bs];refine congrArg (λr=>cJ k m S n (r,(j:Int)+1)) (m9 λc _ _=>?_);simp_all [upd]
    |false=>simp_all
   .intro c hc0 hc1;unfold upd;grind)
  (λn g hg=>by
   simp_all [length_range,cJ,if_neg]) (n:=k) (s0:=λ_=>0) (by grind) (λc h0 h1=>by omega)
 have e0:([(0:Int),(0:Int),(0:Int),(0:Int),(0:Int)]:List Int)=kN λ_=>0:=rfl;rw [e0,show cJ k m S k (kN λ_=>0,0)=_ from key.1,bs];refine congrArg some (m9 λc h0 h5=>?_);simp_all
theorem tf{k:Nat}{m:ae}{S:Int}(v:Vd m)(hk:10≤k)(hS:iZ S):ma k m S=some (cr (Gy m (nL S))):=by
 have d6:=v.d6;have d1:=v.d1;have w0:=v.w0;have w3:=v.w3;unfold ma jC;have hm:cM (0≤S/\S < 256)=some ():=dF hS;have hp0:cM ((0:Int)≤0/\(0:Int) < 7)=some ():=dF ⟨by omega,by omega⟩;rw [hm,bs,Hq hk hS,bs,hp0,bs]
 have key:=lM (T:=List (List Int)×Int) (f:=bT k m) (mD m) (λ(F:Nat->Int->Int) j=>(cr F,j)) (λF j _=>By F (j+1) (QL m (F j) j)) (λj F=>F=λn=>if n≤j then QP m (nL S) n else λ_=>0) (λF=>some (cr F))
  (λn F j hj hF=>by
   have j0:(0:Int)≤(j:Int):=Int.natCast_nonneg _;have hck:ck ((j:Int)+1)=some ((j:Int)+1):=dE (by omega) (by omega);have hp:cM ((0:Int)≤(j:Int)/\(j:Int) < 7)=some ():=dF ⟨j0,by omega⟩;have hp2:cM ((0:Int)≤(j:Int)+1/\(j:Int)+1 < 7)=some ():=dF ⟨by omega,by omega⟩;have hFj:F j=QP m (nL S) j:=by simp_all
   have hj':(j:Int) < (m.2.2.2.2.1.length:Int):=Int.ofNat_lt.2 hj
   have hnx:=IB (k:=k) (f:=F j) v hk hj (λc h0 h1=>by
    rw [hFj,yH v j c h0 h1];have:=Jz (B:=nL S) w0 (d:=j) (c:=c);have:=Jy (B:=nL S) w3 (d:=j) (c:=c);omega)
   refine⟨?_,?_⟩
   .simp only [bT,hj',if_true,hck,hp,bs,CX (F:=F) (show j < 7 by omega),hnx,hp2];grind [Int.toNat,Qg]
   .rw [hF];funext i;unfold By;by_cases e:i=j+1
    .subst e;simp only [if_true,Nat.le_refl];rfl
    grind)
  (λn F hF=>by
   unfold bT;simp_all) (n:=k) (s0:=By (λ_ _=>0) 0 (λc=>if nL S c then mW m else -1)) (by omega) (by
   funext n;unfold By;by_cases e:n=0
   .subst e;rfl
   simp_all)
 have e0:List.set td (Int.toNat 0) (kN λc=>if nL S c then mW m else -1)=cr (By (λ_ _=>0) 0 (λc=>if nL S c then mW m else -1)):=rfl;rw [e0,show bT k m k (cr (By (λ_ _=>0) 0 (λc=>if nL S c then mW m else -1)),0)=_ from key.1,bs];rw [key.2];rfl
theorem Eh{m:ae}(v:Vd m){B:Int->Bool}{n:Nat}{c:Int}(hn:n≤(mD m).length)(h0:0≤c)(h1:c < mC m):Gy m B n c=pU m B n c:=by
 simp_all [Gy,if_pos,yH]
end Go.Proofs.YtddkbkkogpolaaaGreat
set_option linter.unusedVariables false
set_option linter.unusedSimpArgs false
namespace Go.Proofs.YtddkbkkogpolaaaGreat
open K Go Go.Proofs
def wk{σ:Type}(bad:σ->Int->Option Int)(add:σ->Int->σ):List Int->σ->Except Int σ
 |[],s=>.ok s
 |x::l,s=>match bad s x with
  |some e=>.error e
  |none=>wk bad add l (add s x)
theorem xz{σ:Type}{bad:σ->Int->Option Int}{add:σ->Int->σ}:∀(l:List Int) (j:Nat) (s:σ),eJ (λs _ x=>match bad s x with |some e=>Except.error e |none=>.ok (add s x)) j l s=wk bad add l s
 |[],j,s=>rfl
 |x::l,j,s=>by
  rw [eJ,wk]
  cases bad s x with
  |some e=>rfl
  |none=>exact xz l (j+1) (add s x)
theorem wu{σ:Type}{bad:σ->Int->Option Int}{add:σ->Int->σ}:∀(a b:List Int) (s:σ),wk bad add (a++b) s=match wk bad add a s with | .error e=>.error e | .ok s'=>wk bad add b s'
 |[],b,s=>rfl
 |x::a,b,s=>by
  rw [cons_append,wk,wk]
  cases bad s x with
  |some e=>rfl
  |none=>exact wu a b (add s x)
theorem Dq{σ:Type}{bad:σ->Int->Option Int}{add:σ->Int->σ}:∀(r:List (List Int)) (j:Nat) (s:σ),eJ (λs _ l=>wk bad add l s) j r s=wk bad add r.flatten s
 |[],j,s=>rfl
 |l::r,j,s=>by
  rw [eJ,flatten_cons,wu]
  cases wk bad add l s with
  |error e=>rfl
  |ok s'=>exact Dq r (j+1) s'
theorem GW{σ τ:Type}{b1:σ->Int->Option Int}{a1:σ->Int->σ}{b2:τ->Int->Option Int}{a2:τ->Int->τ}(R:σ->τ->Prop)(hb:∀s t x,R s t->b1 s x=b2 t x)(ha:∀s t x,R s t->b1 s x=none->R (a1 s x) (a2 t x)):
 ∀(l:List Int) (s:σ) (t:τ),R s t->(∃e,wk b1 a1 l s= .error e/\wk b2 a2 l t= .error e)\/∃s' t',wk b1 a1 l s= .ok s'/\wk b2 a2 l t= .ok t'/\R s' t'
 |[],s,t,h=>.inr ⟨s,t,rfl,rfl,h⟩
 |x::l,s,t,h=>by
  rw [wk,wk,<-hb s t x h]
  cases e:b1 s x with
  |some c=>simp_all
  |none=>exact GW R hb ha l _ _ (ha s t x h e)
theorem Br{σ:Type}{bad:σ->Int->Option Int}{add:σ->Int->σ}(P:σ->Prop)(hs:∀s x,P s->bad s x=none->P (add s x)):∀(l:List Int) (s s':σ),P s->wk bad add l s= .ok s'->P s'
 |[],s,s',h,e=>by cases e;exact h
 |x::l,s,s',h,e=>by
  rw [wk] at e
  cases hb:bad s x with
  |some c=>simp_all
  |none=>rw [hb] at e;exact Br P hs l _ s' (hs s x h hb) e
theorem kZ{k:Nat}{a b c:Int}:dP k a b c=some (decide (b≤a/\a≤c)):=by
 grind [dP]
theorem TU{n:Int}(h:1≤n/\n≤5):ck (n - 1)=some (n - 1):=by grind [dE]
def Bm(C:Int)(s x:Int):Option Int:=if¬(0≤x/\x < C) then some 3 else if ec s x.toNat then some 4 else none
def tj(s x:Int):Int:=D4 .u8 s (oZ .u8 1 x)
def C4(C:Int)(s:List Int)(x:Int):Option Int:=if¬(0≤x/\x < C) then some 3 else if x∈s then some 4 else none
def Ew(s:List Int)(x:Int):List Int:=s++[x]
theorem uP:iZ 0:=⟨by decide,by decide⟩
theorem Oz{C s x:Int}(h:Bm C s x=none):0≤x/\x < C:=by
 unfold Bm at h;grind
theorem kL{k:Nat}{s x:Int}(hs:iZ s)(h0:0≤x)(h8:x < 8):eZ k s x=some (tj s x)/\iZ (tj s x)/\∀i:Nat,ec (tj s x) i↔ec s i\/(i:Int)=x:=by
 have h1:=PG h0 h8;have h2:=PV hs h1.1;refine⟨?_,h2.1,λi=>?_⟩
 .unfold eZ;rw [dF h0,bs];rfl
 .show ec (D4 .u8 s (oZ .u8 1 x)) i↔_;simp_all
theorem AU{C s x:Int}(hC:C≤5)(hs:iZ s)(h:Bm C s x=none):iZ (tj s x):=by
 have:=Oz h;exact(kL (k:=0) hs this.1 (by omega)).2.1
def s9(C:Int)(r:List (List Int)):Int:=if 3 < r.length then 6 else match wk (C4 C) Ew r.flatten [] with | .error e=>e | .ok _=>0
theorem FM{k:Nat}{m:ae}(hC:1≤mC m/\mC m≤5){l:List Int}(hk:l.length < k)(hl:l.length≤1000){s:Int}(hs:iZ s):
 dh k m l k (s,0)=some (wk (Bm (mC m)) tj l s):=by
 have key:=nn (T:=Int×Int) (f:=dh k m l) l (λ(s:Int) j=>(s,j)) (λs _ x=>match Bm (mC m) s x with |some e=>Except.error e |none=>.ok (tj s x)) (λ_ s=>iZ s) (λr=>some r)
  (λn s j hj hs=>by
   have hck:ck ((j:Int)+1)=some ((j:Int)+1):=dE (by omega) (by omega);have hc:ck (m.1 - 1)=some (m.1 - 1):=TU hC;refine⟨?_,λs' e=>?_⟩
   .simp only [dh,Int.ofNat_lt,hj,if_true,dZ hj,bs,hc,kZ];generalize l[j]=x;by_cases h:0≤x/\x < mC m
    .have h':0≤x/\x≤m.1 - 1:=⟨h.1,by grind⟩;have hh:=CH (k:=k) hs (i:=x.toNat) (by omega);have ex:((x.toNat:Nat):Int)=x:=by omega
     rw [ex] at hh;simp only [h',and_self,decide_true,not_true_eq_false,if_false,hh,bs];have eb:Bm (mC m) s x=if ec s x.toNat then some 4 else none:=by unfold Bm;simp_all
     rw [eb];by_cases h2:ec s x.toNat
     .simp_all
     .simp only [h2,decide_false,Bool.false_eq_true,if_false,(kL (k:=k) hs h.1 (by omega)).1,bs,hck]
    .have h':¬(0≤x/\x≤m.1 - 1):=λhh=>h ⟨hh.1,by grind⟩;have eb:Bm (mC m) s x=some 3:=by unfold Bm;simp_all
     simp_all
   .cases e2:Bm (mC m) s l[j] with
    |some c=>simp_all
    |none=>grind [AU])
  (λn s _=>by simp [dh]) (n:=k) (s0:=s) hk hs
 simp_all [dh,xz]
theorem FN{k:Nat}{m:ae}(hC:1≤mC m/\mC m≤5){r:List (List Int)}(hk:r.length < k)(hr:r.length≤1000)(hl:∀l∈r,l.length < k/\l.length≤1000):
 di k m r k (0,0)=some (match wk (Bm (mC m)) tj r.flatten 0 with | .error e=>.error e | .ok _=>.ok ()):=by
 have key:=nn (T:=Int×Int) (f:=di k m r) r (λ(s:Int) j=>(s,j)) (λs _ l=>wk (Bm (mC m)) tj l s) (λ_ s=>iZ s) (λx=>some (match x with | .error e=>Except.error e | .ok _=>.ok ()))
  (λn s j hj hs=>by
   have hck:ck ((j:Int)+1)=some ((j:Int)+1):=dE (by omega) (by omega);have hlj:=hl _ (List.getElem_mem hj);refine⟨?_,λs' e=>Br iZ (λs x=>AU hC.2) _ _ _ hs e⟩;simp only [di,Int.ofNat_lt,hj,if_true,dZ hj,bs,FM hC hlj.1 hlj.2 hs];cases wk (Bm (mC m)) tj r[j] s with
   |error e=>rw [nS]
   |ok s'=>rw [mM,hck,bs])
  (λn s _=>by simp [di]) (n:=k) (s0:=0) hk uP
 simp_all [di,Dq]
theorem MZ{C:Int}(hC:C≤5)(l:List Int):(∃e,wk (Bm C) tj l 0= .error e/\wk (C4 C) Ew l []= .error e)\/∃s t,wk (Bm C) tj l 0= .ok s/\wk (C4 C) Ew l []= .ok t/\(iZ s/\∀i:Nat,ec s i↔(i:Int)∈t):=by
 refine GW (λs t=>iZ s/\∀i:Nat,ec s i↔(i:Int)∈t) (λs t x h=>?_) (λs t x h hb=>?_) l 0 [] ⟨uP,λi=>by simp [ec]⟩
 .unfold Bm C4;grind
 .have hx:=Oz hb;have hw:=kL (k:=0) h.1 hx.1 (by omega);simp_all [Ew]
theorem LS{k:Nat}{m:ae}(hC:1≤mC m/\mC m≤5){r:List (List Int)}(hk:1000 < k)(hr:r.length≤1000)(hl:∀l∈r,l.length≤1000):jm k m r=some (s9 (mC m) r):=by
 unfold jm s9;by_cases h3:3 < r.length
 .grind
 .rw [if_neg (by omega),if_neg h3,FN hC (by omega) hr λl hh=>⟨by grind,hl l hh⟩];rcases MZ hC.2 r.flatten with⟨e,h1,h2⟩ |⟨s,t,h1,h2,_⟩
  .simp_all [nS]
  simp_all [mM]
end Go.Proofs.YtddkbkkogpolaaaGreat
set_option linter.unusedVariables false
set_option linter.unusedSimpArgs false
namespace Go.Proofs.YtddkbkkogpolaaaGreat
open K Go Go.Proofs
theorem qw:∀(n:Nat) (l:List Int),l.Nodup->(∀x∈l,0≤x/\x < (n:Int))->l.length≤n
 |0,l,_,h=>by
  cases l with
  |nil=>simp
  |cons x l=>have:=h x (by simp);omega
 |n+1,l,hn,h=>by
  have h1:=qw n (l.erase (n:Int)) (hn.erase _) (λx hx=>by
   grind)
  grind
theorem SZ{C:Int}{s:List Int}{x:Int}(h:C4 C s x=none):(0≤x/\x < C)/\x∉s:=by
 unfold C4 at h;grind
def Mt(C:Int)(s:List Int):Prop:=s.Nodup/\∀x∈s,0≤x/\x < C
theorem Mt.add{C:Int}{s:List Int}{x:Int}(h:Mt C s)(hb:C4 C s x=none):Mt C (Ew s x):=by
 have:=SZ hb;refine⟨?_,λy hy=>?_⟩
 .unfold Ew;rw [nodup_append];exact⟨h.1,by simp,λa ha b hb e=>by simp_all⟩
 .rcases List.mem_append.1 hy with hy |hy
  .exact h.2 y hy
  simp_all
theorem Mt.len{C:Int}{s:List Int}(hC:0≤C/\C≤5)(h:Mt C s):s.length≤5:=by
 have:=qw C.toNat s h.1 λx hx=>⟨(h.2 x hx).1,by have:=(h.2 x hx).2;omega⟩;omega
theorem GX{C:Int}:∀{l s t:List Int},wk (C4 C) Ew l s= .ok t->t=s++l
 |[],s,t,e=>by cases e;simp
 |x::l,s,t,e=>by
  rw [wk] at e
  cases hb:C4 C s x with
  |some c=>simp_all
  |none=>
   rw [hb] at e
   have:=GX e
   simp_all [Ew]
theorem Ds{C:Int}:∀{l s:List Int},(s++l).Nodup->(∀x∈l,0≤x/\x < C)->wk (C4 C) Ew l s= .ok (s++l)
 |[],s,_,_=>by simp [wk]
 |x::l,s,hn,hr=>by
  have hx:x∉s:=by
   grind
  have hb:C4 C s x=none:=by
   unfold C4;simp_all
  rw [wk,hb];simp only [];rw [Ds (s:=Ew s x) (by simp_all [Ew]) λy hy=>hr y (mem_cons_of_mem _ hy)];simp_all [Ew]
theorem xg{C:Int}{r:List (List Int)}:s9 C r=0↔r.length≤3/\r.flatten.Nodup/\∀x∈r.flatten,0≤x/\x < C:=by
 unfold s9;constructor
 .intro h;split at h
  .cases h
  .cases e:wk (C4 C) Ew r.flatten [] with
   |ok t=>
    have h1:=Br (Mt C) (λs x=>Mt.add) _ _ _ ⟨nodup_nil,λx hx=>by cases hx⟩ e;have h2:=GX e;rw [nil_append] at h2;subst h2;exact⟨by omega,h1.1,h1.2⟩
   |error c=>
    rw [e] at h;exfalso
    have:∀(l s:List Int),wk (C4 C) Ew l s≠.error 0:=by
     intro l
     induction l with
     |nil=>intro s h;cases h
     |cons x l ih=>
      grind [wk,C4]
    simp_all
 .rintro⟨h1,h2,h3⟩;rw [if_neg (by omega),Ds (by simp_all) h3]
def IW(m:ae)(g:bH):Int:=if(0≤g.1/\g.1 < mC m)/\0≤g.2.1/\g.2.1≤(mD m).length then 0 else 3
theorem PT{k:Nat}{m:ae}(hC:1≤mC m/\mC m≤5){g:bH}:gp k m g=some (IW m g):=by
 have hc:ck (m.1 - 1)=some (m.1 - 1):=TU hC;unfold gp IW;have e:decide (0≤g.1/\g.1≤m.1 - 1)=decide (0≤g.1/\g.1 < mC m):=decide_eq_decide.2 ⟨λh=>⟨h.1,by grind⟩,λh=>⟨h.1,by grind⟩⟩;rw [hc,bs,kZ,bs,e];by_cases h1:0≤g.1/\g.1 < mC m
 .by_cases h2:0≤g.2.1/\g.2.1≤(mD m).length <;> simp [h1,h2,kZ]
 grind
def l9{α:Type}(f:α->Int)(l:List α):Int:=((l.map f).find? λe=>decide (e≠0)).getD 0
theorem s4{α:Type}(f:α->Int):∀(l:List α) (j:Nat),eJ (λ(_:Unit) _ x=>if¬(f x=0) then Except.error (f x) else .ok ()) j l ()=if l9 f l=0 then .ok () else .error (l9 f l)
 |[],j=>by simp [eJ,l9]
 |x::l,j=>by
  rw [eJ]
  by_cases h:f x=0
  .
   have:l9 f (x::l)=l9 f l:=by simp [l9,h]
   rw [this]
   simp only [h,not_true_eq_false,if_false]
   exact s4 f l (j+1)
  simp_all [l9]
theorem pE{α:Type}{f:α->Int}{l:List α}:l9 f l=0↔∀x∈l,f x=0:=by
 induction l with
 |nil=>simp [l9]
 |cons x l ih=>
  grind [l9]
structure Sm(m:ae):Prop where
 d:(mD m).length≤1000
 r:∀r∈mD m,r.length≤1000/\∀l∈r,l.length≤1000
 g:(mG m).length≤1000
def qV(m:ae):Int:=
 if¬((1≤mC m/\mC m≤5)/\(0≤mW m/\mW m≤3)/\(0≤mS m/\mS m≤3)/\1≤mH m/\mH m≤3) then 1
 else if(mD m).length=0 then 7 else if 6 < (mD m).length then 6 else if¬(l9 (s9 (mC m)) (mD m)=0) then l9 (s9 (mC m)) (mD m)
 else if 8 < (mG m).length then 6 else l9 (IW m) (mG m)
theorem LU{k:Nat}{m:ae}(hs:Sm m)(hk:1000 < k):ni k m=some (qV m):=by
 unfold ni qV;simp only [kZ,bs];by_cases h1:1≤mC m/\mC m≤5
 .by_cases h2:0≤mW m/\mW m≤3
  .by_cases h3:0≤mS m/\mS m≤3
   .by_cases h4:1≤mH m/\mH m≤3
    .have e1:(1≤m.1/\m.1≤5)=True:=eq_true h1;have e2:(0≤m.2.1/\m.2.1≤3)=True:=eq_true h2;have e3:(0≤m.2.2.1/\m.2.2.1≤3)=True:=eq_true h3;have e4:(1≤m.2.2.2.1/\m.2.2.2.1≤3)=True:=eq_true h4;simp only [e1,e2,e3,e4,decide_true,not_true_eq_false,if_false,Bool.not_true,Bool.false_eq_true,bs,and_self,h1,h2,h3,h4];by_cases h5:(mD m).length=0
     .simp_all
     .rw [if_neg (show¬((m.2.2.2.2.1.length:Int) < 1) by grind),if_neg h5];by_cases h6:6 < (mD m).length
      .grind
      .rw [if_neg (show¬((6:Int) < (m.2.2.2.2.1.length:Int)) by grind),if_neg h6]
       have key:=nn (f:=fi k m) (mD m) (λ(_:Unit) j=>j) (λ_ _ x=>if¬(s9 (mC m) x=0) then Except.error (s9 (mC m) x) else .ok ()) (λ_ _=>True) (λr=>some r)
        (λn s j hj _=>by
         have hck:ck ((j:Int)+1)=some ((j:Int)+1):=dE (by omega) (by omega);have hr:=hs.r _ (List.getElem_mem hj);refine⟨?_,λ_ _=>trivial⟩;have hj':(j:Int) < (m.2.2.2.2.1.length:Int):=Int.ofNat_lt.2 hj;have hg:aR m.2.2.2.2.1 (j:Int)=some (mD m)[j]:=dZ hj;simp only [fi,hj',if_true,hg,bs,LS h1 hk hr.1 hr.2];grind)
        (λn s _=>by
         unfold fi;simp_all) (n:=k) (s0:=()) (by omega) trivial
       rw [show fi k m k 0=_ from key,s4];by_cases h7:l9 (s9 (mC m)) (mD m)=0
       .rw [if_pos h7,mM,show(if¬(l9 (s9 (mC m)) (mD m)=0) then l9 (s9 (mC m)) (mD m) else if 8 < (mG m).length then 6 else l9 (IW m) (mG m))=(if 8 < (mG m).length then 6 else l9 (IW m) (mG m)) from if_neg (λhn=>hn h7)];by_cases h8:8 < (mG m).length
        .grind
        .rw [if_neg (show¬((8:Int) < (m.2.2.2.2.2.length:Int)) by grind),if_neg h8]
         have key:=nn (f:=fh k m) (mG m) (λ(_:Unit) j=>j) (λ_ _ x=>if¬(IW m x=0) then Except.error (IW m x) else .ok ()) (λ_ _=>True) (λr=>some r)
          (λn s j hj _=>by
           have hck:ck ((j:Int)+1)=some ((j:Int)+1):=dE (by omega) (by omega);refine⟨?_,λ_ _=>trivial⟩;have hj':(j:Int) < (m.2.2.2.2.2.length:Int):=Int.ofNat_lt.2 hj;have hg:aR m.2.2.2.2.2 (j:Int)=some (mG m)[j]:=dZ hj;simp only [fh,hj',if_true,hg,bs,PT h1];grind)
          (λn s _=>by
           simp_all [fh,if_neg,Int.lt_irrefl]) (n:=k) (s0:=()) (by omega) trivial
         rw [show fh k m k 0=_ from key,s4];by_cases h9:l9 (IW m) (mG m)=0
         .rw [if_pos h9,mM,h9]
         .rw [if_neg h9,nS]
       .rw [if_neg h7,nS,if_pos h7]
    grind
   grind
  grind
 grind
end Go.Proofs.YtddkbkkogpolaaaGreat
set_option linter.unusedVariables false
set_option linter.unusedSimpArgs false
namespace Go.Proofs.YtddkbkkogpolaaaGreat
open K Go Go.Proofs
theorem uK{r:List (List Int)}{l:List Int}(h:r.flatten.Nodup)(hl:l∈r):l.Nodup:=by
 grind
theorem KL{σ:Type}{bad:σ->Int->Option Int}{add:σ->Int->σ}{x:Int}{l:List Int}{s:σ}{e:Int}(h:bad s x=some e):wk bad add (x::l) s= .error e:=by rw [wk,h]
theorem KH{σ:Type}{bad:σ->Int->Option Int}{add:σ->Int->σ}{x:Int}{l:List Int}{s:σ}(h:bad s x=none):wk bad add (x::l) s=wk bad add l (add s x):=by rw [wk,h]
theorem Vd.of{m:ae}(h:qV m=0):Vd m:=by
 unfold qV at h;by_cases h1:(1≤mC m/\mC m≤5)/\(0≤mW m/\mW m≤3)/\(0≤mS m/\mS m≤3)/\1≤mH m/\mH m≤3
 .rw [if_neg (λhn=>hn h1)] at h;by_cases h2:(mD m).length=0
  .omega
  .rw [if_neg h2] at h;by_cases h3:6 < (mD m).length
   .omega
   .rw [if_neg h3] at h;by_cases h4:l9 (s9 (mC m)) (mD m)=0
    .rw [if_neg (λhn=>hn h4)] at h;by_cases h5:8 < (mG m).length
     .omega
     .rw [if_neg h5] at h;have hd:=λr hr=>xg.1 (pE.1 h4 r hr);have hx:∀r∈mD m,∀l∈r,∀x∈l,0≤x/\x < mC m:=λr hr l hl x hx=>(hd r hr).2.2 x (List.mem_flatten.2 ⟨l,hl,hx⟩)
      exact⟨h1.1.1,h1.1.2,h1.2.1.1,h1.2.1.2,h1.2.2.1.1,h1.2.2.1.2,h1.2.2.2.1,h1.2.2.2.2,by omega,by omega,λr hr=>(hd r hr).1,λr hr l hl=>by
       have hn:l.Nodup:=uK (hd r hr).2.1 hl;have:=qw (mC m).toNat l hn λx hxx=>by grind
       omega,hx,λr hr=>(hd r hr).2.1,by omega,λg hg=>by
        grind [pE,IW]⟩
    omega
 omega
theorem Vd.chk{m:ae}(v:Vd m):qV m=0:=by
 unfold qV;have h1:(1≤mC m/\mC m≤5)/\(0≤mW m/\mW m≤3)/\(0≤mS m/\mS m≤3)/\1≤mH m/\mH m≤3:=⟨⟨v.c1,v.c5⟩,⟨v.w0,v.w3⟩,⟨v.s0,v.s3⟩,v.h1,v.h3⟩
 have h4:l9 (s9 (mC m)) (mD m)=0:=pE.2 λr hr=>xg.2 ⟨v.r3 r hr,v.nd r hr,λx hx=>by
  obtain⟨l,hl,hx⟩:=List.mem_flatten.1 hx;exact v.x5 r hr l hl x hx⟩
 have h9:l9 (IW m) (mG m)=0:=pE.2 λg hg=>by
  have:=v.gl g hg;unfold IW;omega
 have d1:=v.d1;have d6:=v.d6;have g8:=v.g8;omega
theorem Vd.sm{m:ae}(v:Vd m):Sm m:=⟨by have:=v.d6;omega,λr hr=>⟨by have:=v.r3 r hr;omega,λl hl=>by have:=v.l5 r hr l hl;omega⟩,by have:=v.g8;omega⟩
def vF(C:Int)(p:Option Int)(x:Int):Option Int:=if¬(0≤x/\x < C) then some 3 else if p.any (λy=>decide (x≤y)) then some 5 else none
def Nl(C:Int)(p:Option Int×Int)(x:Int):Option Int:=vF C p.1 x
def QQ(p:Option Int×Int)(x:Int):Option Int×Int:=(some x,tj p.2 x)
def Nx(p:Option Int)(x:Int):Option Int:=some x
def tY(C:Int)(b:List Int):Int:=match wk (vF C) Nx b none with | .error e=>e | .ok _=>0
def ee(b:List Int):Int:=b.foldl tj 0
theorem OA{C:Int}{p:Option Int}{x:Int}(h:vF C p x=none):(0≤x/\x < C)/\p.any (λy=>decide (x≤y))=false:=by
 unfold vF at h;grind
theorem Eo{C:Int}:∀(b:List Int) (p:Option Int) (s:Int),(∃e,wk (Nl C) QQ b (p,s)= .error e/\wk (vF C) Nx b p= .error e)\/∃q,wk (Nl C) QQ b (p,s)= .ok (q,b.foldl tj s)/\wk (vF C) Nx b p= .ok q
 |[],p,s=>.inr ⟨p,rfl,rfl⟩
 |x::b,p,s=>by
  cases e:vF C p x with
  |some c=>exact .inl ⟨c,KL e,KL e⟩
  |none=>
   rw [KH (bad:=Nl C) (s:=(p,s)) (x:=x) e,KH e]
   exact Eo (C:=C) b (some x) (tj s x)
theorem zZ{k:Nat}{m:ae}(hC:1≤mC m/\mC m≤5){b:List Int}(hk:b.length < k)(hb:b.length≤1000):
 fe k m b k (0,0)=some (if tY (mC m) b=0 then .ok (ee b) else .error (none,0,tY (mC m) b)):=by
 have key:=nn (T:=Int×Int) (f:=fe k m b) b (λ(s:Option Int×Int) j=>(s.2,j)) (λs _ x=>match Nl (mC m) s x with |some e=>Except.error e |none=>.ok (QQ s x)) (λj s=>iZ s.2/\s.1=if j=0 then none else b[j-1]?) (λr=>some (match r with | .error e=>Except.error (none,0,e) | .ok s=>.ok s.2))
  (λn s j hj hs=>by
   have hck:ck ((j:Int)+1)=some ((j:Int)+1):=dE (by omega) (by omega);have hc:ck (m.1 - 1)=some (m.1 - 1):=TU hC;refine⟨?_,λs' e=>?_⟩
   .simp only [fe,Int.ofNat_lt,hj,if_true,dZ hj,bs,hc,kZ];generalize b[j]=x;rw [show Nl (mC m) s x=vF (mC m) s.1 x from rfl];by_cases h:0≤x/\x < mC m
    .have h':0≤x/\x≤m.1 - 1:=⟨h.1,by grind⟩;have eb:vF (mC m) s.1 x=if s.1.any (λy=>decide (x≤y)) then some 5 else none:=by unfold vF;simp_all
     have ep:(if(0:Int) < (j:Int) then((ck ((j:Int) - 1)).bind λx12=>(aR b x12).bind λx13=>some (decide (x≤x13))) else some false)=some (s.1.any λy=>decide (x≤y)):=by
      rw [hs.2];by_cases h0:j=0
      .simp_all
      .have c1:ck ((j:Int) - 1)=some ((j - 1:Nat):Int):=by grind [dE]
       rw [if_pos (by omega),c1,bs,dZ (by omega),bs,if_neg h0,List.getElem?_eq_getElem (by omega)];rfl
     rw [eb];simp only [h',and_self,decide_true,not_true_eq_false,if_false,bs];rw [ep,bs];cases s.1.any λy=>decide (x≤y) with
     |true=>simp_all
     |false=>
      simp only [Bool.false_eq_true,if_false,(kL (k:=k) hs.1 h.1 (by omega)).1,bs,hck];rfl
    .have h':¬(0≤x/\x≤m.1 - 1):=λhh=>h ⟨hh.1,by grind⟩;have eb:vF (mC m) s.1 x=some 3:=by unfold vF;simp_all
     simp_all
   .cases e2:Nl (mC m) s b[j] with
    |some c=>simp_all
    |none=>
     rw [e2] at e;cases e;have hx:=OA e2;exact⟨(kL (k:=0) hs.1 hx.1.1 (by omega)).2.1,by show some b[j]=if j+1=0 then none else b[j+1 - 1]?;simp_all⟩)
  (λn s _=>by simp [fe]) (n:=k) (s0:=(none,0)) hk ⟨uP,rfl⟩
 rw [show fe k m b k (0,0)=_ from key]
 have e1:eJ (λ(s:Option Int×Int) _ x=>match Nl (mC m) s x with |some e=>Except.error e |none=>.ok (QQ s x)) 0 b (none,0)=wk (Nl (mC m)) QQ b (none,0):=xz (bad:=Nl (mC m)) (add:=QQ) b 0 (none,0)
 rw [e1]
 unfold tY
 have z:∀(l:List Int) (p:Option Int),wk (vF (mC m)) Nx l p≠.error 0:=by
  intro l
  induction l with
  |nil=>intro p h;cases h
  |cons x l ih=>
   intro p h;rw [wk] at h;cases hb:vF (mC m) p x with
   |some c=>
    grind [vF]
   |none=>grind
 rcases Eo (C:=mC m) b none 0 with⟨e,h1,h2⟩ |⟨q,h1,h2⟩
 .
  grind
 .
  rw [h1,h2];rfl
end Go.Proofs.YtddkbkkogpolaaaGreat
set_option linter.unusedVariables false
set_option linter.unusedSimpArgs false
namespace Go.Proofs.YtddkbkkogpolaaaGreat
open K Go Go.Proofs
theorem zx{C:Int}(hC:C≤5):∀(b:List Int) (s:Int),iZ s->(∀x∈b,0≤x/\x < C)->iZ (b.foldl tj s)/\∀i:Nat,ec (b.foldl tj s) i↔ec s i\/(i:Int)∈b
 |[],s,hs,_=>⟨hs,λi=>by simp⟩
 |x::b,s,hs,hb=>by
  have hx:=hb x mem_cons_self
  have hw:=kL (k:=0) hs hx.1 (by omega)
  have:=zx hC b (tj s x) hw.2.1 λy hy=>hb y (mem_cons_of_mem _ hy)
  grind
structure Bg(C:Int)(b:List Int):Prop where
 rng:∀x∈b,0≤x/\x < C
 asc:b.Pairwise (· < ·)
theorem Bt{C:Int}:∀{b:List Int} {p:Option Int},(∃q,wk (vF C) Nx b p= .ok q)↔(∀x∈b,0≤x/\x < C)/\b.Pairwise (· < ·)/\∀y,p=some y->∀x∈b.head?,y < x
 |[],p=>by simp [wk]
 |x::b,p=>by
  cases e:vF C p x with
  |some c=>
   rw [KL e]
   constructor
   .
    simp_all
   .
    rintro⟨h1,h2,h3⟩
    exfalso
    unfold vF at e
    rw [if_neg (λhn=>hn (h1 x mem_cons_self))] at e
    cases p with
    |none=>cases e
    |some y=>
     have:=h3 y rfl x (by simp)
     grind
  |none=>
   have hx:=OA e
   rw [KH e,Bt (b:=b) (p:=Nx p x)]
   constructor
   .
    rintro⟨h1,h2,h3⟩
    refine⟨λy hy=>?_,?_,λy hy z hz=>?_⟩
    .
     grind
    .
     rw [pairwise_cons]
     refine⟨λy hy=>?_,h2⟩
     cases b with
     |nil=>cases hy
     |cons z b=>
      have hz:=h3 x rfl z (by simp)
      grind [pairwise_cons]
    simp_all
   simp_all [pairwise_cons,mem_cons_of_mem,Nx,mem_of_mem_head?]
theorem Es{C:Int}:∀{l:List Int} {p:Option Int},wk (vF C) Nx l p≠.error 0
 |[],p,h=>by cases h
 |x::l,p,h=>by
  cases hb:vF C p x with
  |some c=>
   rw [KL hb] at h
   grind [vF]
  |none=>rw [KH hb] at h;exact Es h
theorem ti{C:Int}{b:List Int}:tY C b=0↔Bg C b:=by
 unfold tY;constructor
 .intro h;cases e:wk (vF C) Nx b none with
  |error c=>simp_all [Es]
  |ok q=>have:=Bt.1 ⟨q,e⟩;exact⟨this.1,this.2.1⟩
 .rintro⟨h1,h2⟩;obtain⟨q,e⟩:=(Bt (p:=none)).2 ⟨h1,h2,λy hy=>by cases hy⟩;rw [e]
theorem Bg.set{C:Int}(hC:C≤5){b:List Int}(h:Bg C b):iZ (ee b)/\∀c:Int,0≤c->nL (ee b) c=decide (c∈b):=by
 have:=zx hC b 0 uP h.rng;refine⟨this.1,λc hc=>?_⟩;unfold nL;have e:((c.toNat:Nat):Int)=c:=by omega
 have h2:=this.2 c.toNat;rw [e] at h2;refine decide_eq_decide.2 ?_;show ec (b.foldl tj 0) c.toNat↔_;simp_all [ec]
def we(m:ae)(i:Nat):Int:=match i with |0=>mC m - 1 |1=>((mD m).length:Int) - 1 |_=>(mD m).length
def Aq(n:Int)(l:List Int):Bool:=l.all λx=>decide (0≤x/\x≤n)
theorem qx{k:Nat}{m:ae}(v:Vd m){i:Nat}(hi:i < 3){l:List Int}(hk:l.length < k)(hl:l.length≤1000):
 dH k m (i:Int) l k 0=some (if Aq (we m i) l then .ok () else .error (none,0,3)):=by
 have c1:=v.c1
 have c5:=v.c5
 have d6:=v.d6
 have d1:=v.d1
 have key:=nn (T:=Int) (f:=dH k m (i:Int) l) l (λ(_:Unit) j=>j) (λ_ _ x=>if 0≤x/\x≤we m i then .ok () else Except.error ((none,0,3):Option ae×Int×Int)) (λ_ _=>True) (λr=>some r)
  (λn s j hj _=>by
   have hck:ck ((j:Int)+1)=some ((j:Int)+1):=dE (by omega) (by omega);have hc:ck (m.1 - 1)=some (mC m - 1):=TU ⟨c1,c5⟩;have hd:ck ((m.2.2.2.2.1.length:Int) - 1)=some (((mD m).length:Int) - 1):=dE (by omega) (by grind)
   have hg:aR [mC m - 1,((mD m).length:Int) - 1,((mD m).length:Int)] (i:Int)=some (we m i):=by
    have:i=0\/i=1\/i=2:=by omega
    rcases this with rfl |rfl |rfl <;> rfl
   refine⟨?_,λ_ _=>trivial⟩;simp only [dH,Int.ofNat_lt,hj,if_true,dZ hj,bs,hc,hd];rw [show aR [mC m - 1,((mD m).length:Int) - 1,(m.2.2.2.2.1.length:Int)] (i:Int)=some (we m i) from hg,bs,kZ,bs];grind)
  (λn s _=>by simp [dH]) (n:=k) (s0:=()) hk trivial
 rw [show dH k m (i:Int) l k 0=_ from key]
 congr 1
 have:∀(l:List Int) (j:Nat),eJ (λ(_:Unit) _ x=>if 0≤x/\x≤we m i then .ok () else Except.error ((none,0,3):Option ae×Int×Int)) j l ()=if Aq (we m i) l then .ok () else .error (none,0,3):=by
  intro l
  induction l with
  |nil=>intro j;rfl
  |cons x l ih=>
   intro j;rw [eJ];by_cases h:0≤x/\x≤we m i
   .simp_all [if_pos,Aq,we,all_cons,and_self,decide_true,Bool.true_and]
   .rw [if_neg h];have:Aq (we m i) (x::l)=false:=by simp only [Aq,all_cons,h,decide_false,Bool.false_and]
    simp_all
 simp_all
theorem zh{k:Nat}{m:ae}(v:Vd m)(hk:10≤k):∀n:Nat,n≤32->wq k m n=some ()
 |0,_=>rfl
 |n+1,h=>by
  have e:IntKind.u8.wrap (n:Int)=(n:Int):=tZ (by omega)
  unfold wq
  rw [zh v hk n (by omega),bs,e,tf v hk ⟨by omega,by omega⟩,bs]
theorem KQ{k:Nat}{m:ae}(v:Vd m)(hk:10≤k):eI k m=some ():=by
 have c1:=v.c1;have c5:=v.c5;unfold eI
 have hc:m.1=1\/m.1=2\/m.1=3\/m.1=4\/m.1=5:=by
  grind
 have e:0≤oZ .i64 1 m.1/\oZ .i64 1 m.1≤32:=by
  rcases hc with h |h |h |h |h <;> rw [h] <;> decide
 rw [if_pos ⟨by omega,by omega⟩];simp_all [zh]
def TO(m:ae)(cs ds ns:List Int):Bool:=Aq (we m 0) cs && Aq (we m 1) ds && Aq (we m 2) ns
theorem zY{k:Nat}{m:ae}{b cs ds ns:List Int}(hs:Sm m)(hk:1010≤k)(hb:b.length≤1000)(h1:cs.length≤1000)(h2:ds.length≤1000)(h3:ns.length≤1000):
 jj k m b cs ds ns=some (if¬(qV m=0) then(none,0,qV m) else if¬(tY (mC m) b=0) then(none,0,tY (mC m) b) else if TO m cs ds ns then(some m,ee b,0) else(none,0,3)):=by
 unfold jj
 rw [LU hs (by omega),bs]
 by_cases hc:qV m=0
 .
  have v:=Vd.of hc;rw [if_neg (λhn=>hn hc),if_neg (λhn=>hn hc),zZ ⟨v.c1,v.c5⟩ (by omega) hb];by_cases hg:tY (mC m) b=0
  .rw [if_pos hg,mM,if_neg (λhn=>hn hg)];obtain⟨n,rfl⟩:∃n,k=n+4:=⟨k - 4,by omega⟩;have e0:=qx v (k:=n+4) (i:=0) (by omega) (l:=cs) (by omega) h1;have e1:=qx v (k:=n+4) (i:=1) (by omega) (l:=ds) (by omega) h2;have e2:=qx v (k:=n+4) (i:=2) (by omega) (l:=ns) (by omega) h3;have g0:aR [cs,ds,ns] (0:Int)=some cs:=rfl;have g1:aR [cs,ds,ns] (1:Int)=some ds:=rfl;have g2:aR [cs,ds,ns] (2:Int)=some ns:=rfl;have k0:ck ((0:Int)+1)=some 1:=rfl;have k1:ck ((1:Int)+1)=some 2:=rfl;have k2:ck ((2:Int)+1)=some 3:=rfl;have ln:(([cs,ds,ns]:List (List Int)).length:Int)=3:=rfl
   have s0:cR (n+4) m cs ds ns (n+4) 0=if Aq (we m 0) cs then cR (n+4) m cs ds ns (n+3) 1 else some (.error (none,0,3)):=by
    rw [cR,ln,if_pos (by decide),g0,bs,show dH (n+4) m 0 cs (n+4) 0=_ from e0];cases Aq (we m 0) cs with
    |true=>simp_all [if_true,mM,bs]
    |false=>simp_all [Bool.false_eq_true,if_false,nS]
   have s1:cR (n+4) m cs ds ns (n+3) 1=if Aq (we m 1) ds then cR (n+4) m cs ds ns (n+2) 2 else some (.error (none,0,3)):=by
    rw [cR,ln,if_pos (by decide),g1,bs,show dH (n+4) m 1 ds (n+4) 0=_ from e1];cases Aq (we m 1) ds with
    |true=>simp_all [if_true,mM,bs]
    |false=>simp_all [Bool.false_eq_true,if_false,nS]
   have s2:cR (n+4) m cs ds ns (n+2) 2=if Aq (we m 2) ns then cR (n+4) m cs ds ns (n+1) 3 else some (.error (none,0,3)):=by
    rw [cR,ln,if_pos (by decide),g2,bs,show dH (n+4) m 2 ns (n+4) 0=_ from e2];cases Aq (we m 2) ns with
    |true=>simp_all [if_true,mM,bs]
    |false=>simp_all [Bool.false_eq_true,if_false,nS]
   have s3:cR (n+4) m cs ds ns (n+1) 3=some (.ok ()):=by
    rw [cR,ln,if_neg (by decide)]
   rw [s0,s1,s2,s3];unfold TO
   have fin:((jk (n+4) m).bind λr32=>f9 r32 none (λq33=>(eI (n+4) q33).bind λr35=>some (some q33,ee b,(0:Int))))=some (some m,ee b,0):=by
    grind [jk,bs,yz,KQ]
   cases Aq (we m 0) cs with
   |false=>simp_all [Bool.false_eq_true,if_false,Bool.false_and,nS]
   |true=>
    cases Aq (we m 1) ds with
    |false=>simp_all [if_true,Bool.false_eq_true,if_false,Bool.true_and,Bool.false_and,nS]
    |true=>
     cases Aq (we m 2) ns with
     |false=>simp_all [if_true,Bool.false_eq_true,if_false,Bool.true_and,Bool.and_false,nS]
     |true=>simp_all [if_true,Bool.true_and,mM]
  .rw [if_neg hg,nS,if_pos hg]
 simp_all
end Go.Proofs.YtddkbkkogpolaaaGreat
set_option linter.unusedVariables false
set_option linter.unusedSimpArgs false
namespace Go.Proofs.YtddkbkkogpolaaaGreat
open K Go Go.Proofs
def oK(m:ae)(B:Int->Bool)(n:Nat):List Int:=(List.range (mC m).toNat).map λ(c:Nat)=>pU m B n (c:Int)
def lO(m:ae)(B:Int->Bool):List (List Int):=(List.range ((mD m).length+1)).map (oK m B)
theorem HB{m:ae}{B:Int->Bool}{n:Nat}{c:Int}(h0:0≤c)(h1:c < mC m):aR (oK m B n) c=some (pU m B n c):=by
 unfold oK;rw [aR,if_pos h0,List.getElem?_map,List.getElem?_range (by omega)];grind
theorem xh{m:ae}{B:Int->Bool}{n:Nat}(h:n≤(mD m).length):aR (lO m B) (n:Int)=some (oK m B n):=by
 unfold lO;rw [aR,if_pos (by omega),List.getElem?_map,Int.toNat_natCast,List.getElem?_range (by omega)];rfl
theorem Hh{f:Int->Int}{C:Int}(h0:0≤C)(h5:C≤5):List.take C.toNat (kN f)=(List.range C.toNat).map λ(c:Nat)=>f (c:Int):=by
 have:C=0\/C=1\/C=2\/C=3\/C=4\/C=5:=by omega
 rcases this with rfl |rfl |rfl |rfl |rfl |rfl <;> rfl
theorem Cj{k:Nat}{m:ae}{b:List Int}(hs:Sm m)(hk:1010≤k)(hb:b.length≤1000):
 iP k m b=some (if¬(qV m=0) then([],qV m) else if¬(tY (mC m) b=0) then([],tY (mC m) b) else(lO m λc=>decide (c∈b),0)):=by
 unfold iP
 rw [zY hs hk hb (by simp) (by simp) (by simp),bs]
 by_cases hc:qV m=0
 .
  have v:=Vd.of hc;by_cases hg:tY (mC m) b=0
  .have hB:=(ti.1 hg).set v.c5;have ho:TO m [] [] []=true:=rfl;have c1:=v.c1;have c5:=v.c5;have d6:=v.d6;simp only [hc,hg,ho,not_true_eq_false,if_false,if_true,yz];rw [tf v (by omega) hB.1,bs]
   have hd:ck ((m.2.2.2.2.1.length:Int)+1)=some (((mD m).length+1:Nat):Int):=by
    rw [dE (by omega) (by grind)];rfl
   rw [hd,bs]
   have key:=lM (T:=List (List Int)×Int) (f:=eE k m (cr (Gy m (nL (ee b)))) (((mD m).length+1:Nat):Int)) (List.range ((mD m).length+1)) (λ(s:List (List Int)) j=>(s,j)) (λs j _=>s++[oK m (nL (ee b)) j]) (λj s=>s=(List.range j).map (oK m (nL (ee b)))) (λs=>some s)
    (λn s j hj hs=>by
     rw [length_range] at hj;have hck:ck ((j:Int)+1)=some ((j:Int)+1):=dE (by omega) (by omega);have hjlt:(j:Int) < (((mD m).length+1:Nat):Int):=by omega
     have hp:cM (0≤m.1/\m.1≤5)=some ():=dF ⟨by grind,c5⟩
     have ht:List.take (Int.toNat m.1) (kN (Gy m (nL (ee b)) j))=oK m (nL (ee b)) j:=by
      rw [Hh (by omega) c5];unfold oK;refine List.map_congr_left λc hc=>?_;have:=List.mem_range.1 hc;exact Eh v (by omega) (by omega) (by omega)
     have hl:(oK m (nL (ee b)) j).length≤5:=by grind
     have hsl:s.length=j:=by simp_all
     have hcl:dA k (oK m (nL (ee b)) j)=some (oK m (nL (ee b)) j):=by
      unfold dA;rw [dF (by show _≤_;omega),bs]
     have hok:cM (bQ (length s+length [oK m (nL (ee b)) j]))=some ():=dF (by grind [bQ]);refine⟨?_,?_⟩
     .simp only [eE,hjlt,if_true,CX (F:=Gy m (nL (ee b))) (show j < 7 by omega),bs,hp,ht,hcl,hok,hck]
     simp_all [List.range_succ,List.map_append])
    (λn s hs=>by
     simp_all [length_range,eE,if_neg,Int.lt_irrefl]) (n:=k) (s0:=[]) (by grind) rfl
   rw [show eE k m (cr (Gy m (nL (ee b)))) (((mD m).length+1:Nat):Int) k ([],0)=_ from key.1,bs,key.2,length_range]
   have hcs:(List.range ((mD m).length+1)).map (oK m (nL (ee b)))=lO m λc=>decide (c∈b):=by
    unfold lO;refine List.map_congr_left λn hn=>?_;unfold oK;refine List.map_congr_left λc hc=>?_
    have hage:∀(n:Nat) (c:Int),0≤c->c < mC m->pU m (nL (ee b)) n c=pU m (λc=>decide (c∈b)) n c:=by
     intro n
     induction n with
     |zero=>simp_all [pU]
     |succ n ih=>
      intro c h0 h1;unfold pU;cases e:En m n c with
      |none=>simp_all
      |some l=>
       have hb:=(vh v e).2;grind
    simp_all
   rw [hcs]
  simp_all [not_true_eq_false,not_false_eq_true,if_false,if_true,yA]
 simp_all [not_false_eq_true,if_true,yA]
end Go.Proofs.YtddkbkkogpolaaaGreat
set_option linter.unusedVariables false
set_option linter.unusedSimpArgs false
namespace Go.Proofs.YtddkbkkogpolaaaGreat
open K Go Go.Proofs
theorem Lo.mono{l:bW}{m n:Int}(h:Lo l m)(hn:m≤n):Lo l n:=⟨h.1,Int.le_trans h.2 hn⟩
theorem VV{α:Type}{l:List α}{x:α}{n:Nat}(h:l.length≤n)(hn:n≤1000000):bQ (length l+length [x]):=by
 show length l+length [x]≤4294967296;grind
theorem Ci{k:Nat}(hk:50≤k){l:bW}{m:Int}{n:Nat}(hl:Lo l m)(hm:0≤m/\m≤1000)(hn:n≤8):W (gY k l (n:Int)) λr=>Lo r.2 (m+10)/\r.1.length=n/\(∀x∈r.1,0≤x/\x < (n:Int))/\r.1.Nodup:=by
 unfold gY;refine W.bind (R:=λr=>Lo (r.2.1,r.2.2.1,r.2.2.2) (m+10)/\r.1.length=n/\(∀x∈r.1,0≤x/\x < (n:Int))/\r.1.Nodup) ?_ λr h=>W.ret h
 refine W.loop (f:=eh k (n:Int)) (λq y=>∃j:Nat,y.2.2.2.2=(j:Int)/\j≤n/\q=n - j/\Lo (y.1,y.2.1,y.2.2.1) (m+j)/\y.2.2.2.1.length=j/\(∀x∈y.2.2.2.1,0≤x/\x < (j:Int))/\y.2.2.2.1.Nodup) ?_ n k _ (by omega)
  ⟨0,rfl,by omega,by omega,by simp_all,rfl,by simp,by simp⟩
 rintro aE q ⟨nums,d,s,o,y⟩ ⟨j,hj,hle,hq,hlo,hlen,hx,hnd⟩ ih;simp only at hj hlo hlen hx hnd;subst hj;unfold eh;dsimp only;refine W.ite (λhlt=>?_) (λhge=>W.ret ⟨hlo.mono (by omega),by grind,λx hx'=>by grind,hnd⟩);obtain⟨r5,e5,a5,b5,c5⟩:=kM (k:=k) (n:=(j:Int)) hlo (by omega) (by omega);have b5:=b5 (by omega);have ho:(o++[(j:Int)]).length=j+1:=by simp [hlen]
 have hr5:r5.1.toNat < (o++[(j:Int)]).length:=by omega
 have hjl:j < (o++[(j:Int)]).length:=by omega
 have hgj:(o++[(j:Int)])[j]=(j:Int):=by
  grind
 rw [e5,bs,dF (VV (n:=8) (by omega) (by omega)),bs,ym a5 hr5,bs,dZ (by omega),bs];have hgs:aR (List.set (o++[(j:Int)]) (Int.toNat (j:Int)) (o++[(j:Int)])[r5.1.toNat]) r5.1=some ((List.set (o++[(j:Int)]) (Int.toNat (j:Int)) (o++[(j:Int)])[r5.1.toNat])[r5.1.toNat]'(by grind)):=ym a5 (by grind);rw [hgs,bs,dE (by omega) (by omega),bs]
 have hp:(List.set (List.set (o++[(j:Int)]) (Int.toNat (j:Int)) (o++[(j:Int)])[r5.1.toNat]) (Int.toNat r5.1) (j:Int)).Perm (o++[(j:Int)]):=by
  have:= @set_set_perm Int (o++[(j:Int)]) j r5.1.toNat hjl hr5;rw [hgj] at this;exact this
 refine ih (q - 1) (_,_,_,_,(j:Int)+1) (by omega) ⟨j+1,by grind,by omega,by omega,c5.mono (by omega),by simp [hlen],λx hx'=>?_,hp.nodup_iff.2 ?_⟩
 .grind
 grind
theorem I7{out:List (List Int)}{i:Nat}{x:Int}(h:i < out.length):(out.set i (out[i]++[x])).flatten.Perm (out.flatten++[x]):=by
 have e1:out=out.take i++out[i]::out.drop (i+1):=by simp_all
 grind
structure Rl(C:Int)(r:List (List Int)):Prop where
 r3:r.length≤3
 x5:∀l∈r,∀x∈l,0≤x/\x < C
 nd:r.flatten.Nodup
theorem Rl.l5{C:Int}(hC:0≤C/\C≤5){r:List (List Int)}(h:Rl C r):∀l∈r,l.length≤5:=λl hl=>by
 have:=qw C.toNat l (uK h.nd hl) λx hx=>by have:=h.x5 l hl x hx;omega
 omega
theorem HJ{k:Nat}(hk:50≤k){l:bW}{m:Int}{n:Nat}(hl:Lo l m)(hm:0≤m/\m≤900)(hn:n≤5):
 W (j9 k l (n:Int)) λr=>Lo r.2 (m+30)/\Rl (n:Int) r.1:=by
 unfold j9
 refine W.bind (D5 (l:=(l.1,l.2.1,l.2.2)) hl (by omega) (by omega) (by omega) (by omega)) λr1 h1=>?_
 refine W.chk ⟨by omega,by show _≤_;omega⟩ ?_
 refine W.bind (Ci hk (l:=(r1.2.1,r1.2.2.1,r1.2.2.2)) (m:=m+1) (n:=n) h1.2.2 (by omega) (by omega)) λr4 h4=>?_
 obtain⟨lo4,len4,rng4,nd4⟩:=h4
 refine W.bind (R:=λx=>Lo (x.1,x.2.1,x.2.2.1) (m+30)/\Rl (n:Int) x.2.2.2) ?_ λx hx=>W.ret hx
 refine W.loop (f:=fG k r4) (λq y=>∃j:Nat,y.2.2.2.1=(j:Int)/\j≤n/\q=n - j/\Lo (y.1,y.2.1,y.2.2.1) (m+11+2 * j)/\y.2.2.2.2.length=r1.1.toNat/\(∀x∈y.2.2.2.2.flatten,x∈r4.1.take j)/\y.2.2.2.2.flatten.Nodup) ?_ n k _ (by omega)
  ⟨0,rfl,by omega,by omega,lo4.mono (by omega),by simp,by simp,by simp⟩
 rintro aE q ⟨nums,d,s,y,out⟩ ⟨j,hj,hle,hq,hlo,hlen,hx,hnd⟩ ih
 simp only at hj hlo hlen hx hnd
 subst hj
 unfold fG
 dsimp only
 refine W.ite (λhlt=>?_) (λhge=>W.ret ⟨hlo.mono (by omega),by grind,λl hl x hxx=>rng4 x (mem_of_mem_take (hx x (List.mem_flatten.2 ⟨l,hl,hxx⟩))),hnd⟩)
 have hj:j < r4.1.length:=by omega
 have hsub:∀x∈r4.1.take j,x∈r4.1.take (j+1):=λx hh=>by grind
 refine W.bind (R:=λx=>Lo (x.1,x.2.1,x.2.2.1) (m+11+2 * j+2)/\x.2.2.2.length=r1.1.toNat/\(∀z∈x.2.2.2.flatten,z∈r4.1.take (j+1))/\x.2.2.2.flatten.Nodup) ?_ λx9 h9=>?_
 .
  refine W.bind (xP (l:=(nums,d,s)) hlo (by omega) (by omega) (by omega)) λr11 h11=>?_;refine W.ite (λ_=>W.ret ⟨h11.mono (by omega),hlen,λz hz=>hsub z (hx z hz),hnd⟩) (λ_=>?_);refine W.ck (by omega) (by omega) ?_;refine W.bind (kM (l:=(r11.2.1,r11.2.2.1,r11.2.2.2)) h11 (by omega) (by omega)) λr13 h13=>?_;have b13:=h13.2.1 (by omega);have hi:r13.1.toNat < out.length:=by omega
  rw [ym h13.1 hi,bs,dZ hj,bs]
  have hxj:r4.1[j]∉out.flatten:=λhin=>by
   grind [List.getElem_of_mem,length_take,getElem_inj]
  have hlen2:(out[r13.1.toNat]).length≤5:=by
   have:=qw n _ (uK hnd (List.getElem_mem hi)) λx hxx=>rng4 x (mem_of_mem_take (hx x (List.mem_flatten.2 ⟨_,List.getElem_mem hi,hxx⟩)));omega
  rw [dF (by grind [bQ]),bs];have hp:=I7 (x:=r4.1[j]) hi;refine W.ret ⟨h13.2.2.mono (by omega),by grind,λz hz=>?_,hp.nodup_iff.2 ?_⟩
  .grind [List.mem_singleton,take_add_one,List.getElem?_eq_getElem,List.mem_append_right]
  grind
 .
  refine W.ck (by omega) (by omega) ?_;exact ih (q - 1) (_,_,_,(j:Int)+1,_) (by omega) ⟨j+1,by grind,by omega,by omega,h9.1.mono (by omega),h9.2⟩
end Go.Proofs.YtddkbkkogpolaaaGreat
set_option linter.unusedVariables false
set_option linter.unusedSimpArgs false
namespace Go.Proofs.YtddkbkkogpolaaaGreat
open K Go Go.Proofs
theorem NF{c w s h:Int}{ds:List (List (List Int))}(hc:1≤c/\c≤5)(hw:0≤w/\w≤3)(hs:0≤s/\s≤3)(hh:1≤h/\h≤3)(d1:1≤ds.length)(d6:ds.length≤6)(hr:∀r∈ds,Rl c r):Vd (c,w,s,h,ds,[]):=
 ⟨hc.1,hc.2,hw.1,hw.2,hs.1,hs.2,hh.1,hh.2,d1,d6,λr h=>(hr r h).r3,λr h=>(hr r h).l5 ⟨by omega,hc.2⟩,λr h=>(hr r h).x5,λr h=>(hr r h).nd,by simp [mG],λg hg=>by cases hg⟩
theorem CZ{k:Nat}{l:List Int}(h:l.length≤1000000):jr k l=some l:=by
 grind [jr,dF,VF,length_nil,bs]
theorem AI{k:Nat}{l:List (List Int)}(hk:l.length < k)(h1:l.length≤1000000)(h2:∀x∈l,x.length≤1000000):iw k l=some l:=by
 unfold iw
 have key:=lM (T:=List (List Int)×Int) (f:=dQ k l) l (λ(s:List (List Int)) j=>(s,j)) (λs j x=>s++[x]) (λj s=>s=l.take j) (λs=>some s)
  (λn s j hj hs=>by
   have hck:ck ((j:Int)+1)=some ((j:Int)+1):=dE (by omega) (by omega);have hl:s.length=j:=by grind
   have hok:cM (bQ (length s+length [l[j]]))=some ():=dF (by grind [bQ]);refine⟨?_,?_⟩
   .simp_all [dQ,Int.ofNat_lt,if_true,dZ,bs,CZ,List.getElem_mem]
   simp_all)
  (λn s hs=>by
   unfold dQ;simp_all) (n:=k) (s0:=[]) hk (by simp)
 simp_all
theorem Cf{k:Nat}(hk:50≤k){l:bW}{m:Int}{cs ds:Int}(hl:Lo l m)(hm:0≤m/\m≤400)(hc:1≤cs/\cs≤5)(hd:1≤ds/\ds≤6):
 W (kg k l cs ds) λr=>Lo r.2 (m+250)/\Vd r.1/\mG r.1=[]/\mC r.1≤cs/\((mD r.1).length:Int)≤ds:=by
 unfold kg
 refine W.bind (D5 (l:=(l.1,l.2.1,l.2.2)) hl (by omega) (by omega) (by omega) (by omega)) λr2 h2=>?_
 refine W.bind (kM (l:=(r2.2.1,r2.2.2.1,r2.2.2.2)) h2.2.2 (by omega) (by omega)) λr3 h3=>?_
 have b3:=h3.2.1 (by omega)
 refine W.bind (H2 (l:=(r3.2.1,r3.2.2.1,r3.2.2.2)) h3.2.2 (by omega) (by simp) (by simp)) λr4 h4=>?_
 refine W.bind (kM (l:=(r4.2.1,r4.2.2.1,r4.2.2.2)) h4.2 (by omega) (by omega)) λr5 h5=>?_
 have b5:=h5.2.1 (by omega)
 refine W.bind (H2 (l:=(r5.2.1,r5.2.2.1,r5.2.2.2)) h5.2.2 (by omega) (by simp) (by simp)) λr6 h6=>?_
 refine W.bind (D5 (l:=(r6.2.1,r6.2.2.1,r6.2.2.2)) h6.2 (by omega) (by omega) (by omega) (by omega)) λr7 h7=>?_
 refine W.bind (H2 (l:=(r7.2.1,r7.2.2.1,r7.2.2.2)) h7.2.2 (by omega) (by simp) (by simp)) λr8 h8=>?_
 have w4:0≤r4.1/\r4.1≤3:=by
  grind
 have w6:0≤r6.1/\r6.1≤3:=by
  grind
 have w8:1≤r8.1/\r8.1≤3:=by
  grind
 have lo8:=h8.2
 refine W.bind (R:=λx=>Lo (x.2.1,x.2.2.1,x.2.2.2) (m+250)/\(1≤x.1.length/\(x.1.length:Int)≤ds)/\∀r∈x.1,Rl r2.1 r) ?_ λx hx=>W.ret ⟨hx.1,NF (by omega) w4 w6 w8 (by omega) (by omega) hx.2.2,rfl,h2.2.1,hx.2.1.2⟩
 refine W.bind (D5 (l:=(r8.2.1,r8.2.2.1,r8.2.2.2)) lo8 (by omega) (by omega) (by omega) (by omega)) λr12 h12=>?_
 refine W.loop (f:=fH k r2) (λq y=>∃j:Nat,y.2.2.2.1.length=j/\y.2.2.2.2=r12.1 - j/\(j:Int)≤r12.1/\q=r12.1.toNat - j/\Lo (y.1,y.2.1,y.2.2.1) (m+10+33 * j)/\∀r∈y.2.2.2.1,Rl r2.1 r) ?_ r12.1.toNat k _ (by omega)
  ⟨0,rfl,by simp,by omega,by omega,h12.2.2.mono (by omega),by simp⟩
 rintro aE q ⟨nums,d,s,out,y⟩ ⟨j,hj,hy,hle,hq,hlo,hr⟩ ih
 simp only at hj hy hlo hr
 subst hy
 unfold fH
 dsimp only
 refine W.ite (λhlt=>?_) (λhge=>W.ret ⟨hlo.mono (by omega),⟨by grind,by grind⟩,hr⟩)
 refine W.bind (R:=λx=>Lo (x.1,x.2.1,x.2.2.1) (m+10+33 * j+33)/\x.2.2.2.length=j+1/\∀r∈x.2.2.2,Rl r2.1 r) ?_ λx15 h15=>?_
 .
  refine W.bind (R:=λx=>Lo (x.1,x.2.1,x.2.2.1) (m+10+33 * j+1)/\(x.2.2.2=true->0 < out.length)) ?_ λx17 h17=>?_
  .refine W.ite (λh0=>?_) (λh0=>W.ret ⟨hlo.mono (by omega),λh=>by cases h⟩);grind [W.bind,xP,W.ret]
  .refine W.ite (λht=>?_) (λht=>?_)
   .have h0:=h17.2 ht;refine W.ck (by omega) (by omega) ?_;have hi:((out.length:Int) - 1)=((out.length - 1:Nat):Int):=by omega
    have hlt':out.length - 1 < out.length:=by omega
    rw [hi,dZ hlt',bs];have hrl:=hr _ (List.getElem_mem hlt');have hl5:=hrl.l5 (by omega);have hr3:=hrl.r3;rw [AI (by omega) (by omega) (λx hx=>by grind),bs,dF (by grind [bQ]),bs];refine W.ret ⟨h17.1.mono (by omega),by simp [hj],λr hrr=>?_⟩;grind
   .have hc2:((r2.1.toNat:Nat):Int)=r2.1:=by omega
    have:=HJ hk (l:=(x17.1,x17.2.1,x17.2.2.1)) (m:=m+10+33 * j+1) (n:=r2.1.toNat) h17.1 (by omega) (by omega);rw [hc2] at this;refine W.bind this λr26 h26=>?_;rw [dF (by grind [bQ]),bs];refine W.ret ⟨h26.1.mono (by omega),by simp [hj],λr hrr=>?_⟩;grind
 .
  refine W.ck (by omega) (by omega) ?_;exact ih (q - 1) (_,_,_,_,_) (by omega) ⟨j+1,h15.2.1,by grind,by omega,by omega,h15.1.mono (by omega),h15.2.2⟩
theorem Bg.len{C:Int}(hC:0≤C/\C≤5){b:List Int}(h:Bg C b):b.length≤5:=by
 have:=qw C.toNat b (h.asc.imp λhab e=>by omega) λx hx=>by have:=h.rng x hx;omega
 omega
theorem HA{m:ae}{B:Int->Bool}{n:Nat}(h:0≤mC m):((oK m B n).length:Int)=mC m:=by
 unfold oK;grind
theorem pI{m:ae}{B:Int->Bool}:(lO m B).length=(mD m).length+1:=by
 unfold lO;simp_all
theorem Js{α ε:Type}:∀(l:List α) (j:Nat),eJ (λ(_:Unit) _ _=>(.ok ():Except ε Unit)) j l ()= .ok ()
 |[],_=>rfl
 |_::l,j=>Js l (j+1)
theorem G1{k:Nat}{m:ae}{B:Int->Bool}(v:Vd m)(hk:10≤k):nj k m (lO m B)=some true:=by
 have c1:=v.c1;have d6:=v.d6;unfold nj;have hd:ck ((m.2.2.2.2.1.length:Int)+1)=some (((mD m).length:Int)+1):=dE (by omega) (by grind);rw [hd,bs,if_neg (λhn=>hn (by rw [pI];omega))]
 have key:=nn (T:=Int) (f:=fj k m (lO m B)) (lO m B) (λ(_:Unit) j=>j) (λ_ _ _=>(.ok ():Except Bool Unit)) (λ_ _=>True) (λr=>some r)
  (λn s j hj _=>by
   have hck:ck ((j:Int)+1)=some ((j:Int)+1):=dE (by omega) (by grind [pI]);refine⟨?_,λ_ _=>trivial⟩;have hj2:j≤(mD m).length:=by grind [pI]
   simp only [fj,Int.ofNat_lt,hj,if_true,xh hj2,bs,hck];rw [if_neg (λhn=>hn (HA (by omega)))])
  (λn s _=>by simp [fj]) (n:=k) (s0:=()) (by rw [pI];omega) trivial
 simp_all [fj,lO,Js,mM]
end Go.Proofs.YtddkbkkogpolaaaGreat
set_option linter.unusedVariables false
set_option linter.unusedSimpArgs false
namespace Go.Proofs.YtddkbkkogpolaaaGreat
open K Go Go.Proofs
end Go.Proofs.YtddkbkkogpolaaaGreat
set_option linter.unusedVariables false
set_option linter.unusedSimpArgs false
namespace Go.Proofs.YtddkbkkogpolaaaGreat
open K Go Go.Proofs
theorem As{k:Nat}{l:bW}{m:Int}{x:yy}(hl:Lo l m)(hm:0≤m/\m≤900)(hc:1≤x.1/\x.1≤5)(hd:x.2.2.2.2.1.length≤6):
 W (iv k l x) λr=>Lo r.2 (m+3)/\(0≤r.1.1/\r.1.1 < x.1)/\0≤r.1.2.1/\r.1.2.1≤(x.2.2.2.2.1.length:Int):=by
 unfold iv
 grind [W.ck,W.bind,kM,xP,W.ret]
theorem Vd.with{m:ae}(v:Vd m){gs:List bH}(h8:gs.length≤8)(hg:∀g∈gs,0≤g.1/\g.1 < mC m/\0≤g.2.1/\g.2.1≤(mD m).length):Vd (m.1,m.2.1,m.2.2.1,m.2.2.2.1,m.2.2.2.2.1,gs):=
 ⟨v.c1,v.c5,v.w0,v.w3,v.s0,v.s3,v.h1,v.h3,v.d1,v.d6,v.r3,v.l5,v.x5,v.nd,h8,hg⟩
theorem yl{k:Nat}(hk:50≤k){l:bW}{m:Int}{cs ds:Int}(hl:Lo l m)(hm:0≤m/\m≤400)(hc:1≤cs/\cs≤5)(hd:1≤ds/\ds≤6):
 W (gy k l cs ds) λr=>Lo r.2 (m+270)/\Vd r.1/\(mG r.1).length≤4/\mC r.1≤cs/\((mD r.1).length:Int)≤ds:=by
 unfold gy
 refine W.bind (Cf hk (l:=(l.1,l.2.1,l.2.2)) hl hm hc hd) λr2 h2=>?_
 obtain⟨lo2,v,hg,hcs,hds⟩:=h2
 have c1:=v.c1
 have c5:=v.c5
 have d6:=v.d6
 refine W.bind (R:=λx=>Lo (x.2.1,x.2.2.1,x.2.2.2) (m+270)/\x.1.length≤4/\∀g∈x.1,0≤g.1/\g.1 < mC r2.1/\0≤g.2.1/\g.2.1≤(mD r2.1).length) ?_ λx hx=>W.ret ⟨hx.1,v.with (by omega) hx.2.2,hx.2.1,hcs,hds⟩
 refine W.bind (kM (l:=(r2.2.1,r2.2.2.1,r2.2.2.2)) lo2 (by omega) (by omega)) λr6 h6=>?_
 have b6:=h6.2.1 (by omega)
 refine W.loop (f:=eH k r2) (λq y=>∃j:Nat,y.2.2.2.1.length=j/\y.2.2.2.2=r6.1 - j/\(j:Int)≤r6.1/\q=r6.1.toNat - j/\Lo (y.1,y.2.1,y.2.2.1) (m+251+3 * j)/\∀g∈y.2.2.2.1,0≤g.1/\g.1 < mC r2.1/\0≤g.2.1/\g.2.1≤(mD r2.1).length) ?_ r6.1.toNat k _ (by omega)
  ⟨0,rfl,by simp,by omega,by omega,h6.2.2.mono (by omega),by simp⟩
 rintro aE q ⟨nums,d,s,out,y⟩ ⟨j,hj,hy,hle,hq,hlo,hr⟩ ih
 simp only at hj hy hlo hr
 subst hy
 unfold eH
 dsimp only
 refine W.ite (λhlt=>?_) (λhge=>W.ret ⟨hlo.mono (by omega),by grind,hr⟩)
 refine W.bind (As (l:=(nums,d,s)) (x:=(r2.1.1,r2.1.2.1,r2.1.2.2.1,r2.1.2.2.2.1,r2.1.2.2.2.2.1,())) hlo (by omega) ⟨c1,c5⟩ d6) λr9 h9=>?_
 rw [dF (by grind [bQ]),bs]
 refine W.ck (by omega) (by omega) ?_
 refine ih (q - 1) (_,_,_,_,_) (by omega) ⟨j+1,by simp [hj],by grind,by omega,by omega,h9.1.mono (by omega),λg hgg=>?_⟩
 grind
theorem Sm.with{m:ae}(h:Sm m){gs:List bH}(hg:gs.length≤1000):Sm (m.1,m.2.1,m.2.2.1,m.2.2.2.1,m.2.2.2.2.1,gs):=⟨h.d,h.r,hg⟩
end Go.Proofs.YtddkbkkogpolaaaGreat
set_option linter.unusedVariables false
set_option linter.unusedSimpArgs false
namespace Go.Proofs.YtddkbkkogpolaaaGreat
open K Go Go.Proofs
def c9(C:Nat):Nat->List Int->Nat->List (List Int)
 |0,b,_=>[b]
 |n+1,b,f=>b::(List.range' f (C - f)).flatMap λ(c:Nat)=>c9 C n (b++[(c:Int)]) (c+1)
theorem um{b:List Int}{c:Int}:ee (b++[c])=tj (ee b) c:=by
 unfold ee;simp_all
theorem Ai{σ:Type}{k:Nat}{Y:σ->Int->Option (σ×Bool)}{C:Nat}(hC:C≤5)(hk:10≤k)(g:σ->List Int->σ)(qZ:Nat->σ->Prop):
 ∀(n m0:Nat) (b:List Int) (f:Nat) (s:σ) (r:Nat),C - f≤n->f≤C->n < m0->iZ (ee b)->(∀r s,∀b'∈c9 C n b f,qZ (r+1) s->Y s (ee b')=some (g s b',true)/\qZ r (g s b'))->qZ ((c9 C n b f).length+r) s->
  dB k Y (C:Int) m0 (ee b) (f:Int) s=some (true,(c9 C n b f).foldl g s)/\qZ r ((c9 C n b f).foldl g s)
 |n,0,b,f,s,r,_,_,h,_,_,_=>absurd h (not_lt_zero _)
 |0,m0+1,b,f,s,r,h1,h2,_,hm,hY,hI=>by
  have hf:f=C:=by omega
  subst hf
  unfold dB
  obtain⟨k,rfl⟩:∃n,k=n+1:=⟨k - 1,by omega⟩
  have hI:qZ (r+1) s:=by rw [Nat.add_comm];exact hI
  have:=hY r s b (by simp [c9]) hI
  rw [this.1,bs,if_neg (by simp)]
  rw [dw,if_neg (Int.lt_irrefl _),mM]
  exact⟨rfl,this.2⟩
 |n+1,m0+1,b,f,s,r,h1,h2,h3,hm,hY,hI=>by
  unfold dB
  have hlen:(c9 C (n+1) b f).length=((List.range' f (C - f)).flatMap λ(c:Nat)=>c9 C n (b++[(c:Int)]) (c+1)).length+1:=by rw [c9,length_cons]
  rw [hlen] at hI
  have h0:=hY (((List.range' f (C - f)).flatMap λ(c:Nat)=>c9 C n (b++[(c:Int)]) (c+1)).length+r) s b (by simp [c9]) (by grind)
  rw [h0.1,bs,if_neg (by simp)]
  have loop:∀(d x:Nat) (s:σ) (aE:Nat) (r:Nat),C - x=d->f≤x->x≤C->d < aE->qZ (((List.range' x (C - x)).flatMap λ(c:Nat)=>c9 C n (b++[(c:Int)]) (c+1)).length+r) s->
   dw k (ee b) (C:Int) (dB k Y (C:Int) m0) aE ((x:Int),s)=some (.ok (((List.range' x (C - x)).flatMap λ(c:Nat)=>c9 C n (b++[(c:Int)]) (c+1)).foldl g s))/\qZ r (((List.range' x (C - x)).flatMap λ(c:Nat)=>c9 C n (b++[(c:Int)]) (c+1)).foldl g s):=by
   intro d
   induction d with
   |zero=>
    intro x s aE r hd hx hx2 hfu hI;obtain⟨aE,rfl⟩:∃n,aE=n+1:=⟨aE - 1,by omega⟩;have:x=C:=by omega
    simp_all [Nat.sub_self,dw,if_neg,Int.lt_irrefl]
   |succ d ih=>
    intro x s aE r hd hx hx2 hfu hI;obtain⟨aE,rfl⟩:∃n,aE=n+1:=⟨aE - 1,by omega⟩;have hw:=kL (k:=k) hm (show(0:Int)≤(x:Int) by omega) (show(x:Int) < 8 by omega);have hck:ck ((x:Int)+1)=some (((x+1:Nat):Int)):=by grind [dE]
    have e:C - x=(C - (x+1))+1:=by omega
    rw [e,List.range'_succ,List.flatMap_cons,length_append,Nat.add_assoc] at hI
    have hsub:=Ai hC hk g qZ n m0 (b++[(x:Int)]) (x+1) s _ (by omega) (by omega) (by omega) (by simp_all [um]) (λr s b' hb'=>hY r s b' (by
     rw [c9];grind)) hI
    rw [um] at hsub;have hih:=ih (x+1) _ aE r (by omega) (by omega) (by omega) (by omega) hsub.2;rw [dw,if_pos (show(x:Int) < (C:Int) by omega),hw.1,bs,hck,bs,hsub.1,bs,if_neg (by simp),bs,hih.1];simp_all [List.range'_succ,List.flatMap_cons,List.foldl_append]
  have hl:=loop (C - f) f _ k r rfl (Nat.le_refl _) h2 (by omega) h0.2;rw [hl.1,mM];exact⟨rfl,hl.2⟩
def Bj(m:ae)(but:Nat->Bool)(B:Int->Bool):Bool:=(mG m).zipIdx.all λg=>but g.2 || decide (g.1.2.2=decide (mS m≤pU m B g.1.2.1.toNat g.1.1))
theorem s5{α ε:Type}{p:Nat->α->Bool}{e:ε}:∀(l:List α) (j:Nat),eJ (λ(_:Unit) j x=>if p j x=true then .ok () else Except.error e) j l ()=if((l.zipIdx j).all λg=>p g.2 g.1)=true then .ok () else .error e
 |[],j=>rfl
 |x::l,j=>by
  rw [eJ,zipIdx_cons,all_cons]
  cases h:p j x with
  |true=>simp only [if_true,Bool.true_and];exact s5 l (j+1)
  |false=>simp
theorem Az{k:Nat}{m:ae}{S a2:Int}(v:Vd m)(hk:10≤k)(hS:iZ S)(ha:iZ a2):dn k m S a2=some (Bj m (λi=>decide (ec a2 i)) (nL S)):=by
 have g8:=v.g8;have d6:=v.d6;unfold dn gC;rw [tf v hk hS,bs]
 have key:=nn (T:=Int) (f:=cG k m a2 (cr (Gy m (nL S)))) (mG m) (λ(_:Unit) j=>j) (λ_ j x=>if(decide (ec a2 j) || decide (x.2.2=decide (mS m≤pU m (nL S) x.2.1.toNat x.1)))=true then .ok () else Except.error ()) (λ_ _=>True) (λr=>some (match r with | .error _=>false | .ok _=>true))
  (λn s j hj _=>by
   have hck:ck ((j:Int)+1)=some ((j:Int)+1):=dE (by omega) (by omega);have hg:=v.gl _ (List.getElem_mem hj);have hj':(j:Int) < (m.2.2.2.2.2.length:Int):=Int.ofNat_lt.2 hj;have hget:aR m.2.2.2.2.2 (j:Int)=some (mG m)[j]:=dZ hj;generalize (mG m)[j]=x at *;have c5:=v.c5;have e2:x.2.1=((x.2.1.toNat:Nat):Int):=by omega
   have hrow:aR (cr (Gy m (nL S))) x.2.1=some (kN (Gy m (nL S) x.2.1.toNat)):=by
    grind [CX,Int.toNat_natCast]
   have hval:aR (kN (Gy m (nL S) x.2.1.toNat)) x.1=some (pU m (nL S) x.2.1.toNat x.1):=by
    grind [xK,Eh]
   refine⟨?_,λ_ _=>trivial⟩;have hm1:m.2.2.1=mS m:=rfl;simp only [cG,hj',if_true,hget,bs,CH (k:=k) ha (i:=j) (by omega),hrow,hval,hm1];grind)
  (λn s _=>by
   unfold cG;simp_all) (n:=k) (s0:=()) (by omega) trivial
 rw [show cG k m a2 (cr (Gy m (nL S))) k 0=_ from key,s5 (p:=λj (x:bH)=>decide (ec a2 j) || decide (x.2.2=decide (mS m≤pU m (nL S) x.2.1.toNat x.1)))];unfold Bj;grind
end Go.Proofs.YtddkbkkogpolaaaGreat
set_option linter.unusedVariables false
set_option linter.unusedSimpArgs false
namespace Go.Proofs.YtddkbkkogpolaaaGreat
open K Go Go.Proofs
theorem xm{m:ae}(v:Vd m){A B:Int->Bool}(h:∀c,0≤c->c < mC m->A c=B c):∀(n:Nat) (c:Int),0≤c->c < mC m->pU m A n c=pU m B n c
 |0,c,h0,h1=>by simp_all [pU]
 |n+1,c,h0,h1=>by
  have ih:=xm v h n
  unfold pU
  cases e:En m n c with
  |none=>simp_all
  |some l=>
   have hb:=(vh v e).2
   grind
theorem C5{α:Type}{l:List α}{p q:α->Bool}(h:∀x∈l,p x=q x):l.all p=l.all q:=by
 grind
theorem FC{m:ae}(v:Vd m){but:Nat->Bool}{A B:Int->Bool}(h:∀c,0≤c->c < mC m->A c=B c):Bj m but A=Bj m but B:=by
 unfold Bj;refine C5 λg hg=>?_;obtain⟨x,i⟩:=g;have hx:=v.gl x (List.fst_mem_of_mem_zipIdx hg);show(but i || decide (x.2.2=decide (mS m≤pU m A x.2.1.toNat x.1)))=(but i || decide (x.2.2=decide (mS m≤pU m B x.2.1.toNat x.1)));grind [xm]
def mN(m:ae):List (List Int):=c9 (mC m).toNat (mC m).toNat [] 0
theorem ua{C:Nat}:∀(n:Nat) (b:List Int) (f:Nat),Bg (C:Int) b->(∀x∈b,x < (f:Int))->∀b'∈c9 C n b f,Bg (C:Int) b'
 |0,b,f,h,_,b',hb=>by
  simp_all [c9,List.mem_singleton]
 |n+1,b,f,h,hf,b',hb=>by
  rw [c9,mem_cons] at hb
  rcases hb with rfl |hb
  .
   exact h
  .
   obtain⟨c,hc,hb⟩:=List.mem_flatMap.1 hb
   rw [List.mem_range'_1] at hc
   refine ua n (b++[(c:Int)]) (c+1) ⟨λx hx=>?_,?_⟩ (λx hx=>?_) b' hb
   .
    rcases List.mem_append.1 hx with hx |hx
    .
     exact h.rng x hx
    grind
   .
    rw [pairwise_append]
    exact⟨h.asc,by simp,λa ha x hx=>by grind⟩
   grind
theorem Et{m:ae}(v:Vd m){b:List Int}(h:b∈mN m):Bg (mC m) b:=by
 have c1:=v.c1;have:=ua (C:=(mC m).toNat) (mC m).toNat [] 0 ⟨by simp,by simp⟩ (by simp) b h;grind
theorem AV{m:ae}(v:Vd m):(mN m).length≤32:=by
 have c1:=v.c1;have c5:=v.c5;have:(mC m).toNat=1\/(mC m).toNat=2\/(mC m).toNat=3\/(mC m).toNat=4\/(mC m).toNat=5:=by omega
 unfold mN;rcases this with h |h |h |h |h <;> rw [h] <;> decide
def MQ(m:ae)(but:Nat->Bool):List (List Int):=(mN m).filter λb=>Bj m but λc=>decide (c∈b)
theorem qc{α β:Type}{p:α->Bool}{h:α->β}:∀(l:List α) (s:List β),l.foldl (λ(s:List β×Bool) b=>(if p b then s.1++[h b] else s.1,false)) (s,false)=(s++(l.filter p).map h,false)
 |[],s=>by simp
 |x::l,s=>by
  rw [foldl_cons,qc l]
  grind
theorem CB{k:Nat}{m:ae}{a2:Int}(v:Vd m)(hk:50≤k)(ha:iZ a2):cu k m a2=some ((MQ m λi=>decide (ec a2 i)).map ee):=by
 have c1:=v.c1;have c5:=v.c5;unfold cu j8;have hC:m.1=(((mC m).toNat:Nat):Int):=by grind
 have h:=Ai (σ:=List Int×Bool) (k:=k) (Y:=lx (λ(y5:(List Int)) (p7:Int)=>(dn k m p7 a2).bind λr9=>if r9=true then((cM (bQ (length y5+length [p7]))).bind λ_=>some (y5++[p7],true)) else(some (y5,true)))) (C:=(mC m).toNat) (by omega) (by omega)
  (λs b=>(if Bj m (λi=>decide (ec a2 i)) (λc=>decide (c∈b)) then s.1++[ee b] else s.1,false)) (λr s=>s.2=false/\s.1.length+r≤1000) (mC m).toNat k [] 0 ([],false) 0 (by omega) (by omega) (by omega) uP (λr s b' hb' hI=>by
   obtain⟨y,q⟩:=s;obtain⟨rfl,hI⟩:q=false/\y.length+(r+1)≤1000:=hI;have hbg:=Et v hb';have hset:=hbg.set c5;have hex:Bj m (λi=>decide (ec a2 i)) (nL (ee b'))=Bj m (λi=>decide (ec a2 i)) (λc=>decide (c∈b')):=FC v λc h0 _=>hset.2 c h0;unfold lx;simp only [];rw [Az v (by omega) hset.1 ha,hex,bs];cases Bj m (λi=>decide (ec a2 i)) (λc=>decide (c∈b')) with
   |true=>
    simp only [if_true];grind [dF,bQ,bs,ee]
   |false=>
    grind) ⟨rfl,by have:=AV v;grind [mN]⟩
 rw [hC,show dB k (lx (λ(y5:(List Int)) (p7:Int)=>(dn k m p7 a2).bind λr9=>if r9=true then((cM (bQ (length y5+length [p7]))).bind λ_=>some (y5++[p7],true)) else(some (y5,true)))) (((mC m).toNat:Nat):Int) k 0 0 ([],false)=_ from h.1,bs,bs];rw [qc (p:=λb=>Bj m (λi=>decide (ec a2 i)) λc=>decide (c∈b)) (h:=ee)];simp only [Bool.false_eq_true,if_false,nil_append];rfl
end Go.Proofs.YtddkbkkogpolaaaGreat
set_option linter.unusedVariables false
set_option linter.unusedSimpArgs false
namespace Go.Proofs.YtddkbkkogpolaaaGreat
open K Go Go.Proofs
def Gw(b:List Int):Nat:=match b.getLast? with |some x=>x.toNat+1 |none=>0
theorem xl{C:Nat}(hC:C≤5):∀(n:Nat) (b:List Int) (f:Nat),(c9 C n b f).length≤6 ^ n
 |0,b,f=>by simp [c9]
 |n+1,b,f=>by
  have fl:∀l:List Nat,(l.flatMap λ(c:Nat)=>c9 C n (b++[(c:Int)]) (c+1)).length≤l.length * 6 ^ n:=by
   intro l
   induction l with
   |nil=>simp
   |cons c l ih=>
    rw [List.flatMap_cons,length_append,length_cons,Nat.add_mul];have:=xl hC n (b++[(c:Int)]) (c+1);omega
  have:=fl (List.range' f (C - f));rw [List.length_range'] at this;rw [c9,length_cons,Nat.pow_succ];have h1:(C - f) * 6 ^ n≤5 * 6 ^ n:=mul_le_mul_right _ (by omega);grind
theorem uE{b:List Int}{c:Nat}:Gw (b++[(c:Int)])=c+1:=by
 unfold Gw;simp_all
theorem DD{k C:Nat}(hC:C≤5)(hk:10≤k):∀(n m0:Nat) (b:List Int),n≤5->C - Gw b≤n->Gw b≤C->n < m0->b.length+n≤5->(∀x∈b,0≤x/\x < 5)->kO k m0 (C:Int) b=some (c9 C n b (Gw b))
 |n,0,b,_,_,_,h,_,_=>absurd h (not_lt_zero _)
 |n,m0+1,b,h5,h1,h2,h3,hb,hx=>by
  unfold kO
  have hn:((if(0:Int) < (b.length:Int) then((ck ((b.length:Int) - (1:Int))).bind λx4=>(aR b x4).bind λx5=>(ck (x5+(1:Int))).bind λx6=>some x6) else(some (0:Int))):Option Int)=some ((Gw b:Nat):Int):=by
   by_cases h0:b=[]
   .subst h0;rfl
   .have hl:0 < b.length:=List.length_pos_iff.2 h0;have c1:ck ((b.length:Int) - 1)=some (((b.length - 1:Nat):Int)):=by grind [dE]
    have hg:=dZ (l:=b) (i:=b.length - 1) (by omega);have hxx:=hx _ (List.getElem_mem (l:=b) (n:=b.length - 1) (by omega));have hla:b.getLast? =some b[b.length - 1]:=by grind
    have c2:ck (b[b.length - 1]+1)=some (b[b.length - 1]+1):=dE (by omega) (by omega);rw [if_pos (by omega),c1,bs,hg,bs,c2,bs];grind [Gw]
  rw [hn,bs];cases n with
  |zero=>
   have hf:Gw b=C:=by omega
   rw [hf];obtain⟨k,rfl⟩:∃n,k=n+1:=⟨k - 1,by omega⟩;rw [gQ,if_neg (Int.lt_irrefl _),bs];rfl
  |succ n=>
   have loop:∀(d x:Nat) (acc:List (List Int)) (aE:Nat),C - x=d->Gw b≤x->x≤C->d < aE->acc.length+((List.range' x (C - x)).flatMap λ(c:Nat)=>c9 C n (b++[(c:Int)]) (c+1)).length≤100000->
    gQ k (C:Int) b (kO k m0) aE (acc,(x:Int))=some (acc++(List.range' x (C - x)).flatMap λ(c:Nat)=>c9 C n (b++[(c:Int)]) (c+1)):=by
    intro d
    induction d with
    |zero=>
     intro x acc aE hd hx1 hx2 hfu hl;obtain⟨aE,rfl⟩:∃n,aE=n+1:=⟨aE - 1,by omega⟩;have:x=C:=by omega
     simp_all [gQ,if_neg,Int.lt_irrefl,Nat.sub_self]
    |succ d ih=>
     intro x acc aE hd hx1 hx2 hfu hl;obtain⟨aE,rfl⟩:∃n,aE=n+1:=⟨aE - 1,by omega⟩;have e:C - x=(C - (x+1))+1:=by omega
     rw [e,List.range'_succ,List.flatMap_cons,length_append] at hl;have hck:ck ((x:Int)+1)=some (((x+1:Nat):Int)):=by grind [dE]
     have hsub:=DD hC hk n m0 (b++[(x:Int)]) (by omega) (by rw [uE];omega) (by rw [uE];omega) (by omega) (by simp;omega) (λy hy=>by
      grind)
     rw [uE] at hsub;have e0:([]:List Int)++b=b:=rfl;have hok:cM (bQ (acc.length+(c9 C n (b++[(x:Int)]) (x+1)).length))=some ():=dF (show acc.length+(c9 C n (b++[(x:Int)]) (x+1)).length≤4294967296 by omega);rw [gQ,if_pos (show(x:Int) < (C:Int) by omega),dF (by grind [bQ]),bs,e0,dF (by grind [bQ]),bs,hsub,bs];dsimp only;rw [hok,bs,hck,bs];rw [ih (x+1) _ aE (by omega) (by omega) (by omega) (by omega) (by grind)];rw [e,List.range'_succ,List.flatMap_cons,List.append_assoc]
   have hlen:=xl hC (n+1) b (Gw b);rw [c9,length_cons] at hlen;have h6:6 ^ (n+1)≤6 ^ 5:=Nat.pow_le_pow_right (by decide) h5;have h7:(6:Nat) ^ 5=7776:=by decide
   have h1l:([b]:List (List Int)).length=1:=rfl;rw [loop (C - Gw b) (Gw b) [b] k rfl (Nat.le_refl _) h2 (by omega) (by omega),bs,c9];rfl
theorem HI{k:Nat}{m:ae}(v:Vd m)(hk:10≤k):kO k k m.1 []=some (mN m):=by
 have c1:=v.c1;have c5:=v.c5;have:=DD (k:=k) (C:=(mC m).toNat) (by omega) hk (mC m).toNat k [] (by omega) (by omega) (zero_le _) (by omega) (by simp;omega) (by simp);rw [show(((mC m).toNat:Nat):Int)=m.1 by grind] at this;exact this
end Go.Proofs.YtddkbkkogpolaaaGreat
set_option linter.unusedVariables false
set_option linter.unusedSimpArgs false
namespace Go.Proofs.YtddkbkkogpolaaaGreat
open K Go Go.Proofs
def IA:Nat->Bool:=λ_=>false
theorem UG:(λi=>decide (ec 0 i))=IA:=by
 grind [IA,ec]
end Go.Proofs.YtddkbkkogpolaaaGreat
set_option linter.unusedVariables false
set_option linter.unusedSimpArgs false
namespace Go.Proofs.YtddkbkkogpolaaaGreat
open K Go Go.Proofs
end Go.Proofs.YtddkbkkogpolaaaGreat
set_option linter.unusedVariables false
set_option linter.unusedSimpArgs false
namespace Go.Proofs.YtddkbkkogpolaaaGreat
open K Go Go.Proofs
end Go.Proofs.YtddkbkkogpolaaaGreat
set_option linter.unusedVariables false
set_option linter.unusedSimpArgs false
namespace Go.Proofs.YtddkbkkogpolaaaGreat
open K Go Go.Proofs
theorem vi{C:Nat}:∀(t:List Int) (n:Nat) (b:List Int) (f:Nat),C - f≤n->(∀x∈t,(f:Int)≤x/\x < C)->t.Pairwise (· < ·)->b++t∈c9 C n b f
 |[],0,b,f,_,_,_=>by simp [c9]
 |[],n+1,b,f,_,_,_=>by simp [c9]
 |x::t,0,b,f,h,hx,_=>by grind [mem_cons_self]
 |x::t,n+1,b,f,h,hx,hp=>by
  have h0:=hx x (mem_cons_self ..)
  rw [pairwise_cons] at hp
  rw [c9]
  refine mem_cons_of_mem _ (List.mem_flatMap.2 ⟨x.toNat,by grind,?_⟩)
  have:=vi t n (b++[((x.toNat:Nat):Int)]) (x.toNat+1) (by omega) (λy hy=>⟨by grind,(hx y (mem_cons_of_mem _ hy)).2⟩) hp.2
  grind
theorem Ju{m:ae}{b:List Int}(h:Bg (mC m) b):b∈mN m:=by
 have:=vi (C:=(mC m).toNat) b (mC m).toNat [] 0 (by omega) (λx hx=>by have:=h.rng x hx;omega) h.asc;exact this
end Go.Proofs.YtddkbkkogpolaaaGreat
set_option linter.unusedVariables false
set_option linter.unusedSimpArgs false
namespace Go.Proofs.YtddkbkkogpolaaaGreat
open K Go Go.Proofs
def VZ(D:List (List (List Int)))(d:Int)(S:Int->Bool):List (List (List Int)):=D.mapIdx λj r=>r.map λl=>l.filter λn=>decide ((j:Int) < d) || !S n
def frz(m:ae)(d:Int)(S:Int->Bool):ae:=(m.1,m.2.1,m.2.2.1,m.2.2.2.1,VZ (mD m) d S,m.2.2.2.2.2)
end Go.Proofs.YtddkbkkogpolaaaGreat
set_option linter.unusedVariables false
set_option linter.unusedSimpArgs false
namespace Go.Proofs.YtddkbkkogpolaaaGreat
open K Go Go.Proofs
theorem Ak:((List.range 6).all λC=>(List.range 6).all λn=> !(ble n C) || decide (ib 1200 1200 (C:Int) (n:Int)=some ((c9 C C [] 0).filter λb=>decide (b.length=n))))=true:=by decide+kernel
theorem UI{p:Nat->Nat->Prop}[∀C n,Decidable (p C n)](h:((List.range 6).all λC=>(List.range 6).all λn=> !(ble n C) || decide (p C n))=true){C n:Nat}(hC:C < 6)(hn:n≤C):p C n:=by
 rw [List.all_eq_true] at h;have h1:=h C (List.mem_range.2 hC);grind [List.all_eq_true,Nat.ble_eq_true_of_le]
theorem CE{C n:Nat}(hC:C < 6)(hn:n≤C):ib 1200 1200 (C:Int) (n:Int)=some ((c9 C C [] 0).filter λb=>decide (b.length=n)):=UI (p:=λC n=>ib 1200 1200 (C:Int) (n:Int)=some ((c9 C C [] 0).filter λb=>decide (b.length=n))) Ak hC hn
def I2(C:Nat)(L:List (List Int)):List (List Int):=(List.range (C+1)).flatMap λn=>L.filter λb=>decide (b.length=n)
def UJ{β:Type}(o:Option β):Except β Unit:=match o with
 |some x=>.error x
 |none=>.ok ()
theorem tI{β:Type}{p:List Int->Bool}{g:List Int->β}:∀(l:List (List Int)) (j:Nat),eJ (λ(_:Unit) _ x=>if p x=true then Except.error (g x) else .ok ()) j l ()=UJ ((l.find? p).map g)
 |[],_=>rfl
 |x::l,j=>by
  rw [eJ,find?_cons]
  cases h:p x with
  |true=>simp [UJ]
  |false=>simp only [Bool.false_eq_true,if_false];exact tI l (j+1)
end Go.Proofs.YtddkbkkogpolaaaGreat
set_option linter.unusedVariables false
set_option linter.unusedSimpArgs false
namespace Go.Proofs.YtddkbkkogpolaaaGreat
open K Go Go.Proofs
def l8{σ:Type}(G:σ->List Int->σ×Bool):List (List Int)->σ->Bool×σ
 |[],s=>(true,s)
 |x::l,s=>if(G s x).2=true then l8 G l (G s x).1 else(false,(G s x).1)
theorem zC{σ:Type}{G:σ->List Int->σ×Bool}:∀(l1 l2:List (List Int)) (s:σ),l8 G (l1++l2) s=if(l8 G l1 s).1=true then l8 G l2 (l8 G l1 s).2 else(false,(l8 G l1 s).2)
 |[],l2,s=>by simp [l8]
 |x::l,l2,s=>by
  rw [cons_append,l8,l8]
  split
  .
   exact zC l l2 _
  .
   simp
def PE{σ:Type}(r:Bool×σ):Except (Bool×σ) σ:=if r.1=true then .ok r.2 else .error (false,r.2)
theorem uX{σ:Type}{k:Nat}{Y:σ->List Int->Option (σ×Bool)}{C:Nat}(hC:C≤8)(hk:10≤k)(G:σ->List Int->σ×Bool)(qZ:σ->Prop):
 ∀(n m0:Nat) (b:List Int) (f:Nat) (s:σ),C - f≤n->f≤C->n < m0->b.length+n≤20->(∀s,∀b'∈c9 C n b f,qZ s->Y s b'=some (G s b')/\((G s b').2=true->qZ (G s b').1))->qZ s->
  cL k Y (C:Int) m0 b (f:Int) s=some (l8 G (c9 C n b f) s)/\((l8 G (c9 C n b f) s).1=true->qZ (l8 G (c9 C n b f) s).2)
 |n,0,b,f,s,_,_,h,_,_,_=>absurd h (not_lt_zero _)
 |0,m0+1,b,f,s,h1,h2,_,hb,hY,hI=>by
  have hf:f=C:=by omega
  subst hf
  obtain⟨k,rfl⟩:∃n,k=n+1:=⟨k - 1,by omega⟩
  have:=hY s b (by simp [c9]) hI
  unfold cL
  rw [show dA (k+1) b=some b by unfold dA;rw [dF (by show _≤_;omega),bs],bs,this.1,bs,c9,l8,l8]
  by_cases hg:(G s b).2=true
  .
   simp_all [if_neg,cS,Int.lt_irrefl,mM,if_pos]
  simp_all
 |n+1,m0+1,b,f,s,h1,h2,h3,hb,hY,hI=>by
  have h0:=hY s b (by simp [c9]) hI
  unfold cL
  rw [show dA k b=some b by unfold dA;rw [dF (by show _≤_;omega),bs],bs,h0.1,bs]
  have loop:∀(d x:Nat) (s:σ) (aE:Nat),C - x=d->f≤x->x≤C->d < aE->qZ s->
   cS k b (C:Int) (cL k Y (C:Int) m0) aE ((x:Int),s)=some (PE (l8 G ((List.range' x (C - x)).flatMap λ(c:Nat)=>c9 C n (b++[(c:Int)]) (c+1)) s))/\((l8 G ((List.range' x (C - x)).flatMap λ(c:Nat)=>c9 C n (b++[(c:Int)]) (c+1)) s).1=true->qZ (l8 G ((List.range' x (C - x)).flatMap λ(c:Nat)=>c9 C n (b++[(c:Int)]) (c+1)) s).2):=by
   intro d
   induction d with
   |zero=>
    intro x s aE hd hx hx2 hfu hI;obtain⟨aE,rfl⟩:∃n,aE=n+1:=⟨aE - 1,by omega⟩;have:x=C:=by omega
    subst this;rw [Nat.sub_self,cS,if_neg (Int.lt_irrefl _)];exact⟨rfl,λ_=>hI⟩
   |succ d ih=>
    intro x s aE hd hx hx2 hfu hI;obtain⟨aE,rfl⟩:∃n,aE=n+1:=⟨aE - 1,by omega⟩;have hck:ck ((x:Int)+1)=some (((x+1:Nat):Int)):=by grind [dE]
    have e:C - x=(C - (x+1))+1:=by omega
    have hsub:=uX hC hk G qZ n m0 (b++[(x:Int)]) (x+1) s (by omega) (by omega) (by omega) (by simp;omega) (λs b' hb'=>hY s b' (by
     rw [c9];refine mem_cons_of_mem _ (List.mem_flatMap.2 ⟨x,List.mem_range'.2 ⟨x - f,by omega,by omega⟩,hb'⟩))) hI
    rw [e,List.range'_succ,List.flatMap_cons,zC];rw [cS,if_pos (show(x:Int) < (C:Int) by omega),dF (by show _≤_;simp;omega),bs,hck,bs];rw [show cL k Y (C:Int) m0 (b++[(x:Int)]) (((x+1:Nat):Int)) s=_ from hsub.1,bs];by_cases hr:(l8 G (c9 C n (b++[(x:Int)]) (x+1)) s).1=true
    .rw [if_neg (by simp [hr]),bs,if_pos hr];exact ih (x+1) _ aE (by omega) (by omega) (by omega) (by omega) (hsub.2 hr)
    simp_all [if_pos,if_neg,PE]
  rw [c9,l8];by_cases hg:(G s b).2=true
  .have hl:=loop (C - f) f (G s b).1 k rfl (Nat.le_refl _) h2 (by omega) (h0.2 hg);rw [if_neg (by simp [hg]),if_pos hg,hl.1];refine⟨?_,hl.2⟩;unfold PE;by_cases hr:(l8 G ((List.range' f (C - f)).flatMap λ(c:Nat)=>c9 C n (b++[(c:Int)]) (c+1)) (G s b).1).1=true
   .rw [if_pos hr,mM];grind
   .rw [if_neg hr,nS];grind
  simp_all
def F4(m:ae):List (List Int):=c9 (mG m).length (mG m).length [] 0
theorem Np{m:ae}{s:List Int}(h:s∈F4 m):Bg ((mG m).length:Int) s:=ua _ _ 0 ⟨by simp,by simp⟩ (by simp) s h
theorem Jt{C:Nat}{s:List Int}(h:s∈c9 C C [] 0):Bg (C:Int) s:=ua _ _ 0 ⟨by simp,by simp⟩ (by simp) s h
theorem Em{C:Nat}{b:List Int}(h:Bg (C:Int) b):b.length≤C:=by
 refine qw C b (h.asc.imp λh=>by omega) λx hx=>?_;have:=h.rng x hx;omega
def xF(m:ae)(s:List Int):Bool:=decide (0 < (MQ m λi=>decide ((i:Int)∈s)).length)
theorem Hw:∀(b:List Int) (s:Int),iZ s->(∀x∈b,0≤x/\x < 8)->iZ (b.foldl tj s)/\∀i:Nat,ec (b.foldl tj s) i↔ec s i\/(i:Int)∈b
 |[],s,hs,_=>⟨hs,λi=>by simp⟩
 |x::b,s,hs,hb=>by
  have hx:=hb x mem_cons_self
  have hw:=kL (k:=0) hs hx.1 (by omega)
  have:=Hw b (tj s x) hw.2.1 λy hy=>hb y (mem_cons_of_mem _ hy)
  grind
theorem GI{k:Nat}{p:List Int}(hp:∀x∈p,0≤x/\x < 8)(hk:p.length < k)(hl:p.length≤100):dj k p k (0,0)=some (ee p):=by
 have key:=lM (T:=Int×Int) (f:=dj k p) p (λ(s:Int) j=>(s,j)) (λs _ x=>tj s x) (λ_ s=>iZ s) (λs=>some s)
  (λn s j hj hs=>by
   have hx:=hp _ (List.getElem_mem hj);have hw:=kL (k:=k) hs hx.1 hx.2;have hck:ck ((j:Int)+1)=some ((j:Int)+1):=dE (by omega) (by omega);simp_all [dj,if_pos,dZ,bs])
  (λn s _=>by rw [dj,if_neg (Int.lt_irrefl _)]) (n:=k) (s0:=0) hk uP
 rw [show dj k p k (0,0)=_ from key.1]
 have:∀(l:List Int) (j:Nat) (s:Int),qd (λs _ x=>tj s x) j l s=l.foldl tj s:=by
  intro l
  induction l with
  |nil=>intro j s;rfl
  |cons x l ih=>simp_all [qd,foldl_cons]
 rw [this];rfl
def Ku(m:ae)(j:Nat):Option (List Int):=(F4 m).find? λp=>decide (p.length=j) && xF m p
theorem wG{P:List Int->Bool}:∀(l:List (List Int)) (y:List Int),l8 (λ(s:List Int×Bool) p=>if P p=true then((p,true),false) else((s.1,false),true)) l (y,false)=(match l.find? P with
 |some p=>(false,(p,true))
 |none=>(true,(y,false)))
 |[],y=>rfl
 |x::l,y=>by
  rw [l8,find?_cons]
  cases h:P x with
  |true=>simp
  |false=>
   simp only [Bool.false_eq_true,if_false,if_true]
   exact wG l y
theorem yW{k:Nat}{m:ae}(v:Vd m)(hk:50≤k)(j:Nat)(y:List Int):
 gx k (lx (λ(y14:(List Int)) (p16:(List Int))=>
  if¬((p16.length:Int)=(j:Int)) then(some (y14,true)) else(((dj k p16 k ((0:Int),(0:Int))):Option (Int)).bind λx18=>
  (cu k m x18).bind λr25=>
  if(0:Int) < (r25.length:Int) then(some (p16,false)) else(some (y14,true))))) (m.2.2.2.2.2.length:Int) (y,false)=some (match Ku m j with
  |some p=>(p,true)
  |none=>(y,false)):=by
 have g8:=v.g8
 unfold gx
 have h:=uX (σ:=List Int×Bool) (k:=k) (Y:=lx (λ(y14:(List Int)) (p16:(List Int))=>
  if¬((p16.length:Int)=(j:Int)) then(some (y14,true)) else(((dj k p16 k ((0:Int),(0:Int))):Option (Int)).bind λx18=>
  (cu k m x18).bind λr25=>
  if(0:Int) < (r25.length:Int) then(some (p16,false)) else(some (y14,true))))) (C:=(mG m).length) g8 (by omega)
  (λs p=>if(decide (p.length=j) && xF m p)=true then((p,true),false) else((s.1,false),true)) (λs=>s.2=false) (mG m).length k [] 0 (y,false) (by omega) (by omega) (by omega) (by simp;omega) (λs p hp hI=>by
   obtain⟨y,q⟩:=s;obtain rfl:q=false:=hI;have hb:=Jt hp;have hl:=Em hb;unfold lx;simp only [];refine⟨?_,λh=>?_⟩
   .by_cases hj:p.length=j
    .have hs:=Hw p 0 uP λx hx=>by have:=hb.rng x hx;omega
     have e:(λi=>decide (ec (ee p) i))=λi:Nat=>decide ((i:Int)∈p):=by
      funext i;have:=hs.2 i;have h0:=congrFun UG i;unfold IA at h0;rw [decide_eq_decide];show ec (p.foldl tj 0) i↔_;simp_all
     rw [if_neg (by omega),GI (λx hx=>by have:=hb.rng x hx;omega) (by omega) (by omega),bs,show cu k m (ee p)=_ from CB v hk hs.1,bs,length_map];rw [e];unfold xF;grind
    grind
   grind) rfl
 rw [show(m.2.2.2.2.2.length:Int)=(((mG m).length:Nat):Int) from rfl]
 rw [show cL k _ (((mG m).length:Nat):Int) k [] (0:Int) (y,false)=_ from h.1,bs,wG]
 unfold Ku F4
 grind
end Go.Proofs.YtddkbkkogpolaaaGreat
set_option linter.unusedVariables false
set_option linter.unusedSimpArgs false
namespace Go.Proofs.YtddkbkkogpolaaaGreat
open K Go Go.Proofs
theorem P1{N:Nat}:((List.range N).map λ(i:Nat)=>(i:Int))∈c9 N N [] 0:=by
 have:=vi (C:=N) ((List.range N).map λ(i:Nat)=>(i:Int)) N [] 0 (by omega) (λx hx=>by grind) (by simp_all [List.pairwise_map,List.pairwise_lt_range]);simp_all
theorem Hm{m:ae}(v:Vd m):xF m ((List.range (mG m).length).map λ(i:Nat)=>(i:Int))=true:=by
 unfold xF MQ;rw [decide_eq_true_iff];refine List.length_pos_of_mem (List.mem_filter.2 ⟨Ju (b:=[]) ⟨by simp,by simp⟩,?_⟩);unfold Bj;grind
theorem yZ{m:ae}(v:Vd m):(Ku m (mG m).length).isSome=true:=by
 grind [Ku,F4,List.find?_isSome,P1,Hm]
def TL(m:ae):List Int×Int:=if¬(qV m=0) then([],qV m) else(((List.range ((mG m).length+1)).findSome? (Ku m)).getD [],0)
theorem yX{k:Nat}{m:ae}(v:Vd m)(hk:50≤k):∀(d j:Nat) (y:List Int) (aE:Nat),(mG m).length - j=d->j≤(mG m).length->d < aE->
 f8 k m m aE (y,(j:Int))=some (((List.range' j (d+1)).findSome? (Ku m)).getD [],0)
 |d,j,y,0,_,_,h=>absurd h (not_lt_zero _)
 |d,j,y,aE+1,hd,hj,hf=>by
  have g8:=v.g8
  rw [f8]
  show(gx k (lx λy14 p16=>if¬((p16.length:Int)=(j:Int)) then _ else _) _ (y,false)).bind _=_
  rw [yW v hk j y,bs,List.range'_succ,findSome?_cons]
  have hck:ck ((j:Int)+1)=some (((j+1:Nat):Int)):=by grind [dE]
  cases e:Ku m j with
  |some p=>simp
  |none=>
   simp only [Bool.false_eq_true,if_false]
   rw [hck,bs]
   cases d with
   |zero=>
    have:j=(mG m).length:=by omega
    grind [yZ]
   |succ d=>exact yX v hk d (j+1) y aE (by omega) (by omega) (by omega)
theorem Fp{k:Nat}{m:ae}(hs:Sm m)(hk:1010≤k):nh k m=some (TL m):=by
 unfold nh TL;rw [zY hs hk (by simp) (by simp) (by simp) (by simp),bs];by_cases hc:qV m=0
 .have v:=Vd.of hc;have g8:=v.g8;have c1:=v.c1;have hb:tY (mC m) []=0:=ti.2 ⟨by simp,by simp⟩;have ho:TO m [] [] []=true:=rfl;simp only [hc,hb,ho,not_true_eq_false,if_false,if_true,yz];have:=yX v (show 50≤k by omega) (mG m).length 0 [] k rfl (zero_le _) (by omega);simp_all [f8,List.range_eq_range']
 simp_all [not_false_eq_true,if_true,yA,if_false]
theorem IO:((List.range 9).all λC=>ble (c9 C C [] 0).length 256)=true:=by decide+kernel
theorem OQ{m:ae}{j:Nat}:((F4 m).filter λb=>decide (b.length=j)).find? (xF m)=Ku m j:=by
 unfold Ku;simp_all
end Go.Proofs.YtddkbkkogpolaaaGreat
set_option linter.unusedVariables false
set_option linter.unusedSimpArgs false
namespace Go.Proofs.YtddkbkkogpolaaaGreat
open K Go Go.Proofs
theorem IS:rP 1200=some true:=by decide+kernel
theorem W.get{α:Type}{x:Option α}{a:α}(h:W x λy=>y=a):x=some a:=by
 obtain⟨b,e,rfl⟩:=h;exact e
theorem Cm{k:Nat}{m:ae}{b:List Int}(v:Vd m)(h:Bg (mC m) b)(hk:1010≤k):iP k m b=some (lO m λc=>decide (c∈b),0):=by
 have c1:=v.c1;have:=h.len ⟨by omega,v.c5⟩;rw [Cj v.sm hk (by omega),if_neg (λhn=>hn v.chk),if_neg (λhn=>hn (ti.2 h))]
end Go.Proofs.YtddkbkkogpolaaaGreat
set_option linter.unusedVariables false
set_option linter.unusedSimpArgs false
namespace Go.Proofs.YtddkbkkogpolaaaGreat
open K Go Go.Proofs
end Go.Proofs.YtddkbkkogpolaaaGreat
set_option linter.unusedVariables false
set_option linter.unusedSimpArgs false
namespace Go.Proofs.YtddkbkkogpolaaaGreat
open K Go Go.Proofs
end Go.Proofs.YtddkbkkogpolaaaGreat
set_option linter.unusedVariables false
set_option linter.unusedSimpArgs false
namespace Go.Proofs.YtddkbkkogpolaaaGreat
open K Go Go.Proofs
theorem yh{k:Nat}{m:ae}{b but:List Int}(v:Vd m)(hb:Bg (mC m) b)(hk:1010≤k)(hl:but.length≤40):
 jp k m b but=some (Bj m (λi=>decide ((i:Int)∈but)) (λc=>decide (c∈b)),true):=by
 have g8:=v.g8
 unfold jp
 rw [Cm v hb hk,bs]
 simp only [not_true_eq_false,if_false,G1 v (show 10≤k by omega),bs,Bool.not_true,Bool.false_eq_true]
 have key:=nn (T:=Int) (f:=dI k m but (lO m λc=>decide (c∈b),0)) (mG m) (λ(_:Unit) j=>j) (λ_ j x=>if(decide ((j:Int)∈but) || decide (x.2.2=decide (mS m≤pU m (λc=>decide (c∈b)) x.2.1.toNat x.1)))=true then .ok () else Except.error (false,true)) (λ_ _=>True) (λr=>some r)
  (λn s j hj _=>by
   have hck:ck ((j:Int)+1)=some ((j:Int)+1):=dE (by omega) (by omega);have hg:=v.gl _ (List.getElem_mem hj);have hj':(j:Int) < (m.2.2.2.2.2.length:Int):=Int.ofNat_lt.2 hj;have hget:aR m.2.2.2.2.2 (j:Int)=some (mG m)[j]:=dZ hj;generalize (mG m)[j]=x at *;obtain⟨r,er,hr⟩:=S5 (k:=k) (l:=but) (x:=(j:Int)) (by omega) (by omega);have e:x.2.1=((x.2.1.toNat:Nat):Int):=by omega
   have h1:aR (lO m λc=>decide (c∈b)) x.2.1=some (oK m (λc=>decide (c∈b)) x.2.1.toNat):=by
    grind [xh,decide]
   refine⟨?_,λ_ _=>trivial⟩;have hm1:m.2.2.1=mS m:=rfl;simp only [dI,hj',if_true,hget,bs,er,h1,HB hg.1 hg.2.1,hm1];grind)
  (λn s _=>by
   unfold dI;simp_all) (n:=k) (s0:=()) (by omega) trivial
 rw [show dI k m but (lO m λc=>decide (c∈b),0) k 0=_ from key,s5 (p:=λj (x:bH)=>decide ((j:Int)∈but) || decide (x.2.2=decide (mS m≤pU m (λc=>decide (c∈b)) x.2.1.toNat x.1)))]
 unfold Bj
 cases((mG m).zipIdx 0).all λg=>decide ((g.2:Int)∈but) || decide (g.1.2.2=decide (mS m≤pU m (λc=>decide (c∈b)) g.1.2.1.toNat g.1.1)) with
 |true=>simp_all [if_true,mM]
 |false=>simp_all [Bool.false_eq_true,if_false,nS]
