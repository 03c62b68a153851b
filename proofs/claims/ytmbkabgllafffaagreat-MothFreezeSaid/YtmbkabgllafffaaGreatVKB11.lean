import Derived.Test.YtmbkabgllafffaaGreatVKF2
open Nat
open List hiding mem_of_getElem?
open Array hiding mem_of_getElem? mk
set_option linter.unusedVariables false
set_option linter.unusedSimpArgs false
namespace Go.Proofs.YtmbkabgllafffaaGreat
open K Go Go.Proofs
def W{α:Type}(x:Option α)(Q:α->Prop):Prop:=∃a,x=some a/\Q a
namespace W
variable {α β ε:Type}{Q:β->Prop}
theorem ret{a:β}(h:Q a):W (some a) Q:=⟨a,rfl,h⟩
theorem mono{x:Option β}{R:β->Prop}(h:W x R)(hq:∀a,R a->Q a):W x Q:=let ⟨a,e,r⟩:=h;⟨a,e,hq a r⟩
theorem bind{x:Option α}{f:α->Option β}{R:α->Prop}(h:W x R)(hf:∀a,R a->W (f a) Q):W (x.bind f) Q:=by
 obtain⟨a,rfl,r⟩:=h;grind
theorem ck{n:Int}{f:Int->Option β}(h1: -9223372036854775808≤n)(h2:n≤9223372036854775807)(hf:W (f n) Q):W ((K.ck n).bind f) Q:=by
 simp_all [K.ck,if_pos]
theorem chk{p:Prop}[Decidable p]{f:Unit->Option β}(h:p)(hf:W (f ()) Q):W ((cL p).bind f) Q:=by
 simp_all [cL,if_pos]
theorem at_{l:List α}{i:Int}{f:α->Option β}(h0:0≤i)(h1:i < l.length)(hf:∀x,l[i.toNat]? =some x->W (f x) Q):W ((aF l i).bind f) Q:=by
 simp_all [aF,if_pos,List.getElem?_eq_getElem]
theorem ite{p:Prop}[Decidable p]{a b:Option β}(h1:p->W a Q)(h2:¬p->W b Q):W (if p then a else b) Q:=by
 grind
theorem iteB{p:Prop}[Decidable p]{a b:Option α}{f:α->Option β}(h1:p->W (a.bind f) Q)(h2:¬p->W (b.bind f) Q):W ((if p then a else b).bind f) Q:=by
 grind
theorem loop{T:Type}{f:Nat->T->Option β}(I:Nat->T->Prop)(step:∀aL m y,I m y->(∀m' y',m' < m->I m' y'->W (f aL y') Q)->W (f (aL+1) y) Q):∀m aL y,m < aL->I m y->W (f aL y) Q:=by
 intro m
 induction m using Nat.strongRecOn with
 |_ m ih=>
  intro aL y hm hI;cases aL with
  |zero=>omega
  |succ aL=>grind
end W
theorem wrap_u64(n:Int):0≤IntKind.u64.wrap n/\IntKind.u64.wrap n < 18446744073709551616:=by
 simp_all [Int.emod_nonneg,Int.emod_lt_of_pos,IntKind.wrap,IntKind.signed,IntKind.bits]
theorem zd{n:Int}(h0:0≤n)(h1:n < 18446744073709551616):IntKind.u64.wrap n=n:=by
 simp_all [IntKind.wrap,IntKind.signed,IntKind.bits,Int.emod_eq_of_lt]
def Lo(l:bJ)(m:Int):Prop:=0≤l.2.1/\l.2.1≤m
theorem Ln{k:Nat}{l:bJ}{m:Int}(h:Lo l m)(hm:m≤1000000000):W (iC k l) λr=>0≤r.1/\r.1 < 72057594037927936/\Lo r.2 (m+1):=by
 obtain⟨h0,h1⟩:=h;unfold iC
 have fin:∀x:Int,W ((K.ck (l.2.1+1)).bind λx4=>some (iF .u64 (tj .u64 (IntKind.u64.wrap ((tj .u64 x (iF .u64 x (29:Int))) * (2685821657736338717:Int))) (iF .u64 (IntKind.u64.wrap ((tj .u64 x (iF .u64 x (29:Int))) * (2685821657736338717:Int))) (32:Int))) (8:Int),(l.1,x4,x)))
  λr=>0≤r.1/\r.1 < 72057594037927936/\Lo r.2 (m+1):=λx=>by
  refine W.ck (by omega) (by omega) (W.ret ?_)
  generalize IntKind.u64.wrap ((tj .u64 x (iF .u64 x (29:Int))) * (2685821657736338717:Int))=y
  have hx:0≤tj .u64 y (iF .u64 y 32)/\tj .u64 y (iF .u64 y 32) < 18446744073709551616:=wrap_u64 _
  have e:iF .u64 (tj .u64 y (iF .u64 y 32)) 8=(tj .u64 y (iF .u64 y 32)) / 256:=by
   unfold iF;rw [Int.fdiv_eq_ediv_of_nonneg _ (by decide)];rfl
  refine⟨?_,?_,?_,?_⟩
  .
   omega
  .
   omega
  .
   grind
  simp_all
 refine W.iteB (λhlt=>?_) (λ_=>fin _);simp_all [aF,if_pos,List.getElem?_eq_getElem]
theorem jO{k:Nat}{l:bJ}{m n:Int}(h:Lo l m)(hm:m≤1000000000)(hn:n≤1000000000):W (bZ k l n) λr=>0≤r.1/\(0≤n->r.1≤n)/\Lo r.2 (m+1):=by
 unfold bZ;refine W.ite (λh1=>W.ret ⟨Int.le_refl 0,λh=>h,h.1,by show l.2.1≤m+1;have:=h.2;omega⟩) (λh1=>?_);refine W.bind (Ln h hm) λr hr=>?_;refine W.ck (by omega) (by omega) ?_;have e:IntKind.u64.wrap (n+1)=n+1:=zd (by omega) (by omega);refine W.chk (by omega) ?_;rw [e];have h2:Int.tmod r.1 (n+1)=r.1 % (n+1):=Int.tmod_eq_emod_of_nonneg hr.1;have h3:=Int.emod_nonneg r.1 (show n+1≠0 by omega);have h4:=Int.emod_lt_of_pos r.1 (show 0 < n+1 by omega);grind [W.ck,W.ret]
theorem D7{k:Nat}{l:bJ}{m a b:Int}(h:Lo l m)(hm:m≤1000000000)(ha:0≤a)(hab:a≤b)(hb:b≤1000000):W (fZ k l a b) λr=>a≤r.1/\r.1≤b/\Lo r.2 (m+1):=by
 grind [fZ,W.ck,W.bind,jO,W.ret]
theorem ui{k:Nat}{l:bJ}{m a:Int}(h:Lo l m)(hm:m≤1000000000)(ha:0≤a)(hb:a≤1000000):W (eM k l a) λr=>Lo r.2 (m+1):=by
 grind [eM,W.ck,W.bind,jO,W.ret]
theorem HQ{k:Nat}{l:bJ}{m:Int}{some_:List Int}(h:Lo l m)(hm:m≤1000000000)(h0:0 < some_.length)(h1:some_.length≤1000000):W (ia k l some_) λr=>r.1∈some_/\Lo r.2 (m+1):=by
 grind [ia,W.ck,W.bind,jO,W.at_,W.ret,List.mem_of_getElem?]
theorem dC{α:Type}{l:List α}{i:Nat}(h:i < l.length):aF l (i:Int)=some l[i]:=by
 rw [aF,if_pos (by omega)];simp_all
section
variable {α β γ ε σ T:Type}
theorem bs{a:α}{f:α->Option β}:(some a).bind f=f a:=by simp_all
theorem cM{n:Int}(h1: -9223372036854775808≤n)(h2:n≤9223372036854775807):K.ck n=some n:=by simp_all [K.ck,if_pos]
theorem cO{p:Prop}[Decidable p](h:p):cL p=some ():=by rw [cL,if_pos h]
theorem yo{l:List α}{i:Int}(h0:0≤i)(h:i.toNat < l.length):aF l i=some l[i.toNat]:=by rw [aF,if_pos h0];simp_all
theorem Pj{l:List α}{i:Int}{x:α}(h0:0≤i)(h:l[i.toNat]? =some x):aF l i=some x:=by simp_all [aF,if_pos]
theorem lU{a:α}{g:ε->Option β}{f:α->Option β}:K.bE (some (.ok a)) g f=f a:=by simp_all [K.bE]
theorem nE{e:ε}{g:ε->Option β}{f:α->Option β}:K.bE (some (.error e)) g f=g e:=by simp_all [K.bE]
theorem pY{q:α}{a:β}{b:α->β}:gk (some q) a b=b q:=by simp_all [gk]
theorem mJ{a:β}{b:α->β}:gk none a b=a:=by simp_all [gk]
theorem UY{n:Nat}(h:n≤4294967296):bD n:=h
def kO(g:σ->Nat->α->σ):Nat->List α->σ->σ
 |_,[],s=>s
 |j,x::l,s=>kO g (j+1) l (g s j x)
theorem eU(l:List α)(mk:σ->Int->T)(g:σ->Nat->α->σ)(P:Nat->σ->Prop){f:Nat->T->Option β}(fin:σ->Option β)
 (step:∀n s (j:Nat) (h:j < l.length),P j s->f (n+1) (mk s j)=f n (mk (g s j l[j]) ((j:Int)+1))/\P (j+1) (g s j l[j]))
 (stop:∀n s,P l.length s->f (n+1) (mk s l.length)=fin s) {s0:σ} {n:Nat} (hn:l.length < n) (h0:P 0 s0):f n (mk s0 0)=fin (kO g 0 l s0)/\P l.length (kO g 0 l s0):=by
 have key:∀(m:List α) (pre:List α) (n:Nat) (s:σ),l=pre++m->m.length < n->P pre.length s->f n (mk s pre.length)=fin (kO g pre.length m s)/\P l.length (kO g pre.length m s):=by
  intro m
  induction m with
  |nil=>
   intro pre n s e hn hp;obtain⟨n,rfl⟩:∃n',n=n'+1:=⟨n - 1,by omega⟩;have:l.length=pre.length:=by grind
   rw [<-this] at hp⊢;exact⟨stop n s hp,hp⟩
  |cons x m ih=>
   intro pre n s e hn hp;simp only [length_cons] at hn;obtain⟨n,rfl⟩:∃n',n=n'+1:=⟨n - 1,by omega⟩;have hl:pre.length < l.length:=by grind
   have hx:l[pre.length]=x:=by simp [e]
   obtain⟨h1,h2⟩:=step n s pre.length hl hp;rw [hx] at h1 h2;have:=ih (pre++[x]) n (g s pre.length x) (by grind) (by omega) (by simp_all);rw [length_append] at this;simp only [length_cons,length_nil,Nat.zero_add] at this;rw [h1];exact this
 have:=key l [] n s0 rfl hn h0
 exact this
def eu(g:σ->Nat->α->Except ε σ):Nat->List α->σ->Except ε σ
 |_,[],s=>.ok s
 |j,x::l,s=>match g s j x with
  | .error e=>.error e
  | .ok s'=>eu g (j+1) l s'
theorem xl(l:List α)(mk:σ->Int->T)(g:σ->Nat->α->Except ε σ)(P:Nat->σ->Prop){f:Nat->T->Option β}(fin:Except ε σ->Option β)
 (step:∀n s (j:Nat) (h:j < l.length),P j s->(∃e,g s j l[j]= .error e/\f (n+1) (mk s j)=fin (.error e))\/(∃s',g s j l[j]= .ok s'/\f (n+1) (mk s j)=f n (mk s' ((j:Int)+1))/\P (j+1) s'))
 (stop:∀n s,P l.length s->f (n+1) (mk s l.length)=fin (.ok s)) {s0:σ} {n:Nat} (hn:l.length < n) (h0:P 0 s0):f n (mk s0 0)=fin (eu g 0 l s0):=by
 have key:∀(m:List α) (pre:List α) (n:Nat) (s:σ),l=pre++m->m.length < n->P pre.length s->f n (mk s pre.length)=fin (eu g pre.length m s):=by
  intro m
  induction m with
  |nil=>
   intro pre n s e hn hp;obtain⟨n,rfl⟩:∃n',n=n'+1:=⟨n - 1,by omega⟩;have:l.length=pre.length:=by grind
   rw [<-this] at hp⊢;exact stop n s hp
  |cons x m ih=>
   intro pre n s e hn hp;simp only [length_cons] at hn;obtain⟨n,rfl⟩:∃n',n=n'+1:=⟨n - 1,by omega⟩;have hl:pre.length < l.length:=by grind
   have hx:l[pre.length]=x:=by simp [e]
   rcases step n s pre.length hl hp with⟨e',h1,h2⟩ |⟨s',h1,h2,h3⟩
   .grind [eu]
   .rw [hx] at h1;have:=ih (pre++[x]) n s' (by grind) (by omega) (by simp_all);simp_all [length_append,length_cons,length_nil,Nat.zero_add,eu]
 exact key l [] n s0 rfl hn h0
end
section
variable {α β ε σ T:Type}
theorem mF(l:List α)(mk:σ->Int->T)(g:σ->Nat->α->Except ε σ)(P:Nat->σ->Prop){f:Nat->T->Option β}(fin:Except ε σ->Option β)
 (step:∀n s (j:Nat) (h:j < l.length),P j s->(f (n+1) (mk s j)=match g s j l[j] with | .error e=>fin (.error e) | .ok s'=>f n (mk s' ((j:Int)+1)))/\∀s',g s j l[j]= .ok s'->P (j+1) s')
 (stop:∀n s,P l.length s->f (n+1) (mk s l.length)=fin (.ok s)) {s0:σ} {n:Nat} (hn:l.length < n) (h0:P 0 s0):f n (mk s0 0)=fin (eu g 0 l s0):=
 xl l mk g P fin (λn s j h hp=>by
  obtain⟨h1,h2⟩:=step n s j h hp
  grind) stop hn h0
end
theorem rf{α:Type}(p:α->Bool):∀(l:List α) (j:Nat),eu (λ(_:Unit) j x=>if p x then Except.error (j:Int) else .ok ()) j l ()=match l.findIdx? p with |some i=>.error ((i+j:Nat):Int) |none=>.ok ()
 |[],j=>by simp [eu]
 |x::l,j=>by
  rw [eu,findIdx?_cons]
  by_cases h:p x=true
  .
   simp [h]
  .
   simp only [h,if_false,Bool.false_eq_true]
   rw [rf p l (j+1)]
   grind
theorem zE{k:Nat}{a b:List Int}(h:a.length < k)(hk:a.length≤1000000):fC k a b=some (decide (a=b)):=by
 unfold fC;by_cases hl:a.length=b.length
 .rw [if_neg (by simp [hl])]
  have key:=xl (f:=dH k a b) a (λ(_:Unit) j=>j) (λ_ j x=>if x=b[j]?.getD 0 then .ok () else Except.error false) (λ_ _=>True) (λr=>some r)
   (λn s j hj _=>by
    have hjb:j < b.length:=by omega
    have hb:b[j]?.getD 0=b[j]:=by simp_all
    have hck:ck ((j:Int)+1)=some ((j:Int)+1):=cM (by omega) (by omega);rw [hb];simp only [dH,Int.ofNat_lt,hj,if_true,dC hj,dC hjb,bs];by_cases e:a[j]=b[j] <;> simp [e,hck])
   (λn s _=>by simp [dH]) (n:=k) (s0:=()) h trivial
  rw [show dH k a b k 0=_ from key]
  have:∀(a:List Int) (j:Nat),a.length+j=b.length->eu (λ(_:Unit) j x=>if x=b[j]?.getD 0 then .ok () else Except.error false) j a ()=if a=b.drop j then .ok () else .error false:=by
   intro a
   induction a with
   |nil=>
    simp_all [drop_eq_nil_of_le,length_nil,eu]
   |cons x a ih=>
    intro j hj;simp only [length_cons] at hj;have hjb:j < b.length:=by omega
    have hd:b.drop j=b[j]::b.drop (j+1):=drop_eq_getElem_cons hjb;have hb:b[j]?.getD 0=b[j]:=by simp_all
    rw [eu,hb,hd];grind
  rw [this a 0 (by omega),drop_zero];by_cases e:a=b
  .rw [if_pos e,lU,decide_eq_true e]
  .rw [if_neg e,nE,decide_eq_false e]
 .rw [if_pos (by omega),decide_eq_false (λe=>hl (by rw [e]))]
def jA(s:Int):Prop:=0≤s/\s < 256
def eA(s:Int)(i:Nat):Prop:=s.toNat.testBit i=true
instance (s:Int) (i:Nat):Decidable (eA s i):=by unfold eA;infer_instance
theorem uf{x:Nat}(h:x < 256):IntKind.u8.wrap (x:Int)=x:=by
 grind [IntKind.wrap,IntKind.signed,IntKind.bits]
theorem vc{s:Int}(h:jA s):∃n:Nat,n < 256/\s=n:=⟨s.toNat,by have:=h.1;have:=h.2;omega,by have:=h.1;omega⟩
theorem HS{n:Nat}(h:n < 256):(BitVec.ofInt IntKind.u8.bits (n:Int)).toNat=n:=by
 show(BitVec.ofInt 8 (n:Int)).toNat=n;simp_all
theorem IA{n m:Nat}(hn:n < 256)(hm:m < 256):n |||m < 256:=or_lt_two_pow (n:=8) hn hm
theorem LD{n m:Nat}(hn:n < 256):n &&& m < 256:=Nat.lt_of_le_of_lt and_le_left hn
theorem Pg{a b:Int}(ha:jA a)(hb:jA b):jA (D6 .u8 a b)/\∀i,eA (D6 .u8 a b) i↔eA a i\/eA b i:=by
 obtain⟨n,hn,rfl⟩:=vc ha;obtain⟨m,hm,rfl⟩:=vc hb
 have e:D6 .u8 (n:Int) (m:Int)=((n |||m:Nat):Int):=by
  grind [D6,BitVec.toNat_or,HS,uf,IA]
 rw [e];refine⟨⟨by omega,by grind [IA]⟩,λi=>?_⟩;simp [eA,testBit_or]
theorem OS{x:Int}(h0:0≤x)(h8:x < 8):jA (pn .u8 1 x)/\∀i:Nat,eA (pn .u8 1 x) i↔(i:Int)=x:=by
 obtain⟨n,rfl⟩:=Int.eq_ofNat_of_zero_le h0;have hn:n < 8:=by omega
 have e:pn .u8 1 (n:Int)=((2 ^ n:Nat):Int):=by
  unfold pn
  have h1:min (Int.toNat (n:Int)) IntKind.u8.bits=n:=by
   show min n 8=n;omega
  rw [h1,Int.one_mul];have h2:2 ^ n < 256:=Nat.pow_lt_pow_right (by decide) hn;grind [uf]
 rw [e];have h9:2 ^ n < 256:=Nat.pow_lt_pow_right (by decide) hn;refine⟨⟨Int.natCast_nonneg _,Int.ofNat_lt.2 h9⟩,λi=>?_⟩;simp only [eA,Int.toNat_natCast,testBit_two_pow,decide_eq_true_eq];omega
theorem vo{k:Nat}{s:Int}(hs:jA s){i:Nat}(hi:i < 8):eI k s (i:Int)=some (decide (eA s i)):=by
 obtain⟨n,hn,rfl⟩:=vc hs;unfold eI;rw [cL,if_pos (by omega)];show some _=some _;congr 1
 have e1:iF .u8 (n:Int) (i:Int)=((n >>> i:Nat):Int):=by
  unfold iF
  have h1:min (Int.toNat (i:Int)) IntKind.u8.bits=i:=by
   show min i 8=i;omega
  grind [Int.fdiv_eq_ediv_of_nonneg,Int.natCast_nonneg,Nat.shiftRight_eq_div_pow]
 have hlt:n >>> i < 256:=Nat.lt_of_le_of_lt (by rw [Nat.shiftRight_eq_div_pow];exact div_le_self _ _) hn
 have e2:qX .u8 ((n >>> i:Nat):Int) 1=(((n >>> i) &&& 1:Nat):Int):=by
  grind [qX,BitVec.ofInt,BitVec.toNat_and,HS,uf,LD]
 rw [e1,e2]
 have e3:(((n >>> i) &&& 1:Nat):Int)=1↔eA (n:Int) i:=by
  rw [eA,Int.toNat_natCast,testBit];grind
 simp_all
end Go.Proofs.YtmbkabgllafffaaGreat
set_option linter.unusedVariables false
set_option linter.unusedSimpArgs false
namespace Go.Proofs.YtmbkabgllafffaaGreat
open K Go Go.Proofs
abbrev mC(m:ae):Int:=m.1
abbrev mW(m:ae):Int:=m.2.1
abbrev mS(m:ae):Int:=m.2.2.1
abbrev mH(m:ae):Int:=m.2.2.2.1
abbrev mD(m:ae):List (List (List Int)):=m.2.2.2.2.1
abbrev mG(m:ae):List bp:=m.2.2.2.2.2
def AU(l:List Int)(c:Int):Option (List Int):=(l.findIdx? λy=>decide (c=y)).map λi=>(if 0 < i then [l[i-1]?.getD 0] else [])++(l[i+1]?).toList
def yJ(d:List (List Int))(c:Int):Option (List Int):=d.findSome? λl=>AU l c
def yK(m:ae)(d:Nat)(c:Int):Option (List Int):=yJ ((mD m)[d]?.getD []) c
def nC(m:ae)(c:Int):Nat->Nat
 |0=>if(yK m 0 c).isSome then 0 else 1
 |d+1=>if(yK m (d+1) c).isSome then 0 else nC m c d+1
def kP(m:ae)(B:Int->Bool):Nat->Int->Int
 |0,c=>if B c then mW m else -1
 |d+1,c=>match yK m d c with
  |none=>if mH m≤(nC m c d:Int) then -1 else kP m B d c
  |some l=>if 0≤kP m B d c then kP m B d c+1 else if l.any λx=>decide (mW m≤kP m B d x) then 0 else -1
theorem Dj{m:ae}{B:Int->Bool}(hw:0≤mW m):∀{d:Nat} {c:Int}, -1≤kP m B d c
 |0,c=>by grind [kP]
 |d+1,c=>by
  have:=Dj (B:=B) hw (d:=d) (c:=c)
  grind [kP]
theorem Di{m:ae}{B:Int->Bool}(hw:mW m≤3):∀{d:Nat} {c:Int},kP m B d c≤3+d
 |0,c=>by grind [kP]
 |d+1,c=>by
  have:=Di (B:=B) hw (d:=d) (c:=c)
  grind [kP]
theorem IF{k:Nat}{l:List Int}{x:Int}(hk:l.length < k)(hl:l.length≤1000000):gB k l x=some (match l.findIdx? (λy=>decide (x=y)) with |some i=>(i:Int) |none=> -1):=by
 unfold gB
 have key:=mF (f:=dr k l x) l (λ(_:Unit) j=>j) (λ_ j y=>if decide (x=y)=true then Except.error (j:Int) else .ok ()) (λ_ _=>True) (λr=>some r)
  (λn s j hj _=>by
   have hck:ck ((j:Int)+1)=some ((j:Int)+1):=cM (by omega) (by omega);refine⟨?_,λ_ _=>trivial⟩;simp only [dr,Int.ofNat_lt,hj,if_true,dC hj,bs,decide_eq_true_eq];grind)
  (λn s _=>by simp [dr]) (n:=k) (s0:=()) hk trivial
 rw [show dr k l x k 0=_ from key,rf (λy=>decide (x=y)) l 0];grind [decide,lU,nE]
def oC:List Int->List Int
 |[a,b]=>if b < a then [b,a] else [a,b]
 |l=>l
theorem uF{l:List Int}{x:Int}:x∈oC l↔x∈l:=by
 unfold oC;grind
theorem KL{k:Nat}{l:List Int}(hk:10≤k)(hl:l.length≤2):f9 k l=some (oC l):=by
 obtain⟨k,rfl⟩:∃n,k=n+4:=⟨k - 4,by omega⟩;have e0:qf (k+4) (IntKind.u64.wrap (0:Int))=some 0:=by kernel_rfl
 have e1:qf (k+4) (IntKind.u64.wrap (1:Int))=some 1:=by kernel_rfl
 have e2:qf (k+4) (IntKind.u64.wrap (2:Int))=some 2:=by kernel_rfl
 have c0:ck ((0:Int) - 0)=some 0:=rfl;have c1:ck ((1:Int) - 0)=some 1:=rfl;have c2:ck ((2:Int) - 0)=some 2:=rfl;have d1:ck ((0:Int)+1)=some 1:=rfl;have d2:ck ((1:Int)+1)=some 2:=rfl;have d3:ck ((1:Int) - 1)=some 0:=rfl;match l,hl with
 |[],_=>
  simp only [f9,length_nil,Int.ofNat_zero,e0,bs,cX,cG,bU,bh,oC,c0,d1];rfl
 |[a],_=>
  simp_all [f9,bs,cX,cG,bU,bh,oC]
 |[a,b],_=>
  have:(([a,b]:List Int).length:Int)=2:=rfl;have g0:aF [a,b] (0:Int)=some a:=rfl;have g1:aF [a,b] (1:Int)=some b:=rfl;have hn:∀x:Int,lu (k+4) x=some false:=λx=>by simp [lu]
  have hl:∀x y:Int,pq (k+4) x y=some (decide (x < y)):=λx y=>by simp [pq,hn]
  simp only [f9,this,e2,bs,cX,cG,bU,bh,bL,c2,d1,d2,d3,g0,g1,hl];grind [oC,bL,bs,aF]
end Go.Proofs.YtmbkabgllafffaaGreat
set_option linter.unusedVariables false
set_option linter.unusedSimpArgs false
namespace Go.Proofs.YtmbkabgllafffaaGreat
open K Go Go.Proofs
structure Vd(m:ae):Prop where
 c1:1≤mC m
 c5:mC m≤5
 w0:0≤mW m
 w3:mW m≤3
 s0:0≤mS m
 s3:mS m≤3
 h1:1≤mH m
 h3:mH m≤3
 d1:1≤(mD m).length
 d6:(mD m).length≤6
 r3:∀r∈mD m,r.length≤3
 l5:∀r∈mD m,∀l∈r,l.length≤5
 x5:∀r∈mD m,∀l∈r,∀x∈l,0≤x/\x < mC m
 nd:∀r∈mD m,r.flatten.Nodup
 g8:(mG m).length≤8
 gl:∀g∈mG m,0≤g.1/\g.1 < mC m/\0≤g.2.1/\g.2.1≤(mD m).length
theorem AT{l:List Int}{c:Int}{s:List Int}(h:AU l c=some s):s.length≤2/\∀x∈s,x∈l:=by
 unfold AU at h;cases e:l.findIdx? (λy=>decide (c=y)) with
 |none=>simp_all
 |some i=>
  rw [e] at h;obtain rfl:=Option.some.inj h;have hi:i < l.length:=(List.findIdx?_eq_some_iff_getElem.1 e).1;grind
theorem Je{d:List (List Int)}{c:Int}{s:List Int}(h:yJ d c=some s):∃l∈d,AU l c=some s:=by
 simp_all [yJ,List.exists_of_findSome?_eq_some]
theorem vD{m:ae}(v:Vd m){d:Nat}{c:Int}{s:List Int}(h:yK m d c=some s):s.length≤2/\∀x∈s,0≤x/\x < mC m:=by
 obtain⟨l,hl,h2⟩:=Je h;cases e:(mD m)[d]? with
 |none=>simp_all
 |some r=>
  rw [e] at hl;have h3:=AT h2;exact⟨h3.1,λx hx=>v.x5 r (List.mem_of_getElem? e) l hl x (h3.2 x hx)⟩
def Qh(m:ae)(c:Int)(d:Nat):Int ⊕ List Int:=match yK m d c with
 |some s=>.inr (oC s)
 |none=>.inl (nC m c d)
theorem zK{k:Nat}{c:Int}{r:List (List Int)}(hk:10≤k)(hr:r.length≤3)(hl:∀l∈r,l.length≤5):
 cK k c r k 0=some (match yJ r c with |some s=>.error (.inr (oC s)) |none=>.ok ()):=by
 have key:=mF (f:=cK k c r) r (λ(_:Unit) j=>j) (λ_ _ l=>match AU l c with |some s=>Except.error (Sum.inr (oC s):Int ⊕ List Int) |none=>.ok ()) (λ_ _=>True) (λx=>some x)
  (λn s j hj _=>by
   refine⟨?_,λ_ _=>trivial⟩;have h5:=hl _ (List.getElem_mem hj);have hck:ck ((j:Int)+1)=some ((j:Int)+1):=cM (by omega) (by omega);simp only [cK,Int.ofNat_lt,hj,if_true,dC hj,bs];rw [IF (by omega) (by omega),bs];generalize r[j]=l at *;have hb:AU l c=(l.findIdx? λy=>decide (c=y)).map λi=>(if 0 < i then [l[i-1]?.getD 0] else [])++(l[i+1]?).toList:=rfl;cases e:l.findIdx? (λy=>decide (c=y)) with
   |none=>
    simp_all
   |some i=>
    rw [e] at hb;simp only [Option.map_some] at hb;have hi:i < l.length:=(List.findIdx?_eq_some_iff_getElem.1 e).1;rw [hb];have hlen:=(AT hb).1;have c1:ck ((i:Int) - 1)=some ((i:Int) - 1):=cM (by omega) (by omega);have c2:ck ((i:Int)+1)=some ((i:Int)+1):=cM (by omega) (by omega);have ok0:cL (bD (length ([]:List Int)+length [l[i-1]?.getD 0]))=some ():=cO (by simp [bD]);simp only [show(0:Int)≤(i:Int) from Int.natCast_nonneg _,if_true,c1,c2,bs]
    have e1:(if(0:Int) < (i:Int) then((aF l ((i:Int) - 1)).bind λx11=>(cL (bD (length ([]:List Int)+length [x11]))).bind λ_=>some (([]:List Int)++[x11])) else some ([]:List Int))=some (if 0 < i then [l[i-1]?.getD 0] else []):=by
     by_cases h0:0 < i
     .have g:aF l ((i:Int) - 1)=some (l[i-1]?.getD 0):=by
       grind [dC,List.getElem?_eq_getElem]
      simp_all
     simp_all
    rw [e1,bs];generalize (if 0 < i then [l[i-1]?.getD 0] else [])=p at *
    have e2:(if(i:Int)+1 < (l.length:Int) then((aF l ((i:Int)+1)).bind λx18=>(cL (bD (length p+length [x18]))).bind λ_=>some (p++[x18])) else some p)=some (p++(l[i+1]?).toList):=by
     by_cases h1:i+1 < l.length
     .have g:aF l ((i:Int)+1)=some l[i+1]:=by
       have:((i:Int)+1)=((i+1:Nat):Int):=by omega
       rw [this,dC h1]
      rw [if_pos (by omega),g,bs,List.getElem?_eq_getElem h1];grind [List.getElem?_eq_getElem,cO,length_append,bD,bs]
     grind
    simp_all [bs,KL])
  (λn s _=>by simp [cK]) (n:=k) (s0:=()) (by omega) trivial
 rw [show cK k c r k 0=_ from key]
 congr 1
 have:∀(r:List (List Int)) (j:Nat),eu (λ(_:Unit) _ l=>match AU l c with |some s=>Except.error (Sum.inr (oC s):Int ⊕ List Int) |none=>.ok ()) j r ()=match yJ r c with |some s=>.error (.inr (oC s)) |none=>.ok ():=by
  intro r
  induction r with
  |nil=>intro j;rfl
  |cons l r ih=>
   intro j;rw [eu];unfold yJ;rw [findSome?_cons];cases AU l c with
   |none=>exact ih (j+1)
   |some s=>rfl
 simp_all
theorem Ek{m:ae}{c:Int}:∀{d:Nat},nC m c d≤d+1
 |0=>by grind [nC]
 |d+1=>by have:=Ek (m:=m) (c:=c) (d:=d);grind [nC]
theorem uQ{k:Nat}{m:ae}{c:Int}(v:Vd m)(hk:10≤k):∀(d m0:Nat),d < m0->d < (mD m).length->eC k m0 m c (d:Int)=some (Qh m c d)
 |d,0,h,_=>absurd h (not_lt_zero _)
 |d,m0+1,h,hd=>by
  have hm:=List.getElem_mem hd
  unfold eC
  rw [dC hd,bs,zK hk (v.r3 _ hm) (v.l5 _ hm)]
  have hbes:yK m d c=yJ (mD m)[d] c:=by unfold yK;simp_all
  cases e:yJ (mD m)[d] c with
  |some s=>
   simp_all [nE,Qh]
  |none=>
   rw [lU]
   unfold Qh
   rw [hbes,e]
   match d,hd,h with
   |0,hd,h=>
    simp_all [nC]
   |d+1,hd,h=>
    have h6:=v.d6
    have c1:ck (((d+1:Nat):Int) - 1)=some (d:Int):=by grind [cM]
    have ih:=uQ v hk d m0 (by omega) (by omega) (c:=c)
    rw [if_pos (by omega),c1,bs,ih,bs]
    rw [hbes.symm] at e
    have hcold:nC m c (d+1)=nC m c d+1:=by grind [nC]
    have hle:=Ek (m:=m) (c:=c) (d:=d)
    unfold Qh
    cases e2:yK m d c with
    |some s=>
     simp only [KY]
     have:nC m c d=0:=by cases d <;> simp [nC,e2]
     simp_all
    |none=>
     have c2:ck ((1:Int)+(nC m c d:Int))=some ((1:Int)+(nC m c d:Int)):=cM (by omega) (by omega)
     simp only [KY,QH,c2,bs,if_true,hcold]
     grind
end Go.Proofs.YtmbkabgllafffaaGreat
set_option linter.unusedVariables false
set_option linter.unusedSimpArgs false
namespace Go.Proofs.YtmbkabgllafffaaGreat
open K Go Go.Proofs
def jQ(f:Int->Int):List Int:=[f 0,f 1,f 2,f 3,f 4]
def upd(f:Int->Int)(c v:Int):Int->Int:=λx=>if x=c then v else f x
theorem U1{c:Int}(h0:0≤c)(h:c < 5):c=0\/c=1\/c=2\/c=3\/c=4:=by omega
theorem nO{f:Int->Int}{c:Int}(h0:0≤c)(h:c < 5):aF (jQ f) c=some (f c):=by
 rcases U1 h0 h with rfl |rfl |rfl |rfl |rfl <;> rfl
theorem DI{f:Int->Int}{c v:Int}(h0:0≤c)(h:c < 5):List.set (jQ f) (Int.toNat c) v=jQ (upd f c v):=by
 rcases U1 h0 h with rfl |rfl |rfl |rfl |rfl <;> rfl
theorem nk{f g:Int->Int}(h:∀c,0≤c->c < 5->f c=g c):jQ f=jQ g:=by
 simp_all [jQ]
def QD(m:ae)(f:Int->Int)(d:Nat)(c:Int):Int:=match yK m d c with
 |none=>if mH m≤(nC m c d:Int) then -1 else f c
 |some l=>if 0≤f c then f c+1 else if l.any λx=>decide (mW m≤f x) then 0 else -1
def O0(m:ae)(f:Int->Int)(d:Nat):Int->Int:=λc=>if 0≤c/\c < mC m then QD m f d c else f c
theorem we{k:Nat}{m:ae}{f:Int->Int}(hw:0≤mW m){s:List Int}(hs:s.length < k)(hs2:s.length≤1000)(hx:∀x∈s,0≤x/\x < 5):
 bX k m (jQ f) s k 0=some (match s.find? (λx=>decide (mW m≤f x)) with |some x=>.error x |none=>.ok ()):=by
 have key:=mF (f:=bX k m (jQ f) s) s (λ(_:Unit) j=>j) (λ_ _ x=>if decide (mW m≤f x)=true then Except.error x else .ok ()) (λ_ _=>True) (λx=>some x)
  (λn _ j hj _=>by
   refine⟨?_,λ_ _=>trivial⟩;have h5:=hx _ (List.getElem_mem hj);have hck:ck ((j:Int)+1)=some ((j:Int)+1):=cM (by omega) (by omega);have him:tl (0:Int) m.2.1=mW m:=by show tl 0 (mW m)=mW m;grind [tl]
   simp only [bX,Int.ofNat_lt,hj,if_true,dC hj,bs,cO h5,nO h5.1 h5.2,him,hck,decide_eq_true_eq];grind)
  (λn s _=>by simp [bX]) (n:=k) (s0:=()) hs trivial
 rw [show bX k m (jQ f) s k 0=_ from key]
 congr 1
 have:∀(s:List Int) (j:Nat),eu (λ(_:Unit) _ x=>if decide (mW m≤f x)=true then Except.error x else .ok ()) j s ()=match s.find? (λx=>decide (mW m≤f x)) with |some x=>.error x |none=>.ok ():=by
  intro s
  induction s with
  |nil=>intro j;rfl
  |cons x s ih=>
   intro j;rw [eu,find?_cons];grind
 simp_all
theorem zB{s:List Int}:(oC s).length=s.length:=by
 unfold oC;grind
def Ky(m:ae)(f:Int->Int)(l:List Int):Int:=((oC l).find? λx=>decide (mW m≤f x)).getD (-1)
theorem BE{k:Nat}{m:ae}{f:Int->Int}{c:Int}{d:Nat}(v:Vd m)(hk:10≤k)(hd:d < (mD m).length){l:List Int}(h:yK m d c=some l):
 dA k m (jQ f) c (d:Int)=some (Ky m f l):=by
 have h6:=v.d6
 have c5:=v.c5
 have hb:=vD v h
 unfold dA
 rw [uQ v hk d k (by omega) hd,bs]
 unfold Qh
 rw [h]
 have e1:Jc (Sum.inr (oC l):Int ⊕ List Int) (λn=>iP k n) (λl=>iN k l)=some (oC l):=rfl
 rw [e1,bs,we v.w0 (by rw [zB];omega) (by rw [zB];omega) λx hx=>by grind [uF]]
 unfold Ky
 cases(oC l).find? λx=>decide (mW m≤f x) with
 |none=>rw [lU];rfl
 |some x=>rw [nE];rfl
theorem Kx{m:ae}{f:Int->Int}{l:List Int}(hx:∀x∈l,0≤x):0≤Ky m f l↔(l.any λx=>decide (mW m≤f x))=true:=by
 unfold Ky;rw [List.any_eq_true];cases e:(oC l).find? λx=>decide (mW m≤f x) with
 |none=>
  simp_all [Option.getD_none,List.find?_eq_none,uF]
 |some x=>
  grind [List.mem_of_find?_eq_some,uF]
theorem Iq{k:Nat}{m:ae}{f:Int->Int}{d:Nat}(v:Vd m)(hk:10≤k)(hd:d < (mD m).length)(hf:∀c,0≤c->c < mC m-> -1≤f c/\f c≤1000):
 hH k m (jQ f) (d:Int)=some (jQ (O0 m f d)):=by
 have c5:=v.c5
 have c1:=v.c1
 have h6:=v.d6
 unfold hH
 have key:=eU (T:=List Int×Int) (f:=cC k m (jQ f) (d:Int)) (List.range (mC m).toNat) (λ(g:Int->Int) j=>(jQ g,j)) (λg j _=>upd g (j:Int) (QD m f d (j:Int))) (λj g=>g=λc=>if 0≤c/\c < (j:Int) then QD m f d c else f c) (λg=>some (jQ g))
  (λn g j hj hg=>by
   rw [length_range] at hj;have j0:(0:Int)≤(j:Int):=Int.natCast_nonneg _;have j1:(j:Int) < mC m:=by omega
   have j5:(j:Int) < 5:=by omega
   have hck:ck ((j:Int)+1)=some ((j:Int)+1):=cM (by omega) (by omega);have hp:cL ((0:Int)≤(j:Int)/\(j:Int) < 5)=some ():=cO ⟨j0,j5⟩;have hgj:g (j:Int)=f (j:Int):=by simp_all
   have hfj:=hf _ j0 j1;refine⟨?_,?_⟩
   .have hm1:(m.1:Int)=mC m:=rfl;have hm2:m.2.2.2.1=mH m:=rfl;simp only [cC,hm1,hm2,j1,if_true,uQ v hk d k (by omega) hd,bs,hp,nO j0 j5,hck,DI j0 j5];unfold Qh QD;cases e:yK m d (j:Int) with
    |none=>
     simp only [KY,QH,if_true];by_cases hh:mH m≤(nC m (j:Int) d:Int)
     .simp_all
     .simp only [hh,if_false,bs];refine congrArg (λr=>cC k m (jQ f) (d:Int) n (r,(j:Int)+1)) (nk λc _ _=>?_);simp_all [upd]
    |some l=>
     have hb:=vD v e;simp only [KY,Bool.false_eq_true,if_false,not_false_eq_true,if_true];by_cases h0:0≤f (j:Int)
     .have hck2:ck (f (j:Int)+1)=some (f (j:Int)+1):=cM (by omega) (by omega);simp_all
     .simp only [h0,if_false,BE v hk hd e,bs];have ht:=Kx (m:=m) (f:=f) (l:=l) λx hx=>(hb.2 x hx).1;by_cases hany:(l.any λx=>decide (mW m≤f x))=true
      .simp_all
      .rw [if_neg λh=>hany (ht.1 h),bs,if_neg hany];refine congrArg (λr=>cC k m (jQ f) (d:Int) n (r,(j:Int)+1)) (nk λc _ _=>?_);grind [upd]
   .rw [hg];funext c;unfold upd;grind)
  (λn g hg=>by
   rw [length_range];have:((mC m).toNat:Int)=mC m:=by omega
   simp_all [cC,if_neg,mC]) (n:=k) (s0:=f) (by grind) (by grind)
 rw [show cC k m (jQ f) (d:Int) k (jQ f,0)=_ from key.1,bs]
 congr 1
 refine nk λc _ _=>?_
 rw [key.2,length_range]
 unfold O0
 grind
end Go.Proofs.YtmbkabgllafffaaGreat
set_option linter.unusedVariables false
set_option linter.unusedSimpArgs false
namespace Go.Proofs.YtmbkabgllafffaaGreat
open K Go Go.Proofs
def cr(F:Nat->Int->Int):List (List Int):=[jQ (F 0),jQ (F 1),jQ (F 2),jQ (F 3),jQ (F 4),jQ (F 5),jQ (F 6)]
def Bz(F:Nat->Int->Int)(n:Nat)(f:Int->Int):Nat->Int->Int:=λi=>if i=n then f else F i
theorem U0{n:Nat}(h:n < 7):n=0\/n=1\/n=2\/n=3\/n=4\/n=5\/n=6:=by omega
theorem rl{F:Nat->Int->Int}{n:Nat}(h:n < 7):aF (cr F) (n:Int)=some (jQ (F n)):=by
 rcases U0 h with rfl |rfl |rfl |rfl |rfl |rfl |rfl <;> rfl
theorem PQ{F:Nat->Int->Int}{n:Nat}{f:Int->Int}(h:n < 7):List.set (cr F) n (jQ f)=cr (Bz F n f):=by
 rcases U0 h with rfl |rfl |rfl |rfl |rfl |rfl |rfl <;> rfl
def Gx(m:ae)(B:Int->Bool):Nat->Int->Int
 |0=>λc=>if B c then mW m else -1
 |n+1=>O0 m (Gx m B n) n
theorem uq{m:ae}(v:Vd m){B:Int->Bool}:∀(n:Nat) (c:Int),0≤c->c < mC m->Gx m B n c=kP m B n c
 |0,c,_,_=>rfl
 |n+1,c,h0,h1=>by
  have ih:=uq v (B:=B) n
  show O0 m (Gx m B n) n c=kP m B (n+1) c
  unfold O0
  rw [if_pos ⟨h0,h1⟩]
  unfold QD kP
  cases e:yK m n c with
  |none=>simp_all
  |some l=>
   have hb:=(vD v e).2
   grind
def vA(m:ae)(B:Int->Bool):Nat->Int->Int:=λn=>if n≤(mD m).length then Gx m B n else λ_=>0
def ji(S:Int):Int->Bool:=λc=>decide (eA S c.toNat)
theorem Hj{k:Nat}{m:ae}{S:Int}(hk:10≤k)(hS:jA S):fh k m S=some (jQ λc=>if ji S c then mW m else -1):=by
 unfold fh
 have key:=eU (T:=List Int×Int) (f:=cJ k m S) (List.range 5) (λ(g:Int->Int) j=>(jQ g,j)) (λg j _=>upd g (j:Int) (if ji S (j:Int) then mW m else -1)) (λj g=>∀c,0≤c->c < (j:Int)->g c=if ji S c then mW m else -1) (λg=>some (jQ g))
  (λn g j hj hg=>by
   rw [length_range] at hj;have j0:(0:Int)≤(j:Int):=Int.natCast_nonneg _;have j5:(j:Int) < 5:=by omega
   have hck:ck ((j:Int)+1)=some ((j:Int)+1):=cM (by omega) (by omega);have hp:cL ((0:Int)≤(j:Int)/\(j:Int) < 5)=some ():=cO ⟨j0,j5⟩;have hp':cL ((0:Int)≤(j:Int)/\True)=some ():=cO ⟨j0,trivial⟩;refine⟨?_,?_⟩
   .simp only [cJ,j5,if_true,hp,hp',bs,vo (k:=k) hS (by omega:j < 8),hck,DI j0 j5];have hin:ji S (j:Int)=decide (eA S j):=by unfold ji;simp_all
    rw [hin];cases hh:decide (eA S j) with
    |true=>
     simp only [if_true,bs];refine congrArg (λr=>cJ k m S n (r,(j:Int)+1)) (nk λc _ _=>?_);simp_all [upd]
    |false=>simp_all
   .intro c hc0 hc1;unfold upd;grind)
  (λn g hg=>by
   simp_all [length_range,cJ,if_neg]) (n:=k) (s0:=λ_=>0) (by grind) (λc h0 h1=>by omega)
 have e0:([(0:Int),(0:Int),(0:Int),(0:Int),(0:Int)]:List Int)=jQ λ_=>0:=rfl;rw [e0,show cJ k m S k (jQ λ_=>0,0)=_ from key.1,bs];refine congrArg some (nk λc h0 h5=>?_);simp_all
theorem pV{k:Nat}{m:ae}{S:Int}(v:Vd m)(hk:10≤k)(hS:jA S):me k m S=some (cr (vA m (ji S))):=by
 have d6:=v.d6;have d1:=v.d1;have w0:=v.w0;have w3:=v.w3;unfold me jF;have hm:cL (0≤S/\S < 256)=some ():=cO hS;have hp0:cL ((0:Int)≤0/\(0:Int) < 7)=some ():=cO ⟨by omega,by omega⟩;rw [hm,bs,Hj hk hS,bs,hp0,bs]
 have key:=eU (T:=List (List Int)×Int) (f:=bR k m) (mD m) (λ(F:Nat->Int->Int) j=>(cr F,j)) (λF j _=>Bz F (j+1) (O0 m (F j) j)) (λj F=>F=λn=>if n≤j then Gx m (ji S) n else λ_=>0) (λF=>some (cr F))
  (λn F j hj hF=>by
   have j0:(0:Int)≤(j:Int):=Int.natCast_nonneg _;have hck:ck ((j:Int)+1)=some ((j:Int)+1):=cM (by omega) (by omega);have hp:cL ((0:Int)≤(j:Int)/\(j:Int) < 7)=some ():=cO ⟨j0,by omega⟩;have hp2:cL ((0:Int)≤(j:Int)+1/\(j:Int)+1 < 7)=some ():=cO ⟨by omega,by omega⟩;have hFj:F j=Gx m (ji S) j:=by simp_all
   have hj':(j:Int) < (m.2.2.2.2.1.length:Int):=Int.ofNat_lt.2 hj
   have hnx:=Iq (k:=k) (f:=F j) v hk hj (λc h0 h1=>by
    rw [hFj,uq v j c h0 h1];have:=Dj (B:=ji S) w0 (d:=j) (c:=c);have:=Di (B:=ji S) w3 (d:=j) (c:=c);omega)
   refine⟨?_,?_⟩
   .simp only [bR,hj',if_true,hck,hp,bs,rl (F:=F) (show j < 7 by omega),hnx,hp2];grind [Int.toNat,PQ]
   .rw [hF];funext i;unfold Bz;by_cases e:i=j+1
    .subst e;simp only [if_true,Nat.le_refl];rfl
    grind)
  (λn F hF=>by
   unfold bR;simp_all) (n:=k) (s0:=Bz (λ_ _=>0) 0 (λc=>if ji S c then mW m else -1)) (by omega) (by
   funext n;unfold Bz;by_cases e:n=0
   .subst e;rfl
   simp_all)
 have e0:List.set tB (Int.toNat 0) (jQ λc=>if ji S c then mW m else -1)=cr (Bz (λ_ _=>0) 0 (λc=>if ji S c then mW m else -1)):=rfl;rw [e0,show bR k m k (cr (Bz (λ_ _=>0) 0 (λc=>if ji S c then mW m else -1)),0)=_ from key.1,bs];rw [key.2];rfl
theorem yE{m:ae}(v:Vd m){B:Int->Bool}{n:Nat}{c:Int}(hn:n≤(mD m).length)(h0:0≤c)(h1:c < mC m):vA m B n c=kP m B n c:=by
 simp_all [vA,if_pos,uq]
end Go.Proofs.YtmbkabgllafffaaGreat
set_option linter.unusedVariables false
set_option linter.unusedSimpArgs false
namespace Go.Proofs.YtmbkabgllafffaaGreat
open K Go Go.Proofs
def wk{σ:Type}(bad:σ->Int->Option Int)(add:σ->Int->σ):List Int->σ->Except Int σ
 |[],s=>.ok s
 |x::l,s=>match bad s x with
  |some e=>.error e
  |none=>wk bad add l (add s x)
theorem xM{σ:Type}{bad:σ->Int->Option Int}{add:σ->Int->σ}:∀(l:List Int) (j:Nat) (s:σ),eu (λs _ x=>match bad s x with |some e=>Except.error e |none=>.ok (add s x)) j l s=wk bad add l s
 |[],j,s=>rfl
 |x::l,j,s=>by
  rw [eu,wk]
  cases bad s x with
  |some e=>rfl
  |none=>exact xM l (j+1) (add s x)
theorem wI{σ:Type}{bad:σ->Int->Option Int}{add:σ->Int->σ}:∀(a b:List Int) (s:σ),wk bad add (a++b) s=match wk bad add a s with | .error e=>.error e | .ok s'=>wk bad add b s'
 |[],b,s=>rfl
 |x::a,b,s=>by
  rw [cons_append,wk,wk]
  cases bad s x with
  |some e=>rfl
  |none=>exact wI a b (add s x)
theorem Dy{σ:Type}{bad:σ->Int->Option Int}{add:σ->Int->σ}:∀(r:List (List Int)) (j:Nat) (s:σ),eu (λs _ l=>wk bad add l s) j r s=wk bad add r.flatten s
 |[],j,s=>rfl
 |l::r,j,s=>by
  rw [eu,flatten_cons,wI]
  cases wk bad add l s with
  |error e=>rfl
  |ok s'=>exact Dy r (j+1) s'
theorem GR{σ τ:Type}{b1:σ->Int->Option Int}{a1:σ->Int->σ}{b2:τ->Int->Option Int}{a2:τ->Int->τ}(R:σ->τ->Prop)(hb:∀s t x,R s t->b1 s x=b2 t x)(ha:∀s t x,R s t->b1 s x=none->R (a1 s x) (a2 t x)):
 ∀(l:List Int) (s:σ) (t:τ),R s t->(∃e,wk b1 a1 l s= .error e/\wk b2 a2 l t= .error e)\/∃s' t',wk b1 a1 l s= .ok s'/\wk b2 a2 l t= .ok t'/\R s' t'
 |[],s,t,h=>.inr ⟨s,t,rfl,rfl,h⟩
 |x::l,s,t,h=>by
  rw [wk,wk,<-hb s t x h]
  cases e:b1 s x with
  |some c=>simp_all
  |none=>exact GR R hb ha l _ _ (ha s t x h e)
theorem Bt{σ:Type}{bad:σ->Int->Option Int}{add:σ->Int->σ}(P:σ->Prop)(hs:∀s x,P s->bad s x=none->P (add s x)):∀(l:List Int) (s s':σ),P s->wk bad add l s= .ok s'->P s'
 |[],s,s',h,e=>by cases e;exact h
 |x::l,s,s',h,e=>by
  rw [wk] at e
  cases hb:bad s x with
  |some c=>simp_all
  |none=>rw [hb] at e;exact Bt P hs l _ s' (hs s x h hb) e
theorem ll{k:Nat}{a b c:Int}:dP k a b c=some (decide (b≤a/\a≤c)):=by
 grind [dP]
theorem SV{n:Int}(h:1≤n/\n≤5):ck (n - 1)=some (n - 1):=by grind [cM]
theorem KT{k:Nat}{l:List Int}{x:Int}(hk:l.length < k)(hl:l.length≤1000000):pI k l x=some (decide (x∈l)):=by
 unfold pI
 have key:=mF (f:=gX k l x) l (λ(_:Unit) j=>j) (λ_ j y=>if decide (y=x)=true then Except.error true else .ok ()) (λ_ _=>True) (λr=>some r)
  (λn s j hj _=>by
   have hck:ck ((j:Int)+1)=some ((j:Int)+1):=cM (by omega) (by omega);refine⟨?_,λ_ _=>trivial⟩;simp only [gX,Int.ofNat_lt,hj,if_true,dC hj,bs,decide_eq_true_eq];grind)
  (λn s _=>by simp [gX]) (n:=k) (s0:=()) hk trivial
 rw [show gX k l x k 0=_ from key]
 have:∀(l:List Int) (j:Nat),eu (λ(_:Unit) _ y=>if decide (y=x)=true then Except.error true else .ok ()) j l ()=if x∈l then .error true else .ok ():=by
  intro l
  induction l with
  |nil=>simp_all [eu]
  |cons y l ih=>
   intro j;rw [eu];grind
 grind [nE,lU]
def Bn(C:Int)(s x:Int):Option Int:=if¬(0≤x/\x < C) then some 3 else if eA s x.toNat then some 4 else none
def xA(s x:Int):Int:=D6 .u8 s (pn .u8 1 x)
def Dc(C:Int)(s:List Int)(x:Int):Option Int:=if¬(0≤x/\x < C) then some 3 else if x∈s then some 4 else none
def Ez(s:List Int)(x:Int):List Int:=s++[x]
theorem tV:jA 0:=⟨by decide,by decide⟩
theorem N3{C s x:Int}(h:Bn C s x=none):0≤x/\x < C:=by
 unfold Bn at h;grind
theorem nL{k:Nat}{s x:Int}(hs:jA s)(h0:0≤x)(h8:x < 8):gh k s x=some (xA s x)/\jA (xA s x)/\∀i:Nat,eA (xA s x) i↔eA s i\/(i:Int)=x:=by
 have h1:=OS h0 h8;have h2:=Pg hs h1.1;refine⟨?_,h2.1,λi=>?_⟩
 .unfold gh;rw [cO h0,bs];rfl
 .show eA (D6 .u8 s (pn .u8 1 x)) i↔_;simp_all
theorem AV{C s x:Int}(hC:C≤5)(hs:jA s)(h:Bn C s x=none):jA (xA s x):=by
 have:=N3 h;exact(nL (k:=0) hs this.1 (by omega)).2.1
def tA(C:Int)(r:List (List Int)):Int:=if 3 < r.length then 6 else match wk (Dc C) Ez r.flatten [] with | .error e=>e | .ok _=>0
theorem FR{k:Nat}{m:ae}(hC:1≤mC m/\mC m≤5){l:List Int}(hk:l.length < k)(hl:l.length≤1000){s:Int}(hs:jA s):
 di k m l k (s,0)=some (wk (Bn (mC m)) xA l s):=by
 have key:=mF (T:=Int×Int) (f:=di k m l) l (λ(s:Int) j=>(s,j)) (λs _ x=>match Bn (mC m) s x with |some e=>Except.error e |none=>.ok (xA s x)) (λ_ s=>jA s) (λr=>some r)
  (λn s j hj hs=>by
   have hck:ck ((j:Int)+1)=some ((j:Int)+1):=cM (by omega) (by omega);have hc:ck (m.1 - 1)=some (m.1 - 1):=SV hC;refine⟨?_,λs' e=>?_⟩
   .simp only [di,Int.ofNat_lt,hj,if_true,dC hj,bs,hc,ll];generalize l[j]=x;by_cases h:0≤x/\x < mC m
    .have h':0≤x/\x≤m.1 - 1:=⟨h.1,by grind⟩;have hh:=vo (k:=k) hs (i:=x.toNat) (by omega);have ex:((x.toNat:Nat):Int)=x:=by omega
     rw [ex] at hh;simp only [h',and_self,decide_true,not_true_eq_false,if_false,hh,bs];have eb:Bn (mC m) s x=if eA s x.toNat then some 4 else none:=by unfold Bn;simp_all
     rw [eb];by_cases h2:eA s x.toNat
     .simp_all
     .simp only [h2,decide_false,Bool.false_eq_true,if_false,(nL (k:=k) hs h.1 (by omega)).1,bs,hck]
    .have h':¬(0≤x/\x≤m.1 - 1):=λhh=>h ⟨hh.1,by grind⟩;have eb:Bn (mC m) s x=some 3:=by unfold Bn;simp_all
     simp_all
   .cases e2:Bn (mC m) s l[j] with
    |some c=>simp_all
    |none=>grind [AV])
  (λn s _=>by simp [di]) (n:=k) (s0:=s) hk hs
 simp_all [di,xM]
theorem FT{k:Nat}{m:ae}(hC:1≤mC m/\mC m≤5){r:List (List Int)}(hk:r.length < k)(hr:r.length≤1000)(hl:∀l∈r,l.length < k/\l.length≤1000):
 dj k m r k (0,0)=some (match wk (Bn (mC m)) xA r.flatten 0 with | .error e=>.error e | .ok _=>.ok ()):=by
 have key:=mF (T:=Int×Int) (f:=dj k m r) r (λ(s:Int) j=>(s,j)) (λs _ l=>wk (Bn (mC m)) xA l s) (λ_ s=>jA s) (λx=>some (match x with | .error e=>Except.error e | .ok _=>.ok ()))
  (λn s j hj hs=>by
   have hck:ck ((j:Int)+1)=some ((j:Int)+1):=cM (by omega) (by omega);have hlj:=hl _ (List.getElem_mem hj);refine⟨?_,λs' e=>Bt jA (λs x=>AV hC.2) _ _ _ hs e⟩;simp only [dj,Int.ofNat_lt,hj,if_true,dC hj,bs,FR hC hlj.1 hlj.2 hs];cases wk (Bn (mC m)) xA r[j] s with
   |error e=>rw [nE]
   |ok s'=>rw [lU,hck,bs])
  (λn s _=>by simp [dj]) (n:=k) (s0:=0) hk tV
 simp_all [dj,Dy]
theorem Me{C:Int}(hC:C≤5)(l:List Int):(∃e,wk (Bn C) xA l 0= .error e/\wk (Dc C) Ez l []= .error e)\/∃s t,wk (Bn C) xA l 0= .ok s/\wk (Dc C) Ez l []= .ok t/\(jA s/\∀i:Nat,eA s i↔(i:Int)∈t):=by
 refine GR (λs t=>jA s/\∀i:Nat,eA s i↔(i:Int)∈t) (λs t x h=>?_) (λs t x h hb=>?_) l 0 [] ⟨tV,λi=>by simp [eA]⟩
 .unfold Bn Dc;grind
 .have hx:=N3 hb;have hw:=nL (k:=0) h.1 hx.1 (by omega);simp_all [Ez]
theorem Lx{k:Nat}{m:ae}(hC:1≤mC m/\mC m≤5){r:List (List Int)}(hk:1000 < k)(hr:r.length≤1000)(hl:∀l∈r,l.length≤1000):jq k m r=some (tA (mC m) r):=by
 unfold jq tA;by_cases h3:3 < r.length
 .grind
 .rw [if_neg (by omega),if_neg h3,FT hC (by omega) hr λl hh=>⟨by grind,hl l hh⟩];rcases Me hC.2 r.flatten with⟨e,h1,h2⟩ |⟨s,t,h1,h2,_⟩
  .simp_all [nE]
  simp_all [lU]
end Go.Proofs.YtmbkabgllafffaaGreat
set_option linter.unusedVariables false
set_option linter.unusedSimpArgs false
namespace Go.Proofs.YtmbkabgllafffaaGreat
open K Go Go.Proofs
theorem qJ:∀(n:Nat) (l:List Int),l.Nodup->(∀x∈l,0≤x/\x < (n:Int))->l.length≤n
 |0,l,_,h=>by
  cases l with
  |nil=>simp
  |cons x l=>have:=h x (by simp);omega
 |n+1,l,hn,h=>by
  have h1:=qJ n (l.erase (n:Int)) (hn.erase _) (λx hx=>by
   grind)
  grind
theorem RV{C:Int}{s:List Int}{x:Int}(h:Dc C s x=none):(0≤x/\x < C)/\x∉s:=by
 unfold Dc at h;grind
def Mt(C:Int)(s:List Int):Prop:=s.Nodup/\∀x∈s,0≤x/\x < C
theorem Mt.add{C:Int}{s:List Int}{x:Int}(h:Mt C s)(hb:Dc C s x=none):Mt C (Ez s x):=by
 have:=RV hb;refine⟨?_,λy hy=>?_⟩
 .unfold Ez;rw [nodup_append];exact⟨h.1,by simp,λa ha b hb e=>by simp_all⟩
 .rcases List.mem_append.1 hy with hy |hy
  .exact h.2 y hy
  simp_all
theorem Mt.len{C:Int}{s:List Int}(hC:0≤C/\C≤5)(h:Mt C s):s.length≤5:=by
 have:=qJ C.toNat s h.1 λx hx=>⟨(h.2 x hx).1,by have:=(h.2 x hx).2;omega⟩;omega
theorem GT{C:Int}:∀{l s t:List Int},wk (Dc C) Ez l s= .ok t->t=s++l
 |[],s,t,e=>by cases e;simp
 |x::l,s,t,e=>by
  rw [wk] at e
  cases hb:Dc C s x with
  |some c=>simp_all
  |none=>
   rw [hb] at e
   have:=GT e
   simp_all [Ez]
theorem Dz{C:Int}:∀{l s:List Int},(s++l).Nodup->(∀x∈l,0≤x/\x < C)->wk (Dc C) Ez l s= .ok (s++l)
 |[],s,_,_=>by simp [wk]
 |x::l,s,hn,hr=>by
  have hx:x∉s:=by
   grind
  have hb:Dc C s x=none:=by
   unfold Dc;simp_all
  rw [wk,hb];simp only [];rw [Dz (s:=Ez s x) (by simp_all [Ez]) λy hy=>hr y (mem_cons_of_mem _ hy)];simp_all [Ez]
theorem xu{C:Int}{r:List (List Int)}:tA C r=0↔r.length≤3/\r.flatten.Nodup/\∀x∈r.flatten,0≤x/\x < C:=by
 unfold tA;constructor
 .intro h;split at h
  .cases h
  .cases e:wk (Dc C) Ez r.flatten [] with
   |ok t=>
    have h1:=Bt (Mt C) (λs x=>Mt.add) _ _ _ ⟨nodup_nil,λx hx=>by cases hx⟩ e;have h2:=GT e;rw [nil_append] at h2;subst h2;exact⟨by omega,h1.1,h1.2⟩
   |error c=>
    rw [e] at h;exfalso
    have:∀(l s:List Int),wk (Dc C) Ez l s≠.error 0:=by
     intro l
     induction l with
     |nil=>intro s h;cases h
     |cons x l ih=>
      grind [wk,Dc]
    simp_all
 .rintro⟨h1,h2,h3⟩;rw [if_neg (by omega),Dz (by simp_all) h3]
def IM(m:ae)(g:bp):Int:=if(0≤g.1/\g.1 < mC m)/\0≤g.2.1/\g.2.1≤(mD m).length then 0 else 3
theorem O9{k:Nat}{m:ae}(hC:1≤mC m/\mC m≤5){g:bp}:gy k m g=some (IM m g):=by
 have hc:ck (m.1 - 1)=some (m.1 - 1):=SV hC;unfold gy IM;have e:decide (0≤g.1/\g.1≤m.1 - 1)=decide (0≤g.1/\g.1 < mC m):=decide_eq_decide.2 ⟨λh=>⟨h.1,by grind⟩,λh=>⟨h.1,by grind⟩⟩;rw [hc,bs,ll,bs,e];by_cases h1:0≤g.1/\g.1 < mC m
 .by_cases h2:0≤g.2.1/\g.2.1≤(mD m).length <;> simp [h1,h2,ll]
 grind
def ma{α:Type}(f:α->Int)(l:List α):Int:=((l.map f).find? λe=>decide (e≠0)).getD 0
theorem tq{α:Type}(f:α->Int):∀(l:List α) (j:Nat),eu (λ(_:Unit) _ x=>if¬(f x=0) then Except.error (f x) else .ok ()) j l ()=if ma f l=0 then .ok () else .error (ma f l)
 |[],j=>by simp [eu,ma]
 |x::l,j=>by
  rw [eu]
  by_cases h:f x=0
  .
   have:ma f (x::l)=ma f l:=by simp [ma,h]
   rw [this]
   simp only [h,not_true_eq_false,if_false]
   exact tq f l (j+1)
  simp_all [ma]
theorem pQ{α:Type}{f:α->Int}{l:List α}:ma f l=0↔∀x∈l,f x=0:=by
 induction l with
 |nil=>simp [ma]
 |cons x l ih=>
  grind [ma]
structure Sm(m:ae):Prop where
 d:(mD m).length≤1000
 r:∀r∈mD m,r.length≤1000/\∀l∈r,l.length≤1000
 g:(mG m).length≤1000
def mU(m:ae):Int:=
 if¬((1≤mC m/\mC m≤5)/\(0≤mW m/\mW m≤3)/\(0≤mS m/\mS m≤3)/\1≤mH m/\mH m≤3) then 1
 else if(mD m).length=0 then 7 else if 6 < (mD m).length then 6 else if¬(ma (tA (mC m)) (mD m)=0) then ma (tA (mC m)) (mD m)
 else if 8 < (mG m).length then 6 else ma (IM m) (mG m)
theorem Ly{k:Nat}{m:ae}(hs:Sm m)(hk:1000 < k):nq k m=some (mU m):=by
 unfold nq mU;simp only [ll,bs];by_cases h1:1≤mC m/\mC m≤5
 .by_cases h2:0≤mW m/\mW m≤3
  .by_cases h3:0≤mS m/\mS m≤3
   .by_cases h4:1≤mH m/\mH m≤3
    .have e1:(1≤m.1/\m.1≤5)=True:=eq_true h1;have e2:(0≤m.2.1/\m.2.1≤3)=True:=eq_true h2;have e3:(0≤m.2.2.1/\m.2.2.1≤3)=True:=eq_true h3;have e4:(1≤m.2.2.2.1/\m.2.2.2.1≤3)=True:=eq_true h4;simp only [e1,e2,e3,e4,decide_true,not_true_eq_false,if_false,Bool.not_true,Bool.false_eq_true,bs,and_self,h1,h2,h3,h4];by_cases h5:(mD m).length=0
     .simp_all
     .rw [if_neg (show¬((m.2.2.2.2.1.length:Int) < 1) by grind),if_neg h5];by_cases h6:6 < (mD m).length
      .grind
      .rw [if_neg (show¬((6:Int) < (m.2.2.2.2.1.length:Int)) by grind),if_neg h6]
       have key:=mF (f:=fy k m) (mD m) (λ(_:Unit) j=>j) (λ_ _ x=>if¬(tA (mC m) x=0) then Except.error (tA (mC m) x) else .ok ()) (λ_ _=>True) (λr=>some r)
        (λn s j hj _=>by
         have hck:ck ((j:Int)+1)=some ((j:Int)+1):=cM (by omega) (by omega);have hr:=hs.r _ (List.getElem_mem hj);refine⟨?_,λ_ _=>trivial⟩;have hj':(j:Int) < (m.2.2.2.2.1.length:Int):=Int.ofNat_lt.2 hj;have hg:aF m.2.2.2.2.1 (j:Int)=some (mD m)[j]:=dC hj;simp only [fy,hj',if_true,hg,bs,Lx h1 hk hr.1 hr.2];grind)
        (λn s _=>by
         unfold fy;simp_all) (n:=k) (s0:=()) (by omega) trivial
       rw [show fy k m k 0=_ from key,tq];by_cases h7:ma (tA (mC m)) (mD m)=0
       .rw [if_pos h7,lU,show(if¬(ma (tA (mC m)) (mD m)=0) then ma (tA (mC m)) (mD m) else if 8 < (mG m).length then 6 else ma (IM m) (mG m))=(if 8 < (mG m).length then 6 else ma (IM m) (mG m)) from if_neg (λhn=>hn h7)];by_cases h8:8 < (mG m).length
        .grind
        .rw [if_neg (show¬((8:Int) < (m.2.2.2.2.2.length:Int)) by grind),if_neg h8]
         have key:=mF (f:=fx k m) (mG m) (λ(_:Unit) j=>j) (λ_ _ x=>if¬(IM m x=0) then Except.error (IM m x) else .ok ()) (λ_ _=>True) (λr=>some r)
          (λn s j hj _=>by
           have hck:ck ((j:Int)+1)=some ((j:Int)+1):=cM (by omega) (by omega);refine⟨?_,λ_ _=>trivial⟩;have hj':(j:Int) < (m.2.2.2.2.2.length:Int):=Int.ofNat_lt.2 hj;have hg:aF m.2.2.2.2.2 (j:Int)=some (mG m)[j]:=dC hj;simp only [fx,hj',if_true,hg,bs,O9 h1];grind)
          (λn s _=>by
           simp_all [fx,if_neg,Int.lt_irrefl]) (n:=k) (s0:=()) (by omega) trivial
         rw [show fx k m k 0=_ from key,tq];by_cases h9:ma (IM m) (mG m)=0
         .rw [if_pos h9,lU,h9]
         .rw [if_neg h9,nE]
       .rw [if_neg h7,nE,if_pos h7]
    grind
   grind
  grind
 grind
end Go.Proofs.YtmbkabgllafffaaGreat
set_option linter.unusedVariables false
set_option linter.unusedSimpArgs false
namespace Go.Proofs.YtmbkabgllafffaaGreat
open K Go Go.Proofs
theorem uY{r:List (List Int)}{l:List Int}(h:r.flatten.Nodup)(hl:l∈r):l.Nodup:=by
 grind
theorem Ko{σ:Type}{bad:σ->Int->Option Int}{add:σ->Int->σ}{x:Int}{l:List Int}{s:σ}{e:Int}(h:bad s x=some e):wk bad add (x::l) s= .error e:=by rw [wk,h]
theorem J7{σ:Type}{bad:σ->Int->Option Int}{add:σ->Int->σ}{x:Int}{l:List Int}{s:σ}(h:bad s x=none):wk bad add (x::l) s=wk bad add l (add s x):=by rw [wk,h]
theorem Vd.of{m:ae}(h:mU m=0):Vd m:=by
 unfold mU at h;by_cases h1:(1≤mC m/\mC m≤5)/\(0≤mW m/\mW m≤3)/\(0≤mS m/\mS m≤3)/\1≤mH m/\mH m≤3
 .rw [if_neg (λhn=>hn h1)] at h;by_cases h2:(mD m).length=0
  .omega
  .rw [if_neg h2] at h;by_cases h3:6 < (mD m).length
   .omega
   .rw [if_neg h3] at h;by_cases h4:ma (tA (mC m)) (mD m)=0
    .rw [if_neg (λhn=>hn h4)] at h;by_cases h5:8 < (mG m).length
     .omega
     .rw [if_neg h5] at h;have hd:=λr hr=>xu.1 (pQ.1 h4 r hr);have hx:∀r∈mD m,∀l∈r,∀x∈l,0≤x/\x < mC m:=λr hr l hl x hx=>(hd r hr).2.2 x (List.mem_flatten.2 ⟨l,hl,hx⟩)
      exact⟨h1.1.1,h1.1.2,h1.2.1.1,h1.2.1.2,h1.2.2.1.1,h1.2.2.1.2,h1.2.2.2.1,h1.2.2.2.2,by omega,by omega,λr hr=>(hd r hr).1,λr hr l hl=>by
       have hn:l.Nodup:=uY (hd r hr).2.1 hl;have:=qJ (mC m).toNat l hn λx hxx=>by grind
       omega,hx,λr hr=>(hd r hr).2.1,by omega,λg hg=>by
        grind [pQ,IM]⟩
    omega
 omega
theorem Vd.chk{m:ae}(v:Vd m):mU m=0:=by
 unfold mU;have h1:(1≤mC m/\mC m≤5)/\(0≤mW m/\mW m≤3)/\(0≤mS m/\mS m≤3)/\1≤mH m/\mH m≤3:=⟨⟨v.c1,v.c5⟩,⟨v.w0,v.w3⟩,⟨v.s0,v.s3⟩,v.h1,v.h3⟩
 have h4:ma (tA (mC m)) (mD m)=0:=pQ.2 λr hr=>xu.2 ⟨v.r3 r hr,v.nd r hr,λx hx=>by
  obtain⟨l,hl,hx⟩:=List.mem_flatten.1 hx;exact v.x5 r hr l hl x hx⟩
 have h9:ma (IM m) (mG m)=0:=pQ.2 λg hg=>by
  have:=v.gl g hg;unfold IM;omega
 have d1:=v.d1;have d6:=v.d6;have g8:=v.g8;omega
theorem Vd.sm{m:ae}(v:Vd m):Sm m:=⟨by have:=v.d6;omega,λr hr=>⟨by have:=v.r3 r hr;omega,λl hl=>by have:=v.l5 r hr l hl;omega⟩,by have:=v.g8;omega⟩
def vT(C:Int)(p:Option Int)(x:Int):Option Int:=if¬(0≤x/\x < C) then some 3 else if p.any (λy=>decide (x≤y)) then some 5 else none
def MP(C:Int)(p:Option Int×Int)(x:Int):Option Int:=vT C p.1 x
def Qm(p:Option Int×Int)(x:Int):Option Int×Int:=(some x,xA p.2 x)
def MY(p:Option Int)(x:Int):Option Int:=some x
def tG(C:Int)(b:List Int):Int:=match wk (vT C) MY b none with | .error e=>e | .ok _=>0
def bf(b:List Int):Int:=b.foldl xA 0
theorem N4{C:Int}{p:Option Int}{x:Int}(h:vT C p x=none):(0≤x/\x < C)/\p.any (λy=>decide (x≤y))=false:=by
 unfold vT at h;grind
theorem Es{C:Int}:∀(b:List Int) (p:Option Int) (s:Int),(∃e,wk (MP C) Qm b (p,s)= .error e/\wk (vT C) MY b p= .error e)\/∃q,wk (MP C) Qm b (p,s)= .ok (q,b.foldl xA s)/\wk (vT C) MY b p= .ok q
 |[],p,s=>.inr ⟨p,rfl,rfl⟩
 |x::b,p,s=>by
  cases e:vT C p x with
  |some c=>exact .inl ⟨c,Ko e,Ko e⟩
  |none=>
   rw [J7 (bad:=MP C) (s:=(p,s)) (x:=x) e,J7 e]
   exact Es (C:=C) b (some x) (xA s x)
theorem Ab{k:Nat}{m:ae}(hC:1≤mC m/\mC m≤5){b:List Int}(hk:b.length < k)(hb:b.length≤1000):
 fq k m b k (0,0)=some (if tG (mC m) b=0 then .ok (bf b) else .error (none,0,tG (mC m) b)):=by
 have key:=mF (T:=Int×Int) (f:=fq k m b) b (λ(s:Option Int×Int) j=>(s.2,j)) (λs _ x=>match MP (mC m) s x with |some e=>Except.error e |none=>.ok (Qm s x)) (λj s=>jA s.2/\s.1=if j=0 then none else b[j-1]?) (λr=>some (match r with | .error e=>Except.error (none,0,e) | .ok s=>.ok s.2))
  (λn s j hj hs=>by
   have hck:ck ((j:Int)+1)=some ((j:Int)+1):=cM (by omega) (by omega);have hc:ck (m.1 - 1)=some (m.1 - 1):=SV hC;refine⟨?_,λs' e=>?_⟩
   .simp only [fq,Int.ofNat_lt,hj,if_true,dC hj,bs,hc,ll];generalize b[j]=x;rw [show MP (mC m) s x=vT (mC m) s.1 x from rfl];by_cases h:0≤x/\x < mC m
    .have h':0≤x/\x≤m.1 - 1:=⟨h.1,by grind⟩;have eb:vT (mC m) s.1 x=if s.1.any (λy=>decide (x≤y)) then some 5 else none:=by unfold vT;simp_all
     have ep:(if(0:Int) < (j:Int) then((ck ((j:Int) - 1)).bind λx12=>(aF b x12).bind λx13=>some (decide (x≤x13))) else some false)=some (s.1.any λy=>decide (x≤y)):=by
      rw [hs.2];by_cases h0:j=0
      .simp_all
      .have c1:ck ((j:Int) - 1)=some ((j - 1:Nat):Int):=by grind [cM]
       rw [if_pos (by omega),c1,bs,dC (by omega),bs,if_neg h0,List.getElem?_eq_getElem (by omega)];rfl
     rw [eb];simp only [h',and_self,decide_true,not_true_eq_false,if_false,bs];rw [ep,bs];cases s.1.any λy=>decide (x≤y) with
     |true=>simp_all
     |false=>
      simp only [Bool.false_eq_true,if_false,(nL (k:=k) hs.1 h.1 (by omega)).1,bs,hck];rfl
    .have h':¬(0≤x/\x≤m.1 - 1):=λhh=>h ⟨hh.1,by grind⟩;have eb:vT (mC m) s.1 x=some 3:=by unfold vT;simp_all
     simp_all
   .cases e2:MP (mC m) s b[j] with
    |some c=>simp_all
    |none=>
     rw [e2] at e;cases e;have hx:=N4 e2;exact⟨(nL (k:=0) hs.1 hx.1.1 (by omega)).2.1,by show some b[j]=if j+1=0 then none else b[j+1 - 1]?;simp_all⟩)
  (λn s _=>by simp [fq]) (n:=k) (s0:=(none,0)) hk ⟨tV,rfl⟩
 rw [show fq k m b k (0,0)=_ from key]
 have e1:eu (λ(s:Option Int×Int) _ x=>match MP (mC m) s x with |some e=>Except.error e |none=>.ok (Qm s x)) 0 b (none,0)=wk (MP (mC m)) Qm b (none,0):=xM (bad:=MP (mC m)) (add:=Qm) b 0 (none,0)
 rw [e1]
 unfold tG
 have z:∀(l:List Int) (p:Option Int),wk (vT (mC m)) MY l p≠.error 0:=by
  intro l
  induction l with
  |nil=>intro p h;cases h
  |cons x l ih=>
   intro p h;rw [wk] at h;cases hb:vT (mC m) p x with
   |some c=>
    grind [vT]
   |none=>grind
 rcases Es (C:=mC m) b none 0 with⟨e,h1,h2⟩ |⟨q,h1,h2⟩
 .
  grind
 .
  rw [h1,h2];rfl
end Go.Proofs.YtmbkabgllafffaaGreat
set_option linter.unusedVariables false
set_option linter.unusedSimpArgs false
namespace Go.Proofs.YtmbkabgllafffaaGreat
open K Go Go.Proofs
theorem zD{C:Int}(hC:C≤5):∀(b:List Int) (s:Int),jA s->(∀x∈b,0≤x/\x < C)->jA (b.foldl xA s)/\∀i:Nat,eA (b.foldl xA s) i↔eA s i\/(i:Int)∈b
 |[],s,hs,_=>⟨hs,λi=>by simp⟩
 |x::b,s,hs,hb=>by
  have hx:=hb x mem_cons_self
  have hw:=nL (k:=0) hs hx.1 (by omega)
  have:=zD hC b (xA s x) hw.2.1 λy hy=>hb y (mem_cons_of_mem _ hy)
  grind
structure Bg(C:Int)(b:List Int):Prop where
 rng:∀x∈b,0≤x/\x < C
 asc:b.Pairwise (· < ·)
theorem Bv{C:Int}:∀{b:List Int} {p:Option Int},(∃q,wk (vT C) MY b p= .ok q)↔(∀x∈b,0≤x/\x < C)/\b.Pairwise (· < ·)/\∀y,p=some y->∀x∈b.head?,y < x
 |[],p=>by simp [wk]
 |x::b,p=>by
  cases e:vT C p x with
  |some c=>
   rw [Ko e]
   constructor
   .
    simp_all
   .
    rintro⟨h1,h2,h3⟩
    exfalso
    unfold vT at e
    rw [if_neg (λhn=>hn (h1 x mem_cons_self))] at e
    cases p with
    |none=>cases e
    |some y=>
     have:=h3 y rfl x (by simp)
     grind
  |none=>
   have hx:=N4 e
   rw [J7 e,Bv (b:=b) (p:=MY p x)]
   constructor
   .
    rintro⟨h1,h2,h3⟩
    refine⟨λy hy=>?_,?_,λy hy z hz=>?_⟩
    .
     grind
    .
     rw [pairwise_cons]
     refine⟨λy hy=>?_,h2⟩
     cases b with
     |nil=>cases hy
     |cons z b=>
      have hz:=h3 x rfl z (by simp)
      grind [pairwise_cons]
    simp_all
   simp_all [pairwise_cons,mem_cons_of_mem,MY,mem_of_mem_head?]
theorem Et{C:Int}:∀{l:List Int} {p:Option Int},wk (vT C) MY l p≠.error 0
 |[],p,h=>by cases h
 |x::l,p,h=>by
  cases hb:vT C p x with
  |some c=>
   rw [Ko hb] at h
   grind [vT]
  |none=>rw [J7 hb] at h;exact Et h
theorem nD{C:Int}{b:List Int}:tG C b=0↔Bg C b:=by
 unfold tG;constructor
 .intro h;cases e:wk (vT C) MY b none with
  |error c=>simp_all [Et]
  |ok q=>have:=Bv.1 ⟨q,e⟩;exact⟨this.1,this.2.1⟩
 .rintro⟨h1,h2⟩;obtain⟨q,e⟩:=(Bv (p:=none)).2 ⟨h1,h2,λy hy=>by cases hy⟩;rw [e]
theorem Bg.set{C:Int}(hC:C≤5){b:List Int}(h:Bg C b):jA (bf b)/\∀c:Int,0≤c->ji (bf b) c=decide (c∈b):=by
 have:=zD hC b 0 tV h.rng;refine⟨this.1,λc hc=>?_⟩;unfold ji;have e:((c.toNat:Nat):Int)=c:=by omega
 have h2:=this.2 c.toNat;rw [e] at h2;refine decide_eq_decide.2 ?_;show eA (b.foldl xA 0) c.toNat↔_;simp_all [eA]
def vS(m:ae)(i:Nat):Int:=match i with |0=>mC m - 1 |1=>((mD m).length:Int) - 1 |_=>(mD m).length
def yZ(n:Int)(l:List Int):Bool:=l.all λx=>decide (0≤x/\x≤n)
theorem qK{k:Nat}{m:ae}(v:Vd m){i:Nat}(hi:i < 3){l:List Int}(hk:l.length < k)(hl:l.length≤1000):
 dG k m (i:Int) l k 0=some (if yZ (vS m i) l then .ok () else .error (none,0,3)):=by
 have c1:=v.c1
 have c5:=v.c5
 have d6:=v.d6
 have d1:=v.d1
 have key:=mF (T:=Int) (f:=dG k m (i:Int) l) l (λ(_:Unit) j=>j) (λ_ _ x=>if 0≤x/\x≤vS m i then .ok () else Except.error ((none,0,3):Option ae×Int×Int)) (λ_ _=>True) (λr=>some r)
  (λn s j hj _=>by
   have hck:ck ((j:Int)+1)=some ((j:Int)+1):=cM (by omega) (by omega);have hc:ck (m.1 - 1)=some (mC m - 1):=SV ⟨c1,c5⟩;have hd:ck ((m.2.2.2.2.1.length:Int) - 1)=some (((mD m).length:Int) - 1):=cM (by omega) (by grind)
   have hg:aF [mC m - 1,((mD m).length:Int) - 1,((mD m).length:Int)] (i:Int)=some (vS m i):=by
    have:i=0\/i=1\/i=2:=by omega
    rcases this with rfl |rfl |rfl <;> rfl
   refine⟨?_,λ_ _=>trivial⟩;simp only [dG,Int.ofNat_lt,hj,if_true,dC hj,bs,hc,hd];rw [show aF [mC m - 1,((mD m).length:Int) - 1,(m.2.2.2.2.1.length:Int)] (i:Int)=some (vS m i) from hg,bs,ll,bs];grind)
  (λn s _=>by simp [dG]) (n:=k) (s0:=()) hk trivial
 rw [show dG k m (i:Int) l k 0=_ from key]
 congr 1
 have:∀(l:List Int) (j:Nat),eu (λ(_:Unit) _ x=>if 0≤x/\x≤vS m i then .ok () else Except.error ((none,0,3):Option ae×Int×Int)) j l ()=if yZ (vS m i) l then .ok () else .error (none,0,3):=by
  intro l
  induction l with
  |nil=>intro j;rfl
  |cons x l ih=>
   intro j;rw [eu];by_cases h:0≤x/\x≤vS m i
   .simp_all [if_pos,yZ,vS,all_cons,and_self,decide_true,Bool.true_and]
   .rw [if_neg h];have:yZ (vS m i) (x::l)=false:=by simp only [yZ,all_cons,h,decide_false,Bool.false_and]
    simp_all
 simp_all
theorem zn{k:Nat}{m:ae}(v:Vd m)(hk:10≤k):∀n:Nat,n≤32->wH k m n=some ()
 |0,_=>rfl
 |n+1,h=>by
  have e:IntKind.u8.wrap (n:Int)=(n:Int):=uf (by omega)
  unfold wH
  rw [zn v hk n (by omega),bs,e,pV v hk ⟨by omega,by omega⟩,bs]
theorem Ks{k:Nat}{m:ae}(v:Vd m)(hk:10≤k):eS k m=some ():=by
 have c1:=v.c1;have c5:=v.c5;unfold eS
 have hc:m.1=1\/m.1=2\/m.1=3\/m.1=4\/m.1=5:=by
  grind
 have e:0≤pn .i64 1 m.1/\pn .i64 1 m.1≤32:=by
  rcases hc with h |h |h |h |h <;> rw [h] <;> decide
 rw [if_pos ⟨by omega,by omega⟩];simp_all [zn]
def NQ(m:ae)(cs ds ns:List Int):Bool:=yZ (vS m 0) cs && yZ (vS m 1) ds && yZ (vS m 2) ns
theorem u4{k:Nat}{m:ae}{b cs ds ns:List Int}(hs:Sm m)(hk:1010≤k)(hb:b.length≤1000)(h1:cs.length≤1000)(h2:ds.length≤1000)(h3:ns.length≤1000):
 j6 k m b cs ds ns=some (if¬(mU m=0) then(none,0,mU m) else if¬(tG (mC m) b=0) then(none,0,tG (mC m) b) else if NQ m cs ds ns then(some m,bf b,0) else(none,0,3)):=by
 unfold j6
 rw [Ly hs (by omega),bs]
 by_cases hc:mU m=0
 .
  have v:=Vd.of hc;rw [if_neg (λhn=>hn hc),if_neg (λhn=>hn hc),Ab ⟨v.c1,v.c5⟩ (by omega) hb];by_cases hg:tG (mC m) b=0
  .rw [if_pos hg,lU,if_neg (λhn=>hn hg)];obtain⟨n,rfl⟩:∃n,k=n+4:=⟨k - 4,by omega⟩;have e0:=qK v (k:=n+4) (i:=0) (by omega) (l:=cs) (by omega) h1;have e1:=qK v (k:=n+4) (i:=1) (by omega) (l:=ds) (by omega) h2;have e2:=qK v (k:=n+4) (i:=2) (by omega) (l:=ns) (by omega) h3;have g0:aF [cs,ds,ns] (0:Int)=some cs:=rfl;have g1:aF [cs,ds,ns] (1:Int)=some ds:=rfl;have g2:aF [cs,ds,ns] (2:Int)=some ns:=rfl;have k0:ck ((0:Int)+1)=some 1:=rfl;have k1:ck ((1:Int)+1)=some 2:=rfl;have k2:ck ((2:Int)+1)=some 3:=rfl;have ln:(([cs,ds,ns]:List (List Int)).length:Int)=3:=rfl
   have s0:cT (n+4) m cs ds ns (n+4) 0=if yZ (vS m 0) cs then cT (n+4) m cs ds ns (n+3) 1 else some (.error (none,0,3)):=by
    rw [cT,ln,if_pos (by decide),g0,bs,show dG (n+4) m 0 cs (n+4) 0=_ from e0];cases yZ (vS m 0) cs with
    |true=>simp_all [if_true,lU,bs]
    |false=>simp_all [Bool.false_eq_true,if_false,nE]
   have s1:cT (n+4) m cs ds ns (n+3) 1=if yZ (vS m 1) ds then cT (n+4) m cs ds ns (n+2) 2 else some (.error (none,0,3)):=by
    rw [cT,ln,if_pos (by decide),g1,bs,show dG (n+4) m 1 ds (n+4) 0=_ from e1];cases yZ (vS m 1) ds with
    |true=>simp_all [if_true,lU,bs]
    |false=>simp_all [Bool.false_eq_true,if_false,nE]
   have s2:cT (n+4) m cs ds ns (n+2) 2=if yZ (vS m 2) ns then cT (n+4) m cs ds ns (n+1) 3 else some (.error (none,0,3)):=by
    rw [cT,ln,if_pos (by decide),g2,bs,show dG (n+4) m 2 ns (n+4) 0=_ from e2];cases yZ (vS m 2) ns with
    |true=>simp_all [if_true,lU,bs]
    |false=>simp_all [Bool.false_eq_true,if_false,nE]
   have s3:cT (n+4) m cs ds ns (n+1) 3=some (.ok ()):=by
    rw [cT,ln,if_neg (by decide)]
   rw [s0,s1,s2,s3];unfold NQ
   have fin:((jp (n+4) m).bind λr32=>gk r32 none (λq33=>(eS (n+4) q33).bind λr35=>some (some q33,bf b,(0:Int))))=some (some m,bf b,0):=by
    grind [jp,bs,pY,Ks]
   cases yZ (vS m 0) cs with
   |false=>simp_all [Bool.false_eq_true,if_false,Bool.false_and,nE]
   |true=>
    cases yZ (vS m 1) ds with
    |false=>simp_all [if_true,Bool.false_eq_true,if_false,Bool.true_and,Bool.false_and,nE]
    |true=>
     cases yZ (vS m 2) ns with
     |false=>simp_all [if_true,Bool.false_eq_true,if_false,Bool.true_and,Bool.and_false,nE]
     |true=>simp_all [if_true,Bool.true_and,lU]
  .rw [if_neg hg,nE,if_pos hg]
 simp_all
end Go.Proofs.YtmbkabgllafffaaGreat
set_option linter.unusedVariables false
set_option linter.unusedSimpArgs false
namespace Go.Proofs.YtmbkabgllafffaaGreat
open K Go Go.Proofs
def oY(m:ae)(B:Int->Bool)(n:Nat):List Int:=(List.range (mC m).toNat).map λ(c:Nat)=>kP m B n (c:Int)
def iI(m:ae)(B:Int->Bool):List (List Int):=(List.range ((mD m).length+1)).map (oY m B)
theorem uL{m:ae}{B:Int->Bool}{n:Nat}{c:Int}(h0:0≤c)(h1:c < mC m):aF (oY m B n) c=some (kP m B n c):=by
 unfold oY;rw [aF,if_pos h0,List.getElem?_map,List.getElem?_range (by omega)];grind
theorem pX{m:ae}{B:Int->Bool}{n:Nat}(h:n≤(mD m).length):aF (iI m B) (n:Int)=some (oY m B n):=by
 unfold iI;rw [aF,if_pos (by omega),List.getElem?_map,Int.toNat_natCast,List.getElem?_range (by omega)];rfl
theorem He{f:Int->Int}{C:Int}(h0:0≤C)(h5:C≤5):List.take C.toNat (jQ f)=(List.range C.toNat).map λ(c:Nat)=>f (c:Int):=by
 have:C=0\/C=1\/C=2\/C=3\/C=4\/C=5:=by omega
 rcases this with rfl |rfl |rfl |rfl |rfl |rfl <;> rfl
theorem va{k:Nat}{m:ae}{b:List Int}(hs:Sm m)(hk:1010≤k)(hb:b.length≤1000):
 hJ k m b=some (if¬(mU m=0) then([],mU m) else if¬(tG (mC m) b=0) then([],tG (mC m) b) else(iI m λc=>decide (c∈b),0)):=by
 unfold hJ
 rw [u4 hs hk hb (by simp) (by simp) (by simp),bs]
 by_cases hc:mU m=0
 .
  have v:=Vd.of hc;by_cases hg:tG (mC m) b=0
  .have hB:=(nD.1 hg).set v.c5;have ho:NQ m [] [] []=true:=rfl;have c1:=v.c1;have c5:=v.c5;have d6:=v.d6;simp only [hc,hg,ho,not_true_eq_false,if_false,if_true,pY];rw [pV v (by omega) hB.1,bs]
   have hd:ck ((m.2.2.2.2.1.length:Int)+1)=some (((mD m).length+1:Nat):Int):=by
    rw [cM (by omega) (by grind)];rfl
   rw [hd,bs]
   have key:=eU (T:=List (List Int)×Int) (f:=eK k m (cr (vA m (ji (bf b)))) (((mD m).length+1:Nat):Int)) (List.range ((mD m).length+1)) (λ(s:List (List Int)) j=>(s,j)) (λs j _=>s++[oY m (ji (bf b)) j]) (λj s=>s=(List.range j).map (oY m (ji (bf b)))) (λs=>some s)
    (λn s j hj hs=>by
     rw [length_range] at hj;have hck:ck ((j:Int)+1)=some ((j:Int)+1):=cM (by omega) (by omega);have hjlt:(j:Int) < (((mD m).length+1:Nat):Int):=by omega
     have hp:cL (0≤m.1/\m.1≤5)=some ():=cO ⟨by grind,c5⟩
     have ht:List.take (Int.toNat m.1) (jQ (vA m (ji (bf b)) j))=oY m (ji (bf b)) j:=by
      rw [He (by omega) c5];unfold oY;refine List.map_congr_left λc hc=>?_;have:=List.mem_range.1 hc;exact yE v (by omega) (by omega) (by omega)
     have hl:(oY m (ji (bf b)) j).length≤5:=by grind
     have hsl:s.length=j:=by simp_all
     have hcl:iy k (oY m (ji (bf b)) j)=some (oY m (ji (bf b)) j):=by
      unfold iy;rw [cO (by show _≤_;omega),bs]
     have hok:cL (bD (length s+length [oY m (ji (bf b)) j]))=some ():=cO (by grind [bD]);refine⟨?_,?_⟩
     .simp only [eK,hjlt,if_true,rl (F:=vA m (ji (bf b))) (show j < 7 by omega),bs,hp,ht,hcl,hok,hck]
     simp_all [List.range_succ,List.map_append])
    (λn s hs=>by
     simp_all [length_range,eK,if_neg,Int.lt_irrefl]) (n:=k) (s0:=[]) (by grind) rfl
   rw [show eK k m (cr (vA m (ji (bf b)))) (((mD m).length+1:Nat):Int) k ([],0)=_ from key.1,bs,key.2,length_range]
   have hcs:(List.range ((mD m).length+1)).map (oY m (ji (bf b)))=iI m λc=>decide (c∈b):=by
    unfold iI;refine List.map_congr_left λn hn=>?_;unfold oY;refine List.map_congr_left λc hc=>?_
    have hage:∀(n:Nat) (c:Int),0≤c->c < mC m->kP m (ji (bf b)) n c=kP m (λc=>decide (c∈b)) n c:=by
     intro n
     induction n with
     |zero=>simp_all [kP]
     |succ n ih=>
      intro c h0 h1;unfold kP;cases e:yK m n c with
      |none=>simp_all
      |some l=>
       have hb:=(vD v e).2;grind
    simp_all
   rw [hcs]
  simp_all [not_true_eq_false,not_false_eq_true,if_false,if_true,mJ]
 simp_all [not_false_eq_true,if_true,mJ]
end Go.Proofs.YtmbkabgllafffaaGreat
set_option linter.unusedVariables false
set_option linter.unusedSimpArgs false
namespace Go.Proofs.YtmbkabgllafffaaGreat
open K Go Go.Proofs
theorem Lo.mono{l:bJ}{m n:Int}(h:Lo l m)(hn:m≤n):Lo l n:=⟨h.1,Int.le_trans h.2 hn⟩
theorem OU{α:Type}{l:List α}{x:α}{n:Nat}(h:l.length≤n)(hn:n≤1000000):bD (length l+length [x]):=by
 show length l+length [x]≤4294967296;grind
theorem Cm{k:Nat}(hk:50≤k){l:bJ}{m:Int}{n:Nat}(hl:Lo l m)(hm:0≤m/\m≤1000)(hn:n≤8):W (ib k l (n:Int)) λr=>Lo r.2 (m+10)/\r.1.length=n/\(∀x∈r.1,0≤x/\x < (n:Int))/\r.1.Nodup:=by
 unfold ib;refine W.bind (R:=λr=>Lo (r.2.1,r.2.2.1,r.2.2.2) (m+10)/\r.1.length=n/\(∀x∈r.1,0≤x/\x < (n:Int))/\r.1.Nodup) ?_ λr h=>W.ret h
 refine W.loop (f:=eo k (n:Int)) (λq y=>∃j:Nat,y.2.2.2.2=(j:Int)/\j≤n/\q=n - j/\Lo (y.1,y.2.1,y.2.2.1) (m+j)/\y.2.2.2.1.length=j/\(∀x∈y.2.2.2.1,0≤x/\x < (j:Int))/\y.2.2.2.1.Nodup) ?_ n k _ (by omega)
  ⟨0,rfl,by omega,by omega,by simp_all,rfl,by simp,by simp⟩
 rintro aL q ⟨nums,d,s,o,y⟩ ⟨j,hj,hle,hq,hlo,hlen,hx,hnd⟩ ih;simp only at hj hlo hlen hx hnd;subst hj;unfold eo;dsimp only;refine W.ite (λhlt=>?_) (λhge=>W.ret ⟨hlo.mono (by omega),by grind,λx hx'=>by grind,hnd⟩);obtain⟨r5,e5,a5,b5,c5⟩:=jO (k:=k) (n:=(j:Int)) hlo (by omega) (by omega);have b5:=b5 (by omega);have ho:(o++[(j:Int)]).length=j+1:=by simp [hlen]
 have hr5:r5.1.toNat < (o++[(j:Int)]).length:=by omega
 have hjl:j < (o++[(j:Int)]).length:=by omega
 have hgj:(o++[(j:Int)])[j]=(j:Int):=by
  grind
 rw [e5,bs,cO (OU (n:=8) (by omega) (by omega)),bs,yo a5 hr5,bs,dC (by omega),bs];have hgs:aF (List.set (o++[(j:Int)]) (Int.toNat (j:Int)) (o++[(j:Int)])[r5.1.toNat]) r5.1=some ((List.set (o++[(j:Int)]) (Int.toNat (j:Int)) (o++[(j:Int)])[r5.1.toNat])[r5.1.toNat]'(by grind)):=yo a5 (by grind);rw [hgs,bs,cM (by omega) (by omega),bs]
 have hp:(List.set (List.set (o++[(j:Int)]) (Int.toNat (j:Int)) (o++[(j:Int)])[r5.1.toNat]) (Int.toNat r5.1) (j:Int)).Perm (o++[(j:Int)]):=by
  have:= @set_set_perm Int (o++[(j:Int)]) j r5.1.toNat hjl hr5;rw [hgj] at this;exact this
 refine ih (q - 1) (_,_,_,_,(j:Int)+1) (by omega) ⟨j+1,by grind,by omega,by omega,c5.mono (by omega),by simp [hlen],λx hx'=>?_,hp.nodup_iff.2 ?_⟩
 .grind
 grind
theorem IX{out:List (List Int)}{i:Nat}{x:Int}(h:i < out.length):(out.set i (out[i]++[x])).flatten.Perm (out.flatten++[x]):=by
 have e1:out=out.take i++out[i]::out.drop (i+1):=by simp_all
 grind
structure Rl(C:Int)(r:List (List Int)):Prop where
 r3:r.length≤3
 x5:∀l∈r,∀x∈l,0≤x/\x < C
 nd:r.flatten.Nodup
theorem Rl.l5{C:Int}(hC:0≤C/\C≤5){r:List (List Int)}(h:Rl C r):∀l∈r,l.length≤5:=λl hl=>by
 have:=qJ C.toNat l (uY h.nd hl) λx hx=>by have:=h.x5 l hl x hx;omega
 omega
theorem HA{k:Nat}(hk:50≤k){l:bJ}{m:Int}{n:Nat}(hl:Lo l m)(hm:0≤m/\m≤900)(hn:n≤5):
 W (j9 k l (n:Int)) λr=>Lo r.2 (m+30)/\Rl (n:Int) r.1:=by
 unfold j9
 refine W.bind (D7 (l:=(l.1,l.2.1,l.2.2)) hl (by omega) (by omega) (by omega) (by omega)) λr1 h1=>?_
 refine W.chk ⟨by omega,by show _≤_;omega⟩ ?_
 refine W.bind (Cm hk (l:=(r1.2.1,r1.2.2.1,r1.2.2.2)) (m:=m+1) (n:=n) h1.2.2 (by omega) (by omega)) λr4 h4=>?_
 obtain⟨lo4,len4,rng4,nd4⟩:=h4
 refine W.bind (R:=λx=>Lo (x.1,x.2.1,x.2.2.1) (m+30)/\Rl (n:Int) x.2.2.2) ?_ λx hx=>W.ret hx
 refine W.loop (f:=fO k r4) (λq y=>∃j:Nat,y.2.2.2.1=(j:Int)/\j≤n/\q=n - j/\Lo (y.1,y.2.1,y.2.2.1) (m+11+2 * j)/\y.2.2.2.2.length=r1.1.toNat/\(∀x∈y.2.2.2.2.flatten,x∈r4.1.take j)/\y.2.2.2.2.flatten.Nodup) ?_ n k _ (by omega)
  ⟨0,rfl,by omega,by omega,lo4.mono (by omega),by simp,by simp,by simp⟩
 rintro aL q ⟨nums,d,s,y,out⟩ ⟨j,hj,hle,hq,hlo,hlen,hx,hnd⟩ ih
 simp only at hj hlo hlen hx hnd
 subst hj
 unfold fO
 dsimp only
 refine W.ite (λhlt=>?_) (λhge=>W.ret ⟨hlo.mono (by omega),by grind,λl hl x hxx=>rng4 x (mem_of_mem_take (hx x (List.mem_flatten.2 ⟨l,hl,hxx⟩))),hnd⟩)
 have hj:j < r4.1.length:=by omega
 have hsub:∀x∈r4.1.take j,x∈r4.1.take (j+1):=λx hh=>by grind
 refine W.bind (R:=λx=>Lo (x.1,x.2.1,x.2.2.1) (m+11+2 * j+2)/\x.2.2.2.length=r1.1.toNat/\(∀z∈x.2.2.2.flatten,z∈r4.1.take (j+1))/\x.2.2.2.flatten.Nodup) ?_ λx9 h9=>?_
 .
  refine W.bind (ui (l:=(nums,d,s)) hlo (by omega) (by omega) (by omega)) λr11 h11=>?_;refine W.ite (λ_=>W.ret ⟨h11.mono (by omega),hlen,λz hz=>hsub z (hx z hz),hnd⟩) (λ_=>?_);refine W.ck (by omega) (by omega) ?_;refine W.bind (jO (l:=(r11.2.1,r11.2.2.1,r11.2.2.2)) h11 (by omega) (by omega)) λr13 h13=>?_;have b13:=h13.2.1 (by omega);have hi:r13.1.toNat < out.length:=by omega
  rw [yo h13.1 hi,bs,dC hj,bs]
  have hxj:r4.1[j]∉out.flatten:=λhin=>by
   grind [List.getElem_of_mem,length_take,getElem_inj]
  have hlen2:(out[r13.1.toNat]).length≤5:=by
   have:=qJ n _ (uY hnd (List.getElem_mem hi)) λx hxx=>rng4 x (mem_of_mem_take (hx x (List.mem_flatten.2 ⟨_,List.getElem_mem hi,hxx⟩)));omega
  rw [cO (by grind [bD]),bs];have hp:=IX (x:=r4.1[j]) hi;refine W.ret ⟨h13.2.2.mono (by omega),by grind,λz hz=>?_,hp.nodup_iff.2 ?_⟩
  .grind [List.mem_singleton,take_add_one,List.getElem?_eq_getElem,List.mem_append_right]
  grind
 .
  refine W.ck (by omega) (by omega) ?_;exact ih (q - 1) (_,_,_,(j:Int)+1,_) (by omega) ⟨j+1,by grind,by omega,by omega,h9.1.mono (by omega),h9.2⟩
end Go.Proofs.YtmbkabgllafffaaGreat
set_option linter.unusedVariables false
set_option linter.unusedSimpArgs false
namespace Go.Proofs.YtmbkabgllafffaaGreat
open K Go Go.Proofs
theorem M9{c w s h:Int}{ds:List (List (List Int))}(hc:1≤c/\c≤5)(hw:0≤w/\w≤3)(hs:0≤s/\s≤3)(hh:1≤h/\h≤3)(d1:1≤ds.length)(d6:ds.length≤6)(hr:∀r∈ds,Rl c r):Vd (c,w,s,h,ds,[]):=
 ⟨hc.1,hc.2,hw.1,hw.2,hs.1,hs.2,hh.1,hh.2,d1,d6,λr h=>(hr r h).r3,λr h=>(hr r h).l5 ⟨by omega,hc.2⟩,λr h=>(hr r h).x5,λr h=>(hr r h).nd,by simp [mG],λg hg=>by cases hg⟩
theorem C5{k:Nat}{l:List Int}(h:l.length≤1000000):jv k l=some l:=by
 grind [jv,cO,UY,length_nil,bs]
theorem AM{k:Nat}{l:List (List Int)}(hk:l.length < k)(h1:l.length≤1000000)(h2:∀x∈l,x.length≤1000000):iE k l=some l:=by
 unfold iE
 have key:=eU (T:=List (List Int)×Int) (f:=dQ k l) l (λ(s:List (List Int)) j=>(s,j)) (λs j x=>s++[x]) (λj s=>s=l.take j) (λs=>some s)
  (λn s j hj hs=>by
   have hck:ck ((j:Int)+1)=some ((j:Int)+1):=cM (by omega) (by omega);have hl:s.length=j:=by grind
   have hok:cL (bD (length s+length [l[j]]))=some ():=cO (by grind [bD]);refine⟨?_,?_⟩
   .simp_all [dQ,Int.ofNat_lt,if_true,dC,bs,C5,List.getElem_mem]
   simp_all)
  (λn s hs=>by
   unfold dQ;simp_all) (n:=k) (s0:=[]) hk (by simp)
 simp_all
theorem Cj{k:Nat}(hk:50≤k){l:bJ}{m:Int}{cs ds:Int}(hl:Lo l m)(hm:0≤m/\m≤400)(hc:1≤cs/\cs≤5)(hd:1≤ds/\ds≤6):
 W (kg k l cs ds) λr=>Lo r.2 (m+250)/\Vd r.1/\mG r.1=[]/\mC r.1≤cs/\((mD r.1).length:Int)≤ds:=by
 unfold kg
 refine W.bind (D7 (l:=(l.1,l.2.1,l.2.2)) hl (by omega) (by omega) (by omega) (by omega)) λr2 h2=>?_
 refine W.bind (jO (l:=(r2.2.1,r2.2.2.1,r2.2.2.2)) h2.2.2 (by omega) (by omega)) λr3 h3=>?_
 have b3:=h3.2.1 (by omega)
 refine W.bind (HQ (l:=(r3.2.1,r3.2.2.1,r3.2.2.2)) h3.2.2 (by omega) (by simp) (by simp)) λr4 h4=>?_
 refine W.bind (jO (l:=(r4.2.1,r4.2.2.1,r4.2.2.2)) h4.2 (by omega) (by omega)) λr5 h5=>?_
 have b5:=h5.2.1 (by omega)
 refine W.bind (HQ (l:=(r5.2.1,r5.2.2.1,r5.2.2.2)) h5.2.2 (by omega) (by simp) (by simp)) λr6 h6=>?_
 refine W.bind (D7 (l:=(r6.2.1,r6.2.2.1,r6.2.2.2)) h6.2 (by omega) (by omega) (by omega) (by omega)) λr7 h7=>?_
 refine W.bind (HQ (l:=(r7.2.1,r7.2.2.1,r7.2.2.2)) h7.2.2 (by omega) (by simp) (by simp)) λr8 h8=>?_
 have w4:0≤r4.1/\r4.1≤3:=by
  grind
 have w6:0≤r6.1/\r6.1≤3:=by
  grind
 have w8:1≤r8.1/\r8.1≤3:=by
  grind
 have lo8:=h8.2
 refine W.bind (R:=λx=>Lo (x.2.1,x.2.2.1,x.2.2.2) (m+250)/\(1≤x.1.length/\(x.1.length:Int)≤ds)/\∀r∈x.1,Rl r2.1 r) ?_ λx hx=>W.ret ⟨hx.1,M9 (by omega) w4 w6 w8 (by omega) (by omega) hx.2.2,rfl,h2.2.1,hx.2.1.2⟩
 refine W.bind (D7 (l:=(r8.2.1,r8.2.2.1,r8.2.2.2)) lo8 (by omega) (by omega) (by omega) (by omega)) λr12 h12=>?_
 refine W.loop (f:=fP k r2) (λq y=>∃j:Nat,y.2.2.2.1.length=j/\y.2.2.2.2=r12.1 - j/\(j:Int)≤r12.1/\q=r12.1.toNat - j/\Lo (y.1,y.2.1,y.2.2.1) (m+10+33 * j)/\∀r∈y.2.2.2.1,Rl r2.1 r) ?_ r12.1.toNat k _ (by omega)
  ⟨0,rfl,by simp,by omega,by omega,h12.2.2.mono (by omega),by simp⟩
 rintro aL q ⟨nums,d,s,out,y⟩ ⟨j,hj,hy,hle,hq,hlo,hr⟩ ih
 simp only at hj hy hlo hr
 subst hy
 unfold fP
 dsimp only
 refine W.ite (λhlt=>?_) (λhge=>W.ret ⟨hlo.mono (by omega),⟨by grind,by grind⟩,hr⟩)
 refine W.bind (R:=λx=>Lo (x.1,x.2.1,x.2.2.1) (m+10+33 * j+33)/\x.2.2.2.length=j+1/\∀r∈x.2.2.2,Rl r2.1 r) ?_ λx15 h15=>?_
 .
  refine W.bind (R:=λx=>Lo (x.1,x.2.1,x.2.2.1) (m+10+33 * j+1)/\(x.2.2.2=true->0 < out.length)) ?_ λx17 h17=>?_
  .refine W.ite (λh0=>?_) (λh0=>W.ret ⟨hlo.mono (by omega),λh=>by cases h⟩);grind [W.bind,ui,W.ret]
  .refine W.ite (λht=>?_) (λht=>?_)
   .have h0:=h17.2 ht;refine W.ck (by omega) (by omega) ?_;have hi:((out.length:Int) - 1)=((out.length - 1:Nat):Int):=by omega
    have hlt':out.length - 1 < out.length:=by omega
    rw [hi,dC hlt',bs];have hrl:=hr _ (List.getElem_mem hlt');have hl5:=hrl.l5 (by omega);have hr3:=hrl.r3;rw [AM (by omega) (by omega) (λx hx=>by grind),bs,cO (by grind [bD]),bs];refine W.ret ⟨h17.1.mono (by omega),by simp [hj],λr hrr=>?_⟩;grind
   .have hc2:((r2.1.toNat:Nat):Int)=r2.1:=by omega
    have:=HA hk (l:=(x17.1,x17.2.1,x17.2.2.1)) (m:=m+10+33 * j+1) (n:=r2.1.toNat) h17.1 (by omega) (by omega);rw [hc2] at this;refine W.bind this λr26 h26=>?_;rw [cO (by grind [bD]),bs];refine W.ret ⟨h26.1.mono (by omega),by simp [hj],λr hrr=>?_⟩;grind
 .
  refine W.ck (by omega) (by omega) ?_;exact ih (q - 1) (_,_,_,_,_) (by omega) ⟨j+1,h15.2.1,by grind,by omega,by omega,h15.1.mono (by omega),h15.2.2⟩
theorem Db{k:Nat}(hk:50≤k){l:bJ}{m:Int}{c:Int}(hl:Lo l m)(hm:0≤m/\m≤900)(hc:1≤c/\c≤5):
 W (kh k l c) λr=>Lo r.2 (m+10)/\Bg c r.1:=by
 unfold kh
 refine W.bind (R:=λx=>Lo (x.2.1,x.2.2.1,x.2.2.2) (m+10)/\Bg c x.1) ?_ λx hx=>W.ret hx
 refine W.loop (f:=fQ k c) (λq y=>∃j:Nat,y.2.2.2.2=(j:Int)/\(j:Int)≤c/\q=c.toNat - j/\Lo (y.1,y.2.1,y.2.2.1) (m+j)/\y.2.2.2.1.length≤j/\(∀x∈y.2.2.2.1,0≤x/\x < (j:Int))/\y.2.2.2.1.Pairwise (· < ·)) ?_ c.toNat k _ (by omega)
  ⟨0,rfl,by omega,by omega,by simp_all,by simp,by simp,by simp⟩
 rintro aL q ⟨nums,d,s,o,y⟩ ⟨j,hj,hle,hq,hlo,hlen,hx,hp⟩ ih
 simp only at hj hlo hlen hx hp
 subst hj
 unfold fQ
 dsimp only
 refine W.ite (λhlt=>?_) (λhge=>W.ret ⟨hlo.mono (by omega),λx hxx=>by grind,hp⟩)
 refine W.bind (R:=λx=>Lo (x.1,x.2.1,x.2.2.1) (m+j+1)/\x.2.2.2.length≤j+1/\(∀z∈x.2.2.2,0≤z/\z < ((j+1:Nat):Int))/\x.2.2.2.Pairwise (· < ·)) ?_ λx5 h5=>?_
 .
  refine W.bind (ui (l:=(nums,d,s)) hlo (by omega) (by omega) (by omega)) λr7 h7=>?_;refine W.ite (λht=>?_) (λht=>W.ret ⟨h7,by grind,λz hz=>by grind,hp⟩);grind [cO,bD,bs,W.ret,List.mem_singleton]
 .
  refine W.ck (by omega) (by omega) ?_;exact ih (q - 1) (_,_,_,_,_) (by omega) ⟨j+1,by grind,by omega,by omega,h5.1.mono (by omega),h5.2⟩
theorem Bg.len{C:Int}(hC:0≤C/\C≤5){b:List Int}(h:Bg C b):b.length≤5:=by
 have:=qJ C.toNat b (h.asc.imp λhab e=>by omega) λx hx=>by have:=h.rng x hx;omega
 omega
theorem Ht{m:ae}{B:Int->Bool}{n:Nat}(h:0≤mC m):((oY m B n).length:Int)=mC m:=by
 unfold oY;grind
theorem pW{m:ae}{B:Int->Bool}:(iI m B).length=(mD m).length+1:=by
 unfold iI;simp_all
theorem Jh{α ε:Type}:∀(l:List α) (j:Nat),eu (λ(_:Unit) _ _=>(.ok ():Except ε Unit)) j l ()= .ok ()
 |[],_=>rfl
 |_::l,j=>Jh l (j+1)
theorem zi{k:Nat}{m:ae}{B:Int->Bool}(v:Vd m)(hk:10≤k):lr k m (iI m B)=some true:=by
 have c1:=v.c1;have d6:=v.d6;unfold lr;have hd:ck ((m.2.2.2.2.1.length:Int)+1)=some (((mD m).length:Int)+1):=cM (by omega) (by grind);rw [hd,bs,if_neg (λhn=>hn (by rw [pW];omega))]
 have key:=mF (T:=Int) (f:=fA k m (iI m B)) (iI m B) (λ(_:Unit) j=>j) (λ_ _ _=>(.ok ():Except Bool Unit)) (λ_ _=>True) (λr=>some r)
  (λn s j hj _=>by
   have hck:ck ((j:Int)+1)=some ((j:Int)+1):=cM (by omega) (by grind [pW]);refine⟨?_,λ_ _=>trivial⟩;have hj2:j≤(mD m).length:=by grind [pW]
   simp only [fA,Int.ofNat_lt,hj,if_true,pX hj2,bs,hck];rw [if_neg (λhn=>hn (Ht (by omega)))])
  (λn s _=>by simp [fA]) (n:=k) (s0:=()) (by rw [pW];omega) trivial
 simp_all [fA,iI,Jh,lU]
end Go.Proofs.YtmbkabgllafffaaGreat
set_option linter.unusedVariables false
set_option linter.unusedSimpArgs false
namespace Go.Proofs.YtmbkabgllafffaaGreat
open K Go Go.Proofs
end Go.Proofs.YtmbkabgllafffaaGreat
set_option linter.unusedVariables false
set_option linter.unusedSimpArgs false
namespace Go.Proofs.YtmbkabgllafffaaGreat
open K Go Go.Proofs
theorem As{k:Nat}{l:bJ}{m:Int}{x:yD}(hl:Lo l m)(hm:0≤m/\m≤900)(hc:1≤x.1/\x.1≤5)(hd:x.2.2.2.2.1.length≤6):
 W (iD k l x) λr=>Lo r.2 (m+3)/\(0≤r.1.1/\r.1.1 < x.1)/\0≤r.1.2.1/\r.1.2.1≤(x.2.2.2.2.1.length:Int):=by
 unfold iD
 grind [W.ck,W.bind,jO,ui,W.ret]
theorem Vd.with{m:ae}(v:Vd m){gs:List bp}(h8:gs.length≤8)(hg:∀g∈gs,0≤g.1/\g.1 < mC m/\0≤g.2.1/\g.2.1≤(mD m).length):Vd (m.1,m.2.1,m.2.2.1,m.2.2.2.1,m.2.2.2.2.1,gs):=
 ⟨v.c1,v.c5,v.w0,v.w3,v.s0,v.s3,v.h1,v.h3,v.d1,v.d6,v.r3,v.l5,v.x5,v.nd,h8,hg⟩
theorem Sm.with{m:ae}(h:Sm m){gs:List bp}(hg:gs.length≤1000):Sm (m.1,m.2.1,m.2.2.1,m.2.2.2.1,m.2.2.2.2.1,gs):=⟨h.d,h.r,hg⟩
end Go.Proofs.YtmbkabgllafffaaGreat
set_option linter.unusedVariables false
set_option linter.unusedSimpArgs false
namespace Go.Proofs.YtmbkabgllafffaaGreat
open K Go Go.Proofs
def jy(C:Nat):Nat->List Int->Nat->List (List Int)
 |0,b,_=>[b]
 |n+1,b,f=>b::(List.range' f (C - f)).flatMap λ(c:Nat)=>jy C n (b++[(c:Int)]) (c+1)
theorem uI{b:List Int}{c:Int}:bf (b++[c])=xA (bf b) c:=by
 unfold bf;simp_all
theorem ve{σ:Type}{k:Nat}{Y:σ->Int->Option (σ×Bool)}{C:Nat}(hC:C≤5)(hk:10≤k)(g:σ->List Int->σ)(vY:Nat->σ->Prop):
 ∀(n m0:Nat) (b:List Int) (f:Nat) (s:σ) (r:Nat),C - f≤n->f≤C->n < m0->jA (bf b)->(∀r s,∀b'∈jy C n b f,vY (r+1) s->Y s (bf b')=some (g s b',true)/\vY r (g s b'))->vY ((jy C n b f).length+r) s->
  de k Y (C:Int) m0 (bf b) (f:Int) s=some (true,(jy C n b f).foldl g s)/\vY r ((jy C n b f).foldl g s)
 |n,0,b,f,s,r,_,_,h,_,_,_=>absurd h (not_lt_zero _)
 |0,m0+1,b,f,s,r,h1,h2,_,hm,hY,hI=>by
  have hf:f=C:=by omega
  subst hf
  unfold de
  obtain⟨k,rfl⟩:∃n,k=n+1:=⟨k - 1,by omega⟩
  have hI:vY (r+1) s:=by rw [Nat.add_comm];exact hI
  have:=hY r s b (by simp [jy]) hI
  rw [this.1,bs,if_neg (by simp)]
  rw [dx,if_neg (Int.lt_irrefl _),lU]
  exact⟨rfl,this.2⟩
 |n+1,m0+1,b,f,s,r,h1,h2,h3,hm,hY,hI=>by
  unfold de
  have hlen:(jy C (n+1) b f).length=((List.range' f (C - f)).flatMap λ(c:Nat)=>jy C n (b++[(c:Int)]) (c+1)).length+1:=by rw [jy,length_cons]
  rw [hlen] at hI
  have h0:=hY (((List.range' f (C - f)).flatMap λ(c:Nat)=>jy C n (b++[(c:Int)]) (c+1)).length+r) s b (by simp [jy]) (by grind)
  rw [h0.1,bs,if_neg (by simp)]
  have loop:∀(d x:Nat) (s:σ) (aL:Nat) (r:Nat),C - x=d->f≤x->x≤C->d < aL->vY (((List.range' x (C - x)).flatMap λ(c:Nat)=>jy C n (b++[(c:Int)]) (c+1)).length+r) s->
   dx k (bf b) (C:Int) (de k Y (C:Int) m0) aL ((x:Int),s)=some (.ok (((List.range' x (C - x)).flatMap λ(c:Nat)=>jy C n (b++[(c:Int)]) (c+1)).foldl g s))/\vY r (((List.range' x (C - x)).flatMap λ(c:Nat)=>jy C n (b++[(c:Int)]) (c+1)).foldl g s):=by
   intro d
   induction d with
   |zero=>
    intro x s aL r hd hx hx2 hfu hI;obtain⟨aL,rfl⟩:∃n,aL=n+1:=⟨aL - 1,by omega⟩;have:x=C:=by omega
    simp_all [Nat.sub_self,dx,if_neg,Int.lt_irrefl]
   |succ d ih=>
    intro x s aL r hd hx hx2 hfu hI;obtain⟨aL,rfl⟩:∃n,aL=n+1:=⟨aL - 1,by omega⟩;have hw:=nL (k:=k) hm (show(0:Int)≤(x:Int) by omega) (show(x:Int) < 8 by omega);have hck:ck ((x:Int)+1)=some (((x+1:Nat):Int)):=by grind [cM]
    have e:C - x=(C - (x+1))+1:=by omega
    rw [e,List.range'_succ,List.flatMap_cons,length_append,Nat.add_assoc] at hI
    have hsub:=ve hC hk g vY n m0 (b++[(x:Int)]) (x+1) s _ (by omega) (by omega) (by omega) (by simp_all [uI]) (λr s b' hb'=>hY r s b' (by
     rw [jy];grind)) hI
    rw [uI] at hsub;have hih:=ih (x+1) _ aL r (by omega) (by omega) (by omega) (by omega) hsub.2;rw [dx,if_pos (show(x:Int) < (C:Int) by omega),hw.1,bs,hck,bs,hsub.1,bs,if_neg (by simp),bs,hih.1];simp_all [List.range'_succ,List.flatMap_cons,List.foldl_append]
  have hl:=loop (C - f) f _ k r rfl (Nat.le_refl _) h2 (by omega) h0.2;rw [hl.1,lU];exact⟨rfl,hl.2⟩
def FK(m:ae)(but:Nat->Bool)(B:Int->Bool):Bool:=(mG m).zipIdx.all λg=>but g.2 || decide (g.1.2.2=decide (mS m≤kP m B g.1.2.1.toNat g.1.1))
theorem xo{α ε:Type}{p:Nat->α->Bool}{e:ε}:∀(l:List α) (j:Nat),eu (λ(_:Unit) j x=>if p j x=true then .ok () else Except.error e) j l ()=if((l.zipIdx j).all λg=>p g.2 g.1)=true then .ok () else .error e
 |[],j=>rfl
 |x::l,j=>by
  rw [eu,zipIdx_cons,all_cons]
  cases h:p j x with
  |true=>simp only [if_true,Bool.true_and];exact xo l (j+1)
  |false=>simp
theorem AB{k:Nat}{m:ae}{S a2:Int}(v:Vd m)(hk:10≤k)(hS:jA S)(ha:jA a2):dp k m S a2=some (FK m (λi=>decide (eA a2 i)) (ji S)):=by
 have g8:=v.g8;have d6:=v.d6;unfold dp gK;rw [pV v hk hS,bs]
 have key:=mF (T:=Int) (f:=cE k m a2 (cr (vA m (ji S)))) (mG m) (λ(_:Unit) j=>j) (λ_ j x=>if(decide (eA a2 j) || decide (x.2.2=decide (mS m≤kP m (ji S) x.2.1.toNat x.1)))=true then .ok () else Except.error ()) (λ_ _=>True) (λr=>some (match r with | .error _=>false | .ok _=>true))
  (λn s j hj _=>by
   have hck:ck ((j:Int)+1)=some ((j:Int)+1):=cM (by omega) (by omega);have hg:=v.gl _ (List.getElem_mem hj);have hj':(j:Int) < (m.2.2.2.2.2.length:Int):=Int.ofNat_lt.2 hj;have hget:aF m.2.2.2.2.2 (j:Int)=some (mG m)[j]:=dC hj;generalize (mG m)[j]=x at *;have c5:=v.c5;have e2:x.2.1=((x.2.1.toNat:Nat):Int):=by omega
   have hrow:aF (cr (vA m (ji S))) x.2.1=some (jQ (vA m (ji S) x.2.1.toNat)):=by
    grind [rl,Int.toNat_natCast]
   have hval:aF (jQ (vA m (ji S) x.2.1.toNat)) x.1=some (kP m (ji S) x.2.1.toNat x.1):=by
    grind [nO,yE]
   refine⟨?_,λ_ _=>trivial⟩;have hm1:m.2.2.1=mS m:=rfl;simp only [cE,hj',if_true,hget,bs,vo (k:=k) ha (i:=j) (by omega),hrow,hval,hm1];grind)
  (λn s _=>by
   unfold cE;simp_all) (n:=k) (s0:=()) (by omega) trivial
 rw [show cE k m a2 (cr (vA m (ji S))) k 0=_ from key,xo (p:=λj (x:bp)=>decide (eA a2 j) || decide (x.2.2=decide (mS m≤kP m (ji S) x.2.1.toNat x.1)))];unfold FK;grind
end Go.Proofs.YtmbkabgllafffaaGreat
set_option linter.unusedVariables false
set_option linter.unusedSimpArgs false
namespace Go.Proofs.YtmbkabgllafffaaGreat
open K Go Go.Proofs
theorem tH{m:ae}(v:Vd m){A B:Int->Bool}(h:∀c,0≤c->c < mC m->A c=B c):∀(n:Nat) (c:Int),0≤c->c < mC m->kP m A n c=kP m B n c
 |0,c,h0,h1=>by simp_all [kP]
 |n+1,c,h0,h1=>by
  have ih:=tH v h n
  unfold kP
  cases e:yK m n c with
  |none=>simp_all
  |some l=>
   have hb:=(vD v e).2
   grind
theorem Df{α:Type}{l:List α}{p q:α->Bool}(h:∀x∈l,p x=q x):l.all p=l.all q:=by
 grind
theorem FI{m:ae}(v:Vd m){but:Nat->Bool}{A B:Int->Bool}(h:∀c,0≤c->c < mC m->A c=B c):FK m but A=FK m but B:=by
 unfold FK;refine Df λg hg=>?_;obtain⟨x,i⟩:=g;have hx:=v.gl x (List.fst_mem_of_mem_zipIdx hg);show(but i || decide (x.2.2=decide (mS m≤kP m A x.2.1.toNat x.1)))=(but i || decide (x.2.2=decide (mS m≤kP m B x.2.1.toNat x.1)));grind [tH]
def kp(m:ae):List (List Int):=jy (mC m).toNat (mC m).toNat [] 0
theorem Eu{C:Nat}:∀(n:Nat) (b:List Int) (f:Nat),Bg (C:Int) b->(∀x∈b,x < (f:Int))->∀b'∈jy C n b f,Bg (C:Int) b'
 |0,b,f,h,_,b',hb=>by
  simp_all [jy,List.mem_singleton]
 |n+1,b,f,h,hf,b',hb=>by
  rw [jy,mem_cons] at hb
  rcases hb with rfl |hb
  .
   exact h
  .
   obtain⟨c,hc,hb⟩:=List.mem_flatMap.1 hb
   rw [List.mem_range'_1] at hc
   refine Eu n (b++[(c:Int)]) (c+1) ⟨λx hx=>?_,?_⟩ (λx hx=>?_) b' hb
   .
    rcases List.mem_append.1 hx with hx |hx
    .
     exact h.rng x hx
    grind
   .
    rw [pairwise_append]
    exact⟨h.asc,by simp,λa ha x hx=>by grind⟩
   grind
theorem sw{m:ae}(v:Vd m){b:List Int}(h:b∈kp m):Bg (mC m) b:=by
 have c1:=v.c1;have:=Eu (C:=(mC m).toNat) (mC m).toNat [] 0 ⟨by simp,by simp⟩ (by simp) b h;grind
theorem nF{m:ae}(v:Vd m):(kp m).length≤32:=by
 have c1:=v.c1;have c5:=v.c5;have:(mC m).toNat=1\/(mC m).toNat=2\/(mC m).toNat=3\/(mC m).toNat=4\/(mC m).toNat=5:=by omega
 unfold kp;rcases this with h |h |h |h |h <;> rw [h] <;> decide
def jL(m:ae)(but:Nat->Bool):List (List Int):=(kp m).filter λb=>FK m but λc=>decide (c∈b)
theorem mT{α β:Type}{p:α->Bool}{h:α->β}:∀(l:List α) (s:List β),l.foldl (λ(s:List β×Bool) b=>(if p b then s.1++[h b] else s.1,false)) (s,false)=(s++(l.filter p).map h,false)
 |[],s=>by simp
 |x::l,s=>by
  rw [foldl_cons,mT l]
  grind
theorem vb{k:Nat}{m:ae}{a2:Int}(v:Vd m)(hk:50≤k)(ha:jA a2):eP k m a2=some ((jL m λi=>decide (eA a2 i)).map bf):=by
 have c1:=v.c1;have c5:=v.c5;unfold eP i8;have hC:m.1=(((mC m).toNat:Nat):Int):=by grind
 have h:=ve (σ:=List Int×Bool) (k:=k) (Y:=oO (λ(y5:(List Int)) (p7:Int)=>(dp k m p7 a2).bind λr9=>if r9=true then((cL (bD (length y5+length [p7]))).bind λ_=>some (y5++[p7],true)) else(some (y5,true)))) (C:=(mC m).toNat) (by omega) (by omega)
  (λs b=>(if FK m (λi=>decide (eA a2 i)) (λc=>decide (c∈b)) then s.1++[bf b] else s.1,false)) (λr s=>s.2=false/\s.1.length+r≤1000) (mC m).toNat k [] 0 ([],false) 0 (by omega) (by omega) (by omega) tV (λr s b' hb' hI=>by
   obtain⟨y,q⟩:=s;obtain⟨rfl,hI⟩:q=false/\y.length+(r+1)≤1000:=hI;have hbg:=sw v hb';have hset:=hbg.set c5;have hex:FK m (λi=>decide (eA a2 i)) (ji (bf b'))=FK m (λi=>decide (eA a2 i)) (λc=>decide (c∈b')):=FI v λc h0 _=>hset.2 c h0;unfold oO;simp only [];rw [AB v (by omega) hset.1 ha,hex,bs];cases FK m (λi=>decide (eA a2 i)) (λc=>decide (c∈b')) with
   |true=>
    simp only [if_true];grind [cO,bD,bs,bf]
   |false=>
    grind) ⟨rfl,by have:=nF v;grind [kp]⟩
 rw [hC,show de k (oO (λ(y5:(List Int)) (p7:Int)=>(dp k m p7 a2).bind λr9=>if r9=true then((cL (bD (length y5+length [p7]))).bind λ_=>some (y5++[p7],true)) else(some (y5,true)))) (((mC m).toNat:Nat):Int) k 0 0 ([],false)=_ from h.1,bs,bs];rw [mT (p:=λb=>FK m (λi=>decide (eA a2 i)) λc=>decide (c∈b)) (h:=bf)];simp only [Bool.false_eq_true,if_false,nil_append];rfl
theorem Jf:∀{a b:List Int},a.Pairwise (· < ·)->b.Pairwise (· < ·)->(∀x,x∈a↔x∈b)->a=b
 |[],[],_,_,_=>rfl
 |[],y::b,_,_,h=>absurd ((h y).2 mem_cons_self) (by simp)
 |x::a,[],_,_,h=>absurd ((h x).1 mem_cons_self) (by simp)
 |x::a,y::b,ha,hb,h=>by
  rw [pairwise_cons] at ha hb
  have e:x=y:=by
   grind [mem_cons_self]
  subst e;rw [Jf ha.2 hb.2 λz=>?_];grind
theorem nN{k:Nat}{C:Int}{b:List Int}(hk:10≤k)(hC:C≤5)(h:Bg C b):fp k (bf b)=some b:=by
 have hset:=h.set hC;unfold fp
 have key:=eU (T:=List Int×Int) (f:=dF k (bf b)) (List.range 5) (λ(s:List Int) j=>(s,j)) (λs j _=>if decide (eA (bf b) j) then s++[(j:Int)] else s) (λj s=>s.length≤j/\s.Pairwise (· < ·)/\∀x,x∈s↔x∈b/\x < (j:Int)) (λs=>some s)
  (λn s j hj hs=>by
   rw [length_range] at hj;have hck:ck ((j:Int)+1)=some ((j:Int)+1):=cM (by omega) (by omega);have hj5:(j:Int) < 5:=by omega
   have hin:=hset.2 (j:Int) (by omega);unfold ji at hin;rw [Int.toNat_natCast] at hin;refine⟨?_,?_⟩
   .simp only [dF,hj5,if_true,vo (k:=k) hset.1 (by omega:j < 8),bs];cases decide (eA (bf b) j) with
    |true=>
     simp only [if_true];rw [cO (by grind [bD]),bs,bs,hck,bs]
    |false=>simp_all
   grind)
  (λn s hs=>by
   simp_all [length_range,dF,if_neg]) (n:=k) (s0:=[]) (by grind) ⟨by simp,by simp,λx=>by simp;intro hx;exact(h.rng x hx).1⟩
 rw [show dF k (bf b) k ([],0)=_ from key.1,bs];have:=key.2;rw [length_range] at this;exact congrArg some (Jf this.2.1 h.asc λx=>by rw [this.2.2 x];exact⟨λhh=>hh.1,λhh=>⟨hh,by have:=h.rng x hh;omega⟩⟩)
end Go.Proofs.YtmbkabgllafffaaGreat
set_option linter.unusedVariables false
set_option linter.unusedSimpArgs false
namespace Go.Proofs.YtmbkabgllafffaaGreat
open K Go Go.Proofs
end Go.Proofs.YtmbkabgllafffaaGreat
set_option linter.unusedVariables false
set_option linter.unusedSimpArgs false
namespace Go.Proofs.YtmbkabgllafffaaGreat
open K Go Go.Proofs
def fa:Nat->Bool:=λ_=>false
theorem Ro:(λi=>decide (eA 0 i))=fa:=by
 grind [fa,eA]
theorem yB{m:ae}(v:Vd m){but:Nat->Bool}{b:List Int}(h:b∈jL m but):Bg (mC m) b:=sw v (List.mem_filter.1 h).1
theorem vv{m:ae}(v:Vd m){but:Nat->Bool}:(jL m but).length≤32:=Nat.le_trans (List.length_filter_le _ _) (nF v)
theorem IE{k:Nat}{C:Int}(hC:C≤5)(hk:50≤k){L:List (List Int)}(hL:∀b∈L,Bg C b)(hl:L.length≤40):eL k (L.map bf) k ([],0)=some L:=by
 have key:=eU (T:=List (List Int)×Int) (f:=eL k (L.map bf)) L (λ(s:List (List Int)) j=>(s,j)) (λs _ b=>s++[b]) (λj s=>s=L.take j) (λs=>some s)
  (λn s j hj hs=>by
   have hck:ck ((j:Int)+1)=some ((j:Int)+1):=cM (by omega) (by omega);have hls:s.length=j:=by grind
   have hg:aF (L.map bf) (j:Int)=some (bf L[j]):=by simp_all [aF,if_pos,Int.toNat_natCast,List.getElem?_map,List.getElem?_eq_getElem]
   have hj':(j:Int) < ((L.map bf).length:Int):=by simp_all
   have hok:cL (bD (length s+length [L[j]]))=some ():=cO (by grind [bD]);refine⟨?_,?_⟩
   .simp only [eL,hj',if_true,hg,bs,nN (k:=k) (by omega) hC (hL _ (List.getElem_mem hj)),hok,hck]
   simp_all)
  (λn s hs=>by
   unfold eL;simp_all) (n:=k) (s0:=[]) (by omega) (by simp)
 simp_all
theorem CE{k:Nat}{m:ae}(hs:Sm m)(hk:1010≤k):iU k m=some (if¬(mU m=0) then([],mU m) else(jL m fa,0)):=by
 unfold iU;rw [u4 hs hk (by simp) (by simp) (by simp) (by simp),bs];by_cases hc:mU m=0
 .have v:=Vd.of hc;have hb:tG (mC m) []=0:=nD.2 ⟨by simp,by simp⟩;have ho:NQ m [] [] []=true:=rfl;simp only [hc,hb,ho,not_true_eq_false,if_false,if_true,pY];rw [vb v (by omega) tV,bs,Ro,IE v.c5 (by omega) (λb h=>yB v h) (by grind [vv,fa]),bs]
 simp_all [not_false_eq_true,if_true,mJ]
end Go.Proofs.YtmbkabgllafffaaGreat
set_option linter.unusedVariables false
set_option linter.unusedSimpArgs false
namespace Go.Proofs.YtmbkabgllafffaaGreat
open K Go Go.Proofs
theorem Fq{k:Nat}{m:ae}{cs ds ns:List Int}(hs:Sm m)(hk:1010≤k)(h1:cs.length≤1000)(h2:ds.length≤1000)(h3:ns.length≤1000):
 jG k m cs ds ns=some (if¬(mU m=0) then(none,[],mU m) else if¬(NQ m cs ds ns=true) then(none,[],3) else if(jL m fa).length=0 then(none,[],9) else(some m,(jL m fa).map bf,0)):=by
 unfold jG
 rw [u4 hs hk (by simp) h1 h2 h3,bs]
 by_cases hc:mU m=0
 .
  have v:=Vd.of hc;have hb:tG (mC m) []=0:=nD.2 ⟨by simp,by simp⟩;by_cases ho:NQ m cs ds ns=true
  .simp only [hc,hb,ho,not_true_eq_false,if_false,if_true,pY];rw [vb v (by omega) tV,bs,Ro];grind
  simp_all [not_true_eq_false,not_false_eq_true,if_false,if_true,mJ,Bool.false_eq_true,if_pos]
 simp_all [not_false_eq_true,if_true,mJ]
def oe(b:List Int)(L:List (List Int)):List Int:=L.foldl (λs x=>if x.length < s.length then x else s) b
theorem IY{b:List Int}:∀{L:List (List Int)},oe b L=b\/oe b L∈L:=by
 intro L
 induction L generalizing b with
 |nil=>exact .inl rfl
 |cons x L ih=>
  show oe (if x.length < b.length then x else b) L=b\/_;split
  .simp_all [oe,if_pos,mem_cons_self,mem_cons_of_mem]
  .rcases ih (b:=b) with h |h
   .grind
   simp_all [oe,if_neg,mem_cons_of_mem]
theorem xn:∀(L:List (List Int)) (j:Nat) (s:List Int),kO (λs _ x=>if x.length < s.length then x else s) j L s=oe s L
 |[],_,_=>rfl
 |x::L,j,s=>by rw [kO,xn L (j+1)];rfl
theorem CZ{k:Nat}{C:Int}{a b:List Int}(hk:10≤k)(hC:0≤C/\C≤5)(ha:Bg C a)(hb:Bg C b):mP k (bf a) (bf b)=some ((a.length:Int) - b.length):=by
 have la:=ha.len hC;have lb:=hb.len hC;unfold mP nW;rw [nN hk hC.2 ha,bs,bs,nN hk hC.2 hb,bs,bs,cM (by omega) (by omega),bs]
theorem CX{k:Nat}{C:Int}(hk:50≤k)(hC:0≤C/\C≤5){b:List Int}{L:List (List Int)}(hb:Bg C b)(hL:∀x∈L,Bg C x)(hl:L.length≤40):pj k ((b::L).map bf)=some (bf (oe b L)):=by
 unfold pj nh;rw [if_neg (by simp;omega)];have g0:aF ((b::L).map bf) (0:Int)=some (bf b):=rfl;rw [g0,bs]
 have key:=eU (T:=Int×Int) (f:=dD k ((b::L).map bf)) L (λ(s:List Int) j=>(bf s,j+1)) (λs _ x=>if x.length < s.length then x else s) (λ_ s=>Bg C s) (λs=>some (bf s))
  (λn s j hj hs=>by
   have hck:ck ((j:Int)+1+1)=some ((j:Int)+1+1):=cM (by omega) (by omega);have hx:=hL _ (List.getElem_mem hj)
   have hg:aF ((b::L).map bf) ((j:Int)+1)=some (bf L[j]):=by
    have:((j:Int)+1)=((j+1:Nat):Int):=by omega
    rw [this,aF,if_pos (by omega),Int.toNat_natCast,List.getElem?_map,getElem?_cons_succ,List.getElem?_eq_getElem hj];rfl
   have hlt:(j:Int)+1 < (((b::L).map bf).length:Int):=by simp_all
   refine⟨?_,?_⟩
   .simp only [dD,hlt,if_true,hg,bs,CZ (k:=k) (by omega) hC hx hs];grind
   grind)
  (λn s hs=>by
   unfold dD;simp_all) (n:=k) (s0:=b) (by omega) hb
 simp_all [dD,bf,bs,xn]
end Go.Proofs.YtmbkabgllafffaaGreat
set_option linter.unusedVariables false
set_option linter.unusedSimpArgs false
namespace Go.Proofs.YtmbkabgllafffaaGreat
open K Go Go.Proofs
end Go.Proofs.YtmbkabgllafffaaGreat
set_option linter.unusedVariables false
set_option linter.unusedSimpArgs false
namespace Go.Proofs.YtmbkabgllafffaaGreat
open K Go Go.Proofs
def NV(m:ae)(gs:List bp):ae:=(m.1,m.2.1,m.2.2.1,m.2.2.2.1,m.2.2.2.2.1,gs)
theorem Em{m:ae}{gs:List bp}{c:Int}:∀d:Nat,nC (NV m gs) c d=nC m c d
 |0=>rfl
 |d+1=>by rw [nC,nC,Em d];rfl
theorem yO{m:ae}{gs:List bp}{B:Int->Bool}:∀(n:Nat) (c:Int),kP (NV m gs) B n c=kP m B n c
 |0,c=>rfl
 |n+1,c=>by
  rw [kP,kP,show yK (NV m gs) n c=yK m n c from rfl,Em,yO n c]
  cases yK m n c with
  |none=>rfl
  |some l=>
   have:(λx=>decide (mW (NV m gs)≤kP (NV m gs) B n x))=λx=>decide (mW m≤kP m B n x):=by
    funext x;rw [yO n x];rfl
   simp_all
theorem AW{C:Nat}:∀(t:List Int) (n:Nat) (b:List Int) (f:Nat),C - f≤n->(∀x∈t,(f:Int)≤x/\x < C)->t.Pairwise (· < ·)->b++t∈jy C n b f
 |[],0,b,f,_,_,_=>by simp [jy]
 |[],n+1,b,f,_,_,_=>by simp [jy]
 |x::t,0,b,f,h,hx,_=>by grind [mem_cons_self]
 |x::t,n+1,b,f,h,hx,hp=>by
  have h0:=hx x (mem_cons_self ..)
  rw [pairwise_cons] at hp
  rw [jy]
  refine mem_cons_of_mem _ (List.mem_flatMap.2 ⟨x.toNat,by grind,?_⟩)
  have:=AW t n (b++[((x.toNat:Nat):Int)]) (x.toNat+1) (by omega) (λy hy=>⟨by grind,(hx y (mem_cons_of_mem _ hy)).2⟩) hp.2
  grind
theorem AX{m:ae}{b:List Int}(h:Bg (mC m) b):b∈kp m:=by
 have:=AW (C:=(mC m).toNat) b (mC m).toNat [] 0 (by omega) (λx hx=>by have:=h.rng x hx;omega) h.asc;exact this
def SO(m:ae)(B:Int->Bool)(g:bp):Prop:=g.2.2=decide (mS m≤kP m B g.2.1.toNat g.1)
theorem FH{m:ae}{B:Int->Bool}(h:∀g∈mG m,SO m B g):FK m fa B=true:=by
 unfold FK;rw [List.all_eq_true];intro g hg;have:g.1∈mG m:=List.fst_mem_of_mem_zipIdx hg;simp only [fa,Bool.false_or];exact decide_eq_true (h _ this)
theorem KR{k:Nat}(hk:1010≤k){l:bJ}{m0:Int}(hl:Lo l m0)(hm:0≤m0/\m0≤400):
 W (nu k l) λr=>∃(m:ae) (b:List Int) (l':bJ),r=(m,b,iI m λc=>decide (c∈b),true,l')/\Vd m/\Bg (mC m) b/\Lo l' (m0+300)/\mC m≤4/\((mD m).length:Int)≤4/\(mG m).length≤4/\b∈jL m fa:=by
 unfold nu
 refine W.bind (Cj (by omega) (l:=(l.1,l.2.1,l.2.2)) hl hm (by omega) (by omega)) λr2 h2=>?_
 obtain⟨lo2,v,hg,hcs,hds⟩:=h2
 have c1:=v.c1
 have c5:=v.c5
 have d6:=v.d6
 refine W.bind (Db (by omega) (l:=(r2.2.1,r2.2.2.1,r2.2.2.2)) (c:=r2.1.1) lo2 (by omega) ⟨c1,c5⟩) λr4 h4=>?_
 obtain⟨lo4,hb⟩:=h4
 have l4:=hb.len ⟨by omega,c5⟩
 have eta:(r2.1.1,r2.1.2.1,r2.1.2.2.1,r2.1.2.2.2.1,r2.1.2.2.2.2.1,([]:List bp))=r2.1:=by
  grind
 rw [eta,va v.sm hk (by omega),bs,v.chk,nD.2 hb]
 simp only [not_true_eq_false,if_false]
 rw [zi v (by omega),bs]
 simp only [Bool.not_true,bs,Bool.false_eq_true,if_false]
 let B:Int->Bool:=λc=>decide (c∈r4.1)
 refine W.bind (R:=λx=>Lo (x.2.1,x.2.2.1,x.2.2.2) (m0+300)/\x.1.length≤4/\∀g∈x.1,(0≤g.1/\g.1 < mC r2.1/\0≤g.2.1/\g.2.1≤(mD r2.1).length)/\SO r2.1 B g) ?_ λx hx=>?_
 .
  refine W.bind (jO (l:=(r4.2.1,r4.2.2.1,r4.2.2.2)) lo4 (by omega) (by omega)) λr6 h6=>?_;have b6:=h6.2.1 (by omega)
  refine W.loop (f:=i9 k r2 (iI r2.1 B,0)) (λq y=>∃j:Nat,y.2.2.2.1.length=j/\y.2.2.2.2=r6.1 - j/\(j:Int)≤r6.1/\q=r6.1.toNat - j/\Lo (y.1,y.2.1,y.2.2.1) (m0+261+3 * j)/\∀g∈y.2.2.2.1,(0≤g.1/\g.1 < mC r2.1/\0≤g.2.1/\g.2.1≤(mD r2.1).length)/\SO r2.1 B g) ?_ r6.1.toNat k _ (by omega)
   ⟨0,rfl,by simp,by omega,by omega,h6.2.2.mono (by omega),by simp⟩
  rintro aL q ⟨nums,d,s,out,y⟩ ⟨j,hj,hy,hle,hq,hlo,hr⟩ ih;simp only at hj hy hlo hr;subst hy;unfold i9;dsimp only;refine W.ite (λhlt=>?_) (λhge=>W.ret ⟨hlo.mono (by omega),by grind,hr⟩);refine W.bind (As (l:=(nums,d,s)) (x:=(r2.1.1,r2.1.2.1,r2.1.2.2.1,r2.1.2.2.2.1,r2.1.2.2.2.2.1,())) hlo (by omega) ⟨c1,c5⟩ d6) λr9 h9=>?_;obtain⟨n9,e9⟩:∃n9:Nat,r9.1.2.1=n9:=⟨r9.1.2.1.toNat,by omega⟩;have hn9:n9≤(mD r2.1).length:=by grind
  rw [e9,pX hn9,bs,uL h9.2.1.1 h9.2.1.2,bs,cO (by grind [bD]),bs];refine W.ck (by omega) (by omega) ?_;refine ih (q - 1) (_,_,_,_,_) (by omega) ⟨j+1,by simp [hj],by grind,by omega,by omega,h9.1.mono (by omega),λg hgg=>?_⟩;rcases List.mem_append.1 hgg with h |h
  .grind
  .rw [List.mem_singleton.1 h];exact⟨⟨h9.2.1.1,h9.2.1.2,by grind,by grind⟩,rfl⟩
 .
  have vm:Vd (NV r2.1 x.1):=v.with (by omega) λg h=>(hx.2.2 g h).1
  have hcr:iI r2.1 B=iI (NV r2.1 x.1) B:=by
   unfold iI oY;refine List.map_congr_left λn _=>List.map_congr_left λc _=>?_;simp_all [yO]
  refine W.ret ⟨NV r2.1 x.1,r4.1,(x.2.1,x.2.2.1,x.2.2.2),?_,vm,hb,hx.1,hcs,hds,hx.2.1,?_⟩
  .rw [<-hcr];rfl
  .unfold jL;rw [List.mem_filter];refine⟨AX hb,FH λg h=>?_⟩;unfold SO;rw [yO];exact(hx.2.2 g h).2
end Go.Proofs.YtmbkabgllafffaaGreat
set_option linter.unusedVariables false
set_option linter.unusedSimpArgs false
namespace Go.Proofs.YtmbkabgllafffaaGreat
open K Go Go.Proofs
def Ed(D:List (List (List Int)))(d:Int)(S:Int->Bool):List (List (List Int)):=D.mapIdx λj r=>r.map λl=>l.filter λn=>decide ((j:Int) < d) || !S n
def frz(m:ae)(d:Int)(S:Int->Bool):ae:=(m.1,m.2.1,m.2.2.1,m.2.2.2.1,Ed (mD m) d S,m.2.2.2.2.2)
theorem nY{α β:Type}{f:Nat->α->β}{l:List α}{y:β}(h:y∈l.mapIdx f):∃i x,x∈l/\y=f i x:=by
 grind
theorem IS{m:ae}(v:Vd m){d:Int}{S:Int->Bool}:Vd (frz m d S):=by
 refine⟨v.c1,v.c5,v.w0,v.w3,v.s0,v.s3,v.h1,v.h3,?_,?_,λr hr=>?_,λr hr l hl=>?_,λr hr l hl x hx=>?_,λr hr=>?_,v.g8,λg hg=>?_⟩
 .show 1≤(Ed (mD m) d S).length;rw [Ed,List.length_mapIdx];exact v.d1
 .show(Ed (mD m) d S).length≤6;rw [Ed,List.length_mapIdx];exact v.d6
 .obtain⟨i,q,hq,rfl⟩:=nY hr;rw [length_map];exact v.r3 q hq
 .obtain⟨i,q,hq,rfl⟩:=nY hr;obtain⟨l',hl',rfl⟩:=List.mem_map.1 hl;exact Nat.le_trans (List.length_filter_le _ _) (v.l5 q hq l' hl')
 .obtain⟨i,q,hq,rfl⟩:=nY hr;obtain⟨l',hl',rfl⟩:=List.mem_map.1 hl;exact v.x5 q hq l' hl' x (List.mem_filter.1 hx).1
 .obtain⟨i,q,hq,rfl⟩:=nY hr;rw [<-List.filter_flatten];exact(v.nd q hq).filter _
 .have:=v.gl g hg;refine⟨this.1,this.2.1,this.2.2.1,?_⟩;show g.2.1≤((Ed (mD m) d S).length:Int);simp_all [Ed,List.length_mapIdx]
theorem yu{m:ae}{d:Int}{S:Int->Bool}:(mD (frz m d S)).length=(mD m).length:=by
 show(Ed (mD m) d S).length=_;rw [Ed,List.length_mapIdx]
theorem FD{m:ae}(v:Vd m){d:Int}{S T:Int->Bool}(h:∀c,0≤c->c < mC m->S c=T c):frz m d S=frz m d T:=by
 unfold frz
 have:Ed (mD m) d S=Ed (mD m) d T:=by
  unfold Ed;refine List.ext_getElem (by simp) λi h1 h2=>?_;rw [List.getElem_mapIdx,List.getElem_mapIdx];refine List.map_congr_left λl hl=>List.filter_congr λx hx=>?_;have:=v.x5 _ (List.getElem_mem (by simp_all)) l hl x hx;simp_all
 rw [this]
theorem nz{α β:Type}{F:Nat->α->β}:∀(l:List α) (i:Nat) (s:List β),kO (λ(s:List β) j x=>s++[F j x]) i l s=s++l.mapIdx λj x=>F (j+i) x
 |[],_,s=>by simp [kO]
 |x::l,i,s=>by
  rw [kO,nz l (i+1),List.mapIdx_cons,List.append_assoc,Nat.zero_add]
  grind
theorem qZ{p:Int->Bool}:∀(l:List Int) (j:Nat) (s:List Int),kO (λ(s:List Int) _ x=>if p x=true then s++[x] else s) j l s=s++l.filter p
 |[],_,s=>by simp [kO]
 |x::l,j,s=>by
  rw [kO,qZ l,List.filter_cons]
  grind
theorem CB{k:Nat}{m:ae}{d S:Int}(v:Vd m)(hk:50≤k)(hS:jA S):iT k m d S=some (some (frz m d (ji S))):=by
 have c5:=v.c5;have d6:=v.d6;unfold iT
 have l3:∀(y:(List (List (List Int)))×Int) (l:List Int),l.length≤5->(∀x∈l,0≤x/\x < mC m)->dZ k d S y l k ([],0)=some (l.filter λn=>decide (y.2 < d) || !ji S n):=λy l hl hx=>by
  have key:=eU (T:=(List Int)×Int) (f:=dZ k d S y l) l (λ(s:List Int) j=>(s,j)) (λ(s:List Int) _ x=>if(decide (y.2 < d) || !ji S x)=true then s++[x] else s) (λj s=>s.length≤j) (λs=>some s)
   (λn s j hj hs=>by
    have hck:ck ((j:Int)+1)=some ((j:Int)+1):=cM (by omega) (by omega);have hxx:=hx _ (List.getElem_mem hj);have hok:bD (length s+length [l[j]]):=OU (n:=50) (by omega) (by omega)
    have hh:eI k S l[j]=some (ji S l[j]):=by
     have:=vo (k:=k) hS (i:=l[j].toNat) (by omega);rw [show((l[j].toNat:Nat):Int)=l[j] by omega] at this;exact this
    refine⟨?_,?_⟩
    .rw [dZ,if_pos (by omega),dC hj,bs];by_cases h1:y.2 < d
     .simp_all [if_pos,bs,cO]
     .rw [if_neg h1,hh,bs,bs];cases h2:ji S l[j] with
      |true=>grind
      |false=>simp_all [if_pos,cO,bs]
    grind)
   (λn s _=>by rw [dZ,if_neg (Int.lt_irrefl _)]) (n:=k) (s0:=[]) (by omega) (Nat.le_refl 0)
  grind [dZ,qZ]
 have l2:∀(y:(List (List (List Int)))×Int) (r:List (List Int)),r.length≤3->(∀l∈r,l.length≤5)->(∀l∈r,∀x∈l,0≤x/\x < mC m)->d4 k d S y r k ([],0)=some (r.map λl=>l.filter λn=>decide (y.2 < d) || !ji S n):=λy r hr hl hx=>by
  have key:=eU (T:=(List (List Int))×Int) (f:=d4 k d S y r) r (λ(s:List (List Int)) j=>(s,j)) (λ(s:List (List Int)) j l=>s++[(λ(_:Nat) (l:List Int)=>l.filter λn=>decide (y.2 < d) || !ji S n) j l]) (λj s=>s.length=j) (λs=>some s)
   (λn s j hj hs=>by
    have hck:ck ((j:Int)+1)=some ((j:Int)+1):=cM (by omega) (by omega);have hok:∀q:List Int,bD (length s+length [q]):=λq=>OU (n:=50) (by omega) (by omega);refine⟨?_,by simp [hs]⟩;rw [d4,if_pos (by omega),dC hj,bs,l3 y r[j] (hl _ (List.getElem_mem hj)) (hx _ (List.getElem_mem hj)),bs,cO (hok _),bs,bs,hck,bs])
   (λn s _=>by rw [d4,if_neg (Int.lt_irrefl _)]) (n:=k) (s0:=[]) (by omega) rfl
  rw [show d4 k d S y r k ([],0)=_ from key.1,nz,nil_append];congr 1;refine List.ext_getElem (by simp) λi h1 h2=>?_;simp_all
 have key:=eU (T:=(List (List (List Int)))×Int) (f:=eJ k m d S) (mD m) (λ(s:List (List (List Int))) j=>(s,j)) (λs j r=>s++[(λ(j:Nat) (r:List (List Int))=>r.map λl=>l.filter λn=>decide ((j:Int) < d) || !ji S n) j r]) (λj s=>s.length=j) (λs=>some s)
  (λn s j hj hs=>by
   have hck:ck ((j:Int)+1)=some ((j:Int)+1):=cM (by omega) (by omega);have hm:=List.getElem_mem hj;have hok:∀q:List (List Int),bD (length s+length [q]):=λq=>OU (n:=50) (by omega) (by omega);refine⟨?_,by simp [hs]⟩;rw [eJ,if_pos (by simp_all),show m.2.2.2.2.1=mD m from rfl,dC hj,bs,l2 (s,(j:Int)) (mD m)[j] (v.r3 _ hm) (v.l5 _ hm) (v.x5 _ hm),bs,cO (hok _),bs,bs,hck,bs])
  (λn s _=>by rw [eJ,if_neg (Int.lt_irrefl _)]) (n:=k) (s0:=[]) (by omega) rfl
 rw [show eJ k m d S k ([],0)=_ from key.1,nz,nil_append,bs];rfl
theorem BM{k:Nat}{m:ae}{d:Int}{t:List Int}(v:Vd m)(hk:50≤k)(ht:t.length≤40):lF k m d t=some (frz m d λn=>decide (n∈t)):=by
 have c5:=v.c5;have d6:=v.d6;unfold lF
 have l3:∀(y:(List (List (List Int)))×Int) (w:(List (List Int))×Int) (r:List (List Int)) (l:List Int),aF (mD m) y.2=some r->aF r w.2=some l->l.length≤5->dV k m d t y w k ([],0)=some (l.filter λn=>decide (y.2 < d) || !decide (n∈t)):=λy w r l hr hw hl=>by
  have hr':aF m.2.2.2.2.1 y.2=some r:=hr
  have key:=eU (T:=(List Int)×Int) (f:=dV k m d t y w) l (λ(s:List Int) j=>(s,j)) (λ(s:List Int) _ x=>if(decide (y.2 < d) || !decide (x∈t))=true then s++[x] else s) (λj s=>s.length≤j) (λs=>some s)
   (λn s j hj hs=>by
    have hck:ck ((j:Int)+1)=some ((j:Int)+1):=cM (by omega) (by omega);have hok:bD (length s+length [l[j]]):=OU (n:=50) (by omega) (by omega);have hh:pI k t l[j]=some (decide (l[j]∈t)):=KT (by omega) (by omega);refine⟨?_,?_⟩
    .rw [dV,hr',bs,hw,bs,if_pos (by omega)];simp only [bs,hw,dC hj,hh];by_cases h1:y.2 < d
     .simp_all [if_pos,bs,cO]
     .rw [if_neg h1,bs];by_cases h2:l[j]∈t
      .grind
      simp_all [if_pos,cO,bs]
    grind)
   (λn s _=>by simp_all [dV,bs,if_neg,Int.lt_irrefl]) (n:=k) (s0:=[]) (by omega) (Nat.le_refl 0)
  grind [dV,qZ]
 have l2:∀(y:(List (List (List Int)))×Int) (r:List (List Int)),aF (mD m) y.2=some r->r.length≤3->(∀l∈r,l.length≤5)->dW k m d t y k ([],0)=some (r.map λl=>l.filter λn=>decide (y.2 < d) || !decide (n∈t)):=λy r hy hr hl=>by
  have hy':aF m.2.2.2.2.1 y.2=some r:=hy
  have key:=eU (T:=(List (List Int))×Int) (f:=dW k m d t y) r (λ(s:List (List Int)) j=>(s,j)) (λ(s:List (List Int)) j l=>s++[(λ(_:Nat) (l:List Int)=>l.filter λn=>decide (y.2 < d) || !decide (n∈t)) j l]) (λj s=>s.length=j) (λs=>some s)
   (λn s j hj hs=>by
    have hck:ck ((j:Int)+1)=some ((j:Int)+1):=cM (by omega) (by omega);have hok:∀q:List Int,bD (length s+length [q]):=λq=>OU (n:=50) (by omega) (by omega);simp_all [dW,bs,if_pos,dC,List.getElem_mem,cO])
   (λn s _=>by rw [dW,hy',bs,if_neg (Int.lt_irrefl _)]) (n:=k) (s0:=[]) (by omega) rfl
  rw [show dW k m d t y k ([],0)=_ from key.1,nz,nil_append];congr 1;refine List.ext_getElem (by simp) λi h1 h2=>?_;simp_all
 have key:=eU (T:=(List (List (List Int)))×Int) (f:=eH k m d t) (mD m) (λ(s:List (List (List Int))) j=>(s,j)) (λs j r=>s++[(λ(j:Nat) (r:List (List Int))=>r.map λl=>l.filter λn=>decide ((j:Int) < d) || !decide (n∈t)) j r]) (λj s=>s.length=j) (λs=>some s)
  (λn s j hj hs=>by
   have hck:ck ((j:Int)+1)=some ((j:Int)+1):=cM (by omega) (by omega);have hm:=List.getElem_mem hj;have hok:∀q:List (List Int),bD (length s+length [q]):=λq=>OU (n:=50) (by omega) (by omega);refine⟨?_,by simp [hs]⟩;rw [eH,if_pos (by simp_all),l2 (s,(j:Int)) (mD m)[j] (dC hj) (v.r3 _ hm) (v.l5 _ hm),bs,cO (hok _),bs,bs,hck,bs])
  (λn s _=>by rw [eH,if_neg (Int.lt_irrefl _)]) (n:=k) (s0:=[]) (by omega) rfl
 rw [show eH k m d t k ([],0)=_ from key.1,nz,nil_append,bs];rfl
def Ha(m:ae)(B:Int->Bool)(n:Nat):Bool:=(List.range (mC m).toNat).any λ(c:Nat)=>decide (kP m B n c < 0) && decide (0≤kP m B (n+1) c)
def sL(m:ae)(B:Int->Bool)(d:Nat):Bool:=(List.range' d ((mD m).length - d)).any λn=>Ha m B n
theorem pS{p:Nat->Bool}{ε:Type}{e:ε}{d N k:Nat}{f:Nat->Int->Option (Except ε Unit)}(hd:d≤N)(hk:N < k)
 (step:∀(n j:Nat),d≤j->j < N->f (n+1) (j:Int)=if p j=true then some (.error e) else f n ((j:Int)+1)) (stop:∀n,f (n+1) (N:Int)=some (.ok ())):f k (d:Int)=some (if(List.range' d (N - d)).any p=true then .error e else .ok ()):=by
 have gen:∀(n j k:Nat),N - j=n->d≤j->j≤N->n < k->f k (j:Int)=some (if(List.range' j n).any p=true then .error e else .ok ()):=by
  intro n
  induction n with
  |zero=>
   intro j k h1 h2 h3 h4;obtain⟨k,rfl⟩:∃q,k=q+1:=⟨k - 1,by omega⟩;grind
  |succ n ih=>
   intro j k h1 h2 h3 h4;obtain⟨k,rfl⟩:∃q,k=q+1:=⟨k - 1,by omega⟩;rw [step k j h2 (by omega),List.range'_succ,any_cons];cases h:p j with
   |true=>simp
   |false=>
    simp only [Bool.false_eq_true,if_false,Bool.false_or];exact ih (j+1) k (by omega) (by omega) (by omega) (by omega)
 grind
theorem QF{F:Nat->Int->Int}{n:Nat}(h:∀c:Int,0≤c->c < 5-> -1≤F n c/\F n c < 1000000):uM (jQ (F n)):=by
 refine⟨rfl,λx hx=>?_⟩;simp only [jQ,mem_cons,not_mem_nil,or_false] at hx;grind
theorem MU{m:ae}(v:Vd m){B:Int->Bool}:∀(n:Nat) (c:Int),0≤c-> -1≤Gx m B n c/\Gx m B n c≤3+n:=by
 intro n c h0
 by_cases h1:c < mC m
 .rw [uq v n c h0 h1];exact⟨Dj v.w0,Di v.w3⟩
 .have w0:=v.w0;have w3:=v.w3
  induction n with
  |zero=>grind [Gx]
  |succ n ih=>
   have:Gx m B (n+1) c=Gx m B n c:=by
    rw [Gx];unfold O0;omega
   omega
theorem zZ{k:Nat}{m:ae}{b:List Int}{d:Nat}(v:Vd m)(hk:50≤k)(hb:Bg (mC m) b)(hd:d≤(mD m).length):fu k m (bf b) (d:Int)=some (sL m (λc=>decide (c∈b)) d):=by
 have hs:=hb.set v.c5;have c1:=v.c1;have c5:=v.c5;have d6:=v.d6;unfold fu;rw [pV v (by omega) hs.1,bs]
 have hage:∀(n:Nat) (c:Int),n≤(mD m).length->0≤c->c < mC m->vA m (ji (bf b)) n c=kP m (λc=>decide (c∈b)) n c:=λn c hn h0 h1=>by
  grind [yE,tH]
 have hG:∀n,n≤(mD m).length->uM (jQ (vA m (ji (bf b)) n)):=λn hn=>by
  refine QF λc h0 h1=>?_;unfold vA;rw [if_pos hn];have:=MU v (B:=ji (bf b)) n c h0;omega
 have h2:∀(j:Nat),j < (mD m).length->bW k m (cr (vA m (ji (bf b)))) (j:Int) k 0=some (if Ha m (λc=>decide (c∈b)) j=true then .error true else .ok ()):=λj hj=>by
  have hck0:ck ((j:Int)+1)=some (((j+1:Nat):Int)):=cM (by omega) (by omega)
  have:=pS (p:=λc=>decide (kP m (λc=>decide (c∈b)) j c < 0) && decide (0≤kP m (λc=>decide (c∈b)) (j+1) c)) (e:=true) (d:=0) (N:=(mC m).toNat) (k:=k) (f:=bW k m (cr (vA m (ji (bf b)))) (j:Int)) (by omega) (by omega)
   (λn c _ hc=>by
    have hck:ck ((c:Int)+1)=some ((c:Int)+1):=cM (by omega) (by omega);have hc':(c:Int) < mC m:=by omega
    rw [bW,if_pos hc',rl (by omega),bs,nO (by omega) (by omega),bs,hage j c (by omega) (by omega) hc',hck0,bs,rl (by omega),bs,nO (by omega) (by omega),bs,hage (j+1) c (by omega) (by omega) hc'];by_cases h:kP m (λc=>decide (c∈b)) j c < 0
    .rw [if_pos h,bs];by_cases h0:0≤kP m (λc=>decide (c∈b)) (j+1) c
     .have e0:kP m (λc=>decide (c∈b)) (j+1) c=0:=by
       rw [kP] at h0⊢;grind
      simp_all
     grind
    grind)
   (λn=>by rw [bW,if_neg (by grind)])
  rw [show bW k m (cr (vA m (ji (bf b)))) (j:Int) k 0=_ from this,Nat.sub_zero,<-List.range_eq_range'];rfl
 have:=pS (p:=λn=>Ha m (λc=>decide (c∈b)) n) (e:=true) (d:=d) (N:=(mD m).length) (k:=k) (f:=cU k m (cr (vA m (ji (bf b))))) hd (by omega)
  (λn j hdj hj=>by
   have hck:ck ((j:Int)+1)=some (((j+1:Nat):Int)):=cM (by omega) (by omega);rw [cU,if_pos (by simp_all),hck,bs,rl (by omega),bs,rl (by omega),bs,cO ⟨hG _ (by omega),hG _ (by omega)⟩,bs];by_cases he:jQ (vA m (ji (bf b)) (j+1))=jQ (vA m (ji (bf b)) j)
   .rw [if_pos he,lU,bs,if_neg]
    .rfl
    .unfold Ha;rw [List.any_eq_true];rintro⟨c,hc,h⟩;rw [List.mem_range] at hc;rw [Bool.and_eq_true,decide_eq_true_iff,decide_eq_true_iff] at h;have g1:=nO (f:=vA m (ji (bf b)) (j+1)) (c:=(c:Int)) (by omega) (by omega);have g2:=nO (f:=vA m (ji (bf b)) j) (c:=(c:Int)) (by omega) (by omega);rw [he,g2] at g1;have:=Option.some.inj g1;rw [hage j c (by omega) (by omega) (by omega),hage (j+1) c (by omega) (by omega) (by omega)] at this;omega
   .rw [if_neg he,h2 j hj];cases Ha m (λc=>decide (c∈b)) j with
    |true=>simp_all [if_pos,nE]
    |false=>simp_all [if_neg,lU,bs])
  (λn=>by simp_all [cU,if_neg,mD])
 rw [this];unfold sL;cases(List.range' d ((mD m).length - d)).any λn=>Ha m (λc=>decide (c∈b)) n <;> rfl
