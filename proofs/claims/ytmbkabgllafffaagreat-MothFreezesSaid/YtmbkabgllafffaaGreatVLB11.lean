import Derived.Test.YtmbkabgllafffaaGreatVLF2
open Nat
open List hiding mem_of_getElem?
open Array hiding mem_of_getElem? mk
set_option linter.unusedVariables false
set_option linter.unusedSimpArgs false
namespace Go.Proofs.YtmbkabgllafffaaGreat
open K Go Go.Proofs
def W{α:Type}(x:Option α)(Q:α->Prop):Prop:=∃a,x=some a/\Q a
namespace W
variable {α β ε:Type}{Q:β->Prop}
theorem ret{a:β}(h:Q a):W (some a) Q:=⟨a,rfl,h⟩
theorem mono{x:Option β}{R:β->Prop}(h:W x R)(hq:∀a,R a->Q a):W x Q:=let ⟨a,e,r⟩:=h;⟨a,e,hq a r⟩
theorem bind{x:Option α}{f:α->Option β}{R:α->Prop}(h:W x R)(hf:∀a,R a->W (f a) Q):W (x.bind f) Q:=by
 obtain⟨a,rfl,r⟩:=h;grind
theorem ck{n:Int}{f:Int->Option β}(h1: -9223372036854775808≤n)(h2:n≤9223372036854775807)(hf:W (f n) Q):W ((K.ck n).bind f) Q:=by
 simp_all [K.ck,if_pos]
theorem chk{p:Prop}[Decidable p]{f:Unit->Option β}(h:p)(hf:W (f ()) Q):W ((bU p).bind f) Q:=by
 simp_all [bU,if_pos]
theorem at_{l:List α}{i:Int}{f:α->Option β}(h0:0≤i)(h1:i < l.length)(hf:∀x,l[i.toNat]? =some x->W (f x) Q):W ((aG l i).bind f) Q:=by
 simp_all [aG,if_pos,List.getElem?_eq_getElem]
theorem ite{p:Prop}[Decidable p]{a b:Option β}(h1:p->W a Q)(h2:¬p->W b Q):W (if p then a else b) Q:=by
 grind
theorem iteB{p:Prop}[Decidable p]{a b:Option α}{f:α->Option β}(h1:p->W (a.bind f) Q)(h2:¬p->W (b.bind f) Q):W ((if p then a else b).bind f) Q:=by
 grind
theorem bEE{x:Option (Except ε α)}{g:ε->Option β}{f:α->Option β}{R:Except ε α->Prop}(h:W x R)(hg:∀e,R (.error e)->W (g e) Q)(hf:∀a,R (.ok a)->W (f a) Q):W (K.bE x g f) Q:=by
 obtain⟨a,rfl,r⟩:=h;cases a with
 |error e=>exact hg e r
 |ok a=>exact hf a r
theorem loop{T:Type}{f:Nat->T->Option β}(I:Nat->T->Prop)(step:∀aM m y,I m y->(∀m' y',m' < m->I m' y'->W (f aM y') Q)->W (f (aM+1) y) Q):∀m aM y,m < aM->I m y->W (f aM y) Q:=by
 intro m
 induction m using Nat.strongRecOn with
 |_ m ih=>
  intro aM y hm hI;cases aM with
  |zero=>omega
  |succ aM=>grind
end W
theorem wrap_u64(n:Int):0≤IntKind.u64.wrap n/\IntKind.u64.wrap n < 18446744073709551616:=by
 simp_all [Int.emod_nonneg,Int.emod_lt_of_pos,IntKind.wrap,IntKind.signed,IntKind.bits]
theorem AA{n:Int}(h0:0≤n)(h1:n < 18446744073709551616):IntKind.u64.wrap n=n:=by
 simp_all [IntKind.wrap,IntKind.signed,IntKind.bits,Int.emod_eq_of_lt]
def Lo(l:bV)(m:Int):Prop:=0≤l.2.1/\l.2.1≤m
theorem M7{k:Nat}{l:bV}{m:Int}(h:Lo l m)(hm:m≤1000000000):W (jh k l) λr=>0≤r.1/\r.1 < 72057594037927936/\Lo r.2 (m+1):=by
 obtain⟨h0,h1⟩:=h;unfold jh
 have fin:∀x:Int,W ((K.ck (l.2.1+1)).bind λx4=>some (jk .u64 (ug .u64 (IntKind.u64.wrap ((ug .u64 x (jk .u64 x (29:Int))) * (2685821657736338717:Int))) (jk .u64 (IntKind.u64.wrap ((ug .u64 x (jk .u64 x (29:Int))) * (2685821657736338717:Int))) (32:Int))) (8:Int),(l.1,x4,x)))
  λr=>0≤r.1/\r.1 < 72057594037927936/\Lo r.2 (m+1):=λx=>by
  refine W.ck (by omega) (by omega) (W.ret ?_)
  generalize IntKind.u64.wrap ((ug .u64 x (jk .u64 x (29:Int))) * (2685821657736338717:Int))=y
  have hx:0≤ug .u64 y (jk .u64 y 32)/\ug .u64 y (jk .u64 y 32) < 18446744073709551616:=wrap_u64 _
  have e:jk .u64 (ug .u64 y (jk .u64 y 32)) 8=(ug .u64 y (jk .u64 y 32)) / 256:=by
   unfold jk;rw [Int.fdiv_eq_ediv_of_nonneg _ (by decide)];rfl
  refine⟨?_,?_,?_,?_⟩
  .
   omega
  .
   omega
  .
   grind
  simp_all
 refine W.iteB (λhlt=>?_) (λ_=>fin _);simp_all [aG,if_pos,List.getElem?_eq_getElem]
theorem kK{k:Nat}{l:bV}{m n:Int}(h:Lo l m)(hm:m≤1000000000)(hn:n≤1000000000):W (cy k l n) λr=>0≤r.1/\(0≤n->r.1≤n)/\Lo r.2 (m+1):=by
 unfold cy;refine W.ite (λh1=>W.ret ⟨Int.le_refl 0,λh=>h,h.1,by show l.2.1≤m+1;have:=h.2;omega⟩) (λh1=>?_);refine W.bind (M7 h hm) λr hr=>?_;refine W.ck (by omega) (by omega) ?_;have e:IntKind.u64.wrap (n+1)=n+1:=AA (by omega) (by omega);refine W.chk (by omega) ?_;rw [e];have h2:Int.tmod r.1 (n+1)=r.1 % (n+1):=Int.tmod_eq_emod_of_nonneg hr.1;have h3:=Int.emod_nonneg r.1 (show n+1≠0 by omega);have h4:=Int.emod_lt_of_pos r.1 (show 0 < n+1 by omega);grind [W.ck,W.ret]
theorem Fo{k:Nat}{l:bV}{m a b:Int}(h:Lo l m)(hm:m≤1000000000)(ha:0≤a)(hab:a≤b)(hb:b≤1000000):W (gA k l a b) λr=>a≤r.1/\r.1≤b/\Lo r.2 (m+1):=by
 grind [gA,W.ck,W.bind,kK,W.ret]
theorem zn{k:Nat}{l:bV}{m a:Int}(h:Lo l m)(hm:m≤1000000000)(ha:0≤a)(hb:a≤1000000):W (fW k l a) λr=>Lo r.2 (m+1):=by
 grind [fW,W.ck,W.bind,kK,W.ret]
theorem I2{k:Nat}{l:bV}{m:Int}{some_:List Int}(h:Lo l m)(hm:m≤1000000000)(h0:0 < some_.length)(h1:some_.length≤1000000):W (iK k l some_) λr=>r.1∈some_/\Lo r.2 (m+1):=by
 grind [iK,W.ck,W.bind,kK,W.at_,W.ret,List.mem_of_getElem?]
theorem bT{α:Type}{l:List α}{i:Nat}(h:i < l.length):aG l (i:Int)=some l[i]:=by
 rw [aG,if_pos (by omega)];simp_all
section
variable {α β γ ε σ T:Type}
theorem bs{a:α}{f:α->Option β}:(some a).bind f=f a:=by simp_all
theorem bG{n:Int}(h1: -9223372036854775808≤n)(h2:n≤9223372036854775807):K.ck n=some n:=by simp_all [K.ck,if_pos]
theorem cz{p:Prop}[Decidable p](h:p):bU p=some ():=by rw [bU,if_pos h]
theorem zG{l:List α}{i:Int}(h0:0≤i)(h:i.toNat < l.length):aG l i=some l[i.toNat]:=by rw [aG,if_pos h0];simp_all
theorem QM{l:List α}{i:Int}{x:α}(h0:0≤i)(h:l[i.toNat]? =some x):aG l i=some x:=by simp_all [aG,if_pos]
theorem i9{a:α}{g:ε->Option β}{f:α->Option β}:K.bE (some (.ok a)) g f=f a:=by simp_all [K.bE]
theorem km{e:ε}{g:ε->Option β}{f:α->Option β}:K.bE (some (.error e)) g f=g e:=by simp_all [K.bE]
theorem vu{q:α}{a:β}{b:α->β}:gW (some q) a b=b q:=by simp_all [gW]
theorem tg{a:β}{b:α->β}:gW none a b=a:=by simp_all [gW]
theorem W3{n:Nat}(h:n≤4294967296):aR n:=h
def iW(g:σ->Nat->α->σ):Nat->List α->σ->σ
 |_,[],s=>s
 |j,x::l,s=>iW g (j+1) l (g s j x)
theorem dL(l:List α)(mk:σ->Int->T)(g:σ->Nat->α->σ)(P:Nat->σ->Prop){f:Nat->T->Option β}(fin:σ->Option β)
 (step:∀n s (j:Nat) (h:j < l.length),P j s->f (n+1) (mk s j)=f n (mk (g s j l[j]) ((j:Int)+1))/\P (j+1) (g s j l[j]))
 (stop:∀n s,P l.length s->f (n+1) (mk s l.length)=fin s) {s0:σ} {n:Nat} (hn:l.length < n) (h0:P 0 s0):f n (mk s0 0)=fin (iW g 0 l s0)/\P l.length (iW g 0 l s0):=by
 have key:∀(m:List α) (pre:List α) (n:Nat) (s:σ),l=pre++m->m.length < n->P pre.length s->f n (mk s pre.length)=fin (iW g pre.length m s)/\P l.length (iW g pre.length m s):=by
  intro m
  induction m with
  |nil=>
   intro pre n s e hn hp;obtain⟨n,rfl⟩:∃n',n=n'+1:=⟨n - 1,by omega⟩;have:l.length=pre.length:=by grind
   rw [<-this] at hp⊢;exact⟨stop n s hp,hp⟩
  |cons x m ih=>
   intro pre n s e hn hp;simp only [length_cons] at hn;obtain⟨n,rfl⟩:∃n',n=n'+1:=⟨n - 1,by omega⟩;have hl:pre.length < l.length:=by grind
   have hx:l[pre.length]=x:=by simp [e]
   obtain⟨h1,h2⟩:=step n s pre.length hl hp;rw [hx] at h1 h2;have:=ih (pre++[x]) n (g s pre.length x) (by grind) (by omega) (by simp_all);rw [length_append] at this;simp only [length_cons,length_nil,Nat.zero_add] at this;rw [h1];exact this
 have:=key l [] n s0 rfl hn h0
 exact this
def dM(g:σ->Nat->α->Except ε σ):Nat->List α->σ->Except ε σ
 |_,[],s=>.ok s
 |j,x::l,s=>match g s j x with
  | .error e=>.error e
  | .ok s'=>dM g (j+1) l s'
theorem yB(l:List α)(mk:σ->Int->T)(g:σ->Nat->α->Except ε σ)(P:Nat->σ->Prop){f:Nat->T->Option β}(fin:Except ε σ->Option β)
 (step:∀n s (j:Nat) (h:j < l.length),P j s->(∃e,g s j l[j]= .error e/\f (n+1) (mk s j)=fin (.error e))\/(∃s',g s j l[j]= .ok s'/\f (n+1) (mk s j)=f n (mk s' ((j:Int)+1))/\P (j+1) s'))
 (stop:∀n s,P l.length s->f (n+1) (mk s l.length)=fin (.ok s)) {s0:σ} {n:Nat} (hn:l.length < n) (h0:P 0 s0):f n (mk s0 0)=fin (dM g 0 l s0):=by
 have key:∀(m:List α) (pre:List α) (n:Nat) (s:σ),l=pre++m->m.length < n->P pre.length s->f n (mk s pre.length)=fin (dM g pre.length m s):=by
  intro m
  induction m with
  |nil=>
   intro pre n s e hn hp;obtain⟨n,rfl⟩:∃n',n=n'+1:=⟨n - 1,by omega⟩;have:l.length=pre.length:=by grind
   rw [<-this] at hp⊢;exact stop n s hp
  |cons x m ih=>
   intro pre n s e hn hp;simp only [length_cons] at hn;obtain⟨n,rfl⟩:∃n',n=n'+1:=⟨n - 1,by omega⟩;have hl:pre.length < l.length:=by grind
   have hx:l[pre.length]=x:=by simp [e]
   rcases step n s pre.length hl hp with⟨e',h1,h2⟩ |⟨s',h1,h2,h3⟩
   .grind [dM]
   .rw [hx] at h1;have:=ih (pre++[x]) n s' (by grind) (by omega) (by simp_all);simp_all [length_append,length_cons,length_nil,Nat.zero_add,dM]
 exact key l [] n s0 rfl hn h0
end
section
variable {α β ε σ T:Type}
theorem iM(l:List α)(mk:σ->Int->T)(g:σ->Nat->α->Except ε σ)(P:Nat->σ->Prop){f:Nat->T->Option β}(fin:Except ε σ->Option β)
 (step:∀n s (j:Nat) (h:j < l.length),P j s->(f (n+1) (mk s j)=match g s j l[j] with | .error e=>fin (.error e) | .ok s'=>f n (mk s' ((j:Int)+1)))/\∀s',g s j l[j]= .ok s'->P (j+1) s')
 (stop:∀n s,P l.length s->f (n+1) (mk s l.length)=fin (.ok s)) {s0:σ} {n:Nat} (hn:l.length < n) (h0:P 0 s0):f n (mk s0 0)=fin (dM g 0 l s0):=
 yB l mk g P fin (λn s j h hp=>by
  obtain⟨h1,h2⟩:=step n s j h hp
  grind) stop hn h0
end
theorem sq{α:Type}(p:α->Bool):∀(l:List α) (j:Nat),dM (λ(_:Unit) j x=>if p x then Except.error (j:Int) else .ok ()) j l ()=match l.findIdx? p with |some i=>.error ((i+j:Nat):Int) |none=>.ok ()
 |[],j=>by simp [dM]
 |x::l,j=>by
  rw [dM,findIdx?_cons]
  by_cases h:p x=true
  .
   simp [h]
  .
   simp only [h,if_false,Bool.false_eq_true]
   rw [sq p l (j+1)]
   grind
theorem uG{k:Nat}{a b:List Int}(h:a.length < k)(hk:a.length≤1000000):fQ k a b=some (decide (a=b)):=by
 unfold fQ;by_cases hl:a.length=b.length
 .rw [if_neg (by simp [hl])]
  have key:=yB (f:=dX k a b) a (λ(_:Unit) j=>j) (λ_ j x=>if x=b[j]?.getD 0 then .ok () else Except.error false) (λ_ _=>True) (λr=>some r)
   (λn s j hj _=>by
    have hjb:j < b.length:=by omega
    have hb:b[j]?.getD 0=b[j]:=by simp_all
    have hck:ck ((j:Int)+1)=some ((j:Int)+1):=bG (by omega) (by omega);rw [hb];simp only [dX,Int.ofNat_lt,hj,if_true,bT hj,bT hjb,bs];by_cases e:a[j]=b[j] <;> simp [e,hck])
   (λn s _=>by simp [dX]) (n:=k) (s0:=()) h trivial
  rw [show dX k a b k 0=_ from key]
  have:∀(a:List Int) (j:Nat),a.length+j=b.length->dM (λ(_:Unit) j x=>if x=b[j]?.getD 0 then .ok () else Except.error false) j a ()=if a=b.drop j then .ok () else .error false:=by
   intro a
   induction a with
   |nil=>
    simp_all [drop_eq_nil_of_le,length_nil,dM]
   |cons x a ih=>
    intro j hj;simp only [length_cons] at hj;have hjb:j < b.length:=by omega
    have hd:b.drop j=b[j]::b.drop (j+1):=drop_eq_getElem_cons hjb;have hb:b[j]?.getD 0=b[j]:=by simp_all
    rw [dM,hb,hd];grind
  rw [this a 0 (by omega),drop_zero];by_cases e:a=b
  .rw [if_pos e,i9,decide_eq_true e]
  .rw [if_neg e,km,decide_eq_false e]
 .rw [if_pos (by omega),decide_eq_false (λe=>hl (by rw [e]))]
def ko(s:Int):Prop:=0≤s/\s < 256
def eM(s:Int)(i:Nat):Prop:=s.toNat.testBit i=true
instance (s:Int) (i:Nat):Decidable (eM s i):=by unfold eM;infer_instance
theorem ve{x:Nat}(h:x < 256):IntKind.u8.wrap (x:Int)=x:=by
 grind [IntKind.wrap,IntKind.signed,IntKind.bits]
theorem wv{s:Int}(h:ko s):∃n:Nat,n < 256/\s=n:=⟨s.toNat,by have:=h.1;have:=h.2;omega,by have:=h.1;omega⟩
theorem I3{n:Nat}(h:n < 256):(BitVec.ofInt IntKind.u8.bits (n:Int)).toNat=n:=by
 show(BitVec.ofInt 8 (n:Int)).toNat=n;simp_all
theorem JH{n m:Nat}(hn:n < 256)(hm:m < 256):n |||m < 256:=or_lt_two_pow (n:=8) hn hm
theorem Nl{n m:Nat}(hn:n < 256):n &&& m < 256:=Nat.lt_of_le_of_lt and_le_left hn
theorem QK{a b:Int}(ha:ko a)(hb:ko b):ko (Fj .u8 a b)/\∀i,eM (Fj .u8 a b) i↔eM a i\/eM b i:=by
 obtain⟨n,hn,rfl⟩:=wv ha;obtain⟨m,hm,rfl⟩:=wv hb
 have e:Fj .u8 (n:Int) (m:Int)=((n |||m:Nat):Int):=by
  grind [Fj,BitVec.toNat_or,I3,ve,JH]
 rw [e];refine⟨⟨by omega,by grind [JH]⟩,λi=>?_⟩;simp [eM,testBit_or]
theorem Qn{x:Int}(h0:0≤x)(h8:x < 8):ko (qh .u8 1 x)/\∀i:Nat,eM (qh .u8 1 x) i↔(i:Int)=x:=by
 obtain⟨n,rfl⟩:=Int.eq_ofNat_of_zero_le h0;have hn:n < 8:=by omega
 have e:qh .u8 1 (n:Int)=((2 ^ n:Nat):Int):=by
  unfold qh
  have h1:min (Int.toNat (n:Int)) IntKind.u8.bits=n:=by
   show min n 8=n;omega
  rw [h1,Int.one_mul];have h2:2 ^ n < 256:=Nat.pow_lt_pow_right (by decide) hn;grind [ve]
 rw [e];have h9:2 ^ n < 256:=Nat.pow_lt_pow_right (by decide) hn;refine⟨⟨Int.natCast_nonneg _,Int.ofNat_lt.2 h9⟩,λi=>?_⟩;simp only [eM,Int.toNat_natCast,testBit_two_pow,decide_eq_true_eq];omega
theorem wF{k:Nat}{s:Int}(hs:ko s){i:Nat}(hi:i < 8):fa k s (i:Int)=some (decide (eM s i)):=by
 obtain⟨n,hn,rfl⟩:=wv hs;unfold fa;rw [bU,if_pos (by omega)];show some _=some _;congr 1
 have e1:jk .u8 (n:Int) (i:Int)=((n >>> i:Nat):Int):=by
  unfold jk
  have h1:min (Int.toNat (i:Int)) IntKind.u8.bits=i:=by
   show min i 8=i;omega
  grind [Int.fdiv_eq_ediv_of_nonneg,Int.natCast_nonneg,Nat.shiftRight_eq_div_pow]
 have hlt:n >>> i < 256:=Nat.lt_of_le_of_lt (by rw [Nat.shiftRight_eq_div_pow];exact div_le_self _ _) hn
 have e2:sf .u8 ((n >>> i:Nat):Int) 1=(((n >>> i) &&& 1:Nat):Int):=by
  grind [sf,BitVec.ofInt,BitVec.toNat_and,I3,ve,Nl]
 rw [e1,e2]
 have e3:(((n >>> i) &&& 1:Nat):Int)=1↔eM (n:Int) i:=by
  rw [eM,Int.toNat_natCast,testBit];grind
 simp_all
end Go.Proofs.YtmbkabgllafffaaGreat
set_option linter.unusedVariables false
set_option linter.unusedSimpArgs false
namespace Go.Proofs.YtmbkabgllafffaaGreat
open K Go Go.Proofs
abbrev mC(m:ab):Int:=m.1
abbrev mW(m:ab):Int:=m.2.1
abbrev mS(m:ab):Int:=m.2.2.1
abbrev mH(m:ab):Int:=m.2.2.2.1
abbrev mD(m:ab):List (List (List Int)):=m.2.2.2.2.1
abbrev mG(m:ab):List aQ:=m.2.2.2.2.2
def tl(l:List Int)(c:Int):Option (List Int):=(l.findIdx? λy=>decide (c=y)).map λi=>(if 0 < i then [l[i-1]?.getD 0] else [])++(l[i+1]?).toList
def ux(d:List (List Int))(c:Int):Option (List Int):=d.findSome? λl=>tl l c
def xP(m:ab)(d:Nat)(c:Int):Option (List Int):=ux ((mD m)[d]?.getD []) c
def mY(m:ab)(c:Int):Nat->Nat
 |0=>if(xP m 0 c).isSome then 0 else 1
 |d+1=>if(xP m (d+1) c).isSome then 0 else mY m c d+1
def jP(m:ab)(B:Int->Bool):Nat->Int->Int
 |0,c=>if B c then mW m else -1
 |d+1,c=>match xP m d c with
  |none=>if mH m≤(mY m c d:Int) then -1 else jP m B d c
  |some l=>if 0≤jP m B d c then jP m B d c+1 else if l.any λx=>decide (mW m≤jP m B d x) then 0 else -1
theorem Ae{m:ab}{B:Int->Bool}(hw:0≤mW m):∀{d:Nat} {c:Int}, -1≤jP m B d c
 |0,c=>by grind [jP]
 |d+1,c=>by
  have:=Ae (B:=B) hw (d:=d) (c:=c)
  grind [jP]
theorem Ad{m:ab}{B:Int->Bool}(hw:mW m≤3):∀{d:Nat} {c:Int},jP m B d c≤3+d
 |0,c=>by grind [jP]
 |d+1,c=>by
  have:=Ad (B:=B) hw (d:=d) (c:=c)
  grind [jP]
theorem JM{k:Nat}{l:List Int}{x:Int}(hk:l.length < k)(hl:l.length≤1000000):ig k l x=some (match l.findIdx? (λy=>decide (x=y)) with |some i=>(i:Int) |none=> -1):=by
 unfold ig
 have key:=iM (f:=dD k l x) l (λ(_:Unit) j=>j) (λ_ j y=>if decide (x=y)=true then Except.error (j:Int) else .ok ()) (λ_ _=>True) (λr=>some r)
  (λn s j hj _=>by
   have hck:ck ((j:Int)+1)=some ((j:Int)+1):=bG (by omega) (by omega);refine⟨?_,λ_ _=>trivial⟩;simp only [dD,Int.ofNat_lt,hj,if_true,bT hj,bs,decide_eq_true_eq];grind)
  (λn s _=>by simp [dD]) (n:=k) (s0:=()) hk trivial
 rw [show dD k l x k 0=_ from key,sq (λy=>decide (x=y)) l 0];grind [decide,i9,km]
def pq:List Int->List Int
 |[a,b]=>if b < a then [b,a] else [a,b]
 |l=>l
theorem vJ{l:List Int}{x:Int}:x∈pq l↔x∈l:=by
 unfold pq;grind
theorem L1{k:Nat}{l:List Int}(hk:10≤k)(hl:l.length≤2):gI k l=some (pq l):=by
 obtain⟨k,rfl⟩:∃n,k=n+4:=⟨k - 4,by omega⟩;have e0:qX (k+4) (IntKind.u64.wrap (0:Int))=some 0:=by kernel_rfl
 have e1:qX (k+4) (IntKind.u64.wrap (1:Int))=some 1:=by kernel_rfl
 have e2:qX (k+4) (IntKind.u64.wrap (2:Int))=some 2:=by kernel_rfl
 have c0:ck ((0:Int) - 0)=some 0:=rfl;have c1:ck ((1:Int) - 0)=some 1:=rfl;have c2:ck ((2:Int) - 0)=some 2:=rfl;have d1:ck ((0:Int)+1)=some 1:=rfl;have d2:ck ((1:Int)+1)=some 2:=rfl;have d3:ck ((1:Int) - 1)=some 0:=rfl;match l,hl with
 |[],_=>
  simp only [gI,length_nil,Int.ofNat_zero,e0,bs,dj,cS,cg,bz,pq,c0,d1];rfl
 |[a],_=>
  simp_all [gI,bs,dj,cS,cg,bz,pq]
 |[a,b],_=>
  have:(([a,b]:List Int).length:Int)=2:=rfl;have g0:aG [a,b] (0:Int)=some a:=rfl;have g1:aG [a,b] (1:Int)=some b:=rfl;have hn:∀x:Int,l7 (k+4) x=some false:=λx=>by simp [l7]
  have hl:∀x y:Int,qm (k+4) x y=some (decide (x < y)):=λx y=>by simp [qm,hn]
  simp only [gI,this,e2,bs,dj,cS,cg,bz,bP,c2,d1,d2,d3,g0,g1,hl];grind [pq,bP,bs,aG]
end Go.Proofs.YtmbkabgllafffaaGreat
set_option linter.unusedVariables false
set_option linter.unusedSimpArgs false
namespace Go.Proofs.YtmbkabgllafffaaGreat
open K Go Go.Proofs
structure Vd(m:ab):Prop where
 c1:1≤mC m
 c5:mC m≤5
 w0:0≤mW m
 w3:mW m≤3
 s0:0≤mS m
 s3:mS m≤3
 h1:1≤mH m
 h3:mH m≤3
 d1:1≤(mD m).length
 d6:(mD m).length≤6
 r3:∀r∈mD m,r.length≤3
 l5:∀r∈mD m,∀l∈r,l.length≤5
 x5:∀r∈mD m,∀l∈r,∀x∈l,0≤x/\x < mC m
 nd:∀r∈mD m,r.flatten.Nodup
 g8:(mG m).length≤8
 gl:∀g∈mG m,0≤g.1/\g.1 < mC m/\0≤g.2.1/\g.2.1≤(mD m).length
theorem CH{l:List Int}{c:Int}{s:List Int}(h:tl l c=some s):s.length≤2/\∀x∈s,x∈l:=by
 unfold tl at h;cases e:l.findIdx? (λy=>decide (c=y)) with
 |none=>simp_all
 |some i=>
  rw [e] at h;obtain rfl:=Option.some.inj h;have hi:i < l.length:=(List.findIdx?_eq_some_iff_getElem.1 e).1;grind
theorem Ky{d:List (List Int)}{c:Int}{s:List Int}(h:ux d c=some s):∃l∈d,tl l c=some s:=by
 simp_all [ux,List.exists_of_findSome?_eq_some]
theorem wO{m:ab}(v:Vd m){d:Nat}{c:Int}{s:List Int}(h:xP m d c=some s):s.length≤2/\∀x∈s,0≤x/\x < mC m:=by
 obtain⟨l,hl,h2⟩:=Ky h;cases e:(mD m)[d]? with
 |none=>simp_all
 |some r=>
  rw [e] at hl;have h3:=CH h2;exact⟨h3.1,λx hx=>v.x5 r (List.mem_of_getElem? e) l hl x (h3.2 x hx)⟩
def RL(m:ab)(c:Int)(d:Nat):Int ⊕ List Int:=match xP m d c with
 |some s=>.inr (pq s)
 |none=>.inl (mY m c d)
theorem Bd{k:Nat}{c:Int}{r:List (List Int)}(hk:10≤k)(hr:r.length≤3)(hl:∀l∈r,l.length≤5):
 cX k c r k 0=some (match ux r c with |some s=>.error (.inr (pq s)) |none=>.ok ()):=by
 have key:=iM (f:=cX k c r) r (λ(_:Unit) j=>j) (λ_ _ l=>match tl l c with |some s=>Except.error (Sum.inr (pq s):Int ⊕ List Int) |none=>.ok ()) (λ_ _=>True) (λx=>some x)
  (λn s j hj _=>by
   refine⟨?_,λ_ _=>trivial⟩;have h5:=hl _ (List.getElem_mem hj);have hck:ck ((j:Int)+1)=some ((j:Int)+1):=bG (by omega) (by omega);simp only [cX,Int.ofNat_lt,hj,if_true,bT hj,bs];rw [JM (by omega) (by omega),bs];generalize r[j]=l at *;have hb:tl l c=(l.findIdx? λy=>decide (c=y)).map λi=>(if 0 < i then [l[i-1]?.getD 0] else [])++(l[i+1]?).toList:=rfl;cases e:l.findIdx? (λy=>decide (c=y)) with
   |none=>
    simp_all
   |some i=>
    rw [e] at hb;simp only [Option.map_some] at hb;have hi:i < l.length:=(List.findIdx?_eq_some_iff_getElem.1 e).1;rw [hb];have hlen:=(CH hb).1;have c1:ck ((i:Int) - 1)=some ((i:Int) - 1):=bG (by omega) (by omega);have c2:ck ((i:Int)+1)=some ((i:Int)+1):=bG (by omega) (by omega);have ok0:bU (aR (length ([]:List Int)+length [l[i-1]?.getD 0]))=some ():=cz (by simp [aR]);simp only [show(0:Int)≤(i:Int) from Int.natCast_nonneg _,if_true,c1,c2,bs]
    have e1:(if(0:Int) < (i:Int) then((aG l ((i:Int) - 1)).bind λx11=>(bU (aR (length ([]:List Int)+length [x11]))).bind λ_=>some (([]:List Int)++[x11])) else some ([]:List Int))=some (if 0 < i then [l[i-1]?.getD 0] else []):=by
     by_cases h0:0 < i
     .have g:aG l ((i:Int) - 1)=some (l[i-1]?.getD 0):=by
       grind [bT,List.getElem?_eq_getElem]
      simp_all
     simp_all
    rw [e1,bs];generalize (if 0 < i then [l[i-1]?.getD 0] else [])=p at *
    have e2:(if(i:Int)+1 < (l.length:Int) then((aG l ((i:Int)+1)).bind λx18=>(bU (aR (length p+length [x18]))).bind λ_=>some (p++[x18])) else some p)=some (p++(l[i+1]?).toList):=by
     by_cases h1:i+1 < l.length
     .have g:aG l ((i:Int)+1)=some l[i+1]:=by
       have:((i:Int)+1)=((i+1:Nat):Int):=by omega
       rw [this,bT h1]
      rw [if_pos (by omega),g,bs,List.getElem?_eq_getElem h1];grind [List.getElem?_eq_getElem,cz,length_append,aR,bs]
     grind
    simp_all [bs,L1])
  (λn s _=>by simp [cX]) (n:=k) (s0:=()) (by omega) trivial
 rw [show cX k c r k 0=_ from key]
 congr 1
 have:∀(r:List (List Int)) (j:Nat),dM (λ(_:Unit) _ l=>match tl l c with |some s=>Except.error (Sum.inr (pq s):Int ⊕ List Int) |none=>.ok ()) j r ()=match ux r c with |some s=>.error (.inr (pq s)) |none=>.ok ():=by
  intro r
  induction r with
  |nil=>intro j;rfl
  |cons l r ih=>
   intro j;rw [dM];unfold ux;rw [findSome?_cons];cases tl l c with
   |none=>exact ih (j+1)
   |some s=>rfl
 simp_all
theorem FO{m:ab}{c:Int}:∀{d:Nat},mY m c d≤d+1
 |0=>by grind [mY]
 |d+1=>by have:=FO (m:=m) (c:=c) (d:=d);grind [mY]
theorem vW{k:Nat}{m:ab}{c:Int}(v:Vd m)(hk:10≤k):∀(d m0:Nat),d < m0->d < (mD m).length->eR k m0 m c (d:Int)=some (RL m c d)
 |d,0,h,_=>absurd h (not_lt_zero _)
 |d,m0+1,h,hd=>by
  have hm:=List.getElem_mem hd
  unfold eR
  rw [bT hd,bs,Bd hk (v.r3 _ hm) (v.l5 _ hm)]
  have hbes:xP m d c=ux (mD m)[d] c:=by unfold xP;simp_all
  cases e:ux (mD m)[d] c with
  |some s=>
   simp_all [km,RL]
  |none=>
   rw [i9]
   unfold RL
   rw [hbes,e]
   match d,hd,h with
   |0,hd,h=>
    simp_all [mY]
   |d+1,hd,h=>
    have h6:=v.d6
    have c1:ck (((d+1:Nat):Int) - 1)=some (d:Int):=by grind [bG]
    have ih:=vW v hk d m0 (by omega) (by omega) (c:=c)
    rw [if_pos (by omega),c1,bs,ih,bs]
    rw [hbes.symm] at e
    have hcold:mY m c (d+1)=mY m c d+1:=by grind [mY]
    have hle:=FO (m:=m) (c:=c) (d:=d)
    unfold RL
    cases e2:xP m d c with
    |some s=>
     simp only [MG]
     have:mY m c d=0:=by cases d <;> simp [mY,e2]
     simp_all
    |none=>
     have c2:ck ((1:Int)+(mY m c d:Int))=some ((1:Int)+(mY m c d:Int)):=bG (by omega) (by omega)
     simp only [MG,SH,c2,bs,if_true,hcold]
     grind
end Go.Proofs.YtmbkabgllafffaaGreat
set_option linter.unusedVariables false
set_option linter.unusedSimpArgs false
namespace Go.Proofs.YtmbkabgllafffaaGreat
open K Go Go.Proofs
def lr(f:Int->Int):List Int:=[f 0,f 1,f 2,f 3,f 4]
def upd(f:Int->Int)(c v:Int):Int->Int:=λx=>if x=c then v else f x
theorem WS{c:Int}(h0:0≤c)(h:c < 5):c=0\/c=1\/c=2\/c=3\/c=4:=by omega
theorem oL{f:Int->Int}{c:Int}(h0:0≤c)(h:c < 5):aG (lr f) c=some (f c):=by
 rcases WS h0 h with rfl |rfl |rfl |rfl |rfl <;> rfl
theorem E1{f:Int->Int}{c v:Int}(h0:0≤c)(h:c < 5):List.set (lr f) (Int.toNat c) v=lr (upd f c v):=by
 rcases WS h0 h with rfl |rfl |rfl |rfl |rfl <;> rfl
theorem nU{f g:Int->Int}(h:∀c,0≤c->c < 5->f c=g c):lr f=lr g:=by
 simp_all [lr]
def SB(m:ab)(f:Int->Int)(d:Nat)(c:Int):Int:=match xP m d c with
 |none=>if mH m≤(mY m c d:Int) then -1 else f c
 |some l=>if 0≤f c then f c+1 else if l.any λx=>decide (mW m≤f x) then 0 else -1
def Qx(m:ab)(f:Int->Int)(d:Nat):Int->Int:=λc=>if 0≤c/\c < mC m then SB m f d c else f c
theorem xp{k:Nat}{m:ab}{f:Int->Int}(hw:0≤mW m){s:List Int}(hs:s.length < k)(hs2:s.length≤1000)(hx:∀x∈s,0≤x/\x < 5):
 cp k m (lr f) s k 0=some (match s.find? (λx=>decide (mW m≤f x)) with |some x=>.error x |none=>.ok ()):=by
 have key:=iM (f:=cp k m (lr f) s) s (λ(_:Unit) j=>j) (λ_ _ x=>if decide (mW m≤f x)=true then Except.error x else .ok ()) (λ_ _=>True) (λx=>some x)
  (λn _ j hj _=>by
   refine⟨?_,λ_ _=>trivial⟩;have h5:=hx _ (List.getElem_mem hj);have hck:ck ((j:Int)+1)=some ((j:Int)+1):=bG (by omega) (by omega);have him:uh (0:Int) m.2.1=mW m:=by show uh 0 (mW m)=mW m;grind [uh]
   simp only [cp,Int.ofNat_lt,hj,if_true,bT hj,bs,cz h5,oL h5.1 h5.2,him,hck,decide_eq_true_eq];grind)
  (λn s _=>by simp [cp]) (n:=k) (s0:=()) hs trivial
 rw [show cp k m (lr f) s k 0=_ from key]
 congr 1
 have:∀(s:List Int) (j:Nat),dM (λ(_:Unit) _ x=>if decide (mW m≤f x)=true then Except.error x else .ok ()) j s ()=match s.find? (λx=>decide (mW m≤f x)) with |some x=>.error x |none=>.ok ():=by
  intro s
  induction s with
  |nil=>intro j;rfl
  |cons x s ih=>
   intro j;rw [dM,find?_cons];grind
 simp_all
theorem AW{s:List Int}:(pq s).length=s.length:=by
 unfold pq;grind
def LP(m:ab)(f:Int->Int)(l:List Int):Int:=((pq l).find? λx=>decide (mW m≤f x)).getD (-1)
theorem Du{k:Nat}{m:ab}{f:Int->Int}{c:Int}{d:Nat}(v:Vd m)(hk:10≤k)(hd:d < (mD m).length){l:List Int}(h:xP m d c=some l):
 dP k m (lr f) c (d:Int)=some (LP m f l):=by
 have h6:=v.d6
 have c5:=v.c5
 have hb:=wO v h
 unfold dP
 rw [vW v hk d k (by omega) hd,bs]
 unfold RL
 rw [h]
 have e1:Kw (Sum.inr (pq l):Int ⊕ List Int) (λn=>ju k n) (λl=>jr k l)=some (pq l):=rfl
 rw [e1,bs,xp v.w0 (by rw [AW];omega) (by rw [AW];omega) λx hx=>by grind [vJ]]
 unfold LP
 cases(pq l).find? λx=>decide (mW m≤f x) with
 |none=>rw [i9];rfl
 |some x=>rw [km];rfl
theorem LO{m:ab}{f:Int->Int}{l:List Int}(hx:∀x∈l,0≤x):0≤LP m f l↔(l.any λx=>decide (mW m≤f x))=true:=by
 unfold LP;rw [List.any_eq_true];cases e:(pq l).find? λx=>decide (mW m≤f x) with
 |none=>
  simp_all [Option.getD_none,List.find?_eq_none,vJ]
 |some x=>
  grind [List.mem_of_find?_eq_some,vJ]
theorem Jv{k:Nat}{m:ab}{f:Int->Int}{d:Nat}(v:Vd m)(hk:10≤k)(hd:d < (mD m).length)(hf:∀c,0≤c->c < mC m-> -1≤f c/\f c≤1000):
 iH k m (lr f) (d:Int)=some (lr (Qx m f d)):=by
 have c5:=v.c5
 have c1:=v.c1
 have h6:=v.d6
 unfold iH
 have key:=dL (T:=List Int×Int) (f:=cO k m (lr f) (d:Int)) (List.range (mC m).toNat) (λ(g:Int->Int) j=>(lr g,j)) (λg j _=>upd g (j:Int) (SB m f d (j:Int))) (λj g=>g=λc=>if 0≤c/\c < (j:Int) then SB m f d c else f c) (λg=>some (lr g))
  (λn g j hj hg=>by
   rw [length_range] at hj;have j0:(0:Int)≤(j:Int):=Int.natCast_nonneg _;have j1:(j:Int) < mC m:=by omega
   have j5:(j:Int) < 5:=by omega
   have hck:ck ((j:Int)+1)=some ((j:Int)+1):=bG (by omega) (by omega);have hp:bU ((0:Int)≤(j:Int)/\(j:Int) < 5)=some ():=cz ⟨j0,j5⟩;have hgj:g (j:Int)=f (j:Int):=by simp_all
   have hfj:=hf _ j0 j1;refine⟨?_,?_⟩
   .have hm1:(m.1:Int)=mC m:=rfl;have hm2:m.2.2.2.1=mH m:=rfl;simp only [cO,hm1,hm2,j1,if_true,vW v hk d k (by omega) hd,bs,hp,oL j0 j5,hck,E1 j0 j5];unfold RL SB;cases e:xP m d (j:Int) with
    |none=>
     simp only [MG,SH,if_true];by_cases hh:mH m≤(mY m (j:Int) d:Int)
     .simp_all
     .simp only [hh,if_false,bs];refine congrArg (λr=>cO k m (lr f) (d:Int) n (r,(j:Int)+1)) (nU λc _ _=>?_);simp_all [upd]
    |some l=>
     have hb:=wO v e;simp only [MG,Bool.false_eq_true,if_false,not_false_eq_true,if_true];by_cases h0:0≤f (j:Int)
     .have hck2:ck (f (j:Int)+1)=some (f (j:Int)+1):=bG (by omega) (by omega);simp_all
     .simp only [h0,if_false,Du v hk hd e,bs];have ht:=LO (m:=m) (f:=f) (l:=l) λx hx=>(hb.2 x hx).1;by_cases hany:(l.any λx=>decide (mW m≤f x))=true
      .simp_all
      .rw [if_neg λh=>hany (ht.1 h),bs,if_neg hany];refine congrArg (λr=>cO k m (lr f) (d:Int) n (r,(j:Int)+1)) (nU λc _ _=>?_);grind [upd]
   .rw [hg];funext c;unfold upd;grind)
  (λn g hg=>by
   rw [length_range];have:((mC m).toNat:Int)=mC m:=by omega
   simp_all [cO,if_neg,mC]) (n:=k) (s0:=f) (by grind) (by grind)
 rw [show cO k m (lr f) (d:Int) k (lr f,0)=_ from key.1,bs]
 congr 1
 refine nU λc _ _=>?_
 rw [key.2,length_range]
 unfold Qx
 grind
end Go.Proofs.YtmbkabgllafffaaGreat
set_option linter.unusedVariables false
set_option linter.unusedSimpArgs false
namespace Go.Proofs.YtmbkabgllafffaaGreat
open K Go Go.Proofs
def cr(F:Nat->Int->Int):List (List Int):=[lr (F 0),lr (F 1),lr (F 2),lr (F 3),lr (F 4),lr (F 5),lr (F 6)]
def Dp(F:Nat->Int->Int)(n:Nat)(f:Int->Int):Nat->Int->Int:=λi=>if i=n then f else F i
theorem WR{n:Nat}(h:n < 7):n=0\/n=1\/n=2\/n=3\/n=4\/n=5\/n=6:=by omega
theorem ut{F:Nat->Int->Int}{n:Nat}(h:n < 7):aG (cr F) (n:Int)=some (lr (F n)):=by
 rcases WR h with rfl |rfl |rfl |rfl |rfl |rfl |rfl <;> rfl
theorem Q7{F:Nat->Int->Int}{n:Nat}{f:Int->Int}(h:n < 7):List.set (cr F) n (lr f)=cr (Dp F n f):=by
 rcases WR h with rfl |rfl |rfl |rfl |rfl |rfl |rfl <;> rfl
def HQ(m:ab)(B:Int->Bool):Nat->Int->Int
 |0=>λc=>if B c then mW m else -1
 |n+1=>Qx m (HQ m B n) n
theorem vy{m:ab}(v:Vd m){B:Int->Bool}:∀(n:Nat) (c:Int),0≤c->c < mC m->HQ m B n c=jP m B n c
 |0,c,_,_=>rfl
 |n+1,c,h0,h1=>by
  have ih:=vy v (B:=B) n
  show Qx m (HQ m B n) n c=jP m B (n+1) c
  unfold Qx
  rw [if_pos ⟨h0,h1⟩]
  unfold SB jP
  cases e:xP m n c with
  |none=>simp_all
  |some l=>
   have hb:=(wO v e).2
   grind
def zV(m:ab)(B:Int->Bool):Nat->Int->Int:=λn=>if n≤(mD m).length then HQ m B n else λ_=>0
def mK(S:Int):Int->Bool:=λc=>decide (eM S c.toNat)
theorem Iw{k:Nat}{m:ab}{S:Int}(hk:10≤k)(hS:ko S):fE k m S=some (lr λc=>if mK S c then mW m else -1):=by
 unfold fE
 have key:=dL (T:=List Int×Int) (f:=cV k m S) (List.range 5) (λ(g:Int->Int) j=>(lr g,j)) (λg j _=>upd g (j:Int) (if mK S (j:Int) then mW m else -1)) (λj g=>∀c,0≤c->c < (j:Int)->g c=if mK S c then mW m else -1) (λg=>some (lr g))
  (λn g j hj hg=>by
   rw [length_range] at hj;have j0:(0:Int)≤(j:Int):=Int.natCast_nonneg _;have j5:(j:Int) < 5:=by omega
   have hck:ck ((j:Int)+1)=some ((j:Int)+1):=bG (by omega) (by omega);have hp:bU ((0:Int)≤(j:Int)/\(j:Int) < 5)=some ():=cz ⟨j0,j5⟩;have hp':bU ((0:Int)≤(j:Int)/\True)=some ():=cz ⟨j0,trivial⟩;refine⟨?_,?_⟩
   .simp only [cV,j5,if_true,hp,hp',bs,wF (k:=k) hS (by omega:j < 8),hck,E1 j0 j5];have hin:mK S (j:Int)=decide (eM S j):=by unfold mK;simp_all
    rw [hin];cases hh:decide (eM S j) with
    |true=>
     simp only [if_true,bs];refine congrArg (λr=>cV k m S n (r,(j:Int)+1)) (nU λc _ _=>?_);simp_all [upd]
    |false=>simp_all
   .intro c hc0 hc1;unfold upd;grind)
  (λn g hg=>by
   simp_all [length_range,cV,if_neg]) (n:=k) (s0:=λ_=>0) (by grind) (λc h0 h1=>by omega)
 have e0:([(0:Int),(0:Int),(0:Int),(0:Int),(0:Int)]:List Int)=lr λ_=>0:=rfl;rw [e0,show cV k m S k (lr λ_=>0,0)=_ from key.1,bs];refine congrArg some (nU λc h0 h5=>?_);simp_all
theorem uv{k:Nat}{m:ab}{S:Int}(v:Vd m)(hk:10≤k)(hS:ko S):mX k m S=some (cr (zV m (mK S))):=by
 have d6:=v.d6;have d1:=v.d1;have w0:=v.w0;have w3:=v.w3;unfold mX kx;have hm:bU (0≤S/\S < 256)=some ():=cz hS;have hp0:bU ((0:Int)≤0/\(0:Int) < 7)=some ():=cz ⟨by omega,by omega⟩;rw [hm,bs,Iw hk hS,bs,hp0,bs]
 have key:=dL (T:=List (List Int)×Int) (f:=bZ k m) (mD m) (λ(F:Nat->Int->Int) j=>(cr F,j)) (λF j _=>Dp F (j+1) (Qx m (F j) j)) (λj F=>F=λn=>if n≤j then HQ m (mK S) n else λ_=>0) (λF=>some (cr F))
  (λn F j hj hF=>by
   have j0:(0:Int)≤(j:Int):=Int.natCast_nonneg _;have hck:ck ((j:Int)+1)=some ((j:Int)+1):=bG (by omega) (by omega);have hp:bU ((0:Int)≤(j:Int)/\(j:Int) < 7)=some ():=cz ⟨j0,by omega⟩;have hp2:bU ((0:Int)≤(j:Int)+1/\(j:Int)+1 < 7)=some ():=cz ⟨by omega,by omega⟩;have hFj:F j=HQ m (mK S) j:=by simp_all
   have hj':(j:Int) < (m.2.2.2.2.1.length:Int):=Int.ofNat_lt.2 hj
   have hnx:=Jv (k:=k) (f:=F j) v hk hj (λc h0 h1=>by
    rw [hFj,vy v j c h0 h1];have:=Ae (B:=mK S) w0 (d:=j) (c:=c);have:=Ad (B:=mK S) w3 (d:=j) (c:=c);omega)
   refine⟨?_,?_⟩
   .simp only [bZ,hj',if_true,hck,hp,bs,ut (F:=F) (show j < 7 by omega),hnx,hp2];grind [Int.toNat,Q7]
   .rw [hF];funext i;unfold Dp;by_cases e:i=j+1
    .subst e;simp only [if_true,Nat.le_refl];rfl
    grind)
  (λn F hF=>by
   unfold bZ;simp_all) (n:=k) (s0:=Dp (λ_ _=>0) 0 (λc=>if mK S c then mW m else -1)) (by omega) (by
   funext n;unfold Dp;by_cases e:n=0
   .subst e;rfl
   simp_all)
 have e0:List.set uq (Int.toNat 0) (lr λc=>if mK S c then mW m else -1)=cr (Dp (λ_ _=>0) 0 (λc=>if mK S c then mW m else -1)):=rfl;rw [e0,show bZ k m k (cr (Dp (λ_ _=>0) 0 (λc=>if mK S c then mW m else -1)),0)=_ from key.1,bs];rw [key.2];rfl
theorem FN{m:ab}(v:Vd m){B:Int->Bool}{n:Nat}{c:Int}(hn:n≤(mD m).length)(h0:0≤c)(h1:c < mC m):zV m B n c=jP m B n c:=by
 simp_all [zV,if_pos,vy]
end Go.Proofs.YtmbkabgllafffaaGreat
set_option linter.unusedVariables false
set_option linter.unusedSimpArgs false
namespace Go.Proofs.YtmbkabgllafffaaGreat
open K Go Go.Proofs
def wk{σ:Type}(bad:σ->Int->Option Int)(add:σ->Int->σ):List Int->σ->Except Int σ
 |[],s=>.ok s
 |x::l,s=>match bad s x with
  |some e=>.error e
  |none=>wk bad add l (add s x)
theorem vf{σ:Type}{bad:σ->Int->Option Int}{add:σ->Int->σ}:∀(l:List Int) (j:Nat) (s:σ),dM (λs _ x=>match bad s x with |some e=>Except.error e |none=>.ok (add s x)) j l s=wk bad add l s
 |[],j,s=>rfl
 |x::l,j,s=>by
  rw [dM,wk]
  cases bad s x with
  |some e=>rfl
  |none=>exact vf l (j+1) (add s x)
theorem xX{σ:Type}{bad:σ->Int->Option Int}{add:σ->Int->σ}:∀(a b:List Int) (s:σ),wk bad add (a++b) s=match wk bad add a s with | .error e=>.error e | .ok s'=>wk bad add b s'
 |[],b,s=>rfl
 |x::a,b,s=>by
  rw [cons_append,wk,wk]
  cases bad s x with
  |some e=>rfl
  |none=>exact xX a b (add s x)
theorem yW{σ:Type}{bad:σ->Int->Option Int}{add:σ->Int->σ}:∀(r:List (List Int)) (j:Nat) (s:σ),dM (λs _ l=>wk bad add l s) j r s=wk bad add r.flatten s
 |[],j,s=>rfl
 |l::r,j,s=>by
  rw [dM,flatten_cons,xX]
  cases wk bad add l s with
  |error e=>rfl
  |ok s'=>exact yW r (j+1) s'
theorem Ia{σ τ:Type}{b1:σ->Int->Option Int}{a1:σ->Int->σ}{b2:τ->Int->Option Int}{a2:τ->Int->τ}(R:σ->τ->Prop)(hb:∀s t x,R s t->b1 s x=b2 t x)(ha:∀s t x,R s t->b1 s x=none->R (a1 s x) (a2 t x)):
 ∀(l:List Int) (s:σ) (t:τ),R s t->(∃e,wk b1 a1 l s= .error e/\wk b2 a2 l t= .error e)\/∃s' t',wk b1 a1 l s= .ok s'/\wk b2 a2 l t= .ok t'/\R s' t'
 |[],s,t,h=>.inr ⟨s,t,rfl,rfl,h⟩
 |x::l,s,t,h=>by
  rw [wk,wk,<-hb s t x h]
  cases e:b1 s x with
  |some c=>simp_all
  |none=>exact Ia R hb ha l _ _ (ha s t x h e)
theorem yY{σ:Type}{bad:σ->Int->Option Int}{add:σ->Int->σ}(P:σ->Prop)(hs:∀s x,P s->bad s x=none->P (add s x)):∀(l:List Int) (s s':σ),P s->wk bad add l s= .ok s'->P s'
 |[],s,s',h,e=>by cases e;exact h
 |x::l,s,s',h,e=>by
  rw [wk] at e
  cases hb:bad s x with
  |some c=>simp_all
  |none=>rw [hb] at e;exact yY P hs l _ s' (hs s x h hb) e
theorem lY{k:Nat}{a b c:Int}:ec k a b c=some (decide (b≤a/\a≤c)):=by
 grind [ec]
theorem qM{k:Nat}{a b c:Int}:fj k a b c=some (decide (b≤a/\a≤c)):=by
 grind [fj]
theorem Ut{n:Int}(h:1≤n/\n≤5):ck (n - 1)=some (n - 1):=by grind [bG]
theorem JL{k:Nat}{m:ab}{x:Int}(h:1≤mC m/\mC m≤5):ii k m x=some (decide (0≤x/\x < mC m)):=by
 have h':IntKind.i64.wrap (m.1 - 1)=m.1 - 1:=vv (Ut h);unfold ii;rw [h',qM,bs];grind
theorem QJ{k:Nat}{m:ab}{x:Int}:jd k m x=some (decide (0≤x/\x≤(mD m).length)):=by
 grind [jd,qM,bs]
theorem vi{k:Nat}{l:List Int}{x:Int}(hk:l.length < k)(hl:l.length≤1000000):lN k l x=some (decide (x∈l)):=by
 unfold lN
 have key:=iM (f:=ix k l x) l (λ(_:Unit) j=>j) (λ_ j y=>if decide (y=x)=true then Except.error true else .ok ()) (λ_ _=>True) (λr=>some r)
  (λn s j hj _=>by
   have hck:ck ((j:Int)+1)=some ((j:Int)+1):=bG (by omega) (by omega);refine⟨?_,λ_ _=>trivial⟩;simp only [ix,Int.ofNat_lt,hj,if_true,bT hj,bs,decide_eq_true_eq];grind)
  (λn s _=>by simp [ix]) (n:=k) (s0:=()) hk trivial
 rw [show ix k l x k 0=_ from key]
 have:∀(l:List Int) (j:Nat),dM (λ(_:Unit) _ y=>if decide (y=x)=true then Except.error true else .ok ()) j l ()=if x∈l then .error true else .ok ():=by
  intro l
  induction l with
  |nil=>simp_all [dM]
  |cons y l ih=>
   intro j;rw [dM];grind
 grind [km,i9]
def Dh(C:Int)(s x:Int):Option Int:=if¬(0≤x/\x < C) then some 3 else if eM s x.toNat then some 4 else none
def yN(s x:Int):Int:=Fj .u8 s (qh .u8 1 x)
def vc(C:Int)(s:List Int)(x:Int):Option Int:=if¬(0≤x/\x < C) then some 3 else if x∈s then some 4 else none
def Af(s:List Int)(x:Int):List Int:=s++[x]
theorem ww:ko 0:=⟨by decide,by decide⟩
theorem Pz{C s x:Int}(h:Dh C s x=none):0≤x/\x < C:=by
 unfold Dh at h;grind
theorem oJ{k:Nat}{s x:Int}(hs:ko s)(h0:0≤x)(h8:x < 8):gU k s x=some (yN s x)/\ko (yN s x)/\∀i:Nat,eM (yN s x) i↔eM s i\/(i:Int)=x:=by
 have h1:=Qn h0 h8;have h2:=QK hs h1.1;refine⟨?_,h2.1,λi=>?_⟩
 .unfold gU;rw [cz h0,bs];rfl
 .show eM (Fj .u8 s (qh .u8 1 x)) i↔_;simp_all
theorem CJ{C s x:Int}(hC:C≤5)(hs:ko s)(h:Dh C s x=none):ko (yN s x):=by
 have:=Pz h;exact(oJ (k:=0) hs this.1 (by omega)).2.1
def oy(C:Int)(r:List (List Int)):Int:=if 3 < r.length then 6 else match wk (vc C) Af r.flatten [] with | .error e=>e | .ok _=>0
theorem He{k:Nat}{m:ab}(hC:1≤mC m/\mC m≤5){l:List Int}(hk:l.length < k)(hl:l.length≤1000){s:Int}(hs:ko s):
 dy k m l k (s,0)=some (wk (Dh (mC m)) yN l s):=by
 have key:=iM (T:=Int×Int) (f:=dy k m l) l (λ(s:Int) j=>(s,j)) (λs _ x=>match Dh (mC m) s x with |some e=>Except.error e |none=>.ok (yN s x)) (λ_ s=>ko s) (λr=>some r)
  (λn s j hj hs=>by
   have hck:ck ((j:Int)+1)=some ((j:Int)+1):=bG (by omega) (by omega);have hc:ck (m.1 - 1)=some (m.1 - 1):=Ut hC;refine⟨?_,λs' e=>?_⟩
   .simp only [dy,Int.ofNat_lt,hj,if_true,bT hj,bs,hc,lY];generalize l[j]=x;by_cases h:0≤x/\x < mC m
    .have h':0≤x/\x≤m.1 - 1:=⟨h.1,by grind⟩;have hh:=wF (k:=k) hs (i:=x.toNat) (by omega);have ex:((x.toNat:Nat):Int)=x:=by omega
     rw [ex] at hh;simp only [h',and_self,decide_true,not_true_eq_false,if_false,hh,bs];have eb:Dh (mC m) s x=if eM s x.toNat then some 4 else none:=by unfold Dh;simp_all
     rw [eb];by_cases h2:eM s x.toNat
     .simp_all
     .simp only [h2,decide_false,Bool.false_eq_true,if_false,(oJ (k:=k) hs h.1 (by omega)).1,bs,hck]
    .have h':¬(0≤x/\x≤m.1 - 1):=λhh=>h ⟨hh.1,by grind⟩;have eb:Dh (mC m) s x=some 3:=by unfold Dh;simp_all
     simp_all
   .cases e2:Dh (mC m) s l[j] with
    |some c=>simp_all
    |none=>grind [CJ])
  (λn s _=>by simp [dy]) (n:=k) (s0:=s) hk hs
 simp_all [dy,vf]
theorem Hf{k:Nat}{m:ab}(hC:1≤mC m/\mC m≤5){r:List (List Int)}(hk:r.length < k)(hr:r.length≤1000)(hl:∀l∈r,l.length < k/\l.length≤1000):
 dz k m r k (0,0)=some (match wk (Dh (mC m)) yN r.flatten 0 with | .error e=>.error e | .ok _=>.ok ()):=by
 have key:=iM (T:=Int×Int) (f:=dz k m r) r (λ(s:Int) j=>(s,j)) (λs _ l=>wk (Dh (mC m)) yN l s) (λ_ s=>ko s) (λx=>some (match x with | .error e=>Except.error e | .ok _=>.ok ()))
  (λn s j hj hs=>by
   have hck:ck ((j:Int)+1)=some ((j:Int)+1):=bG (by omega) (by omega);have hlj:=hl _ (List.getElem_mem hj);refine⟨?_,λs' e=>yY ko (λs x=>CJ hC.2) _ _ _ hs e⟩;simp only [dz,Int.ofNat_lt,hj,if_true,bT hj,bs,He hC hlj.1 hlj.2 hs];cases wk (Dh (mC m)) yN r[j] s with
   |error e=>rw [km]
   |ok s'=>rw [i9,hck,bs])
  (λn s _=>by simp [dz]) (n:=k) (s0:=0) hk ww
 simp_all [dz,yW]
theorem NX{C:Int}(hC:C≤5)(l:List Int):(∃e,wk (Dh C) yN l 0= .error e/\wk (vc C) Af l []= .error e)\/∃s t,wk (Dh C) yN l 0= .ok s/\wk (vc C) Af l []= .ok t/\(ko s/\∀i:Nat,eM s i↔(i:Int)∈t):=by
 refine Ia (λs t=>ko s/\∀i:Nat,eM s i↔(i:Int)∈t) (λs t x h=>?_) (λs t x h hb=>?_) l 0 [] ⟨ww,λi=>by simp [eM]⟩
 .unfold Dh vc;grind
 .have hx:=Pz hb;have hw:=oJ (k:=0) h.1 hx.1 (by omega);simp_all [Af]
theorem Nh{k:Nat}{m:ab}(hC:1≤mC m/\mC m≤5){r:List (List Int)}(hk:1000 < k)(hr:r.length≤1000)(hl:∀l∈r,l.length≤1000):jX k m r=some (oy (mC m) r):=by
 unfold jX oy;by_cases h3:3 < r.length
 .grind
 .rw [if_neg (by omega),if_neg h3,Hf hC (by omega) hr λl hh=>⟨by grind,hl l hh⟩];rcases NX hC.2 r.flatten with⟨e,h1,h2⟩ |⟨s,t,h1,h2,_⟩
  .simp_all [km]
  simp_all [i9]
end Go.Proofs.YtmbkabgllafffaaGreat
set_option linter.unusedVariables false
set_option linter.unusedSimpArgs false
namespace Go.Proofs.YtmbkabgllafffaaGreat
open K Go Go.Proofs
theorem rN:∀(n:Nat) (l:List Int),l.Nodup->(∀x∈l,0≤x/\x < (n:Int))->l.length≤n
 |0,l,_,h=>by
  cases l with
  |nil=>simp
  |cons x l=>have:=h x (by simp);omega
 |n+1,l,hn,h=>by
  have h1:=rN n (l.erase (n:Int)) (hn.erase _) (λx hx=>by
   grind)
  grind
theorem Uw{C:Int}{s:List Int}{x:Int}(h:vc C s x=none):(0≤x/\x < C)/\x∉s:=by
 unfold vc at h;grind
def Mt(C:Int)(s:List Int):Prop:=s.Nodup/\∀x∈s,0≤x/\x < C
theorem Mt.add{C:Int}{s:List Int}{x:Int}(h:Mt C s)(hb:vc C s x=none):Mt C (Af s x):=by
 have:=Uw hb;refine⟨?_,λy hy=>?_⟩
 .unfold Af;rw [nodup_append];exact⟨h.1,by simp,λa ha b hb e=>by simp_all⟩
 .rcases List.mem_append.1 hy with hy |hy
  .exact h.2 y hy
  simp_all
theorem Mt.len{C:Int}{s:List Int}(hC:0≤C/\C≤5)(h:Mt C s):s.length≤5:=by
 have:=rN C.toNat s h.1 λx hx=>⟨(h.2 x hx).1,by have:=(h.2 x hx).2;omega⟩;omega
theorem DI{k:Nat}{m:ab}(hC:1≤mC m/\mC m≤5){r:List (List Int)}{y:List Int×Int}{l:List Int}(hy:aG r y.2=some l)(h6:10≤k)(hk:l.length < k)(hl:l.length≤1000){s:List Int}(hs:Mt (mC m) s):
 dT k m r y k (s,0)=some (wk (vc (mC m)) Af l s):=by
 have key:=iM (T:=List Int×Int) (f:=dT k m r y) l (λ(s:List Int) j=>(s,j)) (λs _ x=>match vc (mC m) s x with |some e=>Except.error e |none=>.ok (Af s x)) (λ_ s=>Mt (mC m) s) (λr=>some r)
  (λn s j hj hs=>by
   have hck:ck ((j:Int)+1)=some ((j:Int)+1):=bG (by omega) (by omega);have h5:=hs.len ⟨by omega,hC.2⟩;refine⟨?_,λs' e=>?_⟩
   .simp only [dT,hy,Int.ofNat_lt,hj,if_true,bT hj,bs,JL hC];generalize l[j]=x;by_cases h:0≤x/\x < mC m
    .have eb:vc (mC m) s x=if x∈s then some 4 else none:=by unfold vc;simp_all
     rw [eb];simp only [h,and_self,decide_true,not_true_eq_false,if_false,vi (k:=k) (l:=s) (x:=x) (by omega) (by omega),bs];by_cases h2:x∈s
     .simp_all
     .have hok:bU (aR (length s+length [x]))=some ():=cz (by grind [aR]);simp only [h2,decide_false,Bool.false_eq_true,if_false,hok,bs,hck];rfl
    .have eb:vc (mC m) s x=some 3:=by unfold vc;simp_all
     simp_all
   .cases e2:vc (mC m) s l[j] with
    |some c=>simp_all
    |none=>rw [e2] at e;cases e;exact hs.add e2)
  (λn s _=>by simp [dT,hy,bs]) (n:=k) (s0:=s) hk hs
 exact key.trans (congrArg some (vf l 0 s))
theorem Mc{k:Nat}{m:ab}(hC:1≤mC m/\mC m≤5){r:List (List Int)}(hk:1000 < k)(hr:r.length≤1000)(hl:∀l∈r,l.length≤1000):jS k m r=some (oy (mC m) r):=by
 unfold jS oy;by_cases h3:3 < r.length
 .grind
 .rw [if_neg (by omega),if_neg h3]
  have key:=iM (T:=List Int×Int) (f:=dU k m r) r (λ(s:List Int) j=>(s,j)) (λs _ l=>wk (vc (mC m)) Af l s) (λ_ s=>Mt (mC m) s) (λx=>some (match x with | .error e=>Except.error e | .ok _=>.ok ()))
   (λn s j hj hs=>by
    have hck:ck ((j:Int)+1)=some ((j:Int)+1):=bG (by omega) (by omega);have hlj:=hl _ (List.getElem_mem hj);refine⟨?_,λs' e=>yY (Mt (mC m)) (λs x=>Mt.add) _ _ _ hs e⟩;have hg:aG r ((s,(j:Int)).2)=some r[j]:=bT hj;simp only [dU,Int.ofNat_lt,hj,if_true];rw [DI hC hg (by omega) (by omega) hlj hs];cases wk (vc (mC m)) Af r[j] s with
    |error e=>rw [km]
    |ok s'=>rw [i9,hck,bs])
   (λn s _=>by simp [dU]) (n:=k) (s0:=[]) (by omega) ⟨nodup_nil,λx hx=>by cases hx⟩
  rw [show dU k m r k ([],0)=_ from key,yW];cases wk (vc (mC m)) Af r.flatten [] with
  |error e=>exact km
  |ok s=>exact i9
theorem Ib{C:Int}:∀{l s t:List Int},wk (vc C) Af l s= .ok t->t=s++l
 |[],s,t,e=>by cases e;simp
 |x::l,s,t,e=>by
  rw [wk] at e
  cases hb:vc C s x with
  |some c=>simp_all
  |none=>
   rw [hb] at e
   have:=Ib e
   simp_all [Af]
theorem EW{C:Int}:∀{l s:List Int},(s++l).Nodup->(∀x∈l,0≤x/\x < C)->wk (vc C) Af l s= .ok (s++l)
 |[],s,_,_=>by simp [wk]
 |x::l,s,hn,hr=>by
  have hx:x∉s:=by
   grind
  have hb:vc C s x=none:=by
   unfold vc;simp_all
  rw [wk,hb];simp only [];rw [EW (s:=Af s x) (by simp_all [Af]) λy hy=>hr y (mem_cons_of_mem _ hy)];simp_all [Af]
theorem yI{C:Int}{r:List (List Int)}:oy C r=0↔r.length≤3/\r.flatten.Nodup/\∀x∈r.flatten,0≤x/\x < C:=by
 unfold oy;constructor
 .intro h;split at h
  .cases h
  .cases e:wk (vc C) Af r.flatten [] with
   |ok t=>
    have h1:=yY (Mt C) (λs x=>Mt.add) _ _ _ ⟨nodup_nil,λx hx=>by cases hx⟩ e;have h2:=Ib e;rw [nil_append] at h2;subst h2;exact⟨by omega,h1.1,h1.2⟩
   |error c=>
    rw [e] at h;exfalso
    have:∀(l s:List Int),wk (vc C) Af l s≠.error 0:=by
     intro l
     induction l with
     |nil=>intro s h;cases h
     |cons x l ih=>
      grind [wk,vc]
    simp_all
 .rintro⟨h1,h2,h3⟩;rw [if_neg (by omega),EW (by simp_all) h3]
def Av(m:ab)(g:aQ):Int:=if(0≤g.1/\g.1 < mC m)/\0≤g.2.1/\g.2.1≤(mD m).length then 0 else 3
theorem QH{k:Nat}{m:ab}(hC:1≤mC m/\mC m≤5){g:aQ}:ib k m g=some (Av m g):=by
 have hc:ck (m.1 - 1)=some (m.1 - 1):=Ut hC;unfold ib Av;have e:decide (0≤g.1/\g.1≤m.1 - 1)=decide (0≤g.1/\g.1 < mC m):=decide_eq_decide.2 ⟨λh=>⟨h.1,by grind⟩,λh=>⟨h.1,by grind⟩⟩;rw [hc,bs,lY,bs,e];by_cases h1:0≤g.1/\g.1 < mC m
 .by_cases h2:0≤g.2.1/\g.2.1≤(mD m).length <;> simp [h1,h2,lY]
 grind
theorem Qg{k:Nat}{m:ab}(hC:1≤mC m/\mC m≤5){g:aQ}:hJ k m g=some (Av m g):=by
 unfold hJ Av;rw [JL hC,bs];by_cases h1:0≤g.1/\g.1 < mC m
 .by_cases h2:0≤g.2.1/\g.2.1≤(mD m).length <;> simp [h1,h2,QJ]
 grind
def kl{α:Type}(f:α->Int)(l:List α):Int:=((l.map f).find? λe=>decide (e≠0)).getD 0
theorem oq{α:Type}(f:α->Int):∀(l:List α) (j:Nat),dM (λ(_:Unit) _ x=>if¬(f x=0) then Except.error (f x) else .ok ()) j l ()=if kl f l=0 then .ok () else .error (kl f l)
 |[],j=>by simp [dM,kl]
 |x::l,j=>by
  rw [dM]
  by_cases h:f x=0
  .
   have:kl f (x::l)=kl f l:=by simp [kl,h]
   rw [this]
   simp only [h,not_true_eq_false,if_false]
   exact oq f l (j+1)
  simp_all [kl]
theorem qO{α:Type}{f:α->Int}{l:List α}:kl f l=0↔∀x∈l,f x=0:=by
 induction l with
 |nil=>simp [kl]
 |cons x l ih=>
  grind [kl]
structure Sm(m:ab):Prop where
 d:(mD m).length≤1000
 r:∀r∈mD m,r.length≤1000/\∀l∈r,l.length≤1000
 g:(mG m).length≤1000
def nG(m:ab):Int:=
 if¬((1≤mC m/\mC m≤5)/\(0≤mW m/\mW m≤3)/\(0≤mS m/\mS m≤3)/\1≤mH m/\mH m≤3) then 1
 else if(mD m).length=0 then 7 else if 6 < (mD m).length then 6 else if¬(kl (oy (mC m)) (mD m)=0) then kl (oy (mC m)) (mD m)
 else if 8 < (mG m).length then 6 else kl (Av m) (mG m)
theorem Ni{k:Nat}{m:ab}(hs:Sm m)(hk:1000 < k):og k m=some (nG m):=by
 unfold og nG;simp only [lY,bs];by_cases h1:1≤mC m/\mC m≤5
 .by_cases h2:0≤mW m/\mW m≤3
  .by_cases h3:0≤mS m/\mS m≤3
   .by_cases h4:1≤mH m/\mH m≤3
    .have e1:(1≤m.1/\m.1≤5)=True:=eq_true h1;have e2:(0≤m.2.1/\m.2.1≤3)=True:=eq_true h2;have e3:(0≤m.2.2.1/\m.2.2.1≤3)=True:=eq_true h3;have e4:(1≤m.2.2.2.1/\m.2.2.2.1≤3)=True:=eq_true h4;simp only [e1,e2,e3,e4,decide_true,not_true_eq_false,if_false,Bool.not_true,Bool.false_eq_true,bs,and_self,h1,h2,h3,h4];by_cases h5:(mD m).length=0
     .simp_all
     .rw [if_neg (show¬((m.2.2.2.2.1.length:Int) < 1) by grind),if_neg h5];by_cases h6:6 < (mD m).length
      .grind
      .rw [if_neg (show¬((6:Int) < (m.2.2.2.2.1.length:Int)) by grind),if_neg h6]
       have key:=iM (f:=fP k m) (mD m) (λ(_:Unit) j=>j) (λ_ _ x=>if¬(oy (mC m) x=0) then Except.error (oy (mC m) x) else .ok ()) (λ_ _=>True) (λr=>some r)
        (λn s j hj _=>by
         have hck:ck ((j:Int)+1)=some ((j:Int)+1):=bG (by omega) (by omega);have hr:=hs.r _ (List.getElem_mem hj);refine⟨?_,λ_ _=>trivial⟩;have hj':(j:Int) < (m.2.2.2.2.1.length:Int):=Int.ofNat_lt.2 hj;have hg:aG m.2.2.2.2.1 (j:Int)=some (mD m)[j]:=bT hj;simp only [fP,hj',if_true,hg,bs,Nh h1 hk hr.1 hr.2];grind)
        (λn s _=>by
         unfold fP;simp_all) (n:=k) (s0:=()) (by omega) trivial
       rw [show fP k m k 0=_ from key,oq];by_cases h7:kl (oy (mC m)) (mD m)=0
       .rw [if_pos h7,i9,show(if¬(kl (oy (mC m)) (mD m)=0) then kl (oy (mC m)) (mD m) else if 8 < (mG m).length then 6 else kl (Av m) (mG m))=(if 8 < (mG m).length then 6 else kl (Av m) (mG m)) from if_neg (λhn=>hn h7)];by_cases h8:8 < (mG m).length
        .grind
        .rw [if_neg (show¬((8:Int) < (m.2.2.2.2.2.length:Int)) by grind),if_neg h8]
         have key:=iM (f:=fO k m) (mG m) (λ(_:Unit) j=>j) (λ_ _ x=>if¬(Av m x=0) then Except.error (Av m x) else .ok ()) (λ_ _=>True) (λr=>some r)
          (λn s j hj _=>by
           have hck:ck ((j:Int)+1)=some ((j:Int)+1):=bG (by omega) (by omega);refine⟨?_,λ_ _=>trivial⟩;have hj':(j:Int) < (m.2.2.2.2.2.length:Int):=Int.ofNat_lt.2 hj;have hg:aG m.2.2.2.2.2 (j:Int)=some (mG m)[j]:=bT hj;simp only [fO,hj',if_true,hg,bs,QH h1];grind)
          (λn s _=>by
           simp_all [fO,if_neg,Int.lt_irrefl]) (n:=k) (s0:=()) (by omega) trivial
         rw [show fO k m k 0=_ from key,oq];by_cases h9:kl (Av m) (mG m)=0
         .rw [if_pos h9,i9,h9]
         .rw [if_neg h9,km]
       .rw [if_neg h7,km,if_pos h7]
    grind
   grind
  grind
 grind
theorem Me{k:Nat}{m:ab}(hs:Sm m)(hk:1000 < k):nZ k m=some (nG m):=by
 unfold nZ nG;simp only [qM,bs];by_cases h1:1≤mC m/\mC m≤5
 .by_cases h2:0≤mW m/\mW m≤3
  .by_cases h3:0≤mS m/\mS m≤3
   .by_cases h4:1≤mH m/\mH m≤3
    .have e1:(1≤m.1/\m.1≤5)=True:=eq_true h1;have e2:(0≤m.2.1/\m.2.1≤3)=True:=eq_true h2;have e3:(0≤m.2.2.1/\m.2.2.1≤3)=True:=eq_true h3;have e4:(1≤m.2.2.2.1/\m.2.2.2.1≤3)=True:=eq_true h4;simp only [e1,e2,e3,e4,decide_true,not_true_eq_false,if_false,Bool.not_true,Bool.false_eq_true,bs,and_self,h1,h2,h3,h4];by_cases h5:(mD m).length=0
     .simp_all
     .rw [if_neg (show¬((m.2.2.2.2.1.length:Int)=0) by simp_all),if_neg h5];by_cases h6:6 < (mD m).length
      .grind
      .rw [if_neg (show¬((6:Int) < (m.2.2.2.2.1.length:Int)) by grind),if_neg h6]
       have key:=iM (f:=fJ k m) (mD m) (λ(_:Unit) j=>j) (λ_ _ x=>if¬(oy (mC m) x=0) then Except.error (oy (mC m) x) else .ok ()) (λ_ _=>True) (λr=>some r)
        (λn s j hj _=>by
         have hck:ck ((j:Int)+1)=some ((j:Int)+1):=bG (by omega) (by omega);have hr:=hs.r _ (List.getElem_mem hj);refine⟨?_,λ_ _=>trivial⟩;have hj':(j:Int) < (m.2.2.2.2.1.length:Int):=Int.ofNat_lt.2 hj;have hg:aG m.2.2.2.2.1 (j:Int)=some (mD m)[j]:=bT hj;simp only [fJ,hj',if_true,hg,bs,Mc h1 hk hr.1 hr.2];grind)
        (λn s _=>by
         unfold fJ;simp_all) (n:=k) (s0:=()) (by omega) trivial
       rw [show fJ k m k 0=_ from key,oq];by_cases h7:kl (oy (mC m)) (mD m)=0
       .rw [if_pos h7,i9,show(if¬(kl (oy (mC m)) (mD m)=0) then kl (oy (mC m)) (mD m) else if 8 < (mG m).length then 6 else kl (Av m) (mG m))=(if 8 < (mG m).length then 6 else kl (Av m) (mG m)) from if_neg (λhn=>hn h7)];by_cases h8:8 < (mG m).length
        .grind
        .rw [if_neg (show¬((8:Int) < (m.2.2.2.2.2.length:Int)) by grind),if_neg h8]
         have key:=iM (f:=fH k m) (mG m) (λ(_:Unit) j=>j) (λ_ _ x=>if¬(Av m x=0) then Except.error (Av m x) else .ok ()) (λ_ _=>True) (λr=>some r)
          (λn s j hj _=>by
           have hck:ck ((j:Int)+1)=some ((j:Int)+1):=bG (by omega) (by omega);refine⟨?_,λ_ _=>trivial⟩;have hj':(j:Int) < (m.2.2.2.2.2.length:Int):=Int.ofNat_lt.2 hj;have hg:aG m.2.2.2.2.2 (j:Int)=some (mG m)[j]:=bT hj;simp only [fH,hj',if_true,hg,bs,Qg h1];grind)
          (λn s _=>by
           simp_all [fH,if_neg,Int.lt_irrefl]) (n:=k) (s0:=()) (by omega) trivial
         rw [show fH k m k 0=_ from key,oq];by_cases h9:kl (Av m) (mG m)=0
         .rw [if_pos h9,i9,h9]
         .rw [if_neg h9,km]
       .rw [if_neg h7,km,if_pos h7]
    grind
   grind
  grind
 grind
end Go.Proofs.YtmbkabgllafffaaGreat
set_option linter.unusedVariables false
set_option linter.unusedSimpArgs false
namespace Go.Proofs.YtmbkabgllafffaaGreat
open K Go Go.Proofs
theorem wo{r:List (List Int)}{l:List Int}(h:r.flatten.Nodup)(hl:l∈r):l.Nodup:=by
 grind
theorem LF{σ:Type}{bad:σ->Int->Option Int}{add:σ->Int->σ}{x:Int}{l:List Int}{s:σ}{e:Int}(h:bad s x=some e):wk bad add (x::l) s= .error e:=by rw [wk,h]
theorem LC{σ:Type}{bad:σ->Int->Option Int}{add:σ->Int->σ}{x:Int}{l:List Int}{s:σ}(h:bad s x=none):wk bad add (x::l) s=wk bad add l (add s x):=by rw [wk,h]
theorem Vd.of{m:ab}(h:nG m=0):Vd m:=by
 unfold nG at h;by_cases h1:(1≤mC m/\mC m≤5)/\(0≤mW m/\mW m≤3)/\(0≤mS m/\mS m≤3)/\1≤mH m/\mH m≤3
 .rw [if_neg (λhn=>hn h1)] at h;by_cases h2:(mD m).length=0
  .omega
  .rw [if_neg h2] at h;by_cases h3:6 < (mD m).length
   .omega
   .rw [if_neg h3] at h;by_cases h4:kl (oy (mC m)) (mD m)=0
    .rw [if_neg (λhn=>hn h4)] at h;by_cases h5:8 < (mG m).length
     .omega
     .rw [if_neg h5] at h;have hd:=λr hr=>yI.1 (qO.1 h4 r hr);have hx:∀r∈mD m,∀l∈r,∀x∈l,0≤x/\x < mC m:=λr hr l hl x hx=>(hd r hr).2.2 x (List.mem_flatten.2 ⟨l,hl,hx⟩)
      exact⟨h1.1.1,h1.1.2,h1.2.1.1,h1.2.1.2,h1.2.2.1.1,h1.2.2.1.2,h1.2.2.2.1,h1.2.2.2.2,by omega,by omega,λr hr=>(hd r hr).1,λr hr l hl=>by
       have hn:l.Nodup:=wo (hd r hr).2.1 hl;have:=rN (mC m).toNat l hn λx hxx=>by grind
       omega,hx,λr hr=>(hd r hr).2.1,by omega,λg hg=>by
        grind [qO,Av]⟩
    omega
 omega
theorem Vd.chk{m:ab}(v:Vd m):nG m=0:=by
 unfold nG;have h1:(1≤mC m/\mC m≤5)/\(0≤mW m/\mW m≤3)/\(0≤mS m/\mS m≤3)/\1≤mH m/\mH m≤3:=⟨⟨v.c1,v.c5⟩,⟨v.w0,v.w3⟩,⟨v.s0,v.s3⟩,v.h1,v.h3⟩
 have h4:kl (oy (mC m)) (mD m)=0:=qO.2 λr hr=>yI.2 ⟨v.r3 r hr,v.nd r hr,λx hx=>by
  obtain⟨l,hl,hx⟩:=List.mem_flatten.1 hx;exact v.x5 r hr l hl x hx⟩
 have h9:kl (Av m) (mG m)=0:=qO.2 λg hg=>by
  have:=v.gl g hg;unfold Av;omega
 have d1:=v.d1;have d6:=v.d6;have g8:=v.g8;omega
theorem Vd.sm{m:ab}(v:Vd m):Sm m:=⟨by have:=v.d6;omega,λr hr=>⟨by have:=v.r3 r hr;omega,λl hl=>by have:=v.l5 r hr l hl;omega⟩,by have:=v.g8;omega⟩
def xg(C:Int)(p:Option Int)(x:Int):Option Int:=if¬(0≤x/\x < C) then some 3 else if p.any (λy=>decide (x≤y)) then some 5 else none
def Om(C:Int)(p:Option Int×Int)(x:Int):Option Int:=xg C p.1 x
def RS(p:Option Int×Int)(x:Int):Option Int×Int:=(some x,yN p.2 x)
def Oy(p:Option Int)(x:Int):Option Int:=some x
def zZ(C:Int)(b:List Int):Int:=match wk (xg C) Oy b none with | .error e=>e | .ok _=>0
def cj(b:List Int):Int:=b.foldl yN 0
theorem PC{C:Int}{p:Option Int}{x:Int}(h:xg C p x=none):(0≤x/\x < C)/\p.any (λy=>decide (x≤y))=false:=by
 unfold xg at h;grind
theorem FR{C:Int}:∀(b:List Int) (p:Option Int) (s:Int),(∃e,wk (Om C) RS b (p,s)= .error e/\wk (xg C) Oy b p= .error e)\/∃q,wk (Om C) RS b (p,s)= .ok (q,b.foldl yN s)/\wk (xg C) Oy b p= .ok q
 |[],p,s=>.inr ⟨p,rfl,rfl⟩
 |x::b,p,s=>by
  cases e:xg C p x with
  |some c=>exact .inl ⟨c,LF e,LF e⟩
  |none=>
   rw [LC (bad:=Om C) (s:=(p,s)) (x:=x) e,LC e]
   exact FR (C:=C) b (some x) (yN s x)
theorem By{k:Nat}{m:ab}(hC:1≤mC m/\mC m≤5){b:List Int}(hk:b.length < k)(hb:b.length≤1000):
 fM k m b k (0,0)=some (if zZ (mC m) b=0 then .ok (cj b) else .error (none,0,zZ (mC m) b)):=by
 have key:=iM (T:=Int×Int) (f:=fM k m b) b (λ(s:Option Int×Int) j=>(s.2,j)) (λs _ x=>match Om (mC m) s x with |some e=>Except.error e |none=>.ok (RS s x)) (λj s=>ko s.2/\s.1=if j=0 then none else b[j-1]?) (λr=>some (match r with | .error e=>Except.error (none,0,e) | .ok s=>.ok s.2))
  (λn s j hj hs=>by
   have hck:ck ((j:Int)+1)=some ((j:Int)+1):=bG (by omega) (by omega);have hc:ck (m.1 - 1)=some (m.1 - 1):=Ut hC;refine⟨?_,λs' e=>?_⟩
   .simp only [fM,Int.ofNat_lt,hj,if_true,bT hj,bs,hc,lY];generalize b[j]=x;rw [show Om (mC m) s x=xg (mC m) s.1 x from rfl];by_cases h:0≤x/\x < mC m
    .have h':0≤x/\x≤m.1 - 1:=⟨h.1,by grind⟩;have eb:xg (mC m) s.1 x=if s.1.any (λy=>decide (x≤y)) then some 5 else none:=by unfold xg;simp_all
     have ep:(if(0:Int) < (j:Int) then((ck ((j:Int) - 1)).bind λx12=>(aG b x12).bind λx13=>some (decide (x≤x13))) else some false)=some (s.1.any λy=>decide (x≤y)):=by
      rw [hs.2];by_cases h0:j=0
      .simp_all
      .have c1:ck ((j:Int) - 1)=some ((j - 1:Nat):Int):=by grind [bG]
       rw [if_pos (by omega),c1,bs,bT (by omega),bs,if_neg h0,List.getElem?_eq_getElem (by omega)];rfl
     rw [eb];simp only [h',and_self,decide_true,not_true_eq_false,if_false,bs];rw [ep,bs];cases s.1.any λy=>decide (x≤y) with
     |true=>simp_all
     |false=>
      simp only [Bool.false_eq_true,if_false,(oJ (k:=k) hs.1 h.1 (by omega)).1,bs,hck];rfl
    .have h':¬(0≤x/\x≤m.1 - 1):=λhh=>h ⟨hh.1,by grind⟩;have eb:xg (mC m) s.1 x=some 3:=by unfold xg;simp_all
     simp_all
   .cases e2:Om (mC m) s b[j] with
    |some c=>simp_all
    |none=>
     rw [e2] at e;cases e;have hx:=PC e2;exact⟨(oJ (k:=0) hs.1 hx.1.1 (by omega)).2.1,by show some b[j]=if j+1=0 then none else b[j+1 - 1]?;simp_all⟩)
  (λn s _=>by simp [fM]) (n:=k) (s0:=(none,0)) hk ⟨ww,rfl⟩
 rw [show fM k m b k (0,0)=_ from key]
 have e1:dM (λ(s:Option Int×Int) _ x=>match Om (mC m) s x with |some e=>Except.error e |none=>.ok (RS s x)) 0 b (none,0)=wk (Om (mC m)) RS b (none,0):=vf (bad:=Om (mC m)) (add:=RS) b 0 (none,0)
 rw [e1]
 unfold zZ
 have z:∀(l:List Int) (p:Option Int),wk (xg (mC m)) Oy l p≠.error 0:=by
  intro l
  induction l with
  |nil=>intro p h;cases h
  |cons x l ih=>
   intro p h;rw [wk] at h;cases hb:xg (mC m) p x with
   |some c=>
    grind [xg]
   |none=>grind
 rcases FR (C:=mC m) b none 0 with⟨e,h1,h2⟩ |⟨q,h1,h2⟩
 .
  grind
 .
  rw [h1,h2];rfl
end Go.Proofs.YtmbkabgllafffaaGreat
set_option linter.unusedVariables false
set_option linter.unusedSimpArgs false
namespace Go.Proofs.YtmbkabgllafffaaGreat
open K Go Go.Proofs
theorem AZ{C:Int}(hC:C≤5):∀(b:List Int) (s:Int),ko s->(∀x∈b,0≤x/\x < C)->ko (b.foldl yN s)/\∀i:Nat,eM (b.foldl yN s) i↔eM s i\/(i:Int)∈b
 |[],s,hs,_=>⟨hs,λi=>by simp⟩
 |x::b,s,hs,hb=>by
  have hx:=hb x mem_cons_self
  have hw:=oJ (k:=0) hs hx.1 (by omega)
  have:=AZ hC b (yN s x) hw.2.1 λy hy=>hb y (mem_cons_of_mem _ hy)
  grind
structure Bg(C:Int)(b:List Int):Prop where
 rng:∀x∈b,0≤x/\x < C
 asc:b.Pairwise (· < ·)
theorem Dl{C:Int}:∀{b:List Int} {p:Option Int},(∃q,wk (xg C) Oy b p= .ok q)↔(∀x∈b,0≤x/\x < C)/\b.Pairwise (· < ·)/\∀y,p=some y->∀x∈b.head?,y < x
 |[],p=>by simp [wk]
 |x::b,p=>by
  cases e:xg C p x with
  |some c=>
   rw [LF e]
   constructor
   .
    simp_all
   .
    rintro⟨h1,h2,h3⟩
    exfalso
    unfold xg at e
    rw [if_neg (λhn=>hn (h1 x mem_cons_self))] at e
    cases p with
    |none=>cases e
    |some y=>
     have:=h3 y rfl x (by simp)
     grind
  |none=>
   have hx:=PC e
   rw [LC e,Dl (b:=b) (p:=Oy p x)]
   constructor
   .
    rintro⟨h1,h2,h3⟩
    refine⟨λy hy=>?_,?_,λy hy z hz=>?_⟩
    .
     grind
    .
     rw [pairwise_cons]
     refine⟨λy hy=>?_,h2⟩
     cases b with
     |nil=>cases hy
     |cons z b=>
      have hz:=h3 x rfl z (by simp)
      grind [pairwise_cons]
    simp_all
   simp_all [pairwise_cons,mem_cons_of_mem,Oy,mem_of_mem_head?]
theorem FT{C:Int}:∀{l:List Int} {p:Option Int},wk (xg C) Oy l p≠.error 0
 |[],p,h=>by cases h
 |x::l,p,h=>by
  cases hb:xg C p x with
  |some c=>
   rw [LF hb] at h
   grind [xg]
  |none=>rw [LC hb] at h;exact FT h
theorem Ht{C:Int}{b:List Int}:zZ C b=0↔Bg C b:=by
 unfold zZ;constructor
 .intro h;cases e:wk (xg C) Oy b none with
  |error c=>simp_all [FT]
  |ok q=>have:=Dl.1 ⟨q,e⟩;exact⟨this.1,this.2.1⟩
 .rintro⟨h1,h2⟩;obtain⟨q,e⟩:=(Dl (p:=none)).2 ⟨h1,h2,λy hy=>by cases hy⟩;rw [e]
theorem Bg.set{C:Int}(hC:C≤5){b:List Int}(h:Bg C b):ko (cj b)/\∀c:Int,0≤c->mK (cj b) c=decide (c∈b):=by
 have:=AZ hC b 0 ww h.rng;refine⟨this.1,λc hc=>?_⟩;unfold mK;have e:((c.toNat:Nat):Int)=c:=by omega
 have h2:=this.2 c.toNat;rw [e] at h2;refine decide_eq_decide.2 ?_;show eM (b.foldl yN 0) c.toNat↔_;simp_all [eM]
def xf(m:ab)(i:Nat):Int:=match i with |0=>mC m - 1 |1=>((mD m).length:Int) - 1 |_=>(mD m).length
def Au(n:Int)(l:List Int):Bool:=l.all λx=>decide (0≤x/\x≤n)
theorem rO{k:Nat}{m:ab}(v:Vd m){i:Nat}(hi:i < 3){l:List Int}(hk:l.length < k)(hl:l.length≤1000):
 dW k m (i:Int) l k 0=some (if Au (xf m i) l then .ok () else .error (none,0,3)):=by
 have c1:=v.c1
 have c5:=v.c5
 have d6:=v.d6
 have d1:=v.d1
 have key:=iM (T:=Int) (f:=dW k m (i:Int) l) l (λ(_:Unit) j=>j) (λ_ _ x=>if 0≤x/\x≤xf m i then .ok () else Except.error ((none,0,3):Option ab×Int×Int)) (λ_ _=>True) (λr=>some r)
  (λn s j hj _=>by
   have hck:ck ((j:Int)+1)=some ((j:Int)+1):=bG (by omega) (by omega);have hc:ck (m.1 - 1)=some (mC m - 1):=Ut ⟨c1,c5⟩;have hd:ck ((m.2.2.2.2.1.length:Int) - 1)=some (((mD m).length:Int) - 1):=bG (by omega) (by grind)
   have hg:aG [mC m - 1,((mD m).length:Int) - 1,((mD m).length:Int)] (i:Int)=some (xf m i):=by
    have:i=0\/i=1\/i=2:=by omega
    rcases this with rfl |rfl |rfl <;> rfl
   refine⟨?_,λ_ _=>trivial⟩;simp only [dW,Int.ofNat_lt,hj,if_true,bT hj,bs,hc,hd];rw [show aG [mC m - 1,((mD m).length:Int) - 1,(m.2.2.2.2.1.length:Int)] (i:Int)=some (xf m i) from hg,bs,lY,bs];grind)
  (λn s _=>by simp [dW]) (n:=k) (s0:=()) hk trivial
 rw [show dW k m (i:Int) l k 0=_ from key]
 congr 1
 have:∀(l:List Int) (j:Nat),dM (λ(_:Unit) _ x=>if 0≤x/\x≤xf m i then .ok () else Except.error ((none,0,3):Option ab×Int×Int)) j l ()=if Au (xf m i) l then .ok () else .error (none,0,3):=by
  intro l
  induction l with
  |nil=>intro j;rfl
  |cons x l ih=>
   intro j;rw [dM];by_cases h:0≤x/\x≤xf m i
   .simp_all [if_pos,Au,xf,all_cons,and_self,decide_true,Bool.true_and]
   .rw [if_neg h];have:Au (xf m i) (x::l)=false:=by simp only [Au,all_cons,h,decide_false,Bool.false_and]
    simp_all
 simp_all
theorem AL{k:Nat}{m:ab}(v:Vd m)(hk:10≤k):∀n:Nat,n≤32->xW k m n=some ()
 |0,_=>rfl
 |n+1,h=>by
  have e:IntKind.u8.wrap (n:Int)=(n:Int):=ve (by omega)
  unfold xW
  rw [AL v hk n (by omega),bs,e,uv v hk ⟨by omega,by omega⟩,bs]
theorem LJ{k:Nat}{m:ab}(v:Vd m)(hk:10≤k):fp k m=some ():=by
 have c1:=v.c1;have c5:=v.c5;unfold fp
 have hc:m.1=1\/m.1=2\/m.1=3\/m.1=4\/m.1=5:=by
  grind
 have e:0≤qh .i64 1 m.1/\qh .i64 1 m.1≤32:=by
  rcases hc with h |h |h |h |h <;> rw [h] <;> decide
 rw [if_pos ⟨by omega,by omega⟩];simp_all [AL]
def RN(m:ab)(cs ds ns:List Int):Bool:=Au (xf m 0) cs && Au (xf m 1) ds && Au (xf m 2) ns
theorem JB{k:Nat}{m:ab}{b cs ds ns:List Int}(hs:Sm m)(hk:1010≤k)(hb:b.length≤1000)(h1:cs.length≤1000)(h2:ds.length≤1000)(h3:ns.length≤1000):
 kU k m b cs ds ns=some (if¬(nG m=0) then(none,0,nG m) else if¬(zZ (mC m) b=0) then(none,0,zZ (mC m) b) else if RN m cs ds ns then(some m,cj b,0) else(none,0,3)):=by
 unfold kU
 rw [Ni hs (by omega),bs]
 by_cases hc:nG m=0
 .
  have v:=Vd.of hc;rw [if_neg (λhn=>hn hc),if_neg (λhn=>hn hc),By ⟨v.c1,v.c5⟩ (by omega) hb];by_cases hg:zZ (mC m) b=0
  .rw [if_pos hg,i9,if_neg (λhn=>hn hg)];obtain⟨n,rfl⟩:∃n,k=n+4:=⟨k - 4,by omega⟩;have e0:=rO v (k:=n+4) (i:=0) (by omega) (l:=cs) (by omega) h1;have e1:=rO v (k:=n+4) (i:=1) (by omega) (l:=ds) (by omega) h2;have e2:=rO v (k:=n+4) (i:=2) (by omega) (l:=ns) (by omega) h3;have g0:aG [cs,ds,ns] (0:Int)=some cs:=rfl;have g1:aG [cs,ds,ns] (1:Int)=some ds:=rfl;have g2:aG [cs,ds,ns] (2:Int)=some ns:=rfl;have k0:ck ((0:Int)+1)=some 1:=rfl;have k1:ck ((1:Int)+1)=some 2:=rfl;have k2:ck ((2:Int)+1)=some 3:=rfl;have ln:(([cs,ds,ns]:List (List Int)).length:Int)=3:=rfl
   have s0:de (n+4) m cs ds ns (n+4) 0=if Au (xf m 0) cs then de (n+4) m cs ds ns (n+3) 1 else some (.error (none,0,3)):=by
    rw [de,ln,if_pos (by decide),g0,bs,show dW (n+4) m 0 cs (n+4) 0=_ from e0];cases Au (xf m 0) cs with
    |true=>simp_all [if_true,i9,bs]
    |false=>simp_all [Bool.false_eq_true,if_false,km]
   have s1:de (n+4) m cs ds ns (n+3) 1=if Au (xf m 1) ds then de (n+4) m cs ds ns (n+2) 2 else some (.error (none,0,3)):=by
    rw [de,ln,if_pos (by decide),g1,bs,show dW (n+4) m 1 ds (n+4) 0=_ from e1];cases Au (xf m 1) ds with
    |true=>simp_all [if_true,i9,bs]
    |false=>simp_all [Bool.false_eq_true,if_false,km]
   have s2:de (n+4) m cs ds ns (n+2) 2=if Au (xf m 2) ns then de (n+4) m cs ds ns (n+1) 3 else some (.error (none,0,3)):=by
    rw [de,ln,if_pos (by decide),g2,bs,show dW (n+4) m 2 ns (n+4) 0=_ from e2];cases Au (xf m 2) ns with
    |true=>simp_all [if_true,i9,bs]
    |false=>simp_all [Bool.false_eq_true,if_false,km]
   have s3:de (n+4) m cs ds ns (n+1) 3=some (.ok ()):=by
    rw [de,ln,if_neg (by decide)]
   rw [s0,s1,s2,s3];unfold RN
   have fin:((jW (n+4) m).bind λr32=>gW r32 none (λq33=>(fp (n+4) q33).bind λr35=>some (some q33,cj b,(0:Int))))=some (some m,cj b,0):=by
    grind [jW,bs,vu,LJ]
   cases Au (xf m 0) cs with
   |false=>simp_all [Bool.false_eq_true,if_false,Bool.false_and,km]
   |true=>
    cases Au (xf m 1) ds with
    |false=>simp_all [if_true,Bool.false_eq_true,if_false,Bool.true_and,Bool.false_and,km]
    |true=>
     cases Au (xf m 2) ns with
     |false=>simp_all [if_true,Bool.false_eq_true,if_false,Bool.true_and,Bool.and_false,km]
     |true=>simp_all [if_true,Bool.true_and,i9]
  .rw [if_neg hg,km,if_pos hg]
 simp_all
end Go.Proofs.YtmbkabgllafffaaGreat
set_option linter.unusedVariables false
set_option linter.unusedSimpArgs false
namespace Go.Proofs.YtmbkabgllafffaaGreat
open K Go Go.Proofs
def nW(m:ab)(B:Int->Bool)(n:Nat):List Int:=(List.range (mC m).toNat).map λ(c:Nat)=>jP m B n (c:Int)
def lJ(m:ab)(B:Int->Bool):List (List Int):=(List.range ((mD m).length+1)).map (nW m B)
theorem nV{m:ab}{B:Int->Bool}{n:Nat}{c:Int}(h0:0≤c)(h1:c < mC m):aG (nW m B n) c=some (jP m B n c):=by
 unfold nW;rw [aG,if_pos h0,List.getElem?_map,List.getElem?_range (by omega)];grind
theorem qS{m:ab}{B:Int->Bool}{n:Nat}(h:n≤(mD m).length):aG (lJ m B) (n:Int)=some (nW m B n):=by
 unfold lJ;rw [aG,if_pos (by omega),List.getElem?_map,Int.toNat_natCast,List.getElem?_range (by omega)];rfl
end Go.Proofs.YtmbkabgllafffaaGreat
set_option linter.unusedVariables false
set_option linter.unusedSimpArgs false
namespace Go.Proofs.YtmbkabgllafffaaGreat
open K Go Go.Proofs
theorem Lo.mono{l:bV}{m n:Int}(h:Lo l m)(hn:m≤n):Lo l n:=⟨h.1,Int.le_trans h.2 hn⟩
theorem Qp{α:Type}{l:List α}{x:α}{n:Nat}(h:l.length≤n)(hn:n≤1000000):aR (length l+length [x]):=by
 show length l+length [x]≤4294967296;grind
theorem Eg{k:Nat}(hk:50≤k){l:bV}{m:Int}{n:Nat}(hl:Lo l m)(hm:0≤m/\m≤1000)(hn:n≤8):W (iL k l (n:Int)) λr=>Lo r.2 (m+10)/\r.1.length=n/\(∀x∈r.1,0≤x/\x < (n:Int))/\r.1.Nodup:=by
 unfold iL;refine W.bind (R:=λr=>Lo (r.2.1,r.2.2.1,r.2.2.2) (m+10)/\r.1.length=n/\(∀x∈r.1,0≤x/\x < (n:Int))/\r.1.Nodup) ?_ λr h=>W.ret h
 refine W.loop (f:=eO k (n:Int)) (λq y=>∃j:Nat,y.2.2.2.2=(j:Int)/\j≤n/\q=n - j/\Lo (y.1,y.2.1,y.2.2.1) (m+j)/\y.2.2.2.1.length=j/\(∀x∈y.2.2.2.1,0≤x/\x < (j:Int))/\y.2.2.2.1.Nodup) ?_ n k _ (by omega)
  ⟨0,rfl,by omega,by omega,by simp_all,rfl,by simp,by simp⟩
 rintro aM q ⟨nums,d,s,o,y⟩ ⟨j,hj,hle,hq,hlo,hlen,hx,hnd⟩ ih;simp only at hj hlo hlen hx hnd;subst hj;unfold eO;dsimp only;refine W.ite (λhlt=>?_) (λhge=>W.ret ⟨hlo.mono (by omega),by grind,λx hx'=>by grind,hnd⟩);obtain⟨r5,e5,a5,b5,c5⟩:=kK (k:=k) (n:=(j:Int)) hlo (by omega) (by omega);have b5:=b5 (by omega);have ho:(o++[(j:Int)]).length=j+1:=by simp [hlen]
 have hr5:r5.1.toNat < (o++[(j:Int)]).length:=by omega
 have hjl:j < (o++[(j:Int)]).length:=by omega
 have hgj:(o++[(j:Int)])[j]=(j:Int):=by
  grind
 rw [e5,bs,cz (Qp (n:=8) (by omega) (by omega)),bs,zG a5 hr5,bs,bT (by omega),bs];have hgs:aG (List.set (o++[(j:Int)]) (Int.toNat (j:Int)) (o++[(j:Int)])[r5.1.toNat]) r5.1=some ((List.set (o++[(j:Int)]) (Int.toNat (j:Int)) (o++[(j:Int)])[r5.1.toNat])[r5.1.toNat]'(by grind)):=zG a5 (by grind);rw [hgs,bs,bG (by omega) (by omega),bs]
 have hp:(List.set (List.set (o++[(j:Int)]) (Int.toNat (j:Int)) (o++[(j:Int)])[r5.1.toNat]) (Int.toNat r5.1) (j:Int)).Perm (o++[(j:Int)]):=by
  have:= @set_set_perm Int (o++[(j:Int)]) j r5.1.toNat hjl hr5;rw [hgj] at this;exact this
 refine ih (q - 1) (_,_,_,_,(j:Int)+1) (by omega) ⟨j+1,by grind,by omega,by omega,c5.mono (by omega),by simp [hlen],λx hx'=>?_,hp.nodup_iff.2 ?_⟩
 .grind
 grind
theorem J4{out:List (List Int)}{i:Nat}{x:Int}(h:i < out.length):(out.set i (out[i]++[x])).flatten.Perm (out.flatten++[x]):=by
 have e1:out=out.take i++out[i]::out.drop (i+1):=by simp_all
 grind
structure Rl(C:Int)(r:List (List Int)):Prop where
 r3:r.length≤3
 x5:∀l∈r,∀x∈l,0≤x/\x < C
 nd:r.flatten.Nodup
theorem Rl.l5{C:Int}(hC:0≤C/\C≤5){r:List (List Int)}(h:Rl C r):∀l∈r,l.length≤5:=λl hl=>by
 have:=rN C.toNat l (wo h.nd hl) λx hx=>by have:=h.x5 l hl x hx;omega
 omega
theorem IQ{k:Nat}(hk:50≤k){l:bV}{m:Int}{n:Nat}(hl:Lo l m)(hm:0≤m/\m≤900)(hn:n≤5):
 W (kW k l (n:Int)) λr=>Lo r.2 (m+30)/\Rl (n:Int) r.1:=by
 unfold kW
 refine W.bind (Fo (l:=(l.1,l.2.1,l.2.2)) hl (by omega) (by omega) (by omega) (by omega)) λr1 h1=>?_
 refine W.chk ⟨by omega,by show _≤_;omega⟩ ?_
 refine W.bind (Eg hk (l:=(r1.2.1,r1.2.2.1,r1.2.2.2)) (m:=m+1) (n:=n) h1.2.2 (by omega) (by omega)) λr4 h4=>?_
 obtain⟨lo4,len4,rng4,nd4⟩:=h4
 refine W.bind (R:=λx=>Lo (x.1,x.2.1,x.2.2.1) (m+30)/\Rl (n:Int) x.2.2.2) ?_ λx hx=>W.ret hx
 refine W.loop (f:=f9 k r4) (λq y=>∃j:Nat,y.2.2.2.1=(j:Int)/\j≤n/\q=n - j/\Lo (y.1,y.2.1,y.2.2.1) (m+11+2 * j)/\y.2.2.2.2.length=r1.1.toNat/\(∀x∈y.2.2.2.2.flatten,x∈r4.1.take j)/\y.2.2.2.2.flatten.Nodup) ?_ n k _ (by omega)
  ⟨0,rfl,by omega,by omega,lo4.mono (by omega),by simp,by simp,by simp⟩
 rintro aM q ⟨nums,d,s,y,out⟩ ⟨j,hj,hle,hq,hlo,hlen,hx,hnd⟩ ih
 simp only at hj hlo hlen hx hnd
 subst hj
 unfold f9
 dsimp only
 refine W.ite (λhlt=>?_) (λhge=>W.ret ⟨hlo.mono (by omega),by grind,λl hl x hxx=>rng4 x (mem_of_mem_take (hx x (List.mem_flatten.2 ⟨l,hl,hxx⟩))),hnd⟩)
 have hj:j < r4.1.length:=by omega
 have hsub:∀x∈r4.1.take j,x∈r4.1.take (j+1):=λx hh=>by grind
 refine W.bind (R:=λx=>Lo (x.1,x.2.1,x.2.2.1) (m+11+2 * j+2)/\x.2.2.2.length=r1.1.toNat/\(∀z∈x.2.2.2.flatten,z∈r4.1.take (j+1))/\x.2.2.2.flatten.Nodup) ?_ λx9 h9=>?_
 .
  refine W.bind (zn (l:=(nums,d,s)) hlo (by omega) (by omega) (by omega)) λr11 h11=>?_;refine W.ite (λ_=>W.ret ⟨h11.mono (by omega),hlen,λz hz=>hsub z (hx z hz),hnd⟩) (λ_=>?_);refine W.ck (by omega) (by omega) ?_;refine W.bind (kK (l:=(r11.2.1,r11.2.2.1,r11.2.2.2)) h11 (by omega) (by omega)) λr13 h13=>?_;have b13:=h13.2.1 (by omega);have hi:r13.1.toNat < out.length:=by omega
  rw [zG h13.1 hi,bs,bT hj,bs]
  have hxj:r4.1[j]∉out.flatten:=λhin=>by
   grind [List.getElem_of_mem,length_take,getElem_inj]
  have hlen2:(out[r13.1.toNat]).length≤5:=by
   have:=rN n _ (wo hnd (List.getElem_mem hi)) λx hxx=>rng4 x (mem_of_mem_take (hx x (List.mem_flatten.2 ⟨_,List.getElem_mem hi,hxx⟩)));omega
  rw [cz (by grind [aR]),bs];have hp:=J4 (x:=r4.1[j]) hi;refine W.ret ⟨h13.2.2.mono (by omega),by grind,λz hz=>?_,hp.nodup_iff.2 ?_⟩
  .grind [List.mem_singleton,take_add_one,List.getElem?_eq_getElem,List.mem_append_right]
  grind
 .
  refine W.ck (by omega) (by omega) ?_;exact ih (q - 1) (_,_,_,(j:Int)+1,_) (by omega) ⟨j+1,by grind,by omega,by omega,h9.1.mono (by omega),h9.2⟩
end Go.Proofs.YtmbkabgllafffaaGreat
set_option linter.unusedVariables false
set_option linter.unusedSimpArgs false
namespace Go.Proofs.YtmbkabgllafffaaGreat
open K Go Go.Proofs
theorem OF{c w s h:Int}{ds:List (List (List Int))}(hc:1≤c/\c≤5)(hw:0≤w/\w≤3)(hs:0≤s/\s≤3)(hh:1≤h/\h≤3)(d1:1≤ds.length)(d6:ds.length≤6)(hr:∀r∈ds,Rl c r):Vd (c,w,s,h,ds,[]):=
 ⟨hc.1,hc.2,hw.1,hw.2,hs.1,hs.2,hh.1,hh.2,d1,d6,λr h=>(hr r h).r3,λr h=>(hr r h).l5 ⟨by omega,hc.2⟩,λr h=>(hr r h).x5,λr h=>(hr r h).nd,by simp [mG],λg hg=>by cases hg⟩
theorem EE{k:Nat}{l:List Int}(h:l.length≤1000000):j6 k l=some l:=by
 grind [j6,cz,W3,length_nil,bs]
theorem uP{k:Nat}{l:List (List Int)}(hk:l.length < k)(h1:l.length≤1000000)(h2:∀x∈l,x.length≤1000000):il k l=some l:=by
 unfold il
 have key:=dL (T:=List (List Int)×Int) (f:=eg k l) l (λ(s:List (List Int)) j=>(s,j)) (λs j x=>s++[x]) (λj s=>s=l.take j) (λs=>some s)
  (λn s j hj hs=>by
   have hck:ck ((j:Int)+1)=some ((j:Int)+1):=bG (by omega) (by omega);have hl:s.length=j:=by grind
   have hok:bU (aR (length s+length [l[j]]))=some ():=cz (by grind [aR]);refine⟨?_,?_⟩
   .simp_all [eg,Int.ofNat_lt,if_true,bT,bs,EE,List.getElem_mem]
   simp_all)
  (λn s hs=>by
   unfold eg;simp_all) (n:=k) (s0:=[]) hk (by simp)
 simp_all
theorem Ef{k:Nat}(hk:50≤k){l:bV}{m:Int}{cs ds:Int}(hl:Lo l m)(hm:0≤m/\m≤400)(hc:1≤cs/\cs≤5)(hd:1≤ds/\ds≤6):
 W (kX k l cs ds) λr=>Lo r.2 (m+250)/\Vd r.1/\mG r.1=[]/\mC r.1≤cs/\((mD r.1).length:Int)≤ds:=by
 unfold kX
 refine W.bind (Fo (l:=(l.1,l.2.1,l.2.2)) hl (by omega) (by omega) (by omega) (by omega)) λr2 h2=>?_
 refine W.bind (kK (l:=(r2.2.1,r2.2.2.1,r2.2.2.2)) h2.2.2 (by omega) (by omega)) λr3 h3=>?_
 have b3:=h3.2.1 (by omega)
 refine W.bind (I2 (l:=(r3.2.1,r3.2.2.1,r3.2.2.2)) h3.2.2 (by omega) (by simp) (by simp)) λr4 h4=>?_
 refine W.bind (kK (l:=(r4.2.1,r4.2.2.1,r4.2.2.2)) h4.2 (by omega) (by omega)) λr5 h5=>?_
 have b5:=h5.2.1 (by omega)
 refine W.bind (I2 (l:=(r5.2.1,r5.2.2.1,r5.2.2.2)) h5.2.2 (by omega) (by simp) (by simp)) λr6 h6=>?_
 refine W.bind (Fo (l:=(r6.2.1,r6.2.2.1,r6.2.2.2)) h6.2 (by omega) (by omega) (by omega) (by omega)) λr7 h7=>?_
 refine W.bind (I2 (l:=(r7.2.1,r7.2.2.1,r7.2.2.2)) h7.2.2 (by omega) (by simp) (by simp)) λr8 h8=>?_
 have w4:0≤r4.1/\r4.1≤3:=by
  grind
 have w6:0≤r6.1/\r6.1≤3:=by
  grind
 have w8:1≤r8.1/\r8.1≤3:=by
  grind
 have lo8:=h8.2
 refine W.bind (R:=λx=>Lo (x.2.1,x.2.2.1,x.2.2.2) (m+250)/\(1≤x.1.length/\(x.1.length:Int)≤ds)/\∀r∈x.1,Rl r2.1 r) ?_ λx hx=>W.ret ⟨hx.1,OF (by omega) w4 w6 w8 (by omega) (by omega) hx.2.2,rfl,h2.2.1,hx.2.1.2⟩
 refine W.bind (Fo (l:=(r8.2.1,r8.2.2.1,r8.2.2.2)) lo8 (by omega) (by omega) (by omega) (by omega)) λr12 h12=>?_
 refine W.loop (f:=gd k r2) (λq y=>∃j:Nat,y.2.2.2.1.length=j/\y.2.2.2.2=r12.1 - j/\(j:Int)≤r12.1/\q=r12.1.toNat - j/\Lo (y.1,y.2.1,y.2.2.1) (m+10+33 * j)/\∀r∈y.2.2.2.1,Rl r2.1 r) ?_ r12.1.toNat k _ (by omega)
  ⟨0,rfl,by simp,by omega,by omega,h12.2.2.mono (by omega),by simp⟩
 rintro aM q ⟨nums,d,s,out,y⟩ ⟨j,hj,hy,hle,hq,hlo,hr⟩ ih
 simp only at hj hy hlo hr
 subst hy
 unfold gd
 dsimp only
 refine W.ite (λhlt=>?_) (λhge=>W.ret ⟨hlo.mono (by omega),⟨by grind,by grind⟩,hr⟩)
 refine W.bind (R:=λx=>Lo (x.1,x.2.1,x.2.2.1) (m+10+33 * j+33)/\x.2.2.2.length=j+1/\∀r∈x.2.2.2,Rl r2.1 r) ?_ λx15 h15=>?_
 .
  refine W.bind (R:=λx=>Lo (x.1,x.2.1,x.2.2.1) (m+10+33 * j+1)/\(x.2.2.2=true->0 < out.length)) ?_ λx17 h17=>?_
  .refine W.ite (λh0=>?_) (λh0=>W.ret ⟨hlo.mono (by omega),λh=>by cases h⟩);grind [W.bind,zn,W.ret]
  .refine W.ite (λht=>?_) (λht=>?_)
   .have h0:=h17.2 ht;refine W.ck (by omega) (by omega) ?_;have hi:((out.length:Int) - 1)=((out.length - 1:Nat):Int):=by omega
    have hlt':out.length - 1 < out.length:=by omega
    rw [hi,bT hlt',bs];have hrl:=hr _ (List.getElem_mem hlt');have hl5:=hrl.l5 (by omega);have hr3:=hrl.r3;rw [uP (by omega) (by omega) (λx hx=>by grind),bs,cz (by grind [aR]),bs];refine W.ret ⟨h17.1.mono (by omega),by simp [hj],λr hrr=>?_⟩;grind
   .have hc2:((r2.1.toNat:Nat):Int)=r2.1:=by omega
    have:=IQ hk (l:=(x17.1,x17.2.1,x17.2.2.1)) (m:=m+10+33 * j+1) (n:=r2.1.toNat) h17.1 (by omega) (by omega);rw [hc2] at this;refine W.bind this λr26 h26=>?_;rw [cz (by grind [aR]),bs];refine W.ret ⟨h26.1.mono (by omega),by simp [hj],λr hrr=>?_⟩;grind
 .
  refine W.ck (by omega) (by omega) ?_;exact ih (q - 1) (_,_,_,_,_) (by omega) ⟨j+1,h15.2.1,by grind,by omega,by omega,h15.1.mono (by omega),h15.2.2⟩
theorem Bg.len{C:Int}(hC:0≤C/\C≤5){b:List Int}(h:Bg C b):b.length≤5:=by
 have:=rN C.toNat b (h.asc.imp λhab e=>by omega) λx hx=>by have:=h.rng x hx;omega
 omega
theorem IG{m:ab}{B:Int->Bool}{n:Nat}(h:0≤mC m):((nW m B n).length:Int)=mC m:=by
 unfold nW;grind
theorem Hn{m:ab}{B:Int->Bool}:(lJ m B).length=(mD m).length+1:=by
 unfold lJ;simp_all
theorem Ab{α ε:Type}:∀(l:List α) (j:Nat),dM (λ(_:Unit) _ _=>(.ok ():Except ε Unit)) j l ()= .ok ()
 |[],_=>rfl
 |_::l,j=>Ab l (j+1)
end Go.Proofs.YtmbkabgllafffaaGreat
set_option linter.unusedVariables false
set_option linter.unusedSimpArgs false
namespace Go.Proofs.YtmbkabgllafffaaGreat
open K Go Go.Proofs
theorem DL{k:Nat}{c:Int}{l:List Int}(hk:l.length < k)(hl:l.length≤1000):
 eC k c l k 0=some (match tl l c with |some s=>.error (s,true) |none=>.ok ()):=by
 have key:=iM (T:=Int) (f:=eC k c l) l (λ(_:Unit) j=>j) (λ_ j x=>if decide (c=x)=true then Except.error (((if 0 < j then [l[j-1]?.getD 0] else [])++(l[j+1]?).toList:List Int),true) else .ok ()) (λ_ _=>True) (λx=>some x)
  (λn s j hj _=>by
   refine⟨?_,λ_ _=>trivial⟩;have hck:ck ((j:Int)+1)=some ((j:Int)+1):=bG (by omega) (by omega);have c1:ck ((j:Int) - 1)=some ((j:Int) - 1):=bG (by omega) (by omega);simp only [eC,Int.ofNat_lt,hj,if_true,bT hj,bs,decide_eq_true_eq];by_cases e:l[j]=c
   .rw [if_neg (λhn=>hn e),if_pos e.symm]
    have e1:(if(0:Int) < (j:Int) then((ck ((j:Int) - 1)).bind λx17=>(aG l x17).bind λx18=>(bU (aR (length ([]:List Int)+length [x18]))).bind λ_=>some (([]:List Int)++[x18])) else some ([]:List Int))=some (if 0 < j then [l[j-1]?.getD 0] else []):=by
     by_cases h0:0 < j
     .have g:aG l ((j:Int) - 1)=some (l[j-1]?.getD 0):=by
       grind [bT,List.getElem?_eq_getElem]
      simp_all [if_pos,bs,cz,aR]
     simp_all
    rw [e1,bs];have hp:(if 0 < j then [l[j-1]?.getD 0] else []).length≤1:=by grind
    generalize (if 0 < j then [l[j-1]?.getD 0] else [])=p at *
    have e2:((ck ((j:Int)+1)).bind λx23=>if x23 < (l.length:Int) then((ck ((j:Int)+1)).bind λx24=>(aG l x24).bind λx25=>(bU (aR (length p+length [x25]))).bind λ_=>some (p++[x25])) else some p)=some (p++(l[j+1]?).toList):=by
     rw [hck,bs];by_cases h1:j+1 < l.length
     .have g:aG l ((j:Int)+1)=some l[j+1]:=by
       have:((j:Int)+1)=((j+1:Nat):Int):=by omega
       rw [this,bT h1]
      rw [if_pos (by omega),bs,g,bs,List.getElem?_eq_getElem h1,cz (by grind [aR]),bs];rfl
     grind
    rw [e2,bs]
   grind)
  (λn s _=>by simp [eC]) (n:=k) (s0:=()) hk trivial
 rw [show eC k c l k 0=_ from key]
 refine congrArg some ?_
 have:∀(m:List Int) (j:Nat),(∃p,l=p++m/\p.length=j)->dM (λ(_:Unit) j x=>if decide (c=x)=true then Except.error (((if 0 < j then [l[j-1]?.getD 0] else [])++(l[j+1]?).toList:List Int),true) else .ok ()) j m ()=match m.findIdx? λy=>decide (c=y) with |some i=>.error (((if 0 < i+j then [l[i+j-1]?.getD 0] else [])++(l[i+j+1]?).toList:List Int),true) |none=>.ok ():=by
  intro m
  induction m with
  |nil=>simp_all [dM]
  |cons x m ih=>
   rintro j ⟨p,hp,hl⟩;rw [dM,findIdx?_cons];by_cases h:decide (c=x)=true
   .simp [h]
   .simp only [h,if_false,Bool.false_eq_true];rw [ih (j+1) ⟨p++[x],by grind,by simp [hl]⟩];cases m.findIdx? λy=>decide (c=y) with
    |none=>rfl
    |some i=>
     grind
 rw [this l 0 ⟨[],rfl,rfl⟩]
 unfold tl
 grind
theorem zm{k:Nat}{m:ab}{c:Int}{d:Nat}(v:Vd m)(hk:10≤k)(hd:d < (mD m).length):
 kp k m (d:Int) c=some (match xP m d c with |some s=>(s,true) |none=>([],false)):=by
 have hm:=List.getElem_mem hd
 have hr:=v.r3 _ hm
 have hl:=v.l5 _ hm
 have hbes:xP m d c=ux (mD m)[d] c:=by unfold xP;simp_all
 have hg:aG m.2.2.2.2.1 (d:Int)=some (mD m)[d]:=bT hd
 generalize (mD m)[d]=r at *
 unfold kp
 have key:=iM (T:=Int) (f:=eZ k m (d:Int) c) r (λ(_:Unit) j=>j) (λ_ _ l=>match tl l c with |some s=>Except.error (s,true) |none=>.ok ()) (λ_ _=>True) (λx=>some x)
  (λn s j hj _=>by
   refine⟨?_,λ_ _=>trivial⟩;have h5:=hl _ (List.getElem_mem hj);have hck:ck ((j:Int)+1)=some ((j:Int)+1):=bG (by omega) (by omega);simp only [eZ,hg,bs,Int.ofNat_lt,hj,if_true,bT hj];grind [DL,tl,km,i9,bs])
  (λn s _=>by simp [eZ,hg,bs]) (n:=k) (s0:=()) (by omega) trivial
 rw [show eZ k m (d:Int) c k 0=_ from key]
 have:∀(r:List (List Int)) (j:Nat),dM (λ(_:Unit) _ l=>match tl l c with |some s=>Except.error (s,true) |none=>.ok ()) j r ()=match ux r c with |some s=>.error (s,true) |none=>.ok ():=by
  intro r
  induction r with
  |nil=>intro j;rfl
  |cons l r ih=>
   intro j;rw [dM];unfold ux;rw [findSome?_cons];cases tl l c with
   |none=>exact ih (j+1)
   |some s=>rfl
 grind [ux,km,i9]
theorem IM{k:Nat}{m:ab}{c:Int}{d:Nat}(v:Vd m)(hk:10≤k)(hd:d < (mD m).length):pQ k m (d:Int) c=some (mY m c d:Int):=by
 have d6:=v.d6;unfold pQ
 have key:∀(d n:Nat) (x:Int),d < (mD m).length->d+1 < n->0≤x->x+d≤100->fF k m c n (x,(d:Int))=some (.error (x+mY m c d))\/fF k m c n (x,(d:Int))=some (.ok (x+mY m c d)):=by
  intro d
  induction d with
  |zero=>
   intro n x hd hn hx hx2
   obtain⟨n,rfl⟩:∃n',n=n'+2:=⟨n - 2,by omega⟩;have c1:ck (x+1)=some (x+1):=bG (by omega) (by omega);have c2:ck (((0:Nat):Int) - 1)=some (-1):=rfl;rw [fF];simp only [Int.natCast_nonneg,if_true,zm v hk hd,bs];unfold mY;cases e:xP m 0 c with
   |some s=>left;simp
   |none=>
    simp_all [Bool.false_eq_true,if_false,bs,Option.isSome_none,fF,if_neg]
  |succ d ih=>
   intro n x hd hn hx hx2
   obtain⟨n,rfl⟩:∃n',n=n'+1:=⟨n - 1,by omega⟩;have c1:ck (x+1)=some (x+1):=bG (by omega) (by omega);have c2:ck (((d+1:Nat):Int) - 1)=some (d:Int):=by grind [bG]
   rw [fF];simp only [Int.natCast_nonneg,if_true,zm v hk hd,bs];unfold mY;grind
 rcases key d k 0 hd (by omega) (by omega) (by omega) with h |h
 .rw [h,km,Int.zero_add]
 .rw [h,i9,Int.zero_add]
theorem A2{k:Nat}{m:ab}{B:Int->Bool}{n:Nat}(v:Vd m){r8:(List Int)×Bool}(hk:r8.1.length < k)(hl:r8.1.length≤1000)(hx:∀x∈r8.1,0≤x/\x < mC m):
 gp k m (nW m B n) r8 k (-1,0)=some (if r8.1.any λx=>decide (mW m≤jP m B n x) then 0 else -1):=by
 have key:=dL (T:=Int×Int) (f:=gp k m (nW m B n) r8) r8.1 (λ(s:Int) j=>(s,j)) (λs _ x=>if decide (mW m≤jP m B n x)=true then 0 else s) (λj s=>s=if(r8.1.take j).any λx=>decide (mW m≤jP m B n x) then 0 else -1) (λs=>some s)
  (λf s j hj hs=>by
   have h5:=hx _ (List.getElem_mem hj);have hck:ck ((j:Int)+1)=some ((j:Int)+1):=bG (by omega) (by omega);refine⟨?_,?_⟩
   .simp only [gp,Int.ofNat_lt,hj,if_true,bT hj,bs,nV h5.1 h5.2,hck,decide_eq_true_eq];grind
   .rw [take_add_one,List.getElem?_eq_getElem hj,List.any_append,hs];grind)
  (λf s hs=>by
   unfold gp;simp_all) (n:=k) (s0:= -1) hk (by simp)
 simp_all
theorem II{k:Nat}{m:ab}{B:Int->Bool}{d:Nat}(v:Vd m)(hk:10≤k)(hd:d < (mD m).length):pP k m (d:Int) (nW m B d)=some (nW m B (d+1)):=by
 have c1:=v.c1;have c5:=v.c5;have d6:=v.d6;unfold pP
 have key:=dL (T:=List Int×Int) (f:=gq k m (d:Int) (nW m B d)) (List.range (mC m).toNat) (λ(s:List Int) j=>(s,j)) (λs j _=>s++[jP m B (d+1) (j:Int)]) (λj s=>s=(List.range j).map λ(c:Nat)=>jP m B (d+1) (c:Int)) (λs=>some s)
  (λn s j hj hs=>by
   rw [length_range] at hj;have hck:ck ((j:Int)+1)=some ((j:Int)+1):=bG (by omega) (by omega);have j0:(0:Int)≤(j:Int):=by omega
   have j1:(j:Int) < mC m:=by omega
   have j2:(j:Int) < m.1:=j1;have hl:s.length=j:=by simp_all
   have hok:∀x:Int,bU (aR (length s+length [x]))=some ():=λx=>cz (by grind [aR]);have hge:=Ae (B:=B) v.w0 (d:=d) (c:=(j:Int));have hle:=Ad (B:=B) v.w3 (d:=d) (c:=(j:Int));refine⟨?_,?_⟩
   .have hm2:m.2.2.2.1=mH m:=rfl;simp only [gq,j2,if_true,zm v hk hd,bs,hm2]
    have hage:jP m B (d+1) (j:Int)=match xP m d (j:Int) with
     |none=>if mH m≤(mY m (j:Int) d:Int) then -1 else jP m B d (j:Int)
     |some l=>if 0≤jP m B d (j:Int) then jP m B d (j:Int)+1 else if l.any λx=>decide (mW m≤jP m B d x) then 0 else -1:=rfl
    rw [hage];cases e:xP m d (j:Int) with
    |none=>
     simp only [Bool.false_eq_true,not_false_eq_true,if_true,IM v hk hd,bs,nV j0 j1,hok];grind
    |some l=>
     have hb:=wO v e;simp only [not_true_eq_false,if_false,bs,Bool.false_eq_true,nV j0 j1,hok];by_cases h0:0≤jP m B d (j:Int)
     .have c2:ck (jP m B d (j:Int)+1)=some (jP m B d (j:Int)+1):=bG (by omega) (by omega);simp_all
     .simp only [h0,if_false];rw [A2 v (r8:=(l,true)) (by grind) (by grind) hb.2,bs,bs,hck,bs]
   simp_all [List.range_succ,List.map_append])
  (λn s hs=>by
   rw [length_range];unfold gq;grind) (n:=k) (s0:=[]) (by grind) rfl
 simp_all [gq,nW,bs,length_range]
theorem A7{k:Nat}{m:ab}{b:List Int}(v:Vd m)(hk:10≤k)(hb:b.length < k)(hb2:b.length≤1000):oa k m b=some (lJ m λc=>decide (c∈b)):=by
 have c1:=v.c1;have c5:=v.c5;have d6:=v.d6;unfold oa
 have key:=dL (T:=List Int×Int) (f:=gx k m b) (List.range (mC m).toNat) (λ(s:List Int) j=>(s,j)) (λs j _=>s++[jP m (λc=>decide (c∈b)) 0 (j:Int)]) (λj s=>s=(List.range j).map λ(c:Nat)=>jP m (λc=>decide (c∈b)) 0 (c:Int)) (λs=>some s)
  (λn s j hj hs=>by
   rw [length_range] at hj;have hck:ck ((j:Int)+1)=some ((j:Int)+1):=bG (by omega) (by omega);have j2:(j:Int) < m.1:=by simp_all
   have hl:s.length=j:=by simp_all
   have hok:∀x:Int,bU (aR (length s+length [x]))=some ():=λx=>cz (by grind [aR]);refine⟨?_,?_⟩
   .simp only [gx,j2,if_true,vi (x:=(j:Int)) hb (by omega),bs,hok,hck];have hage:jP m (λc=>decide (c∈b)) 0 (j:Int)=if decide ((j:Int)∈b) then mW m else -1:=rfl;grind
   simp_all [List.range_succ,List.map_append])
  (λn s hs=>by
   rw [length_range];unfold gx;grind) (n:=k) (s0:=[]) (by grind) rfl
 rw [show gx k m b k ([],0)=_ from key.1,bs,key.2,length_range]
 have key2:=dL (T:=List (List Int)×Int) (f:=gr k m) (mD m) (λ(s:List (List Int)) j=>(s,j)) (λs j _=>s++[nW m (λc=>decide (c∈b)) (j+1)]) (λj s=>s=(List.range (j+1)).map (nW m λc=>decide (c∈b))) (λs=>some s)
  (λn s j hj hs=>by
   have hck:ck ((j:Int)+1)=some ((j:Int)+1):=bG (by omega) (by omega);have hl:s.length=j+1:=by simp_all
   have hok:∀x:List Int,bU (aR (length s+length [x]))=some ():=λx=>cz (by grind [aR]);have hj':(j:Int) < (m.2.2.2.2.1.length:Int):=Int.ofNat_lt.2 hj
   have hg:aG s (j:Int)=some (nW m (λc=>decide (c∈b)) j):=by
    simp_all [aG,if_pos,List.getElem?_map,Int.toNat_natCast,List.getElem?_range]
   simp_all [gr,if_true,bs,II,List.range_succ,List.map_append])
  (λn s hs=>by
   unfold gr;simp_all) (n:=k) (s0:=[nW m (λc=>decide (c∈b)) 0]) (by omega) rfl
 have e0:((List.range (mC m).toNat).map λ(c:Nat)=>jP m (λc=>decide (c∈b)) 0 (c:Int))=nW m (λc=>decide (c∈b)) 0:=rfl;rw [e0,show gr k m k ([nW m (λc=>decide (c∈b)) 0],0)=_ from key2.1,bs,key2.2];rfl
end Go.Proofs.YtmbkabgllafffaaGreat
set_option linter.unusedVariables false
set_option linter.unusedSimpArgs false
namespace Go.Proofs.YtmbkabgllafffaaGreat
open K Go Go.Proofs
theorem vP{k:Nat}{l:List (List Int)}(hk:l.length < k)(hl:l.length≤1000000)(hx:∀x∈l,x.length < k/\x.length≤1000000):fV k l l=some true:=by
 unfold fV;rw [if_neg (λhn=>hn rfl)]
 have key:=iM (T:=Int) (f:=dK k l l) l (λ(_:Unit) j=>j) (λ_ _ _=>(.ok ():Except Bool Unit)) (λ_ _=>True) (λr=>some r)
  (λn s j hj _=>by
   have hck:ck ((j:Int)+1)=some ((j:Int)+1):=bG (by omega) (by omega);have h5:=hx _ (List.getElem_mem hj);refine⟨?_,λ_ _=>trivial⟩;simp only [dK,Int.ofNat_lt,hj,if_true,bT hj,bs,uG h5.1 h5.2,decide_true,not_true_eq_false,if_false,hck])
  (λn s _=>by simp [dK]) (n:=k) (s0:=()) hk trivial
 simp_all [dK,Ab,i9]
theorem vO{k:Nat}{m:ab}(hk:1010≤k)(hs:Sm m):jg k m m=some true:=by
 have hd:=hs.d;have hg:=hs.g;unfold jg;have e0:((if¬(m.1=m.1) then(some true) else(if¬(m.2.1=m.2.1) then(some true) else(if¬(m.2.2.1=m.2.2.1) then(some true) else(if¬(m.2.2.2.1=m.2.2.2.1) then(some true) else(if¬((m.2.2.2.2.1.length:Int)=(m.2.2.2.2.1.length:Int)) then(some true) else(some (!decide ((m.2.2.2.2.2.length:Int)=(m.2.2.2.2.2.length:Int))))))))):Option Bool)=some false:=by simp
 rw [e0,bs,if_neg (by decide)]
 have key:=iM (T:=Int) (f:=dJ k m m) (mD m) (λ(_:Unit) j=>j) (λ_ _ _=>(.ok ():Except Bool Unit)) (λ_ _=>True) (λr=>some r)
  (λn s j hj _=>by
   have hck:ck ((j:Int)+1)=some ((j:Int)+1):=bG (by omega) (by omega);have hr:=hs.r _ (List.getElem_mem hj);have hj':(j:Int) < (m.2.2.2.2.1.length:Int):=Int.ofNat_lt.2 hj;have hg:aG m.2.2.2.2.1 (j:Int)=some (mD m)[j]:=bT hj;refine⟨?_,λ_ _=>trivial⟩;simp only [dJ,hj',if_true,hg,bs,vP (k:=k) (l:=(mD m)[j]) (by omega) (by omega) (λx hx=>by grind),not_true_eq_false,if_false,hck])
  (λn s _=>by
   unfold dJ;simp_all) (n:=k) (s0:=()) (by omega) trivial
 rw [show dJ k m m k 0=_ from key,Ab,i9]
 have key:=iM (T:=Int) (f:=dI k m m) (mG m) (λ(_:Unit) j=>j) (λ_ _ _=>(.ok ():Except Bool Unit)) (λ_ _=>True) (λr=>some r)
  (λn s j hj _=>by
   have hck:ck ((j:Int)+1)=some ((j:Int)+1):=bG (by omega) (by omega);have hj':(j:Int) < (m.2.2.2.2.2.length:Int):=Int.ofNat_lt.2 hj;have hg:aG m.2.2.2.2.2 (j:Int)=some (mG m)[j]:=bT hj;simp_all [dI,if_true,bs,not_true_eq_false,if_false])
  (λn s _=>by
   unfold dI;simp_all) (n:=k) (s0:=()) (by omega) trivial
 simp_all [dI,Ab,i9]
theorem uO{k:Nat}{m:ab}(hk:1010≤k)(hs:Sm m):ik k m=some m:=by
 have hd:=hs.d;have hg:=hs.g;unfold ik;rw [cz (by show _≤_;grind),bs]
 have key:=dL (T:=List (List (List Int))×Int) (f:=ee k m) (mD m) (λ(s:List (List (List Int))) j=>(s,j)) (λs j x=>s++[x]) (λj s=>s=(mD m).take j) (λs=>some s)
  (λn s j hj hs'=>by
   have hck:ck ((j:Int)+1)=some ((j:Int)+1):=bG (by omega) (by omega);have hl:s.length=j:=by grind
   have hok:bU (aR (length s+length [(mD m)[j]]))=some ():=cz (by grind [aR]);have hj':(j:Int) < (m.2.2.2.2.1.length:Int):=Int.ofNat_lt.2 hj;have hg:aG m.2.2.2.2.1 (j:Int)=some (mD m)[j]:=bT hj;have hr:=hs.r _ (List.getElem_mem hj);refine⟨?_,?_⟩
   .simp only [ee,hj',if_true,hg,bs,uP (k:=k) (l:=(mD m)[j]) (by omega) (by omega) (λx hx=>by grind),hok,hck]
   simp_all)
  (λn s hs=>by
   unfold ee;simp_all) (n:=k) (s0:=[]) (by omega) (by simp)
 simp_all
theorem BN{k:Nat}{l:bV}{m:Int}{x:zU}(hl:Lo l m)(hm:0≤m/\m≤900)(hc:1≤x.1/\x.1≤5)(hd:x.2.2.2.2.1.length≤6):
 W (jj k l x) λr=>Lo r.2 (m+3)/\(0≤r.1.1/\r.1.1 < x.1)/\0≤r.1.2.1/\r.1.2.1≤(x.2.2.2.2.1.length:Int):=by
 unfold jj
 grind [W.ck,W.bind,kK,zn,W.ret]
theorem Vd.with{m:ab}(v:Vd m){gs:List aQ}(h8:gs.length≤8)(hg:∀g∈gs,0≤g.1/\g.1 < mC m/\0≤g.2.1/\g.2.1≤(mD m).length):Vd (m.1,m.2.1,m.2.2.1,m.2.2.2.1,m.2.2.2.2.1,gs):=
 ⟨v.c1,v.c5,v.w0,v.w3,v.s0,v.s3,v.h1,v.h3,v.d1,v.d6,v.r3,v.l5,v.x5,v.nd,h8,hg⟩
theorem zF{k:Nat}(hk:50≤k){l:bV}{m:Int}{cs ds:Int}(hl:Lo l m)(hm:0≤m/\m≤400)(hc:1≤cs/\cs≤5)(hd:1≤ds/\ds≤6):
 W (ji k l cs ds) λr=>Lo r.2 (m+270)/\Vd r.1/\(mG r.1).length≤4/\mC r.1≤cs/\((mD r.1).length:Int)≤ds:=by
 unfold ji
 refine W.bind (Ef hk (l:=(l.1,l.2.1,l.2.2)) hl hm hc hd) λr2 h2=>?_
 obtain⟨lo2,v,hg,hcs,hds⟩:=h2
 have c1:=v.c1
 have c5:=v.c5
 have d6:=v.d6
 refine W.bind (R:=λx=>Lo (x.2.1,x.2.2.1,x.2.2.2) (m+270)/\x.1.length≤4/\∀g∈x.1,0≤g.1/\g.1 < mC r2.1/\0≤g.2.1/\g.2.1≤(mD r2.1).length) ?_ λx hx=>W.ret ⟨hx.1,v.with (by omega) hx.2.2,hx.2.1,hcs,hds⟩
 refine W.bind (kK (l:=(r2.2.1,r2.2.2.1,r2.2.2.2)) lo2 (by omega) (by omega)) λr6 h6=>?_
 have b6:=h6.2.1 (by omega)
 refine W.loop (f:=fi k r2) (λq y=>∃j:Nat,y.2.2.2.1.length=j/\y.2.2.2.2=r6.1 - j/\(j:Int)≤r6.1/\q=r6.1.toNat - j/\Lo (y.1,y.2.1,y.2.2.1) (m+251+3 * j)/\∀g∈y.2.2.2.1,0≤g.1/\g.1 < mC r2.1/\0≤g.2.1/\g.2.1≤(mD r2.1).length) ?_ r6.1.toNat k _ (by omega)
  ⟨0,rfl,by simp,by omega,by omega,h6.2.2.mono (by omega),by simp⟩
 rintro aM q ⟨nums,d,s,out,y⟩ ⟨j,hj,hy,hle,hq,hlo,hr⟩ ih
 simp only at hj hy hlo hr
 subst hy
 unfold fi
 dsimp only
 refine W.ite (λhlt=>?_) (λhge=>W.ret ⟨hlo.mono (by omega),by grind,hr⟩)
 refine W.bind (BN (l:=(nums,d,s)) (x:=(r2.1.1,r2.1.2.1,r2.1.2.2.1,r2.1.2.2.2.1,r2.1.2.2.2.2.1,())) hlo (by omega) ⟨c1,c5⟩ d6) λr9 h9=>?_
 rw [cz (by grind [aR]),bs]
 refine W.ck (by omega) (by omega) ?_
 refine ih (q - 1) (_,_,_,_,_) (by omega) ⟨j+1,by simp [hj],by grind,by omega,by omega,h9.1.mono (by omega),λg hgg=>?_⟩
 grind
theorem Sm.with{m:ab}(h:Sm m){gs:List aQ}(hg:gs.length≤1000):Sm (m.1,m.2.1,m.2.2.1,m.2.2.2.1,m.2.2.2.2.1,gs):=⟨h.d,h.r,hg⟩
theorem Dy{k:Nat}(hk:1010≤k){m:ab}(hs:Sm m){g:aQ}{l:bV}(hl:Lo l 0):
 W (jK k m g l) λr=>Lo r.2 270/\∃a b,r.1=[m,a,b]/\Vd a/\Sm b/\mC a≤4/\((mD a).length:Int)≤4/\b=(a.1,a.2.1,a.2.2.1,a.2.2.2.1,a.2.2.2.2.1,mG a++[g]):=by
 unfold jK
 refine W.bind (zF (k:=k) (by omega) (l:=(l.1,l.2.1,l.2.2)) hl (by omega) (by omega) (by omega)) λr3 h3=>?_
 obtain⟨lo3,v,hg,hcs,hds⟩:=h3
 rw [uO hk v.sm,bs,cz (by grind [aR]),bs]
 exact W.ret ⟨lo3,_,_,rfl,v,v.sm.with (by grind),hcs,hds,rfl⟩
theorem Nq{k:Nat}(hk:1010≤k){m:ab}:W (qe k m) λb=>b=false->Sm m:=by
 unfold qe
 have l2:∀(y:Nat) (hy:y < (mD m).length),(mD m)[y].length≤20->W (iI k m (y:Int) k 0) λr=>match r with | .error e=>e=true | .ok _=>∀l∈(mD m)[y],l.length≤1000:=by
  intro y hy h20
  refine W.loop (f:=iI k m (y:Int)) (λq z=>∃j:Nat,z=(j:Int)/\j≤(mD m)[y].length/\q=(mD m)[y].length - j/\∀i (h:i < (mD m)[y].length),i < j->(mD m)[y][i].length≤1000) ?_ (mD m)[y].length k 0 (by omega)
   ⟨0,rfl,by omega,by omega,λi h h'=>by omega⟩
  rintro aM q z ⟨j,rfl,hle,hq,hx⟩ ih;unfold iI;have hg:aG m.2.2.2.2.1 (y:Int)=some (mD m)[y]:=bT hy;rw [hg,bs];refine W.ite (λhlt=>?_) (λhge=>W.ret λl hl=>?_)
  .have hj:j < (mD m)[y].length:=by omega
   rw [bs,bT hj,bs];refine W.ite (λh=>W.ret rfl) (λh=>W.ck (by omega) (by omega) (ih (q - 1) _ (by omega) ⟨j+1,by omega,by omega,by omega,λi hi hij=>?_⟩));grind
  grind [List.getElem_of_mem]
 have l1:W (iJ k m k 0) λr=>match r with | .error e=>e=true | .ok _=>(mD m).length≤20->∀r∈mD m,r.length≤1000/\∀l∈r,l.length≤1000:=by
  refine W.loop (f:=iJ k m) (λq z=>∃j:Nat,z=(j:Int)/\j≤20/\j≤(mD m).length/\q=20 - j/\∀i (h:i < (mD m).length),i < j->(mD m)[i].length≤1000/\∀l∈(mD m)[i],l.length≤1000) ?_ 20 k 0 (by omega)
   ⟨0,rfl,by omega,by omega,by omega,λi h h'=>by omega⟩
  rintro aM q z ⟨j,rfl,h20,hle,hq,hx⟩ ih;unfold iJ
  have e0:((if(j:Int) < (m.2.2.2.2.1.length:Int) then(some (decide ((j:Int) < 20))) else(some false)):Option Bool)=some (decide (j < (mD m).length/\j < 20)):=by
   by_cases h1:j < (mD m).length
   .rw [if_pos (show(j:Int) < ((mD m).length:Int) by omega)];by_cases h2:j < 20
    .grind
    grind
   grind
  rw [e0,bs];refine W.ite (λhb=>?_) (λhb=>W.ret λh r hr=>?_)
  .have hb:=of_decide_eq_true hb;have hg:aG m.2.2.2.2.1 (j:Int)=some (mD m)[j]:=bT hb.1;rw [hg,bs];refine W.bEE (R:=λr=>match r with | .error e=>e=true | .ok _=>(mD m)[j].length≤20/\∀l∈(mD m)[j],l.length≤1000) (W.ite (λh=>W.ret rfl) (λh=>(l2 j hb.1 (by omega)).mono λr hr=>?_)) (λe he=>W.ret he) (λ_ ho=>?_)
   .grind
   .refine W.ck (by omega) (by omega) (ih (q - 1) _ (by omega) ⟨j+1,by omega,by omega,by omega,by omega,λi hi hij=>?_⟩);grind
  .have hb:¬(j < (mD m).length/\j < 20):=λhh=>hb (decide_eq_true hh);obtain⟨i,hi,rfl⟩:=List.getElem_of_mem hr;grind
 refine W.bEE l1 (λe he=>W.ret λh=>by simp_all) (λ_ ho=>?_);by_cases h1:20 < (mD m).length
 .rw [if_pos (show(20:Int) < ((mD m).length:Int) by omega),bs];simp_all [W.ret]
 .rw [if_neg (show¬(20:Int) < ((mD m).length:Int) by omega),bs];refine W.ret λh=>⟨by omega,ho (by omega),?_⟩;grind
end Go.Proofs.YtmbkabgllafffaaGreat
set_option linter.unusedVariables false
set_option linter.unusedSimpArgs false
namespace Go.Proofs.YtmbkabgllafffaaGreat
open K Go Go.Proofs
def gY(C:Nat):Nat->List Int->Nat->List (List Int)
 |0,b,_=>[b]
 |n+1,b,f=>b::(List.range' f (C - f)).flatMap λ(c:Nat)=>gY C n (b++[(c:Int)]) (c+1)
theorem vM{b:List Int}{c:Int}:cj (b++[c])=yN (cj b) c:=by
 unfold cj;simp_all
theorem wy{σ:Type}{k:Nat}{Y:σ->Int->Option (σ×Bool)}{C:Nat}(hC:C≤5)(hk:10≤k)(g:σ->List Int->σ)(xl:Nat->σ->Prop):
 ∀(n m0:Nat) (b:List Int) (f:Nat) (s:σ) (r:Nat),C - f≤n->f≤C->n < m0->ko (cj b)->(∀r s,∀b'∈gY C n b f,xl (r+1) s->Y s (cj b')=some (g s b',true)/\xl r (g s b'))->xl ((gY C n b f).length+r) s->
  dw k Y (C:Int) m0 (cj b) (f:Int) s=some (true,(gY C n b f).foldl g s)/\xl r ((gY C n b f).foldl g s)
 |n,0,b,f,s,r,_,_,h,_,_,_=>absurd h (not_lt_zero _)
 |0,m0+1,b,f,s,r,h1,h2,_,hm,hY,hI=>by
  have hf:f=C:=by omega
  subst hf
  unfold dw
  obtain⟨k,rfl⟩:∃n,k=n+1:=⟨k - 1,by omega⟩
  have hI:xl (r+1) s:=by rw [Nat.add_comm];exact hI
  have:=hY r s b (by simp [gY]) hI
  rw [this.1,bs,if_neg (by simp)]
  rw [dH,if_neg (Int.lt_irrefl _),i9]
  exact⟨rfl,this.2⟩
 |n+1,m0+1,b,f,s,r,h1,h2,h3,hm,hY,hI=>by
  unfold dw
  have hlen:(gY C (n+1) b f).length=((List.range' f (C - f)).flatMap λ(c:Nat)=>gY C n (b++[(c:Int)]) (c+1)).length+1:=by rw [gY,length_cons]
  rw [hlen] at hI
  have h0:=hY (((List.range' f (C - f)).flatMap λ(c:Nat)=>gY C n (b++[(c:Int)]) (c+1)).length+r) s b (by simp [gY]) (by grind)
  rw [h0.1,bs,if_neg (by simp)]
  have loop:∀(d x:Nat) (s:σ) (aM:Nat) (r:Nat),C - x=d->f≤x->x≤C->d < aM->xl (((List.range' x (C - x)).flatMap λ(c:Nat)=>gY C n (b++[(c:Int)]) (c+1)).length+r) s->
   dH k (cj b) (C:Int) (dw k Y (C:Int) m0) aM ((x:Int),s)=some (.ok (((List.range' x (C - x)).flatMap λ(c:Nat)=>gY C n (b++[(c:Int)]) (c+1)).foldl g s))/\xl r (((List.range' x (C - x)).flatMap λ(c:Nat)=>gY C n (b++[(c:Int)]) (c+1)).foldl g s):=by
   intro d
   induction d with
   |zero=>
    intro x s aM r hd hx hx2 hfu hI;obtain⟨aM,rfl⟩:∃n,aM=n+1:=⟨aM - 1,by omega⟩;have:x=C:=by omega
    simp_all [Nat.sub_self,dH,if_neg,Int.lt_irrefl]
   |succ d ih=>
    intro x s aM r hd hx hx2 hfu hI;obtain⟨aM,rfl⟩:∃n,aM=n+1:=⟨aM - 1,by omega⟩;have hw:=oJ (k:=k) hm (show(0:Int)≤(x:Int) by omega) (show(x:Int) < 8 by omega);have hck:ck ((x:Int)+1)=some (((x+1:Nat):Int)):=by grind [bG]
    have e:C - x=(C - (x+1))+1:=by omega
    rw [e,List.range'_succ,List.flatMap_cons,length_append,Nat.add_assoc] at hI
    have hsub:=wy hC hk g xl n m0 (b++[(x:Int)]) (x+1) s _ (by omega) (by omega) (by omega) (by simp_all [vM]) (λr s b' hb'=>hY r s b' (by
     rw [gY];grind)) hI
    rw [vM] at hsub;have hih:=ih (x+1) _ aM r (by omega) (by omega) (by omega) (by omega) hsub.2;rw [dH,if_pos (show(x:Int) < (C:Int) by omega),hw.1,bs,hck,bs,hsub.1,bs,if_neg (by simp),bs,hih.1];simp_all [List.range'_succ,List.flatMap_cons,List.foldl_append]
  have hl:=loop (C - f) f _ k r rfl (Nat.le_refl _) h2 (by omega) h0.2;rw [hl.1,i9];exact⟨rfl,hl.2⟩
def B0(m:ab)(but:Nat->Bool)(B:Int->Bool):Bool:=(mG m).zipIdx.all λg=>but g.2 || decide (g.1.2.2=decide (mS m≤jP m B g.1.2.1.toNat g.1.1))
theorem yE{α ε:Type}{p:Nat->α->Bool}{e:ε}:∀(l:List α) (j:Nat),dM (λ(_:Unit) j x=>if p j x=true then .ok () else Except.error e) j l ()=if((l.zipIdx j).all λg=>p g.2 g.1)=true then .ok () else .error e
 |[],j=>rfl
 |x::l,j=>by
  rw [dM,zipIdx_cons,all_cons]
  cases h:p j x with
  |true=>simp only [if_true,Bool.true_and];exact yE l (j+1)
  |false=>simp
theorem BY{k:Nat}{m:ab}{S a2:Int}(v:Vd m)(hk:10≤k)(hS:ko S)(ha:ko a2):dA k m S a2=some (B0 m (λi=>decide (eM a2 i)) (mK S)):=by
 have g8:=v.g8;have d6:=v.d6;unfold dA iq;rw [uv v hk hS,bs]
 have key:=iM (T:=Int) (f:=cR k m a2 (cr (zV m (mK S)))) (mG m) (λ(_:Unit) j=>j) (λ_ j x=>if(decide (eM a2 j) || decide (x.2.2=decide (mS m≤jP m (mK S) x.2.1.toNat x.1)))=true then .ok () else Except.error ()) (λ_ _=>True) (λr=>some (match r with | .error _=>false | .ok _=>true))
  (λn s j hj _=>by
   have hck:ck ((j:Int)+1)=some ((j:Int)+1):=bG (by omega) (by omega);have hg:=v.gl _ (List.getElem_mem hj);have hj':(j:Int) < (m.2.2.2.2.2.length:Int):=Int.ofNat_lt.2 hj;have hget:aG m.2.2.2.2.2 (j:Int)=some (mG m)[j]:=bT hj;generalize (mG m)[j]=x at *;have c5:=v.c5;have e2:x.2.1=((x.2.1.toNat:Nat):Int):=by omega
   have hrow:aG (cr (zV m (mK S))) x.2.1=some (lr (zV m (mK S) x.2.1.toNat)):=by
    grind [ut,Int.toNat_natCast]
   have hval:aG (lr (zV m (mK S) x.2.1.toNat)) x.1=some (jP m (mK S) x.2.1.toNat x.1):=by
    grind [oL,FN]
   refine⟨?_,λ_ _=>trivial⟩;have hm1:m.2.2.1=mS m:=rfl;simp only [cR,hj',if_true,hget,bs,wF (k:=k) ha (i:=j) (by omega),hrow,hval,hm1];grind)
  (λn s _=>by
   unfold cR;simp_all) (n:=k) (s0:=()) (by omega) trivial
 rw [show cR k m a2 (cr (zV m (mK S))) k 0=_ from key,yE (p:=λj (x:aQ)=>decide (eM a2 j) || decide (x.2.2=decide (mS m≤jP m (mK S) x.2.1.toNat x.1)))];unfold B0;grind
end Go.Proofs.YtmbkabgllafffaaGreat
set_option linter.unusedVariables false
set_option linter.unusedSimpArgs false
namespace Go.Proofs.YtmbkabgllafffaaGreat
open K Go Go.Proofs
theorem uy{m:ab}(v:Vd m){A B:Int->Bool}(h:∀c,0≤c->c < mC m->A c=B c):∀(n:Nat) (c:Int),0≤c->c < mC m->jP m A n c=jP m B n c
 |0,c,h0,h1=>by simp_all [jP]
 |n+1,c,h0,h1=>by
  have ih:=uy v h n
  unfold jP
  cases e:xP m n c with
  |none=>simp_all
  |some l=>
   have hb:=(wO v e).2
   grind
theorem EI{α:Type}{l:List α}{p q:α->Bool}(h:∀x∈l,p x=q x):l.all p=l.all q:=by
 grind
theorem G5{m:ab}(v:Vd m){but:Nat->Bool}{A B:Int->Bool}(h:∀c,0≤c->c < mC m->A c=B c):B0 m but A=B0 m but B:=by
 unfold B0;refine EI λg hg=>?_;obtain⟨x,i⟩:=g;have hx:=v.gl x (List.fst_mem_of_mem_zipIdx hg);show(but i || decide (x.2.2=decide (mS m≤jP m A x.2.1.toNat x.1)))=(but i || decide (x.2.2=decide (mS m≤jP m B x.2.1.toNat x.1)));grind [uy]
def kF(m:ab):List (List Int):=gY (mC m).toNat (mC m).toNat [] 0
theorem FU{C:Nat}:∀(n:Nat) (b:List Int) (f:Nat),Bg (C:Int) b->(∀x∈b,x < (f:Int))->∀b'∈gY C n b f,Bg (C:Int) b'
 |0,b,f,h,_,b',hb=>by
  simp_all [gY,List.mem_singleton]
 |n+1,b,f,h,hf,b',hb=>by
  rw [gY,mem_cons] at hb
  rcases hb with rfl |hb
  .
   exact h
  .
   obtain⟨c,hc,hb⟩:=List.mem_flatMap.1 hb
   rw [List.mem_range'_1] at hc
   refine FU n (b++[(c:Int)]) (c+1) ⟨λx hx=>?_,?_⟩ (λx hx=>?_) b' hb
   .
    rcases List.mem_append.1 hx with hx |hx
    .
     exact h.rng x hx
    grind
   .
    rw [pairwise_append]
    exact⟨h.asc,by simp,λa ha x hx=>by grind⟩
   grind
theorem nu{m:ab}(v:Vd m){b:List Int}(h:b∈kF m):Bg (mC m) b:=by
 have c1:=v.c1;have:=FU (C:=(mC m).toNat) (mC m).toNat [] 0 ⟨by simp,by simp⟩ (by simp) b h;grind
theorem oz{m:ab}(v:Vd m):(kF m).length≤32:=by
 have c1:=v.c1;have c5:=v.c5;have:(mC m).toNat=1\/(mC m).toNat=2\/(mC m).toNat=3\/(mC m).toNat=4\/(mC m).toNat=5:=by omega
 unfold kF;rcases this with h |h |h |h |h <;> rw [h] <;> decide
def py(m:ab)(but:Nat->Bool):List (List Int):=(kF m).filter λb=>B0 m but λc=>decide (c∈b)
theorem nF{α β:Type}{p:α->Bool}{h:α->β}:∀(l:List α) (s:List β),l.foldl (λ(s:List β×Bool) b=>(if p b then s.1++[h b] else s.1,false)) (s,false)=(s++(l.filter p).map h,false)
 |[],s=>by simp
 |x::l,s=>by
  rw [foldl_cons,nF l]
  grind
theorem Ei{k:Nat}{m:ab}{a2:Int}(v:Vd m)(hk:50≤k)(ha:ko a2):fh k m a2=some ((py m λi=>decide (eM a2 i)).map cj):=by
 have c1:=v.c1;have c5:=v.c5;unfold fh jJ;have hC:m.1=(((mC m).toNat:Nat):Int):=by grind
 have h:=wy (σ:=List Int×Bool) (k:=k) (Y:=pG (λ(y5:(List Int)) (p7:Int)=>(dA k m p7 a2).bind λr9=>if r9=true then((bU (aR (length y5+length [p7]))).bind λ_=>some (y5++[p7],true)) else(some (y5,true)))) (C:=(mC m).toNat) (by omega) (by omega)
  (λs b=>(if B0 m (λi=>decide (eM a2 i)) (λc=>decide (c∈b)) then s.1++[cj b] else s.1,false)) (λr s=>s.2=false/\s.1.length+r≤1000) (mC m).toNat k [] 0 ([],false) 0 (by omega) (by omega) (by omega) ww (λr s b' hb' hI=>by
   obtain⟨y,q⟩:=s;obtain⟨rfl,hI⟩:q=false/\y.length+(r+1)≤1000:=hI;have hbg:=nu v hb';have hset:=hbg.set c5;have hex:B0 m (λi=>decide (eM a2 i)) (mK (cj b'))=B0 m (λi=>decide (eM a2 i)) (λc=>decide (c∈b')):=G5 v λc h0 _=>hset.2 c h0;unfold pG;simp only [];rw [BY v (by omega) hset.1 ha,hex,bs];cases B0 m (λi=>decide (eM a2 i)) (λc=>decide (c∈b')) with
   |true=>
    simp only [if_true];grind [cz,aR,bs,cj]
   |false=>
    grind) ⟨rfl,by have:=oz v;grind [kF]⟩
 rw [hC,show dw k (pG (λ(y5:(List Int)) (p7:Int)=>(dA k m p7 a2).bind λr9=>if r9=true then((bU (aR (length y5+length [p7]))).bind λ_=>some (y5++[p7],true)) else(some (y5,true)))) (((mC m).toNat:Nat):Int) k 0 0 ([],false)=_ from h.1,bs,bs];rw [nF (p:=λb=>B0 m (λi=>decide (eM a2 i)) λc=>decide (c∈b)) (h:=cj)];simp only [Bool.false_eq_true,if_false,nil_append];rfl
theorem Kz:∀{a b:List Int},a.Pairwise (· < ·)->b.Pairwise (· < ·)->(∀x,x∈a↔x∈b)->a=b
 |[],[],_,_,_=>rfl
 |[],y::b,_,_,h=>absurd ((h y).2 mem_cons_self) (by simp)
 |x::a,[],_,_,h=>absurd ((h x).1 mem_cons_self) (by simp)
 |x::a,y::b,ha,hb,h=>by
  rw [pairwise_cons] at ha hb
  have e:x=y:=by
   grind [mem_cons_self]
  subst e;rw [Kz ha.2 hb.2 λz=>?_];grind
theorem rL{k:Nat}{C:Int}{b:List Int}(hk:10≤k)(hC:C≤5)(h:Bg C b):fL k (cj b)=some b:=by
 have hset:=h.set hC;unfold fL
 have key:=dL (T:=List Int×Int) (f:=dV k (cj b)) (List.range 5) (λ(s:List Int) j=>(s,j)) (λs j _=>if decide (eM (cj b) j) then s++[(j:Int)] else s) (λj s=>s.length≤j/\s.Pairwise (· < ·)/\∀x,x∈s↔x∈b/\x < (j:Int)) (λs=>some s)
  (λn s j hj hs=>by
   rw [length_range] at hj;have hck:ck ((j:Int)+1)=some ((j:Int)+1):=bG (by omega) (by omega);have hj5:(j:Int) < 5:=by omega
   have hin:=hset.2 (j:Int) (by omega);unfold mK at hin;rw [Int.toNat_natCast] at hin;refine⟨?_,?_⟩
   .simp only [dV,hj5,if_true,wF (k:=k) hset.1 (by omega:j < 8),bs];cases decide (eM (cj b) j) with
    |true=>
     simp only [if_true];rw [cz (by grind [aR]),bs,bs,hck,bs]
    |false=>simp_all
   grind)
  (λn s hs=>by
   simp_all [length_range,dV,if_neg]) (n:=k) (s0:=[]) (by grind) ⟨by simp,by simp,λx=>by simp;intro hx;exact(h.rng x hx).1⟩
 rw [show dV k (cj b) k ([],0)=_ from key.1,bs];have:=key.2;rw [length_range] at this;exact congrArg some (Kz this.2.1 h.asc λx=>by rw [this.2.2 x];exact⟨λhh=>hh.1,λhh=>⟨hh,by have:=h.rng x hh;omega⟩⟩)
