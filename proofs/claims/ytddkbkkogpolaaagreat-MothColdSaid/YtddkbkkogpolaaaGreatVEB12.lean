import Derived.Test.YtddkbkkogpolaaaGreatVEF2
open Nat
open List hiding mem_of_getElem?
open Array hiding mem_of_getElem? mk
set_option linter.unusedVariables false
set_option linter.unusedSimpArgs false
namespace Go.Proofs.YtddkbkkogpolaaaGreat
open K Go Go.Proofs
def W{α:Type}(x:Option α)(Q:α->Prop):Prop:=∃a,x=some a/\Q a
namespace W
variable {α β ε:Type}{Q:β->Prop}
theorem ret{a:β}(h:Q a):W (some a) Q:=⟨a,rfl,h⟩
theorem mono{x:Option β}{R:β->Prop}(h:W x R)(hq:∀a,R a->Q a):W x Q:=let ⟨a,e,r⟩:=h;⟨a,e,hq a r⟩
theorem bind{x:Option α}{f:α->Option β}{R:α->Prop}(h:W x R)(hf:∀a,R a->W (f a) Q):W (x.bind f) Q:=by
 obtain⟨a,rfl,r⟩:=h;grind
theorem ck{n:Int}{f:Int->Option β}(h1: -9223372036854775808≤n)(h2:n≤9223372036854775807)(hf:W (f n) Q):W ((K.ck n).bind f) Q:=by
 simp_all [K.ck,if_pos]
theorem chk{p:Prop}[Decidable p]{f:Unit->Option β}(h:p)(hf:W (f ()) Q):W ((cM p).bind f) Q:=by
 simp_all [cM,if_pos]
theorem at_{l:List α}{i:Int}{f:α->Option β}(h0:0≤i)(h1:i < l.length)(hf:∀x,l[i.toNat]? =some x->W (f x) Q):W ((aQ l i).bind f) Q:=by
 simp_all [aQ,if_pos,List.getElem?_eq_getElem]
theorem ite{p:Prop}[Decidable p]{a b:Option β}(h1:p->W a Q)(h2:¬p->W b Q):W (if p then a else b) Q:=by
 grind
theorem iteB{p:Prop}[Decidable p]{a b:Option α}{f:α->Option β}(h1:p->W (a.bind f) Q)(h2:¬p->W (b.bind f) Q):W ((if p then a else b).bind f) Q:=by
 grind
theorem loop{T:Type}{f:Nat->T->Option β}(I:Nat->T->Prop)(step:∀aM m y,I m y->(∀m' y',m' < m->I m' y'->W (f aM y') Q)->W (f (aM+1) y) Q):∀m aM y,m < aM->I m y->W (f aM y) Q:=by
 intro m
 induction m using Nat.strongRecOn with
 |_ m ih=>
  intro aM y hm hI;cases aM with
  |zero=>omega
  |succ aM=>grind
end W
theorem wrap_u64(n:Int):0≤IntKind.u64.wrap n/\IntKind.u64.wrap n < 18446744073709551616:=by
 simp_all [Int.emod_nonneg,Int.emod_lt_of_pos,IntKind.wrap,IntKind.signed,IntKind.bits]
theorem xW{n:Int}(h0:0≤n)(h1:n < 18446744073709551616):IntKind.u64.wrap n=n:=by
 simp_all [IntKind.wrap,IntKind.signed,IntKind.bits,Int.emod_eq_of_lt]
def Lo(l:cx)(m:Int):Prop:=0≤l.2.1/\l.2.1≤m
theorem Jx{k:Nat}{l:cx}{m:Int}(h:Lo l m)(hm:m≤1000000000):W (hJ k l) λr=>0≤r.1/\r.1 < 72057594037927936/\Lo r.2 (m+1):=by
 obtain⟨h0,h1⟩:=h;unfold hJ
 have fin:∀x:Int,W ((K.ck (l.2.1+1)).bind λx4=>some (ia .u64 (rM .u64 (IntKind.u64.wrap ((rM .u64 x (ia .u64 x (29:Int))) * (2685821657736338717:Int))) (ia .u64 (IntKind.u64.wrap ((rM .u64 x (ia .u64 x (29:Int))) * (2685821657736338717:Int))) (32:Int))) (8:Int),(l.1,x4,x)))
  λr=>0≤r.1/\r.1 < 72057594037927936/\Lo r.2 (m+1):=λx=>by
  refine W.ck (by omega) (by omega) (W.ret ?_)
  generalize IntKind.u64.wrap ((rM .u64 x (ia .u64 x (29:Int))) * (2685821657736338717:Int))=y
  have hx:0≤rM .u64 y (ia .u64 y 32)/\rM .u64 y (ia .u64 y 32) < 18446744073709551616:=wrap_u64 _
  have e:ia .u64 (rM .u64 y (ia .u64 y 32)) 8=(rM .u64 y (ia .u64 y 32)) / 256:=by
   unfold ia;rw [Int.fdiv_eq_ediv_of_nonneg _ (by decide)];rfl
  refine⟨?_,?_,?_,?_⟩
  .
   omega
  .
   omega
  .
   grind
  simp_all
 refine W.iteB (λhlt=>?_) (λ_=>fin _);simp_all [aQ,if_pos,List.getElem?_eq_getElem]
theorem kh{k:Nat}{l:cx}{m n:Int}(h:Lo l m)(hm:m≤1000000000)(hn:n≤1000000000):W (cI k l n) λr=>0≤r.1/\(0≤n->r.1≤n)/\Lo r.2 (m+1):=by
 unfold cI;refine W.ite (λh1=>W.ret ⟨Int.le_refl 0,λh=>h,h.1,by show l.2.1≤m+1;have:=h.2;omega⟩) (λh1=>?_);refine W.bind (Jx h hm) λr hr=>?_;refine W.ck (by omega) (by omega) ?_;have e:IntKind.u64.wrap (n+1)=n+1:=xW (by omega) (by omega);refine W.chk (by omega) ?_;rw [e];have h2:Int.tmod r.1 (n+1)=r.1 % (n+1):=Int.tmod_eq_emod_of_nonneg hr.1;have h3:=Int.emod_nonneg r.1 (show n+1≠0 by omega);have h4:=Int.emod_lt_of_pos r.1 (show 0 < n+1 by omega);grind [W.ck,W.ret]
theorem BZ{k:Nat}{l:cx}{m a b:Int}(h:Lo l m)(hm:m≤1000000000)(ha:0≤a)(hab:a≤b)(hb:b≤1000000):W (fC k l a b) λr=>a≤r.1/\r.1≤b/\Lo r.2 (m+1):=by
 grind [fC,W.ck,W.bind,kh,W.ret]
theorem wI{k:Nat}{l:cx}{m a:Int}(h:Lo l m)(hm:m≤1000000000)(ha:0≤a)(hb:a≤1000000):W (fa k l a) λr=>Lo r.2 (m+1):=by
 grind [fa,W.ck,W.bind,kh,W.ret]
theorem F8{k:Nat}{l:cx}{m:Int}{some_:List Int}(h:Lo l m)(hm:m≤1000000000)(h0:0 < some_.length)(h1:some_.length≤1000000):W (gA k l some_) λr=>r.1∈some_/\Lo r.2 (m+1):=by
 grind [gA,W.ck,W.bind,kh,W.at_,W.ret,List.mem_of_getElem?]
theorem dQ{α:Type}{l:List α}{i:Nat}(h:i < l.length):aQ l (i:Int)=some l[i]:=by
 rw [aQ,if_pos (by omega)];simp_all
section
variable {α β γ ε σ T:Type}
theorem bs{a:α}{f:α->Option β}:(some a).bind f=f a:=by simp_all
theorem dp{n:Int}(h1: -9223372036854775808≤n)(h2:n≤9223372036854775807):K.ck n=some n:=by simp_all [K.ck,if_pos]
theorem dR{p:Prop}[Decidable p](h:p):cM p=some ():=by rw [cM,if_pos h]
theorem xb{l:List α}{i:Int}(h0:0≤i)(h:i.toNat < l.length):aQ l i=some l[i.toNat]:=by rw [aQ,if_pos h0];simp_all
theorem lT{a:α}{g:ε->Option β}{f:α->Option β}:K.bE (some (.ok a)) g f=f a:=by simp_all [K.bE]
theorem np{e:ε}{g:ε->Option β}{f:α->Option β}:K.bE (some (.error e)) g f=g e:=by simp_all [K.bE]
theorem xp{q:α}{a:β}{b:α->β}:f8 (some q) a b=b q:=by simp_all [f8]
theorem xq{a:β}{b:α->β}:f8 none a b=a:=by simp_all [f8]
theorem Tt{n:Nat}(h:n≤4294967296):bW n:=h
def zb(g:σ->Nat->α->σ):Nat->List α->σ->σ
 |_,[],s=>s
 |j,x::l,s=>zb g (j+1) l (g s j x)
theorem iP(l:List α)(mk:σ->Int->T)(g:σ->Nat->α->σ)(P:Nat->σ->Prop){f:Nat->T->Option β}(fin:σ->Option β)
 (step:∀n s (j:Nat) (h:j < l.length),P j s->f (n+1) (mk s j)=f n (mk (g s j l[j]) ((j:Int)+1))/\P (j+1) (g s j l[j]))
 (stop:∀n s,P l.length s->f (n+1) (mk s l.length)=fin s) {s0:σ} {n:Nat} (hn:l.length < n) (h0:P 0 s0):f n (mk s0 0)=fin (zb g 0 l s0)/\P l.length (zb g 0 l s0):=by
 have key:∀(m:List α) (pre:List α) (n:Nat) (s:σ),l=pre++m->m.length < n->P pre.length s->f n (mk s pre.length)=fin (zb g pre.length m s)/\P l.length (zb g pre.length m s):=by
  intro m
  induction m with
  |nil=>
   intro pre n s e hn hp;obtain⟨n,rfl⟩:∃n',n=n'+1:=⟨n - 1,by omega⟩;have:l.length=pre.length:=by grind
   rw [<-this] at hp⊢;exact⟨stop n s hp,hp⟩
  |cons x m ih=>
   intro pre n s e hn hp;simp only [length_cons] at hn;obtain⟨n,rfl⟩:∃n',n=n'+1:=⟨n - 1,by omega⟩;have hl:pre.length < l.length:=by grind
   have hx:l[pre.length]=x:=by simp [e]
   obtain⟨h1,h2⟩:=step n s pre.length hl hp;rw [hx] at h1 h2;have:=ih (pre++[x]) n (g s pre.length x) (by grind) (by omega) (by simp_all);rw [length_append] at this;simp only [length_cons,length_nil,Nat.zero_add] at this;rw [h1];exact this
 have:=key l [] n s0 rfl hn h0
 exact this
def dI(g:σ->Nat->α->Except ε σ):Nat->List α->σ->Except ε σ
 |_,[],s=>.ok s
 |j,x::l,s=>match g s j x with
  | .error e=>.error e
  | .ok s'=>dI g (j+1) l s'
theorem vO(l:List α)(mk:σ->Int->T)(g:σ->Nat->α->Except ε σ)(P:Nat->σ->Prop){f:Nat->T->Option β}(fin:Except ε σ->Option β)
 (step:∀n s (j:Nat) (h:j < l.length),P j s->(∃e,g s j l[j]= .error e/\f (n+1) (mk s j)=fin (.error e))\/(∃s',g s j l[j]= .ok s'/\f (n+1) (mk s j)=f n (mk s' ((j:Int)+1))/\P (j+1) s'))
 (stop:∀n s,P l.length s->f (n+1) (mk s l.length)=fin (.ok s)) {s0:σ} {n:Nat} (hn:l.length < n) (h0:P 0 s0):f n (mk s0 0)=fin (dI g 0 l s0):=by
 have key:∀(m:List α) (pre:List α) (n:Nat) (s:σ),l=pre++m->m.length < n->P pre.length s->f n (mk s pre.length)=fin (dI g pre.length m s):=by
  intro m
  induction m with
  |nil=>
   intro pre n s e hn hp;obtain⟨n,rfl⟩:∃n',n=n'+1:=⟨n - 1,by omega⟩;have:l.length=pre.length:=by grind
   rw [<-this] at hp⊢;exact stop n s hp
  |cons x m ih=>
   intro pre n s e hn hp;simp only [length_cons] at hn;obtain⟨n,rfl⟩:∃n',n=n'+1:=⟨n - 1,by omega⟩;have hl:pre.length < l.length:=by grind
   have hx:l[pre.length]=x:=by simp [e]
   rcases step n s pre.length hl hp with⟨e',h1,h2⟩ |⟨s',h1,h2,h3⟩
   .grind [dI]
   .rw [hx] at h1;have:=ih (pre++[x]) n s' (by grind) (by omega) (by simp_all);simp_all [length_append,length_cons,length_nil,Nat.zero_add,dI]
 exact key l [] n s0 rfl hn h0
end
section
variable {α β ε σ T:Type}
theorem lN(l:List α)(mk:σ->Int->T)(g:σ->Nat->α->Except ε σ)(P:Nat->σ->Prop){f:Nat->T->Option β}(fin:Except ε σ->Option β)
 (step:∀n s (j:Nat) (h:j < l.length),P j s->(f (n+1) (mk s j)=match g s j l[j] with | .error e=>fin (.error e) | .ok s'=>f n (mk s' ((j:Int)+1)))/\∀s',g s j l[j]= .ok s'->P (j+1) s')
 (stop:∀n s,P l.length s->f (n+1) (mk s l.length)=fin (.ok s)) {s0:σ} {n:Nat} (hn:l.length < n) (h0:P 0 s0):f n (mk s0 0)=fin (dI g 0 l s0):=
 vO l mk g P fin (λn s j h hp=>by
  obtain⟨h1,h2⟩:=step n s j h hp
  grind) stop hn h0
end
theorem uc{α:Type}(p:α->Bool):∀(l:List α) (j:Nat),dI (λ(_:Unit) j x=>if p x then Except.error (j:Int) else .ok ()) j l ()=match l.findIdx? p with |some i=>.error ((i+j:Nat):Int) |none=>.ok ()
 |[],j=>by simp [dI]
 |x::l,j=>by
  rw [dI,findIdx?_cons]
  by_cases h:p x=true
  .
   simp [h]
  .
   simp only [h,if_false,Bool.false_eq_true]
   rw [uc p l (j+1)]
   grind
theorem yq{k:Nat}{a b:List Int}(h:a.length < k)(hk:a.length≤1000000):eX k a b=some (decide (a=b)):=by
 unfold eX;by_cases hl:a.length=b.length
 .rw [if_neg (by simp [hl])]
  have key:=vO (f:=dz k a b) a (λ(_:Unit) j=>j) (λ_ j x=>if x=b[j]?.getD 0 then .ok () else Except.error false) (λ_ _=>True) (λr=>some r)
   (λn s j hj _=>by
    have hjb:j < b.length:=by omega
    have hb:b[j]?.getD 0=b[j]:=by simp_all
    have hck:ck ((j:Int)+1)=some ((j:Int)+1):=dp (by omega) (by omega);rw [hb];simp only [dz,Int.ofNat_lt,hj,if_true,dQ hj,dQ hjb,bs];by_cases e:a[j]=b[j] <;> simp [e,hck])
   (λn s _=>by simp [dz]) (n:=k) (s0:=()) h trivial
  rw [show dz k a b k 0=_ from key]
  have:∀(a:List Int) (j:Nat),a.length+j=b.length->dI (λ(_:Unit) j x=>if x=b[j]?.getD 0 then .ok () else Except.error false) j a ()=if a=b.drop j then .ok () else .error false:=by
   intro a
   induction a with
   |nil=>
    simp_all [drop_eq_nil_of_le,length_nil,dI]
   |cons x a ih=>
    intro j hj;simp only [length_cons] at hj;have hjb:j < b.length:=by omega
    have hd:b.drop j=b[j]::b.drop (j+1):=drop_eq_getElem_cons hjb;have hb:b[j]?.getD 0=b[j]:=by simp_all
    rw [dI,hb,hd];grind
  rw [this a 0 (by omega),drop_zero];by_cases e:a=b
  .rw [if_pos e,lT,decide_eq_true e]
  .rw [if_neg e,np,decide_eq_false e]
 .rw [if_pos (by omega),decide_eq_false (λe=>hl (by rw [e]))]
def ji(s:Int):Prop:=0≤s/\s < 256
def d4(s:Int)(i:Nat):Prop:=s.toNat.testBit i=true
instance (s:Int) (i:Nat):Decidable (d4 s i):=by unfold d4;infer_instance
theorem sT{x:Nat}(h:x < 256):IntKind.u8.wrap (x:Int)=x:=by
 grind [IntKind.wrap,IntKind.signed,IntKind.bits]
theorem tY{s:Int}(h:ji s):∃n:Nat,n < 256/\s=n:=⟨s.toNat,by have:=h.1;have:=h.2;omega,by have:=h.1;omega⟩
theorem F9{n:Nat}(h:n < 256):(BitVec.ofInt IntKind.u8.bits (n:Int)).toNat=n:=by
 show(BitVec.ofInt 8 (n:Int)).toNat=n;simp_all
theorem GZ{n m:Nat}(hn:n < 256)(hm:m < 256):n |||m < 256:=or_lt_two_pow (n:=8) hn hm
theorem JJ{n m:Nat}(hn:n < 256):n &&& m < 256:=Nat.lt_of_le_of_lt and_le_left hn
theorem Ny{a b:Int}(ha:ji a)(hb:ji b):ji (BY .u8 a b)/\∀i,d4 (BY .u8 a b) i↔d4 a i\/d4 b i:=by
 obtain⟨n,hn,rfl⟩:=tY ha;obtain⟨m,hm,rfl⟩:=tY hb
 have e:BY .u8 (n:Int) (m:Int)=((n |||m:Nat):Int):=by
  grind [BY,BitVec.toNat_or,F9,sT,GZ]
 rw [e];refine⟨⟨by omega,by grind [GZ]⟩,λi=>?_⟩;simp [d4,testBit_or]
theorem Na{x:Int}(h0:0≤x)(h8:x < 8):ji (nT .u8 1 x)/\∀i:Nat,d4 (nT .u8 1 x) i↔(i:Int)=x:=by
 obtain⟨n,rfl⟩:=Int.eq_ofNat_of_zero_le h0;have hn:n < 8:=by omega
 have e:nT .u8 1 (n:Int)=((2 ^ n:Nat):Int):=by
  unfold nT
  have h1:min (Int.toNat (n:Int)) IntKind.u8.bits=n:=by
   show min n 8=n;omega
  rw [h1,Int.one_mul];have h2:2 ^ n < 256:=Nat.pow_lt_pow_right (by decide) hn;grind [sT]
 rw [e];have h9:2 ^ n < 256:=Nat.pow_lt_pow_right (by decide) hn;refine⟨⟨Int.natCast_nonneg _,Int.ofNat_lt.2 h9⟩,λi=>?_⟩;simp only [d4,Int.toNat_natCast,testBit_two_pow,decide_eq_true_eq];omega
theorem wZ{k:Nat}{s:Int}(hs:ji s){i:Nat}(hi:i < 8):eO k s (i:Int)=some (decide (d4 s i)):=by
 obtain⟨n,hn,rfl⟩:=tY hs;unfold eO;rw [cM,if_pos (by omega)];show some _=some _;congr 1
 have e1:ia .u8 (n:Int) (i:Int)=((n >>> i:Nat):Int):=by
  unfold ia
  have h1:min (Int.toNat (i:Int)) IntKind.u8.bits=i:=by
   show min i 8=i;omega
  grind [Int.fdiv_eq_ediv_of_nonneg,Int.natCast_nonneg,Nat.shiftRight_eq_div_pow]
 have hlt:n >>> i < 256:=Nat.lt_of_le_of_lt (by rw [Nat.shiftRight_eq_div_pow];exact div_le_self _ _) hn
 have e2:pM .u8 ((n >>> i:Nat):Int) 1=(((n >>> i) &&& 1:Nat):Int):=by
  grind [pM,BitVec.ofInt,BitVec.toNat_and,F9,sT,JJ]
 rw [e1,e2]
 have e3:(((n >>> i) &&& 1:Nat):Int)=1↔d4 (n:Int) i:=by
  rw [d4,Int.toNat_natCast,testBit];grind
 simp_all
end Go.Proofs.YtddkbkkogpolaaaGreat
set_option linter.unusedVariables false
set_option linter.unusedSimpArgs false
namespace Go.Proofs.YtddkbkkogpolaaaGreat
open K Go Go.Proofs
abbrev mC(m:ae):Int:=m.1
abbrev mW(m:ae):Int:=m.2.1
abbrev mS(m:ae):Int:=m.2.2.1
abbrev mH(m:ae):Int:=m.2.2.2.1
abbrev mD(m:ae):List (List (List Int)):=m.2.2.2.2.1
abbrev mG(m:ae):List bX:=m.2.2.2.2.2
def qJ(l:List Int)(c:Int):Option (List Int):=(l.findIdx? λy=>decide (c=y)).map λi=>(if 0 < i then [l[i-1]?.getD 0] else [])++(l[i+1]?).toList
def sQ(d:List (List Int))(c:Int):Option (List Int):=d.findSome? λl=>qJ l c
def qS(m:ae)(d:Nat)(c:Int):Option (List Int):=sQ ((mD m)[d]?.getD []) c
def gR(m:ae)(c:Int):Nat->Nat
 |0=>if(qS m 0 c).isSome then 0 else 1
 |d+1=>if(qS m (d+1) c).isSome then 0 else gR m c d+1
def ky(m:ae)(B:Int->Bool):Nat->Int->Int
 |0,c=>if B c then mW m else -1
 |d+1,c=>match qS m d c with
  |none=>if mH m≤(gR m c d:Int) then -1 else ky m B d c
  |some l=>if 0≤ky m B d c then ky m B d c+1 else if l.any λx=>decide (mW m≤ky m B d x) then 0 else -1
theorem Bi{m:ae}{B:Int->Bool}(hw:0≤mW m):∀{d:Nat} {c:Int}, -1≤ky m B d c
 |0,c=>by grind [ky]
 |d+1,c=>by
  have:=Bi (B:=B) hw (d:=d) (c:=c)
  grind [ky]
theorem Bh{m:ae}{B:Int->Bool}(hw:mW m≤3):∀{d:Nat} {c:Int},ky m B d c≤3+d
 |0,c=>by grind [ky]
 |d+1,c=>by
  have:=Bh (B:=B) hw (d:=d) (c:=c)
  grind [ky]
theorem G4{k:Nat}{l:List Int}{x:Int}(hk:l.length < k)(hl:l.length≤1000000):f6 k l x=some (match l.findIdx? (λy=>decide (x=y)) with |some i=>(i:Int) |none=> -1):=by
 unfold f6
 have key:=lN (f:=dc k l x) l (λ(_:Unit) j=>j) (λ_ j y=>if decide (x=y)=true then Except.error (j:Int) else .ok ()) (λ_ _=>True) (λr=>some r)
  (λn s j hj _=>by
   have hck:ck ((j:Int)+1)=some ((j:Int)+1):=dp (by omega) (by omega);refine⟨?_,λ_ _=>trivial⟩;simp only [dc,Int.ofNat_lt,hj,if_true,dQ hj,bs,decide_eq_true_eq];grind)
  (λn s _=>by simp [dc]) (n:=k) (s0:=()) hk trivial
 rw [show dc k l x k 0=_ from key,uc (λy=>decide (x=y)) l 0];grind [decide,lT,np]
def nj:List Int->List Int
 |[a,b]=>if b < a then [b,a] else [a,b]
 |l=>l
theorem tp{l:List Int}{x:Int}:x∈nj l↔x∈l:=by
 unfold nj;grind
theorem I5{k:Nat}{l:List Int}(hk:10≤k)(hl:l.length≤2):fH k l=some (nj l):=by
 obtain⟨k,rfl⟩:∃n,k=n+4:=⟨k - 4,by omega⟩;have e0:oM (k+4) (IntKind.u64.wrap (0:Int))=some 0:=by kernel_rfl
 have e1:oM (k+4) (IntKind.u64.wrap (1:Int))=some 1:=by kernel_rfl
 have e2:oM (k+4) (IntKind.u64.wrap (2:Int))=some 2:=by kernel_rfl
 have c0:ck ((0:Int) - 0)=some 0:=rfl;have c1:ck ((1:Int) - 0)=some 1:=rfl;have c2:ck ((2:Int) - 0)=some 2:=rfl;have d1:ck ((0:Int)+1)=some 1:=rfl;have d2:ck ((1:Int)+1)=some 2:=rfl;have d3:ck ((1:Int) - 1)=some 0:=rfl;match l,hl with
 |[],_=>
  simp only [fH,length_nil,Int.ofNat_zero,e0,bs,cR,cz,bU,bf,nj,c0,d1];rfl
 |[a],_=>
  simp_all [fH,bs,cR,cz,bU,bf,nj]
 |[a,b],_=>
  have:(([a,b]:List Int).length:Int)=2:=rfl;have g0:aQ [a,b] (0:Int)=some a:=rfl;have g1:aQ [a,b] (1:Int)=some b:=rfl;have hn:∀x:Int,kG (k+4) x=some false:=λx=>by simp [kG]
  have hl:∀x y:Int,nX (k+4) x y=some (decide (x < y)):=λx y=>by simp [nX,hn]
  simp only [fH,this,e2,bs,cR,cz,bU,bf,bF,c2,d1,d2,d3,g0,g1,hl];grind [nj,bF,bs,aQ]
end Go.Proofs.YtddkbkkogpolaaaGreat
set_option linter.unusedVariables false
set_option linter.unusedSimpArgs false
namespace Go.Proofs.YtddkbkkogpolaaaGreat
open K Go Go.Proofs
structure Vd(m:ae):Prop where
 c1:1≤mC m
 c5:mC m≤5
 w0:0≤mW m
 w3:mW m≤3
 s0:0≤mS m
 s3:mS m≤3
 h1:1≤mH m
 h3:mH m≤3
 d1:1≤(mD m).length
 d6:(mD m).length≤6
 r3:∀r∈mD m,r.length≤3
 l5:∀r∈mD m,∀l∈r,l.length≤5
 x5:∀r∈mD m,∀l∈r,∀x∈l,0≤x/\x < mC m
 nd:∀r∈mD m,r.flatten.Nodup
 g8:(mG m).length≤8
 gl:∀g∈mG m,0≤g.1/\g.1 < mC m/\0≤g.2.1/\g.2.1≤(mD m).length
theorem zt{l:List Int}{c:Int}{s:List Int}(h:qJ l c=some s):s.length≤2/\∀x∈s,x∈l:=by
 unfold qJ at h;cases e:l.findIdx? (λy=>decide (c=y)) with
 |none=>simp_all
 |some i=>
  rw [e] at h;obtain rfl:=Option.some.inj h;have hi:i < l.length:=(List.findIdx?_eq_some_iff_getElem.1 e).1;grind
theorem HI{d:List (List Int)}{c:Int}{s:List Int}(h:sQ d c=some s):∃l∈d,qJ l c=some s:=by
 simp_all [sQ,List.exists_of_findSome?_eq_some]
theorem uj{m:ae}(v:Vd m){d:Nat}{c:Int}{s:List Int}(h:qS m d c=some s):s.length≤2/\∀x∈s,0≤x/\x < mC m:=by
 obtain⟨l,hl,h2⟩:=HI h;cases e:(mD m)[d]? with
 |none=>simp_all
 |some r=>
  rw [e] at hl;have h3:=zt h2;exact⟨h3.1,λx hx=>v.x5 r (List.mem_of_getElem? e) l hl x (h3.2 x hx)⟩
def Oq(m:ae)(c:Int)(d:Nat):Int ⊕ List Int:=match qS m d c with
 |some s=>.inr (nj s)
 |none=>.inl (gR m c d)
theorem yx{k:Nat}{c:Int}{r:List (List Int)}(hk:10≤k)(hr:r.length≤3)(hl:∀l∈r,l.length≤5):
 cF k c r k 0=some (match sQ r c with |some s=>.error (.inr (nj s)) |none=>.ok ()):=by
 have key:=lN (f:=cF k c r) r (λ(_:Unit) j=>j) (λ_ _ l=>match qJ l c with |some s=>Except.error (Sum.inr (nj s):Int ⊕ List Int) |none=>.ok ()) (λ_ _=>True) (λx=>some x)
  (λn s j hj _=>by
   refine⟨?_,λ_ _=>trivial⟩;have h5:=hl _ (List.getElem_mem hj);have hck:ck ((j:Int)+1)=some ((j:Int)+1):=dp (by omega) (by omega);simp only [cF,Int.ofNat_lt,hj,if_true,dQ hj,bs];rw [G4 (by omega) (by omega),bs];generalize r[j]=l at *;have hb:qJ l c=(l.findIdx? λy=>decide (c=y)).map λi=>(if 0 < i then [l[i-1]?.getD 0] else [])++(l[i+1]?).toList:=rfl;cases e:l.findIdx? (λy=>decide (c=y)) with
   |none=>
    simp_all
   |some i=>
    rw [e] at hb;simp only [Option.map_some] at hb;have hi:i < l.length:=(List.findIdx?_eq_some_iff_getElem.1 e).1;rw [hb];have hlen:=(zt hb).1;have c1:ck ((i:Int) - 1)=some ((i:Int) - 1):=dp (by omega) (by omega);have c2:ck ((i:Int)+1)=some ((i:Int)+1):=dp (by omega) (by omega);have ok0:cM (bW (length ([]:List Int)+length [l[i-1]?.getD 0]))=some ():=dR (by simp [bW]);simp only [show(0:Int)≤(i:Int) from Int.natCast_nonneg _,if_true,c1,c2,bs]
    have e1:(if(0:Int) < (i:Int) then((aQ l ((i:Int) - 1)).bind λx11=>(cM (bW (length ([]:List Int)+length [x11]))).bind λ_=>some (([]:List Int)++[x11])) else some ([]:List Int))=some (if 0 < i then [l[i-1]?.getD 0] else []):=by
     by_cases h0:0 < i
     .have g:aQ l ((i:Int) - 1)=some (l[i-1]?.getD 0):=by
       grind [dQ,List.getElem?_eq_getElem]
      simp_all
     simp_all
    rw [e1,bs];generalize (if 0 < i then [l[i-1]?.getD 0] else [])=p at *
    have e2:(if(i:Int)+1 < (l.length:Int) then((aQ l ((i:Int)+1)).bind λx18=>(cM (bW (length p+length [x18]))).bind λ_=>some (p++[x18])) else some p)=some (p++(l[i+1]?).toList):=by
     by_cases h1:i+1 < l.length
     .have g:aQ l ((i:Int)+1)=some l[i+1]:=by
       have:((i:Int)+1)=((i+1:Nat):Int):=by omega
       rw [this,dQ h1]
      rw [if_pos (by omega),g,bs,List.getElem?_eq_getElem h1];grind [List.getElem?_eq_getElem,dR,length_append,bW,bs]
     grind
    simp_all [bs,I5])
  (λn s _=>by simp [cF]) (n:=k) (s0:=()) (by omega) trivial
 rw [show cF k c r k 0=_ from key]
 congr 1
 have:∀(r:List (List Int)) (j:Nat),dI (λ(_:Unit) _ l=>match qJ l c with |some s=>Except.error (Sum.inr (nj s):Int ⊕ List Int) |none=>.ok ()) j r ()=match sQ r c with |some s=>.error (.inr (nj s)) |none=>.ok ():=by
  intro r
  induction r with
  |nil=>intro j;rfl
  |cons l r ih=>
   intro j;rw [dI];unfold sQ;rw [findSome?_cons];cases qJ l c with
   |none=>exact ih (j+1)
   |some s=>rfl
 simp_all
theorem xo{m:ae}{c:Int}:∀{d:Nat},gR m c d≤d+1
 |0=>by grind [gR]
 |d+1=>by have:=xo (m:=m) (c:=c) (d:=d);grind [gR]
theorem tG{k:Nat}{m:ae}{c:Int}(v:Vd m)(hk:10≤k):∀(d m0:Nat),d < m0->d < (mD m).length->dX k m0 m c (d:Int)=some (Oq m c d)
 |d,0,h,_=>absurd h (not_lt_zero _)
 |d,m0+1,h,hd=>by
  have hm:=List.getElem_mem hd
  unfold dX
  rw [dQ hd,bs,yx hk (v.r3 _ hm) (v.l5 _ hm)]
  have hbes:qS m d c=sQ (mD m)[d] c:=by unfold qS;simp_all
  cases e:sQ (mD m)[d] c with
  |some s=>
   simp_all [np,Oq]
  |none=>
   rw [lT]
   unfold Oq
   rw [hbes,e]
   match d,hd,h with
   |0,hd,h=>
    simp_all [gR]
   |d+1,hd,h=>
    have h6:=v.d6
    have c1:ck (((d+1:Nat):Int) - 1)=some (d:Int):=by grind [dp]
    have ih:=tG v hk d m0 (by omega) (by omega) (c:=c)
    rw [if_pos (by omega),c1,bs,ih,bs]
    rw [hbes.symm] at e
    have hcold:gR m c (d+1)=gR m c d+1:=by grind [gR]
    have hle:=xo (m:=m) (c:=c) (d:=d)
    unfold Oq
    cases e2:qS m d c with
    |some s=>
     simp only [Jd]
     have:gR m c d=0:=by cases d <;> simp [gR,e2]
     simp_all
    |none=>
     have c2:ck ((1:Int)+(gR m c d:Int))=some ((1:Int)+(gR m c d:Int)):=dp (by omega) (by omega)
     simp only [Jd,OT,c2,bs,if_true,hcold]
     grind
end Go.Proofs.YtddkbkkogpolaaaGreat
set_option linter.unusedVariables false
set_option linter.unusedSimpArgs false
namespace Go.Proofs.YtddkbkkogpolaaaGreat
open K Go Go.Proofs
def kj(f:Int->Int):List Int:=[f 0,f 1,f 2,f 3,f 4]
def upd(f:Int->Int)(c v:Int):Int->Int:=λx=>if x=c then v else f x
theorem SY{c:Int}(h0:0≤c)(h:c < 5):c=0\/c=1\/c=2\/c=3\/c=4:=by omega
theorem wC{f:Int->Int}{c:Int}(h0:0≤c)(h:c < 5):aQ (kj f) c=some (f c):=by
 rcases SY h0 h with rfl |rfl |rfl |rfl |rfl <;> rfl
theorem BI{f:Int->Int}{c v:Int}(h0:0≤c)(h:c < 5):List.set (kj f) (Int.toNat c) v=kj (upd f c v):=by
 rcases SY h0 h with rfl |rfl |rfl |rfl |rfl <;> rfl
theorem ma{f g:Int->Int}(h:∀c,0≤c->c < 5->f c=g c):kj f=kj g:=by
 simp_all [kj]
def OQ(m:ae)(f:Int->Int)(d:Nat)(c:Int):Int:=match qS m d c with
 |none=>if mH m≤(gR m c d:Int) then -1 else f c
 |some l=>if 0≤f c then f c+1 else if l.any λx=>decide (mW m≤f x) then 0 else -1
def Ot(m:ae)(f:Int->Int)(d:Nat):Int->Int:=λc=>if 0≤c/\c < mC m then OQ m f d c else f c
theorem uO{k:Nat}{m:ae}{f:Int->Int}(hw:0≤mW m){s:List Int}(hs:s.length < k)(hs2:s.length≤1000)(hx:∀x∈s,0≤x/\x < 5):
 bV k m (kj f) s k 0=some (match s.find? (λx=>decide (mW m≤f x)) with |some x=>.error x |none=>.ok ()):=by
 have key:=lN (f:=bV k m (kj f) s) s (λ(_:Unit) j=>j) (λ_ _ x=>if decide (mW m≤f x)=true then Except.error x else .ok ()) (λ_ _=>True) (λx=>some x)
  (λn _ j hj _=>by
   refine⟨?_,λ_ _=>trivial⟩;have h5:=hx _ (List.getElem_mem hj);have hck:ck ((j:Int)+1)=some ((j:Int)+1):=dp (by omega) (by omega);have him:rN (0:Int) m.2.1=mW m:=by show rN 0 (mW m)=mW m;grind [rN]
   simp only [bV,Int.ofNat_lt,hj,if_true,dQ hj,bs,dR h5,wC h5.1 h5.2,him,hck,decide_eq_true_eq];grind)
  (λn s _=>by simp [bV]) (n:=k) (s0:=()) hs trivial
 rw [show bV k m (kj f) s k 0=_ from key]
 congr 1
 have:∀(s:List Int) (j:Nat),dI (λ(_:Unit) _ x=>if decide (mW m≤f x)=true then Except.error x else .ok ()) j s ()=match s.find? (λx=>decide (mW m≤f x)) with |some x=>.error x |none=>.ok ():=by
  intro s
  induction s with
  |nil=>intro j;rfl
  |cons x s ih=>
   intro j;rw [dI,find?_cons];grind
 simp_all
theorem yn{s:List Int}:(nj s).length=s.length:=by
 unfold nj;grind
def IT(m:ae)(f:Int->Int)(l:List Int):Int:=((nj l).find? λx=>decide (mW m≤f x)).getD (-1)
theorem Ae{k:Nat}{m:ae}{f:Int->Int}{c:Int}{d:Nat}(v:Vd m)(hk:10≤k)(hd:d < (mD m).length){l:List Int}(h:qS m d c=some l):
 dn k m (kj f) c (d:Int)=some (IT m f l):=by
 have h6:=v.d6
 have c5:=v.c5
 have hb:=uj v h
 unfold dn
 rw [tG v hk d k (by omega) hd,bs]
 unfold Oq
 rw [h]
 have e1:HG (Sum.inr (nj l):Int ⊕ List Int) (λn=>il k n) (λl=>ij k l)=some (nj l):=rfl
 rw [e1,bs,uO v.w0 (by rw [yn];omega) (by rw [yn];omega) λx hx=>by grind [tp]]
 unfold IT
 cases(nj l).find? λx=>decide (mW m≤f x) with
 |none=>rw [lT];rfl
 |some x=>rw [np];rfl
theorem IS{m:ae}{f:Int->Int}{l:List Int}(hx:∀x∈l,0≤x):0≤IT m f l↔(l.any λx=>decide (mW m≤f x))=true:=by
 unfold IT;rw [List.any_eq_true];cases e:(nj l).find? λx=>decide (mW m≤f x) with
 |none=>
  simp_all [Option.getD_none,List.find?_eq_none,tp]
 |some x=>
  grind [List.mem_of_find?_eq_some,tp]
theorem GN{k:Nat}{m:ae}{f:Int->Int}{d:Nat}(v:Vd m)(hk:10≤k)(hd:d < (mD m).length)(hf:∀c,0≤c->c < mC m-> -1≤f c/\f c≤1000):
 gy k m (kj f) (d:Int)=some (kj (Ot m f d)):=by
 have c5:=v.c5
 have c1:=v.c1
 have h6:=v.d6
 unfold gy
 have key:=iP (T:=List Int×Int) (f:=cu k m (kj f) (d:Int)) (List.range (mC m).toNat) (λ(g:Int->Int) j=>(kj g,j)) (λg j _=>upd g (j:Int) (OQ m f d (j:Int))) (λj g=>g=λc=>if 0≤c/\c < (j:Int) then OQ m f d c else f c) (λg=>some (kj g))
  (λn g j hj hg=>by
   rw [length_range] at hj;have j0:(0:Int)≤(j:Int):=Int.natCast_nonneg _;have j1:(j:Int) < mC m:=by omega
   have j5:(j:Int) < 5:=by omega
   have hck:ck ((j:Int)+1)=some ((j:Int)+1):=dp (by omega) (by omega);have hp:cM ((0:Int)≤(j:Int)/\(j:Int) < 5)=some ():=dR ⟨j0,j5⟩;have hgj:g (j:Int)=f (j:Int):=by simp_all
   have hfj:=hf _ j0 j1;refine⟨?_,?_⟩
   .have hm1:(m.1:Int)=mC m:=rfl;have hm2:m.2.2.2.1=mH m:=rfl;simp only [cu,hm1,hm2,j1,if_true,tG v hk d k (by omega) hd,bs,hp,wC j0 j5,hck,BI j0 j5];unfold Oq OQ;cases e:qS m d (j:Int) with
    |none=>
     simp only [Jd,OT,if_true];by_cases hh:mH m≤(gR m (j:Int) d:Int)
     .simp_all
     .simp only [hh,if_false,bs];refine congrArg (λr=>cu k m (kj f) (d:Int) n (r,(j:Int)+1)) (ma λc _ _=>?_);simp_all [upd]
    |some l=>
     have hb:=uj v e;simp only [Jd,Bool.false_eq_true,if_false,not_false_eq_true,if_true];by_cases h0:0≤f (j:Int)
     .have hck2:ck (f (j:Int)+1)=some (f (j:Int)+1):=dp (by omega) (by omega);simp_all
     .simp only [h0,if_false,Ae v hk hd e,bs];have ht:=IS (m:=m) (f:=f) (l:=l) λx hx=>(hb.2 x hx).1;by_cases hany:(l.any λx=>decide (mW m≤f x))=true
      .simp_all
      .rw [if_neg λh=>hany (ht.1 h),bs,if_neg hany];refine congrArg (λr=>cu k m (kj f) (d:Int) n (r,(j:Int)+1)) (ma λc _ _=>?_);grind [upd]
   .rw [hg];funext c;unfold upd;grind)
  (λn g hg=>by
   rw [length_range];have:((mC m).toNat:Int)=mC m:=by omega
   simp_all [cu,if_neg,mC]) (n:=k) (s0:=f) (by grind) (by grind)
 rw [show cu k m (kj f) (d:Int) k (kj f,0)=_ from key.1,bs]
 congr 1
 refine ma λc _ _=>?_
 rw [key.2,length_range]
 unfold Ot
 grind
end Go.Proofs.YtddkbkkogpolaaaGreat
set_option linter.unusedVariables false
set_option linter.unusedSimpArgs false
namespace Go.Proofs.YtddkbkkogpolaaaGreat
open K Go Go.Proofs
def cr(F:Nat->Int->Int):List (List Int):=[kj (F 0),kj (F 1),kj (F 2),kj (F 3),kj (F 4),kj (F 5),kj (F 6)]
def Aa(F:Nat->Int->Int)(n:Nat)(f:Int->Int):Nat->Int->Int:=λi=>if i=n then f else F i
theorem SX{n:Nat}(h:n < 7):n=0\/n=1\/n=2\/n=3\/n=4\/n=5\/n=6:=by omega
theorem A6{F:Nat->Int->Int}{n:Nat}(h:n < 7):aQ (cr F) (n:Int)=some (kj (F n)):=by
 rcases SX h with rfl |rfl |rfl |rfl |rfl |rfl |rfl <;> rfl
theorem NU{F:Nat->Int->Int}{n:Nat}{f:Int->Int}(h:n < 7):List.set (cr F) n (kj f)=cr (Aa F n f):=by
 rcases SX h with rfl |rfl |rfl |rfl |rfl |rfl |rfl <;> rfl
def Oz(m:ae)(B:Int->Bool):Nat->Int->Int
 |0=>λc=>if B c then mW m else -1
 |n+1=>Ot m (Oz m B n) n
theorem xB{m:ae}(v:Vd m){B:Int->Bool}:∀(n:Nat) (c:Int),0≤c->c < mC m->Oz m B n c=ky m B n c
 |0,c,_,_=>rfl
 |n+1,c,h0,h1=>by
  have ih:=xB v (B:=B) n
  show Ot m (Oz m B n) n c=ky m B (n+1) c
  unfold Ot
  rw [if_pos ⟨h0,h1⟩]
  unfold OQ ky
  cases e:qS m n c with
  |none=>simp_all
  |some l=>
   have hb:=(uj v e).2
   grind
def EM(m:ae)(B:Int->Bool):Nat->Int->Int:=λn=>if n≤(mD m).length then Oz m B n else λ_=>0
def mB(S:Int):Int->Bool:=λc=>decide (d4 S c.toNat)
theorem FC{k:Nat}{m:ae}{S:Int}(hk:10≤k)(hS:ji S):eK k m S=some (kj λc=>if mB S c then mW m else -1):=by
 unfold eK
 have key:=iP (T:=List Int×Int) (f:=cE k m S) (List.range 5) (λ(g:Int->Int) j=>(kj g,j)) (λg j _=>upd g (j:Int) (if mB S (j:Int) then mW m else -1)) (λj g=>∀c,0≤c->c < (j:Int)->g c=if mB S c then mW m else -1) (λg=>some (kj g))
  (λn g j hj hg=>by
   rw [length_range] at hj;have j0:(0:Int)≤(j:Int):=Int.natCast_nonneg _;have j5:(j:Int) < 5:=by omega
   have hck:ck ((j:Int)+1)=some ((j:Int)+1):=dp (by omega) (by omega);have hp:cM ((0:Int)≤(j:Int)/\(j:Int) < 5)=some ():=dR ⟨j0,j5⟩;have hp':cM ((0:Int)≤(j:Int)/\True)=some ():=dR ⟨j0,trivial⟩;refine⟨?_,?_⟩
   .simp only [cE,j5,if_true,hp,hp',bs,wZ (k:=k) hS (by omega:j < 8),hck,BI j0 j5];have hin:mB S (j:Int)=decide (d4 S j):=by unfold mB;simp_all
    rw [hin];cases hh:decide (d4 S j) with
    |true=>
     simp only [if_true,bs];refine congrArg (λr=>cE k m S n (r,(j:Int)+1)) (ma λc _ _=>?_);simp_all [upd]
    |false=>simp_all
   .intro c hc0 hc1;unfold upd;grind)
  (λn g hg=>by
   simp_all [length_range,cE,if_neg]) (n:=k) (s0:=λ_=>0) (by grind) (λc h0 h1=>by omega)
 have e0:([(0:Int),(0:Int),(0:Int),(0:Int),(0:Int)]:List Int)=kj λ_=>0:=rfl;rw [e0,show cE k m S k (kj λ_=>0,0)=_ from key.1,bs];refine congrArg some (ma λc h0 h5=>?_);simp_all
theorem rX{k:Nat}{m:ae}{S:Int}(v:Vd m)(hk:10≤k)(hS:ji S):lB k m S=some (cr (EM m (mB S))):=by
 have d6:=v.d6;have d1:=v.d1;have w0:=v.w0;have w3:=v.w3;unfold lB i8;have hm:cM (0≤S/\S < 256)=some ():=dR hS;have hp0:cM ((0:Int)≤0/\(0:Int) < 7)=some ():=dR ⟨by omega,by omega⟩;rw [hm,bs,FC hk hS,bs,hp0,bs]
 have key:=iP (T:=List (List Int)×Int) (f:=bO k m) (mD m) (λ(F:Nat->Int->Int) j=>(cr F,j)) (λF j _=>Aa F (j+1) (Ot m (F j) j)) (λj F=>F=λn=>if n≤j then Oz m (mB S) n else λ_=>0) (λF=>some (cr F))
  (λn F j hj hF=>by
   have j0:(0:Int)≤(j:Int):=Int.natCast_nonneg _;have hck:ck ((j:Int)+1)=some ((j:Int)+1):=dp (by omega) (by omega);have hp:cM ((0:Int)≤(j:Int)/\(j:Int) < 7)=some ():=dR ⟨j0,by omega⟩;have hp2:cM ((0:Int)≤(j:Int)+1/\(j:Int)+1 < 7)=some ():=dR ⟨by omega,by omega⟩;have hFj:F j=Oz m (mB S) j:=by simp_all
   have hj':(j:Int) < (m.2.2.2.2.1.length:Int):=Int.ofNat_lt.2 hj
   have hnx:=GN (k:=k) (f:=F j) v hk hj (λc h0 h1=>by
    rw [hFj,xB v j c h0 h1];have:=Bi (B:=mB S) w0 (d:=j) (c:=c);have:=Bh (B:=mB S) w3 (d:=j) (c:=c);omega)
   refine⟨?_,?_⟩
   .simp only [bO,hj',if_true,hck,hp,bs,A6 (F:=F) (show j < 7 by omega),hnx,hp2];grind [Int.toNat,NU]
   .rw [hF];funext i;unfold Aa;by_cases e:i=j+1
    .subst e;simp only [if_true,Nat.le_refl];rfl
    grind)
  (λn F hF=>by
   unfold bO;simp_all) (n:=k) (s0:=Aa (λ_ _=>0) 0 (λc=>if mB S c then mW m else -1)) (by omega) (by
   funext n;unfold Aa;by_cases e:n=0
   .subst e;rfl
   simp_all)
 have e0:List.set rV (Int.toNat 0) (kj λc=>if mB S c then mW m else -1)=cr (Aa (λ_ _=>0) 0 (λc=>if mB S c then mW m else -1)):=rfl;rw [e0,show bO k m k (cr (Aa (λ_ _=>0) 0 (λc=>if mB S c then mW m else -1)),0)=_ from key.1,bs];rw [key.2];rfl
theorem CH{m:ae}(v:Vd m){B:Int->Bool}{n:Nat}{c:Int}(hn:n≤(mD m).length)(h0:0≤c)(h1:c < mC m):EM m B n c=ky m B n c:=by
 simp_all [EM,if_pos,xB]
end Go.Proofs.YtddkbkkogpolaaaGreat
set_option linter.unusedVariables false
set_option linter.unusedSimpArgs false
namespace Go.Proofs.YtddkbkkogpolaaaGreat
open K Go Go.Proofs
def wk{σ:Type}(bad:σ->Int->Option Int)(add:σ->Int->σ):List Int->σ->Except Int σ
 |[],s=>.ok s
 |x::l,s=>match bad s x with
  |some e=>.error e
  |none=>wk bad add l (add s x)
theorem wu{σ:Type}{bad:σ->Int->Option Int}{add:σ->Int->σ}:∀(l:List Int) (j:Nat) (s:σ),dI (λs _ x=>match bad s x with |some e=>Except.error e |none=>.ok (add s x)) j l s=wk bad add l s
 |[],j,s=>rfl
 |x::l,j,s=>by
  rw [dI,wk]
  cases bad s x with
  |some e=>rfl
  |none=>exact wu l (j+1) (add s x)
theorem vg{σ:Type}{bad:σ->Int->Option Int}{add:σ->Int->σ}:∀(a b:List Int) (s:σ),wk bad add (a++b) s=match wk bad add a s with | .error e=>.error e | .ok s'=>wk bad add b s'
 |[],b,s=>rfl
 |x::a,b,s=>by
  rw [cons_append,wk,wk]
  cases bad s x with
  |some e=>rfl
  |none=>exact vg a b (add s x)
theorem BB{σ:Type}{bad:σ->Int->Option Int}{add:σ->Int->σ}:∀(r:List (List Int)) (j:Nat) (s:σ),dI (λs _ l=>wk bad add l s) j r s=wk bad add r.flatten s
 |[],j,s=>rfl
 |l::r,j,s=>by
  rw [dI,flatten_cons,vg]
  cases wk bad add l s with
  |error e=>rfl
  |ok s'=>exact BB r (j+1) s'
theorem E3{σ τ:Type}{b1:σ->Int->Option Int}{a1:σ->Int->σ}{b2:τ->Int->Option Int}{a2:τ->Int->τ}(R:σ->τ->Prop)(hb:∀s t x,R s t->b1 s x=b2 t x)(ha:∀s t x,R s t->b1 s x=none->R (a1 s x) (a2 t x)):
 ∀(l:List Int) (s:σ) (t:τ),R s t->(∃e,wk b1 a1 l s= .error e/\wk b2 a2 l t= .error e)\/∃s' t',wk b1 a1 l s= .ok s'/\wk b2 a2 l t= .ok t'/\R s' t'
 |[],s,t,h=>.inr ⟨s,t,rfl,rfl,h⟩
 |x::l,s,t,h=>by
  rw [wk,wk,<-hb s t x h]
  cases e:b1 s x with
  |some c=>simp_all
  |none=>exact E3 R hb ha l _ _ (ha s t x h e)
theorem zW{σ:Type}{bad:σ->Int->Option Int}{add:σ->Int->σ}(P:σ->Prop)(hs:∀s x,P s->bad s x=none->P (add s x)):∀(l:List Int) (s s':σ),P s->wk bad add l s= .ok s'->P s'
 |[],s,s',h,e=>by cases e;exact h
 |x::l,s,s',h,e=>by
  rw [wk] at e
  cases hb:bad s x with
  |some c=>simp_all
  |none=>rw [hb] at e;exact zW P hs l _ s' (hs s x h hb) e
theorem kC{k:Nat}{a b c:Int}:dE k a b c=some (decide (b≤a/\a≤c)):=by
 grind [dE]
theorem Qa{n:Int}(h:1≤n/\n≤5):ck (n - 1)=some (n - 1):=by grind [dp]
def zT(C:Int)(s x:Int):Option Int:=if¬(0≤x/\x < C) then some 3 else if d4 s x.toNat then some 4 else none
def wa(s x:Int):Int:=BY .u8 s (nT .u8 1 x)
def Bd(C:Int)(s:List Int)(x:Int):Option Int:=if¬(0≤x/\x < C) then some 3 else if x∈s then some 4 else none
def CS(s:List Int)(x:Int):List Int:=s++[x]
theorem vG:ji 0:=⟨by decide,by decide⟩
theorem LQ{C s x:Int}(h:zT C s x=none):0≤x/\x < C:=by
 unfold zT at h;grind
theorem mF{k:Nat}{s x:Int}(hs:ji s)(h0:0≤x)(h8:x < 8):fN k s x=some (wa s x)/\ji (wa s x)/\∀i:Nat,d4 (wa s x) i↔d4 s i\/(i:Int)=x:=by
 have h1:=Na h0 h8;have h2:=Ny hs h1.1;refine⟨?_,h2.1,λi=>?_⟩
 .unfold fN;rw [dR h0,bs];rfl
 .show d4 (BY .u8 s (nT .u8 1 x)) i↔_;simp_all
theorem zu{C s x:Int}(hC:C≤5)(hs:ji s)(h:zT C s x=none):ji (wa s x):=by
 have:=LQ h;exact(mF (k:=0) hs this.1 (by omega)).2.1
def rU(C:Int)(r:List (List Int)):Int:=if 3 < r.length then 6 else match wk (Bd C) CS r.flatten [] with | .error e=>e | .ok _=>0
theorem Ea{k:Nat}{m:ae}(hC:1≤mC m/\mC m≤5){l:List Int}(hk:l.length < k)(hl:l.length≤1000){s:Int}(hs:ji s):
 cZ k m l k (s,0)=some (wk (zT (mC m)) wa l s):=by
 have key:=lN (T:=Int×Int) (f:=cZ k m l) l (λ(s:Int) j=>(s,j)) (λs _ x=>match zT (mC m) s x with |some e=>Except.error e |none=>.ok (wa s x)) (λ_ s=>ji s) (λr=>some r)
  (λn s j hj hs=>by
   have hck:ck ((j:Int)+1)=some ((j:Int)+1):=dp (by omega) (by omega);have hc:ck (m.1 - 1)=some (m.1 - 1):=Qa hC;refine⟨?_,λs' e=>?_⟩
   .simp only [cZ,Int.ofNat_lt,hj,if_true,dQ hj,bs,hc,kC];generalize l[j]=x;by_cases h:0≤x/\x < mC m
    .have h':0≤x/\x≤m.1 - 1:=⟨h.1,by grind⟩;have hh:=wZ (k:=k) hs (i:=x.toNat) (by omega);have ex:((x.toNat:Nat):Int)=x:=by omega
     rw [ex] at hh;simp only [h',and_self,decide_true,not_true_eq_false,if_false,hh,bs];have eb:zT (mC m) s x=if d4 s x.toNat then some 4 else none:=by unfold zT;simp_all
     rw [eb];by_cases h2:d4 s x.toNat
     .simp_all
     .simp only [h2,decide_false,Bool.false_eq_true,if_false,(mF (k:=k) hs h.1 (by omega)).1,bs,hck]
    .have h':¬(0≤x/\x≤m.1 - 1):=λhh=>h ⟨hh.1,by grind⟩;have eb:zT (mC m) s x=some 3:=by unfold zT;simp_all
     simp_all
   .cases e2:zT (mC m) s l[j] with
    |some c=>simp_all
    |none=>grind [zu])
  (λn s _=>by simp [cZ]) (n:=k) (s0:=s) hk hs
 simp_all [cZ,wu]
theorem Eb{k:Nat}{m:ae}(hC:1≤mC m/\mC m≤5){r:List (List Int)}(hk:r.length < k)(hr:r.length≤1000)(hl:∀l∈r,l.length < k/\l.length≤1000):
 c6 k m r k (0,0)=some (match wk (zT (mC m)) wa r.flatten 0 with | .error e=>.error e | .ok _=>.ok ()):=by
 have key:=lN (T:=Int×Int) (f:=c6 k m r) r (λ(s:Int) j=>(s,j)) (λs _ l=>wk (zT (mC m)) wa l s) (λ_ s=>ji s) (λx=>some (match x with | .error e=>Except.error e | .ok _=>.ok ()))
  (λn s j hj hs=>by
   have hck:ck ((j:Int)+1)=some ((j:Int)+1):=dp (by omega) (by omega);have hlj:=hl _ (List.getElem_mem hj);refine⟨?_,λs' e=>zW ji (λs x=>zu hC.2) _ _ _ hs e⟩;simp only [c6,Int.ofNat_lt,hj,if_true,dQ hj,bs,Ea hC hlj.1 hlj.2 hs];cases wk (zT (mC m)) wa r[j] s with
   |error e=>rw [np]
   |ok s'=>rw [lT,hck,bs])
  (λn s _=>by simp [c6]) (n:=k) (s0:=0) hk vG
 simp_all [c6,BB]
theorem Kt{C:Int}(hC:C≤5)(l:List Int):(∃e,wk (zT C) wa l 0= .error e/\wk (Bd C) CS l []= .error e)\/∃s t,wk (zT C) wa l 0= .ok s/\wk (Bd C) CS l []= .ok t/\(ji s/\∀i:Nat,d4 s i↔(i:Int)∈t):=by
 refine E3 (λs t=>ji s/\∀i:Nat,d4 s i↔(i:Int)∈t) (λs t x h=>?_) (λs t x h hb=>?_) l 0 [] ⟨vG,λi=>by simp [d4]⟩
 .unfold zT Bd;grind
 .have hx:=LQ hb;have hw:=mF (k:=0) h.1 hx.1 (by omega);simp_all [CS]
theorem JF{k:Nat}{m:ae}(hC:1≤mC m/\mC m≤5){r:List (List Int)}(hk:1000 < k)(hr:r.length≤1000)(hl:∀l∈r,l.length≤1000):iL k m r=some (rU (mC m) r):=by
 unfold iL rU;by_cases h3:3 < r.length
 .grind
 .rw [if_neg (by omega),if_neg h3,Eb hC (by omega) hr λl hh=>⟨by grind,hl l hh⟩];rcases Kt hC.2 r.flatten with⟨e,h1,h2⟩ |⟨s,t,h1,h2,_⟩
  .simp_all [np]
  simp_all [lT]
end Go.Proofs.YtddkbkkogpolaaaGreat
set_option linter.unusedVariables false
set_option linter.unusedSimpArgs false
namespace Go.Proofs.YtddkbkkogpolaaaGreat
open K Go Go.Proofs
theorem rj:∀(n:Nat) (l:List Int),l.Nodup->(∀x∈l,0≤x/\x < (n:Int))->l.length≤n
 |0,l,_,h=>by
  cases l with
  |nil=>simp
  |cons x l=>have:=h x (by simp);omega
 |n+1,l,hn,h=>by
  have h1:=rj n (l.erase (n:Int)) (hn.erase _) (λx hx=>by
   grind)
  grind
theorem Qc{C:Int}{s:List Int}{x:Int}(h:Bd C s x=none):(0≤x/\x < C)/\x∉s:=by
 unfold Bd at h;grind
def Mt(C:Int)(s:List Int):Prop:=s.Nodup/\∀x∈s,0≤x/\x < C
theorem Mt.add{C:Int}{s:List Int}{x:Int}(h:Mt C s)(hb:Bd C s x=none):Mt C (CS s x):=by
 have:=Qc hb;refine⟨?_,λy hy=>?_⟩
 .unfold CS;rw [nodup_append];exact⟨h.1,by simp,λa ha b hb e=>by simp_all⟩
 .rcases List.mem_append.1 hy with hy |hy
  .exact h.2 y hy
  simp_all
theorem Mt.len{C:Int}{s:List Int}(hC:0≤C/\C≤5)(h:Mt C s):s.length≤5:=by
 have:=rj C.toNat s h.1 λx hx=>⟨(h.2 x hx).1,by have:=(h.2 x hx).2;omega⟩;omega
theorem E4{C:Int}:∀{l s t:List Int},wk (Bd C) CS l s= .ok t->t=s++l
 |[],s,t,e=>by cases e;simp
 |x::l,s,t,e=>by
  rw [wk] at e
  cases hb:Bd C s x with
  |some c=>simp_all
  |none=>
   rw [hb] at e
   have:=E4 e
   simp_all [CS]
theorem BD{C:Int}:∀{l s:List Int},(s++l).Nodup->(∀x∈l,0≤x/\x < C)->wk (Bd C) CS l s= .ok (s++l)
 |[],s,_,_=>by simp [wk]
 |x::l,s,hn,hr=>by
  have hx:x∉s:=by
   grind
  have hb:Bd C s x=none:=by
   unfold Bd;simp_all
  rw [wk,hb];simp only [];rw [BD (s:=CS s x) (by simp_all [CS]) λy hy=>hr y (mem_cons_of_mem _ hy)];simp_all [CS]
theorem vT{C:Int}{r:List (List Int)}:rU C r=0↔r.length≤3/\r.flatten.Nodup/\∀x∈r.flatten,0≤x/\x < C:=by
 unfold rU;constructor
 .intro h;split at h
  .cases h
  .cases e:wk (Bd C) CS r.flatten [] with
   |ok t=>
    have h1:=zW (Mt C) (λs x=>Mt.add) _ _ _ ⟨nodup_nil,λx hx=>by cases hx⟩ e;have h2:=E4 e;rw [nil_append] at h2;subst h2;exact⟨by omega,h1.1,h1.2⟩
   |error c=>
    rw [e] at h;exfalso
    have:∀(l s:List Int),wk (Bd C) CS l s≠.error 0:=by
     intro l
     induction l with
     |nil=>intro s h;cases h
     |cons x l ih=>
      grind [wk,Bd]
    simp_all
 .rintro⟨h1,h2,h3⟩;rw [if_neg (by omega),BD (by simp_all) h3]
def He(m:ae)(g:bX):Int:=if(0≤g.1/\g.1 < mC m)/\0≤g.2.1/\g.2.1≤(mD m).length then 0 else 3
theorem Nw{k:Nat}{m:ae}(hC:1≤mC m/\mC m≤5){g:bX}:fX k m g=some (He m g):=by
 have hc:ck (m.1 - 1)=some (m.1 - 1):=Qa hC;unfold fX He;have e:decide (0≤g.1/\g.1≤m.1 - 1)=decide (0≤g.1/\g.1 < mC m):=decide_eq_decide.2 ⟨λh=>⟨h.1,by grind⟩,λh=>⟨h.1,by grind⟩⟩;rw [hc,bs,kC,bs,e];by_cases h1:0≤g.1/\g.1 < mC m
 .by_cases h2:0≤g.2.1/\g.2.1≤(mD m).length <;> simp [h1,h2,kC]
 grind
def lA{α:Type}(f:α->Int)(l:List α):Int:=((l.map f).find? λe=>decide (e≠0)).getD 0
theorem rP{α:Type}(f:α->Int):∀(l:List α) (j:Nat),dI (λ(_:Unit) _ x=>if¬(f x=0) then Except.error (f x) else .ok ()) j l ()=if lA f l=0 then .ok () else .error (lA f l)
 |[],j=>by simp [dI,lA]
 |x::l,j=>by
  rw [dI]
  by_cases h:f x=0
  .
   have:lA f (x::l)=lA f l:=by simp [lA,h]
   rw [this]
   simp only [h,not_true_eq_false,if_false]
   exact rP f l (j+1)
  simp_all [lA]
theorem oC{α:Type}{f:α->Int}{l:List α}:lA f l=0↔∀x∈l,f x=0:=by
 induction l with
 |nil=>simp [lA]
 |cons x l ih=>
  grind [lA]
structure Sm(m:ae):Prop where
 d:(mD m).length≤1000
 r:∀r∈mD m,r.length≤1000/\∀l∈r,l.length≤1000
 g:(mG m).length≤1000
def pT(m:ae):Int:=
 if¬((1≤mC m/\mC m≤5)/\(0≤mW m/\mW m≤3)/\(0≤mS m/\mS m≤3)/\1≤mH m/\mH m≤3) then 1
 else if(mD m).length=0 then 7 else if 6 < (mD m).length then 6 else if¬(lA (rU (mC m)) (mD m)=0) then lA (rU (mC m)) (mD m)
 else if 8 < (mG m).length then 6 else lA (He m) (mG m)
theorem JG{k:Nat}{m:ae}(hs:Sm m)(hk:1000 < k):mj k m=some (pT m):=by
 unfold mj pT;simp only [kC,bs];by_cases h1:1≤mC m/\mC m≤5
 .by_cases h2:0≤mW m/\mW m≤3
  .by_cases h3:0≤mS m/\mS m≤3
   .by_cases h4:1≤mH m/\mH m≤3
    .have e1:(1≤m.1/\m.1≤5)=True:=eq_true h1;have e2:(0≤m.2.1/\m.2.1≤3)=True:=eq_true h2;have e3:(0≤m.2.2.1/\m.2.2.1≤3)=True:=eq_true h3;have e4:(1≤m.2.2.2.1/\m.2.2.2.1≤3)=True:=eq_true h4;simp only [e1,e2,e3,e4,decide_true,not_true_eq_false,if_false,Bool.not_true,Bool.false_eq_true,bs,and_self,h1,h2,h3,h4];by_cases h5:(mD m).length=0
     .simp_all
     .rw [if_neg (show¬((m.2.2.2.2.1.length:Int) < 1) by grind),if_neg h5];by_cases h6:6 < (mD m).length
      .grind
      .rw [if_neg (show¬((6:Int) < (m.2.2.2.2.1.length:Int)) by grind),if_neg h6]
       have key:=lN (f:=eT k m) (mD m) (λ(_:Unit) j=>j) (λ_ _ x=>if¬(rU (mC m) x=0) then Except.error (rU (mC m) x) else .ok ()) (λ_ _=>True) (λr=>some r)
        (λn s j hj _=>by
         have hck:ck ((j:Int)+1)=some ((j:Int)+1):=dp (by omega) (by omega);have hr:=hs.r _ (List.getElem_mem hj);refine⟨?_,λ_ _=>trivial⟩;have hj':(j:Int) < (m.2.2.2.2.1.length:Int):=Int.ofNat_lt.2 hj;have hg:aQ m.2.2.2.2.1 (j:Int)=some (mD m)[j]:=dQ hj;simp only [eT,hj',if_true,hg,bs,JF h1 hk hr.1 hr.2];grind)
        (λn s _=>by
         unfold eT;simp_all) (n:=k) (s0:=()) (by omega) trivial
       rw [show eT k m k 0=_ from key,rP];by_cases h7:lA (rU (mC m)) (mD m)=0
       .rw [if_pos h7,lT,show(if¬(lA (rU (mC m)) (mD m)=0) then lA (rU (mC m)) (mD m) else if 8 < (mG m).length then 6 else lA (He m) (mG m))=(if 8 < (mG m).length then 6 else lA (He m) (mG m)) from if_neg (λhn=>hn h7)];by_cases h8:8 < (mG m).length
        .grind
        .rw [if_neg (show¬((8:Int) < (m.2.2.2.2.2.length:Int)) by grind),if_neg h8]
         have key:=lN (f:=eS k m) (mG m) (λ(_:Unit) j=>j) (λ_ _ x=>if¬(He m x=0) then Except.error (He m x) else .ok ()) (λ_ _=>True) (λr=>some r)
          (λn s j hj _=>by
           have hck:ck ((j:Int)+1)=some ((j:Int)+1):=dp (by omega) (by omega);refine⟨?_,λ_ _=>trivial⟩;have hj':(j:Int) < (m.2.2.2.2.2.length:Int):=Int.ofNat_lt.2 hj;have hg:aQ m.2.2.2.2.2 (j:Int)=some (mG m)[j]:=dQ hj;simp only [eS,hj',if_true,hg,bs,Nw h1];grind)
          (λn s _=>by
           simp_all [eS,if_neg,Int.lt_irrefl]) (n:=k) (s0:=()) (by omega) trivial
         rw [show eS k m k 0=_ from key,rP];by_cases h9:lA (He m) (mG m)=0
         .rw [if_pos h9,lT,h9]
         .rw [if_neg h9,np]
       .rw [if_neg h7,np,if_pos h7]
    grind
   grind
  grind
 grind
end Go.Proofs.YtddkbkkogpolaaaGreat
set_option linter.unusedVariables false
set_option linter.unusedSimpArgs false
namespace Go.Proofs.YtddkbkkogpolaaaGreat
open K Go Go.Proofs
theorem tR{r:List (List Int)}{l:List Int}(h:r.flatten.Nodup)(hl:l∈r):l.Nodup:=by
 grind
theorem IJ{σ:Type}{bad:σ->Int->Option Int}{add:σ->Int->σ}{x:Int}{l:List Int}{s:σ}{e:Int}(h:bad s x=some e):wk bad add (x::l) s= .error e:=by rw [wk,h]
theorem IG{σ:Type}{bad:σ->Int->Option Int}{add:σ->Int->σ}{x:Int}{l:List Int}{s:σ}(h:bad s x=none):wk bad add (x::l) s=wk bad add l (add s x):=by rw [wk,h]
theorem Vd.of{m:ae}(h:pT m=0):Vd m:=by
 unfold pT at h;by_cases h1:(1≤mC m/\mC m≤5)/\(0≤mW m/\mW m≤3)/\(0≤mS m/\mS m≤3)/\1≤mH m/\mH m≤3
 .rw [if_neg (λhn=>hn h1)] at h;by_cases h2:(mD m).length=0
  .omega
  .rw [if_neg h2] at h;by_cases h3:6 < (mD m).length
   .omega
   .rw [if_neg h3] at h;by_cases h4:lA (rU (mC m)) (mD m)=0
    .rw [if_neg (λhn=>hn h4)] at h;by_cases h5:8 < (mG m).length
     .omega
     .rw [if_neg h5] at h;have hd:=λr hr=>vT.1 (oC.1 h4 r hr);have hx:∀r∈mD m,∀l∈r,∀x∈l,0≤x/\x < mC m:=λr hr l hl x hx=>(hd r hr).2.2 x (List.mem_flatten.2 ⟨l,hl,hx⟩)
      exact⟨h1.1.1,h1.1.2,h1.2.1.1,h1.2.1.2,h1.2.2.1.1,h1.2.2.1.2,h1.2.2.2.1,h1.2.2.2.2,by omega,by omega,λr hr=>(hd r hr).1,λr hr l hl=>by
       have hn:l.Nodup:=tR (hd r hr).2.1 hl;have:=rj (mC m).toNat l hn λx hxx=>by grind
       omega,hx,λr hr=>(hd r hr).2.1,by omega,λg hg=>by
        grind [oC,He]⟩
    omega
 omega
theorem Vd.chk{m:ae}(v:Vd m):pT m=0:=by
 unfold pT;have h1:(1≤mC m/\mC m≤5)/\(0≤mW m/\mW m≤3)/\(0≤mS m/\mS m≤3)/\1≤mH m/\mH m≤3:=⟨⟨v.c1,v.c5⟩,⟨v.w0,v.w3⟩,⟨v.s0,v.s3⟩,v.h1,v.h3⟩
 have h4:lA (rU (mC m)) (mD m)=0:=oC.2 λr hr=>vT.2 ⟨v.r3 r hr,v.nd r hr,λx hx=>by
  obtain⟨l,hl,hx⟩:=List.mem_flatten.1 hx;exact v.x5 r hr l hl x hx⟩
 have h9:lA (He m) (mG m)=0:=oC.2 λg hg=>by
  have:=v.gl g hg;unfold He;omega
 have d1:=v.d1;have d6:=v.d6;have g8:=v.g8;omega
theorem Vd.sm{m:ae}(v:Vd m):Sm m:=⟨by have:=v.d6;omega,λr hr=>⟨by have:=v.r3 r hr;omega,λl hl=>by have:=v.l5 r hr l hl;omega⟩,by have:=v.g8;omega⟩
def uF(C:Int)(p:Option Int)(x:Int):Option Int:=if¬(0≤x/\x < C) then some 3 else if p.any (λy=>decide (x≤y)) then some 5 else none
def KI(C:Int)(p:Option Int×Int)(x:Int):Option Int:=uF C p.1 x
def OA(p:Option Int×Int)(x:Int):Option Int×Int:=(some x,wa p.2 x)
def KR(p:Option Int)(x:Int):Option Int:=some x
def sR(C:Int)(b:List Int):Int:=match wk (uF C) KR b none with | .error e=>e | .ok _=>0
def de(b:List Int):Int:=b.foldl wa 0
theorem LR{C:Int}{p:Option Int}{x:Int}(h:uF C p x=none):(0≤x/\x < C)/\p.any (λy=>decide (x≤y))=false:=by
 unfold uF at h;grind
theorem CM{C:Int}:∀(b:List Int) (p:Option Int) (s:Int),(∃e,wk (KI C) OA b (p,s)= .error e/\wk (uF C) KR b p= .error e)\/∃q,wk (KI C) OA b (p,s)= .ok (q,b.foldl wa s)/\wk (uF C) KR b p= .ok q
 |[],p,s=>.inr ⟨p,rfl,rfl⟩
 |x::b,p,s=>by
  cases e:uF C p x with
  |some c=>exact .inl ⟨c,IJ e,IJ e⟩
  |none=>
   rw [IG (bad:=KI C) (s:=(p,s)) (x:=x) e,IG e]
   exact CM (C:=C) b (some x) (wa s x)
theorem yK{k:Nat}{m:ae}(hC:1≤mC m/\mC m≤5){b:List Int}(hk:b.length < k)(hb:b.length≤1000):
 eP k m b k (0,0)=some (if sR (mC m) b=0 then .ok (de b) else .error (none,0,sR (mC m) b)):=by
 have key:=lN (T:=Int×Int) (f:=eP k m b) b (λ(s:Option Int×Int) j=>(s.2,j)) (λs _ x=>match KI (mC m) s x with |some e=>Except.error e |none=>.ok (OA s x)) (λj s=>ji s.2/\s.1=if j=0 then none else b[j-1]?) (λr=>some (match r with | .error e=>Except.error (none,0,e) | .ok s=>.ok s.2))
  (λn s j hj hs=>by
   have hck:ck ((j:Int)+1)=some ((j:Int)+1):=dp (by omega) (by omega);have hc:ck (m.1 - 1)=some (m.1 - 1):=Qa hC;refine⟨?_,λs' e=>?_⟩
   .simp only [eP,Int.ofNat_lt,hj,if_true,dQ hj,bs,hc,kC];generalize b[j]=x;rw [show KI (mC m) s x=uF (mC m) s.1 x from rfl];by_cases h:0≤x/\x < mC m
    .have h':0≤x/\x≤m.1 - 1:=⟨h.1,by grind⟩;have eb:uF (mC m) s.1 x=if s.1.any (λy=>decide (x≤y)) then some 5 else none:=by unfold uF;simp_all
     have ep:(if(0:Int) < (j:Int) then((ck ((j:Int) - 1)).bind λx12=>(aQ b x12).bind λx13=>some (decide (x≤x13))) else some false)=some (s.1.any λy=>decide (x≤y)):=by
      rw [hs.2];by_cases h0:j=0
      .simp_all
      .have c1:ck ((j:Int) - 1)=some ((j - 1:Nat):Int):=by grind [dp]
       rw [if_pos (by omega),c1,bs,dQ (by omega),bs,if_neg h0,List.getElem?_eq_getElem (by omega)];rfl
     rw [eb];simp only [h',and_self,decide_true,not_true_eq_false,if_false,bs];rw [ep,bs];cases s.1.any λy=>decide (x≤y) with
     |true=>simp_all
     |false=>
      simp only [Bool.false_eq_true,if_false,(mF (k:=k) hs.1 h.1 (by omega)).1,bs,hck];rfl
    .have h':¬(0≤x/\x≤m.1 - 1):=λhh=>h ⟨hh.1,by grind⟩;have eb:uF (mC m) s.1 x=some 3:=by unfold uF;simp_all
     simp_all
   .cases e2:KI (mC m) s b[j] with
    |some c=>simp_all
    |none=>
     rw [e2] at e;cases e;have hx:=LR e2;exact⟨(mF (k:=0) hs.1 hx.1.1 (by omega)).2.1,by show some b[j]=if j+1=0 then none else b[j+1 - 1]?;simp_all⟩)
  (λn s _=>by simp [eP]) (n:=k) (s0:=(none,0)) hk ⟨vG,rfl⟩
 rw [show eP k m b k (0,0)=_ from key]
 have e1:dI (λ(s:Option Int×Int) _ x=>match KI (mC m) s x with |some e=>Except.error e |none=>.ok (OA s x)) 0 b (none,0)=wk (KI (mC m)) OA b (none,0):=wu (bad:=KI (mC m)) (add:=OA) b 0 (none,0)
 rw [e1]
 unfold sR
 have z:∀(l:List Int) (p:Option Int),wk (uF (mC m)) KR l p≠.error 0:=by
  intro l
  induction l with
  |nil=>intro p h;cases h
  |cons x l ih=>
   intro p h;rw [wk] at h;cases hb:uF (mC m) p x with
   |some c=>
    grind [uF]
   |none=>grind
 rcases CM (C:=mC m) b none 0 with⟨e,h1,h2⟩ |⟨q,h1,h2⟩
 .
  grind
 .
  rw [h1,h2];rfl
end Go.Proofs.YtddkbkkogpolaaaGreat
set_option linter.unusedVariables false
set_option linter.unusedSimpArgs false
namespace Go.Proofs.YtddkbkkogpolaaaGreat
open K Go Go.Proofs
theorem yp{C:Int}(hC:C≤5):∀(b:List Int) (s:Int),ji s->(∀x∈b,0≤x/\x < C)->ji (b.foldl wa s)/\∀i:Nat,d4 (b.foldl wa s) i↔d4 s i\/(i:Int)∈b
 |[],s,hs,_=>⟨hs,λi=>by simp⟩
 |x::b,s,hs,hb=>by
  have hx:=hb x mem_cons_self
  have hw:=mF (k:=0) hs hx.1 (by omega)
  have:=yp hC b (wa s x) hw.2.1 λy hy=>hb y (mem_cons_of_mem _ hy)
  grind
structure Bg(C:Int)(b:List Int):Prop where
 rng:∀x∈b,0≤x/\x < C
 asc:b.Pairwise (· < ·)
theorem zX{C:Int}:∀{b:List Int} {p:Option Int},(∃q,wk (uF C) KR b p= .ok q)↔(∀x∈b,0≤x/\x < C)/\b.Pairwise (· < ·)/\∀y,p=some y->∀x∈b.head?,y < x
 |[],p=>by simp [wk]
 |x::b,p=>by
  cases e:uF C p x with
  |some c=>
   rw [IJ e]
   constructor
   .
    simp_all
   .
    rintro⟨h1,h2,h3⟩
    exfalso
    unfold uF at e
    rw [if_neg (λhn=>hn (h1 x mem_cons_self))] at e
    cases p with
    |none=>cases e
    |some y=>
     have:=h3 y rfl x (by simp)
     grind
  |none=>
   have hx:=LR e
   rw [IG e,zX (b:=b) (p:=KR p x)]
   constructor
   .
    rintro⟨h1,h2,h3⟩
    refine⟨λy hy=>?_,?_,λy hy z hz=>?_⟩
    .
     grind
    .
     rw [pairwise_cons]
     refine⟨λy hy=>?_,h2⟩
     cases b with
     |nil=>cases hy
     |cons z b=>
      have hz:=h3 x rfl z (by simp)
      grind [pairwise_cons]
    simp_all
   simp_all [pairwise_cons,mem_cons_of_mem,KR,mem_of_mem_head?]
theorem CN{C:Int}:∀{l:List Int} {p:Option Int},wk (uF C) KR l p≠.error 0
 |[],p,h=>by cases h
 |x::l,p,h=>by
  cases hb:uF C p x with
  |some c=>
   rw [IJ hb] at h
   grind [uF]
  |none=>rw [IG hb] at h;exact CN h
theorem rZ{C:Int}{b:List Int}:sR C b=0↔Bg C b:=by
 unfold sR;constructor
 .intro h;cases e:wk (uF C) KR b none with
  |error c=>simp_all [CN]
  |ok q=>have:=zX.1 ⟨q,e⟩;exact⟨this.1,this.2.1⟩
 .rintro⟨h1,h2⟩;obtain⟨q,e⟩:=(zX (p:=none)).2 ⟨h1,h2,λy hy=>by cases hy⟩;rw [e]
theorem Bg.set{C:Int}(hC:C≤5){b:List Int}(h:Bg C b):ji (de b)/\∀c:Int,0≤c->mB (de b) c=decide (c∈b):=by
 have:=yp hC b 0 vG h.rng;refine⟨this.1,λc hc=>?_⟩;unfold mB;have e:((c.toNat:Nat):Int)=c:=by omega
 have h2:=this.2 c.toNat;rw [e] at h2;refine decide_eq_decide.2 ?_;show d4 (b.foldl wa 0) c.toNat↔_;simp_all [d4]
def u7(m:ae)(i:Nat):Int:=match i with |0=>mC m - 1 |1=>((mD m).length:Int) - 1 |_=>(mD m).length
def yW(n:Int)(l:List Int):Bool:=l.all λx=>decide (0≤x/\x≤n)
theorem pw{k:Nat}{m:ae}(v:Vd m){i:Nat}(hi:i < 3){l:List Int}(hk:l.length < k)(hl:l.length≤1000):
 dw k m (i:Int) l k 0=some (if yW (u7 m i) l then .ok () else .error (none,0,3)):=by
 have c1:=v.c1
 have c5:=v.c5
 have d6:=v.d6
 have d1:=v.d1
 have key:=lN (T:=Int) (f:=dw k m (i:Int) l) l (λ(_:Unit) j=>j) (λ_ _ x=>if 0≤x/\x≤u7 m i then .ok () else Except.error ((none,0,3):Option ae×Int×Int)) (λ_ _=>True) (λr=>some r)
  (λn s j hj _=>by
   have hck:ck ((j:Int)+1)=some ((j:Int)+1):=dp (by omega) (by omega);have hc:ck (m.1 - 1)=some (mC m - 1):=Qa ⟨c1,c5⟩;have hd:ck ((m.2.2.2.2.1.length:Int) - 1)=some (((mD m).length:Int) - 1):=dp (by omega) (by grind)
   have hg:aQ [mC m - 1,((mD m).length:Int) - 1,((mD m).length:Int)] (i:Int)=some (u7 m i):=by
    have:i=0\/i=1\/i=2:=by omega
    rcases this with rfl |rfl |rfl <;> rfl
   refine⟨?_,λ_ _=>trivial⟩;simp only [dw,Int.ofNat_lt,hj,if_true,dQ hj,bs,hc,hd];rw [show aQ [mC m - 1,((mD m).length:Int) - 1,(m.2.2.2.2.1.length:Int)] (i:Int)=some (u7 m i) from hg,bs,kC,bs];grind)
  (λn s _=>by simp [dw]) (n:=k) (s0:=()) hk trivial
 rw [show dw k m (i:Int) l k 0=_ from key]
 congr 1
 have:∀(l:List Int) (j:Nat),dI (λ(_:Unit) _ x=>if 0≤x/\x≤u7 m i then .ok () else Except.error ((none,0,3):Option ae×Int×Int)) j l ()=if yW (u7 m i) l then .ok () else .error (none,0,3):=by
  intro l
  induction l with
  |nil=>intro j;rfl
  |cons x l ih=>
   intro j;rw [dI];by_cases h:0≤x/\x≤u7 m i
   .simp_all [if_pos,yW,u7,all_cons,and_self,decide_true,Bool.true_and]
   .rw [if_neg h];have:yW (u7 m i) (x::l)=false:=by simp only [yW,all_cons,h,decide_false,Bool.false_and]
    simp_all
 simp_all
theorem ye{k:Nat}{m:ae}(v:Vd m)(hk:10≤k):∀n:Nat,n≤32->vf k m n=some ()
 |0,_=>rfl
 |n+1,h=>by
  have e:IntKind.u8.wrap (n:Int)=(n:Int):=sT (by omega)
  unfold vf
  rw [ye v hk n (by omega),bs,e,rX v hk ⟨by omega,by omega⟩,bs]
theorem IN{k:Nat}{m:ae}(v:Vd m)(hk:10≤k):ew k m=some ():=by
 have c1:=v.c1;have c5:=v.c5;unfold ew
 have hc:m.1=1\/m.1=2\/m.1=3\/m.1=4\/m.1=5:=by
  grind
 have e:0≤nT .i64 1 m.1/\nT .i64 1 m.1≤32:=by
  rcases hc with h |h |h |h |h <;> rw [h] <;> decide
 rw [if_pos ⟨by omega,by omega⟩];simp_all [ye]
def QE(m:ae)(cs ds ns:List Int):Bool:=yW (u7 m 0) cs && yW (u7 m 1) ds && yW (u7 m 2) ns
theorem yJ{k:Nat}{m:ae}{b cs ds ns:List Int}(hs:Sm m)(hk:1010≤k)(hb:b.length≤1000)(h1:cs.length≤1000)(h2:ds.length≤1000)(h3:ns.length≤1000):
 jy k m b cs ds ns=some (if¬(pT m=0) then(none,0,pT m) else if¬(sR (mC m) b=0) then(none,0,sR (mC m) b) else if QE m cs ds ns then(some m,de b,0) else(none,0,3)):=by
 unfold jy
 rw [JG hs (by omega),bs]
 by_cases hc:pT m=0
 .
  have v:=Vd.of hc;rw [if_neg (λhn=>hn hc),if_neg (λhn=>hn hc),yK ⟨v.c1,v.c5⟩ (by omega) hb];by_cases hg:sR (mC m) b=0
  .rw [if_pos hg,lT,if_neg (λhn=>hn hg)];obtain⟨n,rfl⟩:∃n,k=n+4:=⟨k - 4,by omega⟩;have e0:=pw v (k:=n+4) (i:=0) (by omega) (l:=cs) (by omega) h1;have e1:=pw v (k:=n+4) (i:=1) (by omega) (l:=ds) (by omega) h2;have e2:=pw v (k:=n+4) (i:=2) (by omega) (l:=ns) (by omega) h3;have g0:aQ [cs,ds,ns] (0:Int)=some cs:=rfl;have g1:aQ [cs,ds,ns] (1:Int)=some ds:=rfl;have g2:aQ [cs,ds,ns] (2:Int)=some ns:=rfl;have k0:ck ((0:Int)+1)=some 1:=rfl;have k1:ck ((1:Int)+1)=some 2:=rfl;have k2:ck ((2:Int)+1)=some 3:=rfl;have ln:(([cs,ds,ns]:List (List Int)).length:Int)=3:=rfl
   have s0:cP (n+4) m cs ds ns (n+4) 0=if yW (u7 m 0) cs then cP (n+4) m cs ds ns (n+3) 1 else some (.error (none,0,3)):=by
    rw [cP,ln,if_pos (by decide),g0,bs,show dw (n+4) m 0 cs (n+4) 0=_ from e0];cases yW (u7 m 0) cs with
    |true=>simp_all [if_true,lT,bs]
    |false=>simp_all [Bool.false_eq_true,if_false,np]
   have s1:cP (n+4) m cs ds ns (n+3) 1=if yW (u7 m 1) ds then cP (n+4) m cs ds ns (n+2) 2 else some (.error (none,0,3)):=by
    rw [cP,ln,if_pos (by decide),g1,bs,show dw (n+4) m 1 ds (n+4) 0=_ from e1];cases yW (u7 m 1) ds with
    |true=>simp_all [if_true,lT,bs]
    |false=>simp_all [Bool.false_eq_true,if_false,np]
   have s2:cP (n+4) m cs ds ns (n+2) 2=if yW (u7 m 2) ns then cP (n+4) m cs ds ns (n+1) 3 else some (.error (none,0,3)):=by
    rw [cP,ln,if_pos (by decide),g2,bs,show dw (n+4) m 2 ns (n+4) 0=_ from e2];cases yW (u7 m 2) ns with
    |true=>simp_all [if_true,lT,bs]
    |false=>simp_all [Bool.false_eq_true,if_false,np]
   have s3:cP (n+4) m cs ds ns (n+1) 3=some (.ok ()):=by
    rw [cP,ln,if_neg (by decide)]
   rw [s0,s1,s2,s3];unfold QE
   have fin:((iJ (n+4) m).bind λr32=>f8 r32 none (λq33=>(ew (n+4) q33).bind λr35=>some (some q33,de b,(0:Int))))=some (some m,de b,0):=by
    grind [iJ,bs,xp,IN]
   cases yW (u7 m 0) cs with
   |false=>simp_all [Bool.false_eq_true,if_false,Bool.false_and,np]
   |true=>
    cases yW (u7 m 1) ds with
    |false=>simp_all [if_true,Bool.false_eq_true,if_false,Bool.true_and,Bool.false_and,np]
    |true=>
     cases yW (u7 m 2) ns with
     |false=>simp_all [if_true,Bool.false_eq_true,if_false,Bool.true_and,Bool.and_false,np]
     |true=>simp_all [if_true,Bool.true_and,lT]
  .rw [if_neg hg,np,if_pos hg]
 simp_all
end Go.Proofs.YtddkbkkogpolaaaGreat
set_option linter.unusedVariables false
set_option linter.unusedSimpArgs false
namespace Go.Proofs.YtddkbkkogpolaaaGreat
open K Go Go.Proofs
def oS(m:ae)(B:Int->Bool)(n:Nat):List Int:=(List.range (mC m).toNat).map λ(c:Nat)=>ky m B n (c:Int)
def lg(m:ae)(B:Int->Bool):List (List Int):=(List.range ((mD m).length+1)).map (oS m B)
theorem tA{m:ae}{B:Int->Bool}{n:Nat}{c:Int}(h0:0≤c)(h1:c < mC m):aQ (oS m B n) c=some (ky m B n c):=by
 unfold oS;rw [aQ,if_pos h0,List.getElem?_map,List.getElem?_range (by omega)];grind
theorem kF{m:ae}{B:Int->Bool}{n:Nat}(h:n≤(mD m).length):aQ (lg m B) (n:Int)=some (oS m B n):=by
 unfold lg;rw [aQ,if_pos (by omega),List.getElem?_map,Int.toNat_natCast,List.getElem?_range (by omega)];rfl
theorem Fq{f:Int->Int}{C:Int}(h0:0≤C)(h5:C≤5):List.take C.toNat (kj f)=(List.range C.toNat).map λ(c:Nat)=>f (c:Int):=by
 have:C=0\/C=1\/C=2\/C=3\/C=4\/C=5:=by omega
 rcases this with rfl |rfl |rfl |rfl |rfl |rfl <;> rfl
theorem AQ{k:Nat}{m:ae}{b:List Int}(hs:Sm m)(hk:1010≤k)(hb:b.length≤1000):
 i9 k m b=some (if¬(pT m=0) then([],pT m) else if¬(sR (mC m) b=0) then([],sR (mC m) b) else(lg m λc=>decide (c∈b),0)):=by
 unfold i9
 rw [yJ hs hk hb (by simp) (by simp) (by simp),bs]
 by_cases hc:pT m=0
 .
  have v:=Vd.of hc;by_cases hg:sR (mC m) b=0
  .have hB:=(rZ.1 hg).set v.c5;have ho:QE m [] [] []=true:=rfl;have c1:=v.c1;have c5:=v.c5;have d6:=v.d6;simp only [hc,hg,ho,not_true_eq_false,if_false,if_true,xp];rw [rX v (by omega) hB.1,bs]
   have hd:ck ((m.2.2.2.2.1.length:Int)+1)=some (((mD m).length+1:Nat):Int):=by
    rw [dp (by omega) (by grind)];rfl
   rw [hd,bs]
   have key:=iP (T:=List (List Int)×Int) (f:=eg k m (cr (EM m (mB (de b)))) (((mD m).length+1:Nat):Int)) (List.range ((mD m).length+1)) (λ(s:List (List Int)) j=>(s,j)) (λs j _=>s++[oS m (mB (de b)) j]) (λj s=>s=(List.range j).map (oS m (mB (de b)))) (λs=>some s)
    (λn s j hj hs=>by
     rw [length_range] at hj;have hck:ck ((j:Int)+1)=some ((j:Int)+1):=dp (by omega) (by omega);have hjlt:(j:Int) < (((mD m).length+1:Nat):Int):=by omega
     have hp:cM (0≤m.1/\m.1≤5)=some ():=dR ⟨by grind,c5⟩
     have ht:List.take (Int.toNat m.1) (kj (EM m (mB (de b)) j))=oS m (mB (de b)) j:=by
      rw [Fq (by omega) c5];unfold oS;refine List.map_congr_left λc hc=>?_;have:=List.mem_range.1 hc;exact CH v (by omega) (by omega) (by omega)
     have hl:(oS m (mB (de b)) j).length≤5:=by grind
     have hsl:s.length=j:=by simp_all
     have hcl:g7 k (oS m (mB (de b)) j)=some (oS m (mB (de b)) j):=by
      unfold g7;rw [dR (by show _≤_;omega),bs]
     have hok:cM (bW (length s+length [oS m (mB (de b)) j]))=some ():=dR (by grind [bW]);refine⟨?_,?_⟩
     .simp only [eg,hjlt,if_true,A6 (F:=EM m (mB (de b))) (show j < 7 by omega),bs,hp,ht,hcl,hok,hck]
     simp_all [List.range_succ,List.map_append])
    (λn s hs=>by
     simp_all [length_range,eg,if_neg,Int.lt_irrefl]) (n:=k) (s0:=[]) (by grind) rfl
   rw [show eg k m (cr (EM m (mB (de b)))) (((mD m).length+1:Nat):Int) k ([],0)=_ from key.1,bs,key.2,length_range]
   have hcs:(List.range ((mD m).length+1)).map (oS m (mB (de b)))=lg m λc=>decide (c∈b):=by
    unfold lg;refine List.map_congr_left λn hn=>?_;unfold oS;refine List.map_congr_left λc hc=>?_
    have hage:∀(n:Nat) (c:Int),0≤c->c < mC m->ky m (mB (de b)) n c=ky m (λc=>decide (c∈b)) n c:=by
     intro n
     induction n with
     |zero=>simp_all [ky]
     |succ n ih=>
      intro c h0 h1;unfold ky;cases e:qS m n c with
      |none=>simp_all
      |some l=>
       have hb:=(uj v e).2;grind
    simp_all
   rw [hcs]
  simp_all [not_true_eq_false,not_false_eq_true,if_false,if_true,xq]
 simp_all [not_false_eq_true,if_true,xq]
end Go.Proofs.YtddkbkkogpolaaaGreat
set_option linter.unusedVariables false
set_option linter.unusedSimpArgs false
namespace Go.Proofs.YtddkbkkogpolaaaGreat
open K Go Go.Proofs
theorem Lo.mono{l:cx}{m n:Int}(h:Lo l m)(hn:m≤n):Lo l n:=⟨h.1,Int.le_trans h.2 hn⟩
theorem To{α:Type}{l:List α}{x:α}{n:Nat}(h:l.length≤n)(hn:n≤1000000):bW (length l+length [x]):=by
 show length l+length [x]≤4294967296;grind
theorem AP{k:Nat}(hk:50≤k){l:cx}{m:Int}{n:Nat}(hl:Lo l m)(hm:0≤m/\m≤1000)(hn:n≤8):W (gB k l (n:Int)) λr=>Lo r.2 (m+10)/\r.1.length=n/\(∀x∈r.1,0≤x/\x < (n:Int))/\r.1.Nodup:=by
 unfold gB;refine W.bind (R:=λr=>Lo (r.2.1,r.2.2.1,r.2.2.2) (m+10)/\r.1.length=n/\(∀x∈r.1,0≤x/\x < (n:Int))/\r.1.Nodup) ?_ λr h=>W.ret h
 refine W.loop (f:=dU k (n:Int)) (λq y=>∃j:Nat,y.2.2.2.2=(j:Int)/\j≤n/\q=n - j/\Lo (y.1,y.2.1,y.2.2.1) (m+j)/\y.2.2.2.1.length=j/\(∀x∈y.2.2.2.1,0≤x/\x < (j:Int))/\y.2.2.2.1.Nodup) ?_ n k _ (by omega)
  ⟨0,rfl,by omega,by omega,by simp_all,rfl,by simp,by simp⟩
 rintro aM q ⟨nums,d,s,o,y⟩ ⟨j,hj,hle,hq,hlo,hlen,hx,hnd⟩ ih;simp only at hj hlo hlen hx hnd;subst hj;unfold dU;dsimp only;refine W.ite (λhlt=>?_) (λhge=>W.ret ⟨hlo.mono (by omega),by grind,λx hx'=>by grind,hnd⟩);obtain⟨r5,e5,a5,b5,c5⟩:=kh (k:=k) (n:=(j:Int)) hlo (by omega) (by omega);have b5:=b5 (by omega);have ho:(o++[(j:Int)]).length=j+1:=by simp [hlen]
 have hr5:r5.1.toNat < (o++[(j:Int)]).length:=by omega
 have hjl:j < (o++[(j:Int)]).length:=by omega
 have hgj:(o++[(j:Int)])[j]=(j:Int):=by
  grind
 rw [e5,bs,dR (To (n:=8) (by omega) (by omega)),bs,xb a5 hr5,bs,dQ (by omega),bs];have hgs:aQ (List.set (o++[(j:Int)]) (Int.toNat (j:Int)) (o++[(j:Int)])[r5.1.toNat]) r5.1=some ((List.set (o++[(j:Int)]) (Int.toNat (j:Int)) (o++[(j:Int)])[r5.1.toNat])[r5.1.toNat]'(by grind)):=xb a5 (by grind);rw [hgs,bs,dp (by omega) (by omega),bs]
 have hp:(List.set (List.set (o++[(j:Int)]) (Int.toNat (j:Int)) (o++[(j:Int)])[r5.1.toNat]) (Int.toNat r5.1) (j:Int)).Perm (o++[(j:Int)]):=by
  have:= @set_set_perm Int (o++[(j:Int)]) j r5.1.toNat hjl hr5;rw [hgj] at this;exact this
 refine ih (q - 1) (_,_,_,_,(j:Int)+1) (by omega) ⟨j+1,by grind,by omega,by omega,c5.mono (by omega),by simp [hlen],λx hx'=>?_,hp.nodup_iff.2 ?_⟩
 .grind
 grind
theorem Ho{out:List (List Int)}{i:Nat}{x:Int}(h:i < out.length):(out.set i (out[i]++[x])).flatten.Perm (out.flatten++[x]):=by
 have e1:out=out.take i++out[i]::out.drop (i+1):=by simp_all
 grind
structure Rl(C:Int)(r:List (List Int)):Prop where
 r3:r.length≤3
 x5:∀l∈r,∀x∈l,0≤x/\x < C
 nd:r.flatten.Nodup
theorem Rl.l5{C:Int}(hC:0≤C/\C≤5){r:List (List Int)}(h:Rl C r):∀l∈r,l.length≤5:=λl hl=>by
 have:=rj C.toNat l (tR h.nd hl) λx hx=>by have:=h.x5 l hl x hx;omega
 omega
theorem FV{k:Nat}(hk:50≤k){l:cx}{m:Int}{n:Nat}(hl:Lo l m)(hm:0≤m/\m≤900)(hn:n≤5):
 W (jC k l (n:Int)) λr=>Lo r.2 (m+30)/\Rl (n:Int) r.1:=by
 unfold jC
 refine W.bind (BZ (l:=(l.1,l.2.1,l.2.2)) hl (by omega) (by omega) (by omega) (by omega)) λr1 h1=>?_
 refine W.chk ⟨by omega,by show _≤_;omega⟩ ?_
 refine W.bind (AP hk (l:=(r1.2.1,r1.2.2.1,r1.2.2.2)) (m:=m+1) (n:=n) h1.2.2 (by omega) (by omega)) λr4 h4=>?_
 obtain⟨lo4,len4,rng4,nd4⟩:=h4
 refine W.bind (R:=λx=>Lo (x.1,x.2.1,x.2.2.1) (m+30)/\Rl (n:Int) x.2.2.2) ?_ λx hx=>W.ret hx
 refine W.loop (f:=fj k r4) (λq y=>∃j:Nat,y.2.2.2.1=(j:Int)/\j≤n/\q=n - j/\Lo (y.1,y.2.1,y.2.2.1) (m+11+2 * j)/\y.2.2.2.2.length=r1.1.toNat/\(∀x∈y.2.2.2.2.flatten,x∈r4.1.take j)/\y.2.2.2.2.flatten.Nodup) ?_ n k _ (by omega)
  ⟨0,rfl,by omega,by omega,lo4.mono (by omega),by simp,by simp,by simp⟩
 rintro aM q ⟨nums,d,s,y,out⟩ ⟨j,hj,hle,hq,hlo,hlen,hx,hnd⟩ ih
 simp only at hj hlo hlen hx hnd
 subst hj
 unfold fj
 dsimp only
 refine W.ite (λhlt=>?_) (λhge=>W.ret ⟨hlo.mono (by omega),by grind,λl hl x hxx=>rng4 x (mem_of_mem_take (hx x (List.mem_flatten.2 ⟨l,hl,hxx⟩))),hnd⟩)
 have hj:j < r4.1.length:=by omega
 have hsub:∀x∈r4.1.take j,x∈r4.1.take (j+1):=λx hh=>by grind
 refine W.bind (R:=λx=>Lo (x.1,x.2.1,x.2.2.1) (m+11+2 * j+2)/\x.2.2.2.length=r1.1.toNat/\(∀z∈x.2.2.2.flatten,z∈r4.1.take (j+1))/\x.2.2.2.flatten.Nodup) ?_ λx9 h9=>?_
 .
  refine W.bind (wI (l:=(nums,d,s)) hlo (by omega) (by omega) (by omega)) λr11 h11=>?_;refine W.ite (λ_=>W.ret ⟨h11.mono (by omega),hlen,λz hz=>hsub z (hx z hz),hnd⟩) (λ_=>?_);refine W.ck (by omega) (by omega) ?_;refine W.bind (kh (l:=(r11.2.1,r11.2.2.1,r11.2.2.2)) h11 (by omega) (by omega)) λr13 h13=>?_;have b13:=h13.2.1 (by omega);have hi:r13.1.toNat < out.length:=by omega
  rw [xb h13.1 hi,bs,dQ hj,bs]
  have hxj:r4.1[j]∉out.flatten:=λhin=>by
   grind [List.getElem_of_mem,length_take,getElem_inj]
  have hlen2:(out[r13.1.toNat]).length≤5:=by
   have:=rj n _ (tR hnd (List.getElem_mem hi)) λx hxx=>rng4 x (mem_of_mem_take (hx x (List.mem_flatten.2 ⟨_,List.getElem_mem hi,hxx⟩)));omega
  rw [dR (by grind [bW]),bs];have hp:=Ho (x:=r4.1[j]) hi;refine W.ret ⟨h13.2.2.mono (by omega),by grind,λz hz=>?_,hp.nodup_iff.2 ?_⟩
  .grind [List.mem_singleton,take_add_one,List.getElem?_eq_getElem,List.mem_append_right]
  grind
 .
  refine W.ck (by omega) (by omega) ?_;exact ih (q - 1) (_,_,_,(j:Int)+1,_) (by omega) ⟨j+1,by grind,by omega,by omega,h9.1.mono (by omega),h9.2⟩
end Go.Proofs.YtddkbkkogpolaaaGreat
set_option linter.unusedVariables false
set_option linter.unusedSimpArgs false
namespace Go.Proofs.YtddkbkkogpolaaaGreat
open K Go Go.Proofs
theorem KZ{c w s h:Int}{ds:List (List (List Int))}(hc:1≤c/\c≤5)(hw:0≤w/\w≤3)(hs:0≤s/\s≤3)(hh:1≤h/\h≤3)(d1:1≤ds.length)(d6:ds.length≤6)(hr:∀r∈ds,Rl c r):Vd (c,w,s,h,ds,[]):=
 ⟨hc.1,hc.2,hw.1,hw.2,hs.1,hs.2,hh.1,hh.2,d1,d6,λr h=>(hr r h).r3,λr h=>(hr r h).l5 ⟨by omega,hc.2⟩,λr h=>(hr r h).x5,λr h=>(hr r h).nd,by simp [mG],λg hg=>by cases hg⟩
theorem A8{k:Nat}{l:List Int}(h:l.length≤1000000):iO k l=some l:=by
 grind [iO,dR,Tt,length_nil,bs]
theorem zm{k:Nat}{l:List (List Int)}(hk:l.length < k)(h1:l.length≤1000000)(h2:∀x∈l,x.length≤1000000):hP k l=some l:=by
 unfold hP
 have key:=iP (T:=List (List Int)×Int) (f:=dF k l) l (λ(s:List (List Int)) j=>(s,j)) (λs j x=>s++[x]) (λj s=>s=l.take j) (λs=>some s)
  (λn s j hj hs=>by
   have hck:ck ((j:Int)+1)=some ((j:Int)+1):=dp (by omega) (by omega);have hl:s.length=j:=by grind
   have hok:cM (bW (length s+length [l[j]]))=some ():=dR (by grind [bW]);refine⟨?_,?_⟩
   .simp_all [dF,Int.ofNat_lt,if_true,dQ,bs,A8,List.getElem_mem]
   simp_all)
  (λn s hs=>by
   unfold dF;simp_all) (n:=k) (s0:=[]) hk (by simp)
 simp_all
theorem AO{k:Nat}(hk:50≤k){l:cx}{m:Int}{cs ds:Int}(hl:Lo l m)(hm:0≤m/\m≤400)(hc:1≤cs/\cs≤5)(hd:1≤ds/\ds≤6):
 W (iy k l cs ds) λr=>Lo r.2 (m+250)/\Vd r.1/\mG r.1=[]/\mC r.1≤cs/\((mD r.1).length:Int)≤ds:=by
 unfold iy
 refine W.bind (BZ (l:=(l.1,l.2.1,l.2.2)) hl (by omega) (by omega) (by omega) (by omega)) λr2 h2=>?_
 refine W.bind (kh (l:=(r2.2.1,r2.2.2.1,r2.2.2.2)) h2.2.2 (by omega) (by omega)) λr3 h3=>?_
 have b3:=h3.2.1 (by omega)
 refine W.bind (F8 (l:=(r3.2.1,r3.2.2.1,r3.2.2.2)) h3.2.2 (by omega) (by simp) (by simp)) λr4 h4=>?_
 refine W.bind (kh (l:=(r4.2.1,r4.2.2.1,r4.2.2.2)) h4.2 (by omega) (by omega)) λr5 h5=>?_
 have b5:=h5.2.1 (by omega)
 refine W.bind (F8 (l:=(r5.2.1,r5.2.2.1,r5.2.2.2)) h5.2.2 (by omega) (by simp) (by simp)) λr6 h6=>?_
 refine W.bind (BZ (l:=(r6.2.1,r6.2.2.1,r6.2.2.2)) h6.2 (by omega) (by omega) (by omega) (by omega)) λr7 h7=>?_
 refine W.bind (F8 (l:=(r7.2.1,r7.2.2.1,r7.2.2.2)) h7.2.2 (by omega) (by simp) (by simp)) λr8 h8=>?_
 have w4:0≤r4.1/\r4.1≤3:=by
  grind
 have w6:0≤r6.1/\r6.1≤3:=by
  grind
 have w8:1≤r8.1/\r8.1≤3:=by
  grind
 have lo8:=h8.2
 refine W.bind (R:=λx=>Lo (x.2.1,x.2.2.1,x.2.2.2) (m+250)/\(1≤x.1.length/\(x.1.length:Int)≤ds)/\∀r∈x.1,Rl r2.1 r) ?_ λx hx=>W.ret ⟨hx.1,KZ (by omega) w4 w6 w8 (by omega) (by omega) hx.2.2,rfl,h2.2.1,hx.2.1.2⟩
 refine W.bind (BZ (l:=(r8.2.1,r8.2.2.1,r8.2.2.2)) lo8 (by omega) (by omega) (by omega) (by omega)) λr12 h12=>?_
 refine W.loop (f:=fo k r2) (λq y=>∃j:Nat,y.2.2.2.1.length=j/\y.2.2.2.2=r12.1 - j/\(j:Int)≤r12.1/\q=r12.1.toNat - j/\Lo (y.1,y.2.1,y.2.2.1) (m+10+33 * j)/\∀r∈y.2.2.2.1,Rl r2.1 r) ?_ r12.1.toNat k _ (by omega)
  ⟨0,rfl,by simp,by omega,by omega,h12.2.2.mono (by omega),by simp⟩
 rintro aM q ⟨nums,d,s,out,y⟩ ⟨j,hj,hy,hle,hq,hlo,hr⟩ ih
 simp only at hj hy hlo hr
 subst hy
 unfold fo
 dsimp only
 refine W.ite (λhlt=>?_) (λhge=>W.ret ⟨hlo.mono (by omega),⟨by grind,by grind⟩,hr⟩)
 refine W.bind (R:=λx=>Lo (x.1,x.2.1,x.2.2.1) (m+10+33 * j+33)/\x.2.2.2.length=j+1/\∀r∈x.2.2.2,Rl r2.1 r) ?_ λx15 h15=>?_
 .
  refine W.bind (R:=λx=>Lo (x.1,x.2.1,x.2.2.1) (m+10+33 * j+1)/\(x.2.2.2=true->0 < out.length)) ?_ λx17 h17=>?_
  .refine W.ite (λh0=>?_) (λh0=>W.ret ⟨hlo.mono (by omega),λh=>by cases h⟩);grind [W.bind,wI,W.ret]
  .refine W.ite (λht=>?_) (λht=>?_)
   .have h0:=h17.2 ht;refine W.ck (by omega) (by omega) ?_;have hi:((out.length:Int) - 1)=((out.length - 1:Nat):Int):=by omega
    have hlt':out.length - 1 < out.length:=by omega
    rw [hi,dQ hlt',bs];have hrl:=hr _ (List.getElem_mem hlt');have hl5:=hrl.l5 (by omega);have hr3:=hrl.r3;rw [zm (by omega) (by omega) (λx hx=>by grind),bs,dR (by grind [bW]),bs];refine W.ret ⟨h17.1.mono (by omega),by simp [hj],λr hrr=>?_⟩;grind
   .have hc2:((r2.1.toNat:Nat):Int)=r2.1:=by omega
    have:=FV hk (l:=(x17.1,x17.2.1,x17.2.2.1)) (m:=m+10+33 * j+1) (n:=r2.1.toNat) h17.1 (by omega) (by omega);rw [hc2] at this;refine W.bind this λr26 h26=>?_;rw [dR (by grind [bW]),bs];refine W.ret ⟨h26.1.mono (by omega),by simp [hj],λr hrr=>?_⟩;grind
 .
  refine W.ck (by omega) (by omega) ?_;exact ih (q - 1) (_,_,_,_,_) (by omega) ⟨j+1,h15.2.1,by grind,by omega,by omega,h15.1.mono (by omega),h15.2.2⟩
theorem Bc{k:Nat}(hk:50≤k){l:cx}{m:Int}{c:Int}(hl:Lo l m)(hm:0≤m/\m≤900)(hc:1≤c/\c≤5):
 W (jD k l c) λr=>Lo r.2 (m+10)/\Bg c r.1:=by
 unfold jD
 refine W.bind (R:=λx=>Lo (x.2.1,x.2.2.1,x.2.2.2) (m+10)/\Bg c x.1) ?_ λx hx=>W.ret hx
 refine W.loop (f:=fp k c) (λq y=>∃j:Nat,y.2.2.2.2=(j:Int)/\(j:Int)≤c/\q=c.toNat - j/\Lo (y.1,y.2.1,y.2.2.1) (m+j)/\y.2.2.2.1.length≤j/\(∀x∈y.2.2.2.1,0≤x/\x < (j:Int))/\y.2.2.2.1.Pairwise (· < ·)) ?_ c.toNat k _ (by omega)
  ⟨0,rfl,by omega,by omega,by simp_all,by simp,by simp,by simp⟩
 rintro aM q ⟨nums,d,s,o,y⟩ ⟨j,hj,hle,hq,hlo,hlen,hx,hp⟩ ih
 simp only at hj hlo hlen hx hp
 subst hj
 unfold fp
 dsimp only
 refine W.ite (λhlt=>?_) (λhge=>W.ret ⟨hlo.mono (by omega),λx hxx=>by grind,hp⟩)
 refine W.bind (R:=λx=>Lo (x.1,x.2.1,x.2.2.1) (m+j+1)/\x.2.2.2.length≤j+1/\(∀z∈x.2.2.2,0≤z/\z < ((j+1:Nat):Int))/\x.2.2.2.Pairwise (· < ·)) ?_ λx5 h5=>?_
 .
  refine W.bind (wI (l:=(nums,d,s)) hlo (by omega) (by omega) (by omega)) λr7 h7=>?_;refine W.ite (λht=>?_) (λht=>W.ret ⟨h7,by grind,λz hz=>by grind,hp⟩);grind [dR,bW,bs,W.ret,List.mem_singleton]
 .
  refine W.ck (by omega) (by omega) ?_;exact ih (q - 1) (_,_,_,_,_) (by omega) ⟨j+1,by grind,by omega,by omega,h5.1.mono (by omega),h5.2⟩
theorem Bg.len{C:Int}(hC:0≤C/\C≤5){b:List Int}(h:Bg C b):b.length≤5:=by
 have:=rj C.toNat b (h.asc.imp λhab e=>by omega) λx hx=>by have:=h.rng x hx;omega
 omega
theorem FP{m:ae}{B:Int->Bool}{n:Nat}(h:0≤mC m):((oS m B n).length:Int)=mC m:=by
 unfold oS;grind
theorem oH{m:ae}{B:Int->Bool}:(lg m B).length=(mD m).length+1:=by
 unfold lg;simp_all
theorem HM{α ε:Type}:∀(l:List α) (j:Nat),dI (λ(_:Unit) _ _=>(.ok ():Except ε Unit)) j l ()= .ok ()
 |[],_=>rfl
 |_::l,j=>HM l (j+1)
theorem E8{k:Nat}{m:ae}{B:Int->Bool}(v:Vd m)(hk:10≤k):ml k m (lg m B)=some true:=by
 have c1:=v.c1;have d6:=v.d6;unfold ml;have hd:ck ((m.2.2.2.2.1.length:Int)+1)=some (((mD m).length:Int)+1):=dp (by omega) (by grind);rw [hd,bs,if_neg (λhn=>hn (by rw [oH];omega))]
 have key:=lN (T:=Int) (f:=eV k m (lg m B)) (lg m B) (λ(_:Unit) j=>j) (λ_ _ _=>(.ok ():Except Bool Unit)) (λ_ _=>True) (λr=>some r)
  (λn s j hj _=>by
   have hck:ck ((j:Int)+1)=some ((j:Int)+1):=dp (by omega) (by grind [oH]);refine⟨?_,λ_ _=>trivial⟩;have hj2:j≤(mD m).length:=by grind [oH]
   simp only [eV,Int.ofNat_lt,hj,if_true,kF hj2,bs,hck];rw [if_neg (λhn=>hn (FP (by omega)))])
  (λn s _=>by simp [eV]) (n:=k) (s0:=()) (by rw [oH];omega) trivial
 simp_all [eV,lg,HM,lT]
end Go.Proofs.YtddkbkkogpolaaaGreat
set_option linter.unusedVariables false
set_option linter.unusedSimpArgs false
namespace Go.Proofs.YtddkbkkogpolaaaGreat
open K Go Go.Proofs
theorem Aq{k:Nat}{c:Int}{l:List Int}(hk:l.length < k)(hl:l.length≤1000):
 dJ k c l k 0=some (match qJ l c with |some s=>.error (s,true) |none=>.ok ()):=by
 have key:=lN (T:=Int) (f:=dJ k c l) l (λ(_:Unit) j=>j) (λ_ j x=>if decide (c=x)=true then Except.error (((if 0 < j then [l[j-1]?.getD 0] else [])++(l[j+1]?).toList:List Int),true) else .ok ()) (λ_ _=>True) (λx=>some x)
  (λn s j hj _=>by
   refine⟨?_,λ_ _=>trivial⟩;have hck:ck ((j:Int)+1)=some ((j:Int)+1):=dp (by omega) (by omega);have c1:ck ((j:Int) - 1)=some ((j:Int) - 1):=dp (by omega) (by omega);simp only [dJ,Int.ofNat_lt,hj,if_true,dQ hj,bs,decide_eq_true_eq];by_cases e:l[j]=c
   .rw [if_neg (λhn=>hn e),if_pos e.symm]
    have e1:(if(0:Int) < (j:Int) then((ck ((j:Int) - 1)).bind λx17=>(aQ l x17).bind λx18=>(cM (bW (length ([]:List Int)+length [x18]))).bind λ_=>some (([]:List Int)++[x18])) else some ([]:List Int))=some (if 0 < j then [l[j-1]?.getD 0] else []):=by
     by_cases h0:0 < j
     .have g:aQ l ((j:Int) - 1)=some (l[j-1]?.getD 0):=by
       grind [dQ,List.getElem?_eq_getElem]
      simp_all [if_pos,bs,dR,bW]
     simp_all
    rw [e1,bs];have hp:(if 0 < j then [l[j-1]?.getD 0] else []).length≤1:=by grind
    generalize (if 0 < j then [l[j-1]?.getD 0] else [])=p at *
    have e2:((ck ((j:Int)+1)).bind λx23=>if x23 < (l.length:Int) then((ck ((j:Int)+1)).bind λx24=>(aQ l x24).bind λx25=>(cM (bW (length p+length [x25]))).bind λ_=>some (p++[x25])) else some p)=some (p++(l[j+1]?).toList):=by
     rw [hck,bs];by_cases h1:j+1 < l.length
     .have g:aQ l ((j:Int)+1)=some l[j+1]:=by
       have:((j:Int)+1)=((j+1:Nat):Int):=by omega
       rw [this,dQ h1]
      rw [if_pos (by omega),bs,g,bs,List.getElem?_eq_getElem h1,dR (by grind [bW]),bs];rfl
     grind
    rw [e2,bs]
   grind)
  (λn s _=>by simp [dJ]) (n:=k) (s0:=()) hk trivial
 rw [show dJ k c l k 0=_ from key]
 refine congrArg some ?_
 have:∀(m:List Int) (j:Nat),(∃p,l=p++m/\p.length=j)->dI (λ(_:Unit) j x=>if decide (c=x)=true then Except.error (((if 0 < j then [l[j-1]?.getD 0] else [])++(l[j+1]?).toList:List Int),true) else .ok ()) j m ()=match m.findIdx? λy=>decide (c=y) with |some i=>.error (((if 0 < i+j then [l[i+j-1]?.getD 0] else [])++(l[i+j+1]?).toList:List Int),true) |none=>.ok ():=by
  intro m
  induction m with
  |nil=>simp_all [dI]
  |cons x m ih=>
   rintro j ⟨p,hp,hl⟩;rw [dI,findIdx?_cons];by_cases h:decide (c=x)=true
   .simp [h]
   .simp only [h,if_false,Bool.false_eq_true];rw [ih (j+1) ⟨p++[x],by grind,by simp [hl]⟩];cases m.findIdx? λy=>decide (c=y) with
    |none=>rfl
    |some i=>
     grind
 rw [this l 0 ⟨[],rfl,rfl⟩]
 unfold qJ
 grind
theorem Ja{k:Nat}{m:ae}{c:Int}{d:Nat}(v:Vd m)(hk:10≤k)(hd:d < (mD m).length):
 kR k m (d:Int) c=some (match qS m d c with |some s=>(s,true) |none=>([],false)):=by
 have hm:=List.getElem_mem hd
 have hr:=v.r3 _ hm
 have hl:=v.l5 _ hm
 have hbes:qS m d c=sQ (mD m)[d] c:=by unfold qS;simp_all
 have hg:aQ m.2.2.2.2.1 (d:Int)=some (mD m)[d]:=dQ hd
 generalize (mD m)[d]=r at *
 unfold kR
 have key:=lN (T:=Int) (f:=ee k m (d:Int) c) r (λ(_:Unit) j=>j) (λ_ _ l=>match qJ l c with |some s=>Except.error (s,true) |none=>.ok ()) (λ_ _=>True) (λx=>some x)
  (λn s j hj _=>by
   refine⟨?_,λ_ _=>trivial⟩;have h5:=hl _ (List.getElem_mem hj);have hck:ck ((j:Int)+1)=some ((j:Int)+1):=dp (by omega) (by omega);simp only [ee,hg,bs,Int.ofNat_lt,hj,if_true,dQ hj];grind [Aq,qJ,np,lT,bs])
  (λn s _=>by simp [ee,hg,bs]) (n:=k) (s0:=()) (by omega) trivial
 rw [show ee k m (d:Int) c k 0=_ from key]
 have:∀(r:List (List Int)) (j:Nat),dI (λ(_:Unit) _ l=>match qJ l c with |some s=>Except.error (s,true) |none=>.ok ()) j r ()=match sQ r c with |some s=>.error (s,true) |none=>.ok ():=by
  intro r
  induction r with
  |nil=>intro j;rfl
  |cons l r ih=>
   intro j;rw [dI];unfold sQ;rw [findSome?_cons];cases qJ l c with
   |none=>exact ih (j+1)
   |some s=>rfl
 grind [sQ,np,lT]
end Go.Proofs.YtddkbkkogpolaaaGreat
set_option linter.unusedVariables false
set_option linter.unusedSimpArgs false
namespace Go.Proofs.YtddkbkkogpolaaaGreat
open K Go Go.Proofs
theorem QJ{m:ae}(v:Vd m){gs:List bX}(h8:gs.length≤8)(hg:∀g∈gs,0≤g.1/\g.1 < mC m/\0≤g.2.1/\g.2.1≤(mD m).length):Vd (m.1,m.2.1,m.2.2.1,m.2.2.2.1,m.2.2.2.2.1,gs):=
 ⟨v.c1,v.c5,v.w0,v.w3,v.s0,v.s3,v.h1,v.h3,v.d1,v.d6,v.r3,v.l5,v.x5,v.nd,h8,hg⟩
theorem QM{m:ae}(h:Sm m){gs:List bX}(hg:gs.length≤1000):Sm (m.1,m.2.1,m.2.2.1,m.2.2.2.1,m.2.2.2.2.1,gs):=⟨h.d,h.r,hg⟩
end Go.Proofs.YtddkbkkogpolaaaGreat
set_option linter.unusedVariables false
set_option linter.unusedSimpArgs false
namespace Go.Proofs.YtddkbkkogpolaaaGreat
open K Go Go.Proofs
def ll(C:Nat):Nat->List Int->Nat->List (List Int)
 |0,b,_=>[b]
 |n+1,b,f=>b::(List.range' f (C - f)).flatMap λ(c:Nat)=>ll C n (b++[(c:Int)]) (c+1)
theorem tu{b:List Int}{c:Int}:de (b++[c])=wa (de b) c:=by
 unfold de;simp_all
theorem yT{σ:Type}{k:Nat}{Y:σ->Int->Option (σ×Bool)}{C:Nat}(hC:C≤5)(hk:10≤k)(g:σ->List Int->σ)(uK:Nat->σ->Prop):
 ∀(n m0:Nat) (b:List Int) (f:Nat) (s:σ) (r:Nat),C - f≤n->f≤C->n < m0->ji (de b)->(∀r s,∀b'∈ll C n b f,uK (r+1) s->Y s (de b')=some (g s b',true)/\uK r (g s b'))->uK ((ll C n b f).length+r) s->
  dk k Y (C:Int) m0 (de b) (f:Int) s=some (true,(ll C n b f).foldl g s)/\uK r ((ll C n b f).foldl g s)
 |n,0,b,f,s,r,_,_,h,_,_,_=>absurd h (not_lt_zero _)
 |0,m0+1,b,f,s,r,h1,h2,_,hm,hY,hI=>by
  have hf:f=C:=by omega
  subst hf
  unfold dk
  obtain⟨k,rfl⟩:∃n,k=n+1:=⟨k - 1,by omega⟩
  have hI:uK (r+1) s:=by rw [Nat.add_comm];exact hI
  have:=hY r s b (by simp [ll]) hI
  rw [this.1,bs,if_neg (by simp)]
  rw [dj,if_neg (Int.lt_irrefl _),lT]
  exact⟨rfl,this.2⟩
 |n+1,m0+1,b,f,s,r,h1,h2,h3,hm,hY,hI=>by
  unfold dk
  have hlen:(ll C (n+1) b f).length=((List.range' f (C - f)).flatMap λ(c:Nat)=>ll C n (b++[(c:Int)]) (c+1)).length+1:=by rw [ll,length_cons]
  rw [hlen] at hI
  have h0:=hY (((List.range' f (C - f)).flatMap λ(c:Nat)=>ll C n (b++[(c:Int)]) (c+1)).length+r) s b (by simp [ll]) (by grind)
  rw [h0.1,bs,if_neg (by simp)]
  have loop:∀(d x:Nat) (s:σ) (aM:Nat) (r:Nat),C - x=d->f≤x->x≤C->d < aM->uK (((List.range' x (C - x)).flatMap λ(c:Nat)=>ll C n (b++[(c:Int)]) (c+1)).length+r) s->
   dj k (de b) (C:Int) (dk k Y (C:Int) m0) aM ((x:Int),s)=some (.ok (((List.range' x (C - x)).flatMap λ(c:Nat)=>ll C n (b++[(c:Int)]) (c+1)).foldl g s))/\uK r (((List.range' x (C - x)).flatMap λ(c:Nat)=>ll C n (b++[(c:Int)]) (c+1)).foldl g s):=by
   intro d
   induction d with
   |zero=>
    intro x s aM r hd hx hx2 hfu hI;obtain⟨aM,rfl⟩:∃n,aM=n+1:=⟨aM - 1,by omega⟩;have:x=C:=by omega
    simp_all [Nat.sub_self,dj,if_neg,Int.lt_irrefl]
   |succ d ih=>
    intro x s aM r hd hx hx2 hfu hI;obtain⟨aM,rfl⟩:∃n,aM=n+1:=⟨aM - 1,by omega⟩;have hw:=mF (k:=k) hm (show(0:Int)≤(x:Int) by omega) (show(x:Int) < 8 by omega);have hck:ck ((x:Int)+1)=some (((x+1:Nat):Int)):=by grind [dp]
    have e:C - x=(C - (x+1))+1:=by omega
    rw [e,List.range'_succ,List.flatMap_cons,length_append,Nat.add_assoc] at hI
    have hsub:=yT hC hk g uK n m0 (b++[(x:Int)]) (x+1) s _ (by omega) (by omega) (by omega) (by simp_all [tu]) (λr s b' hb'=>hY r s b' (by
     rw [ll];grind)) hI
    rw [tu] at hsub;have hih:=ih (x+1) _ aM r (by omega) (by omega) (by omega) (by omega) hsub.2;rw [dj,if_pos (show(x:Int) < (C:Int) by omega),hw.1,bs,hck,bs,hsub.1,bs,if_neg (by simp),bs,hih.1];simp_all [List.range'_succ,List.flatMap_cons,List.foldl_append]
  have hl:=loop (C - f) f _ k r rfl (Nat.le_refl _) h2 (by omega) h0.2;rw [hl.1,lT];exact⟨rfl,hl.2⟩
def D4(m:ae)(but:Nat->Bool)(B:Int->Bool):Bool:=(mG m).zipIdx.all λg=>but g.2 || decide (g.1.2.2=decide (mS m≤ky m B g.1.2.1.toNat g.1.1))
theorem vQ{α ε:Type}{p:Nat->α->Bool}{e:ε}:∀(l:List α) (j:Nat),dI (λ(_:Unit) j x=>if p j x=true then .ok () else Except.error e) j l ()=if((l.zipIdx j).all λg=>p g.2 g.1)=true then .ok () else .error e
 |[],j=>rfl
 |x::l,j=>by
  rw [dI,zipIdx_cons,all_cons]
  cases h:p j x with
  |true=>simp only [if_true,Bool.true_and];exact vQ l (j+1)
  |false=>simp
theorem zc{k:Nat}{m:ae}{S a2:Int}(v:Vd m)(hk:10≤k)(hS:ji S)(ha:ji a2):c8 k m S a2=some (D4 m (λi=>decide (d4 a2 i)) (mB S)):=by
 have g8:=v.g8;have d6:=v.d6;unfold c8 gd;rw [rX v hk hS,bs]
 have key:=lN (T:=Int) (f:=cy k m a2 (cr (EM m (mB S)))) (mG m) (λ(_:Unit) j=>j) (λ_ j x=>if(decide (d4 a2 j) || decide (x.2.2=decide (mS m≤ky m (mB S) x.2.1.toNat x.1)))=true then .ok () else Except.error ()) (λ_ _=>True) (λr=>some (match r with | .error _=>false | .ok _=>true))
  (λn s j hj _=>by
   have hck:ck ((j:Int)+1)=some ((j:Int)+1):=dp (by omega) (by omega);have hg:=v.gl _ (List.getElem_mem hj);have hj':(j:Int) < (m.2.2.2.2.2.length:Int):=Int.ofNat_lt.2 hj;have hget:aQ m.2.2.2.2.2 (j:Int)=some (mG m)[j]:=dQ hj;generalize (mG m)[j]=x at *;have c5:=v.c5;have e2:x.2.1=((x.2.1.toNat:Nat):Int):=by omega
   have hrow:aQ (cr (EM m (mB S))) x.2.1=some (kj (EM m (mB S) x.2.1.toNat)):=by
    grind [A6,Int.toNat_natCast]
   have hval:aQ (kj (EM m (mB S) x.2.1.toNat)) x.1=some (ky m (mB S) x.2.1.toNat x.1):=by
    grind [wC,CH]
   refine⟨?_,λ_ _=>trivial⟩;have hm1:m.2.2.1=mS m:=rfl;simp only [cy,hj',if_true,hget,bs,wZ (k:=k) ha (i:=j) (by omega),hrow,hval,hm1];grind)
  (λn s _=>by
   unfold cy;simp_all) (n:=k) (s0:=()) (by omega) trivial
 rw [show cy k m a2 (cr (EM m (mB S))) k 0=_ from key,vQ (p:=λj (x:bX)=>decide (d4 a2 j) || decide (x.2.2=decide (mS m≤ky m (mB S) x.2.1.toNat x.1)))];unfold D4;grind
end Go.Proofs.YtddkbkkogpolaaaGreat
set_option linter.unusedVariables false
set_option linter.unusedSimpArgs false
namespace Go.Proofs.YtddkbkkogpolaaaGreat
open K Go Go.Proofs
theorem vZ{m:ae}(v:Vd m){A B:Int->Bool}(h:∀c,0≤c->c < mC m->A c=B c):∀(n:Nat) (c:Int),0≤c->c < mC m->ky m A n c=ky m B n c
 |0,c,h0,h1=>by simp_all [ky]
 |n+1,c,h0,h1=>by
  have ih:=vZ v h n
  unfold ky
  cases e:qS m n c with
  |none=>simp_all
  |some l=>
   have hb:=(uj v e).2
   grind
theorem Be{α:Type}{l:List α}{p q:α->Bool}(h:∀x∈l,p x=q x):l.all p=l.all q:=by
 grind
theorem D3{m:ae}(v:Vd m){but:Nat->Bool}{A B:Int->Bool}(h:∀c,0≤c->c < mC m->A c=B c):D4 m but A=D4 m but B:=by
 unfold D4;refine Be λg hg=>?_;obtain⟨x,i⟩:=g;have hx:=v.gl x (List.fst_mem_of_mem_zipIdx hg);show(but i || decide (x.2.2=decide (mS m≤ky m A x.2.1.toNat x.1)))=(but i || decide (x.2.2=decide (mS m≤ky m B x.2.1.toNat x.1)));grind [vZ]
def Et(m:ae):List (List Int):=ll (mC m).toNat (mC m).toNat [] 0
theorem CO{C:Nat}:∀(n:Nat) (b:List Int) (f:Nat),Bg (C:Int) b->(∀x∈b,x < (f:Int))->∀b'∈ll C n b f,Bg (C:Int) b'
 |0,b,f,h,_,b',hb=>by
  simp_all [ll,List.mem_singleton]
 |n+1,b,f,h,hf,b',hb=>by
  rw [ll,mem_cons] at hb
  rcases hb with rfl |hb
  .
   exact h
  .
   obtain⟨c,hc,hb⟩:=List.mem_flatMap.1 hb
   rw [List.mem_range'_1] at hc
   refine CO n (b++[(c:Int)]) (c+1) ⟨λx hx=>?_,?_⟩ (λx hx=>?_) b' hb
   .
    rcases List.mem_append.1 hx with hx |hx
    .
     exact h.rng x hx
    grind
   .
    rw [pairwise_append]
    exact⟨h.asc,by simp,λa ha x hx=>by grind⟩
   grind
theorem CP{m:ae}(v:Vd m){b:List Int}(h:b∈Et m):Bg (mC m) b:=by
 have c1:=v.c1;have:=CO (C:=(mC m).toNat) (mC m).toNat [] 0 ⟨by simp,by simp⟩ (by simp) b h;grind
theorem zx{m:ae}(v:Vd m):(Et m).length≤32:=by
 have c1:=v.c1;have c5:=v.c5;have:(mC m).toNat=1\/(mC m).toNat=2\/(mC m).toNat=3\/(mC m).toNat=4\/(mC m).toNat=5:=by omega
 unfold Et;rcases this with h |h |h |h |h <;> rw [h] <;> decide
def A3(m:ae)(but:Nat->Bool):List (List Int):=(Et m).filter λb=>D4 m but λc=>decide (c∈b)
theorem o9{α β:Type}{p:α->Bool}{h:α->β}:∀(l:List α) (s:List β),l.foldl (λ(s:List β×Bool) b=>(if p b then s.1++[h b] else s.1,false)) (s,false)=(s++(l.filter p).map h,false)
 |[],s=>by simp
 |x::l,s=>by
  rw [foldl_cons,o9 l]
  grind
theorem AS{k:Nat}{m:ae}{a2:Int}(v:Vd m)(hk:50≤k)(ha:ji a2):er k m a2=some ((A3 m λi=>decide (d4 a2 i)).map de):=by
 have c1:=v.c1;have c5:=v.c5;unfold er jB;have hC:m.1=(((mC m).toNat:Nat):Int):=by grind
 have h:=yT (σ:=List Int×Bool) (k:=k) (Y:=qe (λ(y5:(List Int)) (p7:Int)=>(c8 k m p7 a2).bind λr9=>if r9=true then((cM (bW (length y5+length [p7]))).bind λ_=>some (y5++[p7],true)) else(some (y5,true)))) (C:=(mC m).toNat) (by omega) (by omega)
  (λs b=>(if D4 m (λi=>decide (d4 a2 i)) (λc=>decide (c∈b)) then s.1++[de b] else s.1,false)) (λr s=>s.2=false/\s.1.length+r≤1000) (mC m).toNat k [] 0 ([],false) 0 (by omega) (by omega) (by omega) vG (λr s b' hb' hI=>by
   obtain⟨y,q⟩:=s;obtain⟨rfl,hI⟩:q=false/\y.length+(r+1)≤1000:=hI;have hbg:=CP v hb';have hset:=hbg.set c5;have hex:D4 m (λi=>decide (d4 a2 i)) (mB (de b'))=D4 m (λi=>decide (d4 a2 i)) (λc=>decide (c∈b')):=D3 v λc h0 _=>hset.2 c h0;unfold qe;simp only [];rw [zc v (by omega) hset.1 ha,hex,bs];cases D4 m (λi=>decide (d4 a2 i)) (λc=>decide (c∈b')) with
   |true=>
    simp only [if_true];grind [dR,bW,bs,de]
   |false=>
    grind) ⟨rfl,by have:=zx v;grind [Et]⟩
 rw [hC,show dk k (qe (λ(y5:(List Int)) (p7:Int)=>(c8 k m p7 a2).bind λr9=>if r9=true then((cM (bW (length y5+length [p7]))).bind λ_=>some (y5++[p7],true)) else(some (y5,true)))) (((mC m).toNat:Nat):Int) k 0 0 ([],false)=_ from h.1,bs,bs];rw [o9 (p:=λb=>D4 m (λi=>decide (d4 a2 i)) λc=>decide (c∈b)) (h:=de)];simp only [Bool.false_eq_true,if_false,nil_append];rfl
theorem HJ:∀{a b:List Int},a.Pairwise (· < ·)->b.Pairwise (· < ·)->(∀x,x∈a↔x∈b)->a=b
 |[],[],_,_,_=>rfl
 |[],y::b,_,_,h=>absurd ((h y).2 mem_cons_self) (by simp)
 |x::a,[],_,_,h=>absurd ((h x).1 mem_cons_self) (by simp)
 |x::a,y::b,ha,hb,h=>by
  rw [pairwise_cons] at ha hb
  have e:x=y:=by
   grind [mem_cons_self]
  subst e;rw [HJ ha.2 hb.2 λz=>?_];grind
theorem Ak{k:Nat}{C:Int}{b:List Int}(hk:10≤k)(hC:C≤5)(h:Bg C b):fO k (de b)=some b:=by
 have hset:=h.set hC;unfold fO
 have key:=iP (T:=List Int×Int) (f:=du k (de b)) (List.range 5) (λ(s:List Int) j=>(s,j)) (λs j _=>if decide (d4 (de b) j) then s++[(j:Int)] else s) (λj s=>s.length≤j/\s.Pairwise (· < ·)/\∀x,x∈s↔x∈b/\x < (j:Int)) (λs=>some s)
  (λn s j hj hs=>by
   rw [length_range] at hj;have hck:ck ((j:Int)+1)=some ((j:Int)+1):=dp (by omega) (by omega);have hj5:(j:Int) < 5:=by omega
   have hin:=hset.2 (j:Int) (by omega);unfold mB at hin;rw [Int.toNat_natCast] at hin;refine⟨?_,?_⟩
   .simp only [du,hj5,if_true,wZ (k:=k) hset.1 (by omega:j < 8),bs];cases decide (d4 (de b) j) with
    |true=>
     simp only [if_true];rw [dR (by grind [bW]),bs,bs,hck,bs]
    |false=>simp_all
   grind)
  (λn s hs=>by
   simp_all [length_range,du,if_neg]) (n:=k) (s0:=[]) (by grind) ⟨by simp,by simp,λx=>by simp;intro hx;exact(h.rng x hx).1⟩
 rw [show du k (de b) k ([],0)=_ from key.1,bs];have:=key.2;rw [length_range] at this;exact congrArg some (HJ this.2.1 h.asc λx=>by rw [this.2.2 x];exact⟨λhh=>hh.1,λhh=>⟨hh,by have:=h.rng x hh;omega⟩⟩)
end Go.Proofs.YtddkbkkogpolaaaGreat
set_option linter.unusedVariables false
set_option linter.unusedSimpArgs false
namespace Go.Proofs.YtddkbkkogpolaaaGreat
open K Go Go.Proofs
end Go.Proofs.YtddkbkkogpolaaaGreat
set_option linter.unusedVariables false
set_option linter.unusedSimpArgs false
namespace Go.Proofs.YtddkbkkogpolaaaGreat
open K Go Go.Proofs
def qs:Nat->Bool:=λ_=>false
theorem Rt:(λi=>decide (d4 0 i))=qs:=by
 grind [qs,d4]
theorem CB{m:ae}(v:Vd m){but:Nat->Bool}{b:List Int}(h:b∈A3 m but):Bg (mC m) b:=CP v (List.mem_filter.1 h).1
theorem zd{m:ae}(v:Vd m){but:Nat->Bool}:(A3 m but).length≤32:=Nat.le_trans (List.length_filter_le _ _) (zx v)
theorem G3{k:Nat}{C:Int}(hC:C≤5)(hk:50≤k){L:List (List Int)}(hL:∀b∈L,Bg C b)(hl:L.length≤40):eh k (L.map de) k ([],0)=some L:=by
 have key:=iP (T:=List (List Int)×Int) (f:=eh k (L.map de)) L (λ(s:List (List Int)) j=>(s,j)) (λs _ b=>s++[b]) (λj s=>s=L.take j) (λs=>some s)
  (λn s j hj hs=>by
   have hck:ck ((j:Int)+1)=some ((j:Int)+1):=dp (by omega) (by omega);have hls:s.length=j:=by grind
   have hg:aQ (L.map de) (j:Int)=some (de L[j]):=by simp_all [aQ,if_pos,Int.toNat_natCast,List.getElem?_map,List.getElem?_eq_getElem]
   have hj':(j:Int) < ((L.map de).length:Int):=by simp_all
   have hok:cM (bW (length s+length [L[j]]))=some ():=dR (by grind [bW]);refine⟨?_,?_⟩
   .simp only [eh,hj',if_true,hg,bs,Ak (k:=k) (by omega) hC (hL _ (List.getElem_mem hj)),hok,hck]
   simp_all)
  (λn s hs=>by
   unfold eh;simp_all) (n:=k) (s0:=[]) (by omega) (by simp)
 simp_all
theorem AT{k:Nat}{m:ae}(hs:Sm m)(hk:1010≤k):iq k m=some (if¬(pT m=0) then([],pT m) else(A3 m qs,0)):=by
 unfold iq;rw [yJ hs hk (by simp) (by simp) (by simp) (by simp),bs];by_cases hc:pT m=0
 .have v:=Vd.of hc;have hb:sR (mC m) []=0:=rZ.2 ⟨by simp,by simp⟩;have ho:QE m [] [] []=true:=rfl;simp only [hc,hb,ho,not_true_eq_false,if_false,if_true,xp];rw [AS v (by omega) vG,bs,Rt,G3 v.c5 (by omega) (λb h=>CB v h) (by grind [zd,qs]),bs]
 simp_all [not_false_eq_true,if_true,xq]
end Go.Proofs.YtddkbkkogpolaaaGreat
set_option linter.unusedVariables false
set_option linter.unusedSimpArgs false
namespace Go.Proofs.YtddkbkkogpolaaaGreat
open K Go Go.Proofs
end Go.Proofs.YtddkbkkogpolaaaGreat
set_option linter.unusedVariables false
set_option linter.unusedSimpArgs false
namespace Go.Proofs.YtddkbkkogpolaaaGreat
open K Go Go.Proofs
end Go.Proofs.YtddkbkkogpolaaaGreat
set_option linter.unusedVariables false
set_option linter.unusedSimpArgs false
namespace Go.Proofs.YtddkbkkogpolaaaGreat
open K Go Go.Proofs
theorem zw{C:Nat}:∀(t:List Int) (n:Nat) (b:List Int) (f:Nat),C - f≤n->(∀x∈t,(f:Int)≤x/\x < C)->t.Pairwise (· < ·)->b++t∈ll C n b f
 |[],0,b,f,_,_,_=>by simp [ll]
 |[],n+1,b,f,_,_,_=>by simp [ll]
 |x::t,0,b,f,h,hx,_=>by grind [mem_cons_self]
 |x::t,n+1,b,f,h,hx,hp=>by
  have h0:=hx x (mem_cons_self ..)
  rw [pairwise_cons] at hp
  rw [ll]
  refine mem_cons_of_mem _ (List.mem_flatMap.2 ⟨x.toNat,by grind,?_⟩)
  have:=zw t n (b++[((x.toNat:Nat):Int)]) (x.toNat+1) (by omega) (λy hy=>⟨by grind,(hx y (mem_cons_of_mem _ hy)).2⟩) hp.2
  grind
theorem HN{m:ae}{b:List Int}(h:Bg (mC m) b):b∈Et m:=by
 have:=zw (C:=(mC m).toNat) b (mC m).toNat [] 0 (by omega) (λx hx=>by have:=h.rng x hx;omega) h.asc;exact this
def SR(m:ae)(B:Int->Bool)(g:bX):Prop:=g.2.2=decide (mS m≤ky m B g.2.1.toNat g.1)
theorem D2{m:ae}{B:Int->Bool}(h:∀g∈mG m,SR m B g):D4 m qs B=true:=by
 unfold D4;rw [List.all_eq_true];intro g hg;have:g.1∈mG m:=List.fst_mem_of_mem_zipIdx hg;simp only [qs,Bool.false_or];exact decide_eq_true (h _ this)
end Go.Proofs.YtddkbkkogpolaaaGreat
set_option linter.unusedVariables false
set_option linter.unusedSimpArgs false
namespace Go.Proofs.YtddkbkkogpolaaaGreat
open K Go Go.Proofs
theorem G7:qB 1200=some true:=by decide+kernel
theorem W.get{α:Type}{x:Option α}{a:α}(h:W x λy=>y=a):x=some a:=by
 obtain⟨b,e,rfl⟩:=h;exact e
end Go.Proofs.YtddkbkkogpolaaaGreat
set_option linter.unusedVariables false
set_option linter.unusedSimpArgs false
namespace Go.Proofs.YtddkbkkogpolaaaGreat
open K Go Go.Proofs
theorem DU{k:Nat}{m:ae}(v:Vd m)(hk:1010≤k):iq k m=some (A3 m qs,0):=by
 rw [AT v.sm hk,v.chk];rfl
