import Derived.Test.YtcollhgigbijkaaGreatVCF2
open Nat
open List hiding mem_of_getElem?
open Array hiding mem_of_getElem? mk
set_option linter.unusedVariables false
set_option linter.unusedSimpArgs false
namespace Go.Proofs.YtcollhgigbijkaaGreat
open K Go Go.Proofs
def W{α:Type}(x:Option α)(Q:α->Prop):Prop:=∃a,x=some a/\Q a
namespace W
variable {α β ε:Type}{Q:β->Prop}
theorem ret{a:β}(h:Q a):W (some a) Q:=⟨a,rfl,h⟩
theorem mono{x:Option β}{R:β->Prop}(h:W x R)(hq:∀a,R a->Q a):W x Q:=let ⟨a,e,r⟩:=h;⟨a,e,hq a r⟩
theorem bind{x:Option α}{f:α->Option β}{R:α->Prop}(h:W x R)(hf:∀a,R a->W (f a) Q):W (x.bind f) Q:=by
 obtain⟨a,rfl,r⟩:=h;grind
theorem ck{n:Int}{f:Int->Option β}(h1: -9223372036854775808≤n)(h2:n≤9223372036854775807)(hf:W (f n) Q):W ((K.ck n).bind f) Q:=by
 simp_all [K.ck,if_pos]
theorem chk{p:Prop}[Decidable p]{f:Unit->Option β}(h:p)(hf:W (f ()) Q):W ((cK p).bind f) Q:=by
 simp_all [cK,if_pos]
theorem at_{l:List α}{i:Int}{f:α->Option β}(h0:0≤i)(h1:i < l.length)(hf:∀x,l[i.toNat]? =some x->W (f x) Q):W ((aQ l i).bind f) Q:=by
 simp_all [aQ,if_pos,List.getElem?_eq_getElem]
theorem ite{p:Prop}[Decidable p]{a b:Option β}(h1:p->W a Q)(h2:¬p->W b Q):W (if p then a else b) Q:=by
 grind
theorem iteB{p:Prop}[Decidable p]{a b:Option α}{f:α->Option β}(h1:p->W (a.bind f) Q)(h2:¬p->W (b.bind f) Q):W ((if p then a else b).bind f) Q:=by
 grind
theorem bEE{x:Option (Except ε α)}{g:ε->Option β}{f:α->Option β}{R:Except ε α->Prop}(h:W x R)(hg:∀e,R (.error e)->W (g e) Q)(hf:∀a,R (.ok a)->W (f a) Q):W (K.bE x g f) Q:=by
 obtain⟨a,rfl,r⟩:=h;cases a with
 |error e=>exact hg e r
 |ok a=>exact hf a r
theorem loop{T:Type}{f:Nat->T->Option β}(I:Nat->T->Prop)(step:∀aJ m y,I m y->(∀m' y',m' < m->I m' y'->W (f aJ y') Q)->W (f (aJ+1) y) Q):∀m aJ y,m < aJ->I m y->W (f aJ y) Q:=by
 intro m
 induction m using Nat.strongRecOn with
 |_ m ih=>
  intro aJ y hm hI;cases aJ with
  |zero=>omega
  |succ aJ=>grind
end W
theorem wrap_u64(n:Int):0≤IntKind.u64.wrap n/\IntKind.u64.wrap n < 18446744073709551616:=by
 simp_all [Int.emod_nonneg,Int.emod_lt_of_pos,IntKind.wrap,IntKind.signed,IntKind.bits]
theorem yj{n:Int}(h0:0≤n)(h1:n < 18446744073709551616):IntKind.u64.wrap n=n:=by
 simp_all [IntKind.wrap,IntKind.signed,IntKind.bits,Int.emod_eq_of_lt]
def Lo(l:bO)(m:Int):Prop:=0≤l.2.1/\l.2.1≤m
theorem J2{k:Nat}{l:bO}{m:Int}(h:Lo l m)(hm:m≤1000000000):W (gX k l) λr=>0≤r.1/\r.1 < 72057594037927936/\Lo r.2 (m+1):=by
 obtain⟨h0,h1⟩:=h;unfold gX
 have fin:∀x:Int,W ((K.ck (l.2.1+1)).bind λx4=>some (g7 .u64 (sb .u64 (IntKind.u64.wrap ((sb .u64 x (g7 .u64 x (29:Int))) * (2685821657736338717:Int))) (g7 .u64 (IntKind.u64.wrap ((sb .u64 x (g7 .u64 x (29:Int))) * (2685821657736338717:Int))) (32:Int))) (8:Int),(l.1,x4,x)))
  λr=>0≤r.1/\r.1 < 72057594037927936/\Lo r.2 (m+1):=λx=>by
  refine W.ck (by omega) (by omega) (W.ret ?_)
  generalize IntKind.u64.wrap ((sb .u64 x (g7 .u64 x (29:Int))) * (2685821657736338717:Int))=y
  have hx:0≤sb .u64 y (g7 .u64 y 32)/\sb .u64 y (g7 .u64 y 32) < 18446744073709551616:=wrap_u64 _
  have e:g7 .u64 (sb .u64 y (g7 .u64 y 32)) 8=(sb .u64 y (g7 .u64 y 32)) / 256:=by
   unfold g7;rw [Int.fdiv_eq_ediv_of_nonneg _ (by decide)];rfl
  refine⟨?_,?_,?_,?_⟩
  .
   omega
  .
   omega
  .
   grind
  simp_all
 refine W.iteB (λhlt=>?_) (λ_=>fin _);simp_all [aQ,if_pos,List.getElem?_eq_getElem]
theorem kp{k:Nat}{l:bO}{m n:Int}(h:Lo l m)(hm:m≤1000000000)(hn:n≤1000000000):W (cu k l n) λr=>0≤r.1/\(0≤n->r.1≤n)/\Lo r.2 (m+1):=by
 unfold cu;refine W.ite (λh1=>W.ret ⟨Int.le_refl 0,λh=>h,h.1,by show l.2.1≤m+1;have:=h.2;omega⟩) (λh1=>?_);refine W.bind (J2 h hm) λr hr=>?_;refine W.ck (by omega) (by omega) ?_;have e:IntKind.u64.wrap (n+1)=n+1:=yj (by omega) (by omega);refine W.chk (by omega) ?_;rw [e];have h2:Int.tmod r.1 (n+1)=r.1 % (n+1):=Int.tmod_eq_emod_of_nonneg hr.1;have h3:=Int.emod_nonneg r.1 (show n+1≠0 by omega);have h4:=Int.emod_lt_of_pos r.1 (show 0 < n+1 by omega);grind [W.ck,W.ret]
theorem CE{k:Nat}{l:bO}{m a b:Int}(h:Lo l m)(hm:m≤1000000000)(ha:0≤a)(hab:a≤b)(hb:b≤1000000):W (fF k l a b) λr=>a≤r.1/\r.1≤b/\Lo r.2 (m+1):=by
 grind [fF,W.ck,W.bind,kp,W.ret]
theorem wV{k:Nat}{l:bO}{m a:Int}(h:Lo l m)(hm:m≤1000000000)(ha:0≤a)(hb:a≤1000000):W (fh k l a) λr=>Lo r.2 (m+1):=by
 grind [fh,W.ck,W.bind,kp,W.ret]
theorem GE{k:Nat}{l:bO}{m:Int}{some_:List Int}(h:Lo l m)(hm:m≤1000000000)(h0:0 < some_.length)(h1:some_.length≤1000000):W (gy k l some_) λr=>r.1∈some_/\Lo r.2 (m+1):=by
 grind [gy,W.ck,W.bind,kp,W.at_,W.ret,List.mem_of_getElem?]
theorem eH{α:Type}{l:List α}{i:Nat}(h:i < l.length):aQ l (i:Int)=some l[i]:=by
 rw [aQ,if_pos (by omega)];simp_all
section
variable {α β γ ε σ T:Type}
theorem bs{a:α}{f:α->Option β}:(some a).bind f=f a:=by simp_all
theorem dq{n:Int}(h1: -9223372036854775808≤n)(h2:n≤9223372036854775807):K.ck n=some n:=by simp_all [K.ck,if_pos]
theorem dO{p:Prop}[Decidable p](h:p):cK p=some ():=by rw [cK,if_pos h]
theorem xo{l:List α}{i:Int}(h0:0≤i)(h:i.toNat < l.length):aQ l i=some l[i.toNat]:=by rw [aQ,if_pos h0];simp_all
theorem HH{l:List α}{i:Int}{x:α}(h0:0≤i)(h:l[i.toNat]? =some x):aQ l i=some x:=by simp_all [aQ,if_pos]
theorem mB{a:α}{g:ε->Option β}{f:α->Option β}:K.bE (some (.ok a)) g f=f a:=by simp_all [K.bE]
theorem qV{e:ε}{g:ε->Option β}{f:α->Option β}:K.bE (some (.error e)) g f=g e:=by simp_all [K.bE]
theorem qS{q:α}{a:β}{b:α->β}:fQ (some q) a b=b q:=by simp_all [fQ]
theorem lT{a:β}{b:α->β}:fQ none a b=a:=by simp_all [fQ]
theorem TS{n:Nat}(h:n≤4294967296):cf n:=h
def i9(g:σ->Nat->α->σ):Nat->List α->σ->σ
 |_,[],s=>s
 |j,x::l,s=>i9 g (j+1) l (g s j x)
theorem ff(l:List α)(mk:σ->Int->T)(g:σ->Nat->α->σ)(P:Nat->σ->Prop){f:Nat->T->Option β}(fin:σ->Option β)
 (step:∀n s (j:Nat) (h:j < l.length),P j s->f (n+1) (mk s j)=f n (mk (g s j l[j]) ((j:Int)+1))/\P (j+1) (g s j l[j]))
 (stop:∀n s,P l.length s->f (n+1) (mk s l.length)=fin s) {s0:σ} {n:Nat} (hn:l.length < n) (h0:P 0 s0):f n (mk s0 0)=fin (i9 g 0 l s0)/\P l.length (i9 g 0 l s0):=by
 have key:∀(m:List α) (pre:List α) (n:Nat) (s:σ),l=pre++m->m.length < n->P pre.length s->f n (mk s pre.length)=fin (i9 g pre.length m s)/\P l.length (i9 g pre.length m s):=by
  intro m
  induction m with
  |nil=>
   intro pre n s e hn hp;obtain⟨n,rfl⟩:∃n',n=n'+1:=⟨n - 1,by omega⟩;have:l.length=pre.length:=by grind
   rw [<-this] at hp⊢;exact⟨stop n s hp,hp⟩
  |cons x m ih=>
   intro pre n s e hn hp;simp only [length_cons] at hn;obtain⟨n,rfl⟩:∃n',n=n'+1:=⟨n - 1,by omega⟩;have hl:pre.length < l.length:=by grind
   have hx:l[pre.length]=x:=by simp [e]
   obtain⟨h1,h2⟩:=step n s pre.length hl hp;rw [hx] at h1 h2;have:=ih (pre++[x]) n (g s pre.length x) (by grind) (by omega) (by simp_all);rw [length_append] at this;simp only [length_cons,length_nil,Nat.zero_add] at this;rw [h1];exact this
 have:=key l [] n s0 rfl hn h0
 exact this
def fG(g:σ->Nat->α->Except ε σ):Nat->List α->σ->Except ε σ
 |_,[],s=>.ok s
 |j,x::l,s=>match g s j x with
  | .error e=>.error e
  | .ok s'=>fG g (j+1) l s'
theorem Ei(l:List α)(mk:σ->Int->T)(g:σ->Nat->α->Except ε σ)(P:Nat->σ->Prop){f:Nat->T->Option β}(fin:Except ε σ->Option β)
 (step:∀n s (j:Nat) (h:j < l.length),P j s->(∃e,g s j l[j]= .error e/\f (n+1) (mk s j)=fin (.error e))\/(∃s',g s j l[j]= .ok s'/\f (n+1) (mk s j)=f n (mk s' ((j:Int)+1))/\P (j+1) s'))
 (stop:∀n s,P l.length s->f (n+1) (mk s l.length)=fin (.ok s)) {s0:σ} {n:Nat} (hn:l.length < n) (h0:P 0 s0):f n (mk s0 0)=fin (fG g 0 l s0):=by
 have key:∀(m:List α) (pre:List α) (n:Nat) (s:σ),l=pre++m->m.length < n->P pre.length s->f n (mk s pre.length)=fin (fG g pre.length m s):=by
  intro m
  induction m with
  |nil=>
   intro pre n s e hn hp;obtain⟨n,rfl⟩:∃n',n=n'+1:=⟨n - 1,by omega⟩;have:l.length=pre.length:=by grind
   rw [<-this] at hp⊢;exact stop n s hp
  |cons x m ih=>
   intro pre n s e hn hp;simp only [length_cons] at hn;obtain⟨n,rfl⟩:∃n',n=n'+1:=⟨n - 1,by omega⟩;have hl:pre.length < l.length:=by grind
   have hx:l[pre.length]=x:=by simp [e]
   rcases step n s pre.length hl hp with⟨e',h1,h2⟩ |⟨s',h1,h2,h3⟩
   .grind [fG]
   .rw [hx] at h1;have:=ih (pre++[x]) n s' (by grind) (by omega) (by simp_all);simp_all [length_append,length_cons,length_nil,Nat.zero_add,fG]
 exact key l [] n s0 rfl hn h0
end
section
variable {α β ε σ T:Type}
theorem np(l:List α)(mk:σ->Int->T)(g:σ->Nat->α->Except ε σ)(P:Nat->σ->Prop){f:Nat->T->Option β}(fin:Except ε σ->Option β)
 (step:∀n s (j:Nat) (h:j < l.length),P j s->(f (n+1) (mk s j)=match g s j l[j] with | .error e=>fin (.error e) | .ok s'=>f n (mk s' ((j:Int)+1)))/\∀s',g s j l[j]= .ok s'->P (j+1) s')
 (stop:∀n s,P l.length s->f (n+1) (mk s l.length)=fin (.ok s)) {s0:σ} {n:Nat} (hn:l.length < n) (h0:P 0 s0):f n (mk s0 0)=fin (fG g 0 l s0):=
 Ei l mk g P fin (λn s j h hp=>by
  obtain⟨h1,h2⟩:=step n s j h hp
  grind) stop hn h0
end
theorem pX{α:Type}(p:α->Bool):∀(l:List α) (j:Nat),fG (λ(_:Unit) j x=>if p x then Except.error (j:Int) else .ok ()) j l ()=match l.findIdx? p with |some i=>.error ((i+j:Nat):Int) |none=>.ok ()
 |[],j=>by simp [fG]
 |x::l,j=>by
  rw [fG,findIdx?_cons]
  by_cases h:p x=true
  .
   simp [h]
  .
   simp only [h,if_false,Bool.false_eq_true]
   rw [pX p l (j+1)]
   grind
theorem QL{k:Nat}{l:List Int}{x:Int}(hk:l.length < k)(hl:l.length≤1000000):W (um k l x) λr=>(0≤r↔x∈l):=by
 unfold um
 have key:=W.loop (f:=kL k l x) (Q:=λr=>match r with | .error e=>0≤e/\x∈l | .ok _=>x∉l)
  (λm y=>0≤y/\y≤l.length/\m=l.length - y.toNat/\∀j:Nat,(j:Int) < y->l[j]? ≠some x) (λaJ m y hI ih=>by
   obtain⟨h0,h1,hm,hj⟩:=hI;unfold kL;refine W.ite (λhlt=>W.at_ h0 hlt λv hv=>W.ite (λe=>W.ret ⟨h0,?_⟩) (λe=>W.ck (by omega) (by omega) (ih (m - 1) _ (by omega) ⟨by omega,by omega,by omega,λj hjy=>?_⟩))) (λhge=>W.ret ?_)
   .grind
   .grind
   grind [List.mem_iff_getElem?,Nat.lt_or_ge,List.getElem?_eq_none])
 refine W.bEE (key l.length k 0 hk ⟨Int.le_refl 0,by omega,by simp,λj hj=>by omega⟩) (λe he=>W.ret ⟨λ_=>he.2,λ_=>he.1⟩) (λ_ ho=>W.ret ⟨λh=>by omega,λh=>absurd h ho⟩)
def hP(s:Int):Prop:=0≤s/\s < 256
def dC(s:Int)(i:Nat):Prop:=s.toNat.testBit i=true
instance (s:Int) (i:Nat):Decidable (dC s i):=by unfold dC;infer_instance
theorem s7{x:Nat}(h:x < 256):IntKind.u8.wrap (x:Int)=x:=by
 grind [IntKind.wrap,IntKind.signed,IntKind.bits]
theorem nY{s:Int}(h:hP s):∃n:Nat,n < 256/\s=n:=⟨s.toNat,by have:=h.1;have:=h.2;omega,by have:=h.1;omega⟩
theorem GF{n:Nat}(h:n < 256):(BitVec.ofInt IntKind.u8.bits (n:Int)).toNat=n:=by
 show(BitVec.ofInt 8 (n:Int)).toNat=n;simp_all
theorem Hr{n m:Nat}(hn:n < 256)(hm:m < 256):n |||m < 256:=or_lt_two_pow (n:=8) hn hm
theorem Ku{n m:Nat}(hn:n < 256):n &&& m < 256:=Nat.lt_of_le_of_lt and_le_left hn
theorem Hy{a b:Int}(ha:hP a)(hb:hP b):hP (wa .u8 a b)/\∀i,dC (wa .u8 a b) i↔dC a i\/dC b i:=by
 obtain⟨n,hn,rfl⟩:=nY ha;obtain⟨m,hm,rfl⟩:=nY hb
 have e:wa .u8 (n:Int) (m:Int)=((n |||m:Nat):Int):=by
  grind [wa,BitVec.toNat_or,GF,s7,Hr]
 rw [e];refine⟨⟨by omega,by grind [Hr]⟩,λi=>?_⟩;simp [dC,testBit_or]
theorem NT{x:Int}(h0:0≤x)(h8:x < 8):hP (oc .u8 1 x)/\∀i:Nat,dC (oc .u8 1 x) i↔(i:Int)=x:=by
 obtain⟨n,rfl⟩:=Int.eq_ofNat_of_zero_le h0;have hn:n < 8:=by omega
 have e:oc .u8 1 (n:Int)=((2 ^ n:Nat):Int):=by
  unfold oc
  have h1:min (Int.toNat (n:Int)) IntKind.u8.bits=n:=by
   show min n 8=n;omega
  rw [h1,Int.one_mul];have h2:2 ^ n < 256:=Nat.pow_lt_pow_right (by decide) hn;grind [s7]
 rw [e];have h9:2 ^ n < 256:=Nat.pow_lt_pow_right (by decide) hn;refine⟨⟨Int.natCast_nonneg _,Int.ofNat_lt.2 h9⟩,λi=>?_⟩;simp only [dC,Int.toNat_natCast,testBit_two_pow,decide_eq_true_eq];omega
theorem xm{k:Nat}{s:Int}(hs:hP s){i:Nat}(hi:i < 8):eU k s (i:Int)=some (decide (dC s i)):=by
 obtain⟨n,hn,rfl⟩:=nY hs;unfold eU;rw [cK,if_pos (by omega)];show some _=some _;congr 1
 have e1:g7 .u8 (n:Int) (i:Int)=((n >>> i:Nat):Int):=by
  unfold g7
  have h1:min (Int.toNat (i:Int)) IntKind.u8.bits=i:=by
   show min i 8=i;omega
  grind [Int.fdiv_eq_ediv_of_nonneg,Int.natCast_nonneg,Nat.shiftRight_eq_div_pow]
 have hlt:n >>> i < 256:=Nat.lt_of_le_of_lt (by rw [Nat.shiftRight_eq_div_pow];exact div_le_self _ _) hn
 have e2:pV .u8 ((n >>> i:Nat):Int) 1=(((n >>> i) &&& 1:Nat):Int):=by
  grind [pV,BitVec.ofInt,BitVec.toNat_and,GF,s7,Ku]
 rw [e1,e2]
 have e3:(((n >>> i) &&& 1:Nat):Int)=1↔dC (n:Int) i:=by
  rw [dC,Int.toNat_natCast,testBit];grind
 simp_all
end Go.Proofs.YtcollhgigbijkaaGreat
set_option linter.unusedVariables false
set_option linter.unusedSimpArgs false
namespace Go.Proofs.YtcollhgigbijkaaGreat
open K Go Go.Proofs
abbrev mC(m:ae):Int:=m.1
abbrev mW(m:ae):Int:=m.2.1
abbrev mS(m:ae):Int:=m.2.2.1
abbrev mH(m:ae):Int:=m.2.2.2.1
abbrev mD(m:ae):List (List (List Int)):=m.2.2.2.2.1
abbrev mG(m:ae):List bF:=m.2.2.2.2.2
def zK(l:List Int)(c:Int):Option (List Int):=(l.findIdx? λy=>decide (c=y)).map λi=>(if 0 < i then [l[i-1]?.getD 0] else [])++(l[i+1]?).toList
def zL(d:List (List Int))(c:Int):Option (List Int):=d.findSome? λl=>zK l c
def C0(m:ae)(d:Nat)(c:Int):Option (List Int):=zL ((mD m)[d]?.getD []) c
def pg(m:ae)(c:Int):Nat->Nat
 |0=>if(C0 m 0 c).isSome then 0 else 1
 |d+1=>if(C0 m (d+1) c).isSome then 0 else pg m c d+1
def jm(m:ae)(B:Int->Bool):Nat->Int->Int
 |0,c=>if B c then mW m else -1
 |d+1,c=>match C0 m d c with
  |none=>if mH m≤(pg m c d:Int) then -1 else jm m B d c
  |some l=>if 0≤jm m B d c then jm m B d c+1 else if l.any λx=>decide (mW m≤jm m B d x) then 0 else -1
theorem xP{m:ae}{B:Int->Bool}(hw:0≤mW m):∀{d:Nat} {c:Int}, -1≤jm m B d c
 |0,c=>by grind [jm]
 |d+1,c=>by
  have:=xP (B:=B) hw (d:=d) (c:=c)
  grind [jm]
theorem Ij{m:ae}{B:Int->Bool}(hw:mW m≤3):∀{d:Nat} {c:Int},jm m B d c≤3+d
 |0,c=>by grind [jm]
 |d+1,c=>by
  have:=Ij (B:=B) hw (d:=d) (c:=c)
  grind [jm]
theorem C9{m:ae}{A B U:Int->Bool}(hw:0≤mW m)(hU:∀c,U c=(A c || B c)):∀(d:Nat) (c:Int),jm m U d c=mX (jm m A d c) (jm m B d c)
 |0,c=>by
  grind [jm,mX]
 |d+1,c=>by
  have ih:=C9 hw hU d
  have a1:=xP (B:=A) hw (d:=d) (c:=c)
  have b1:=xP (B:=B) hw (d:=d) (c:=c)
  have ec:=ih c
  unfold jm
  split
  .
   grind [mX,ec]
  .
   rename_i l hl
   have hany:(l.any λx=>decide (mW m≤jm m U d x))=((l.any λx=>decide (mW m≤jm m A d x)) || l.any λx=>decide (mW m≤jm m B d x)):=by
    rw [Bool.eq_iff_iff];simp only [List.any_eq_true,Bool.or_eq_true,decide_eq_true_eq];grind [mX]
   rw [hany,ec];generalize jm m A d c=a at *;generalize jm m B d c=b at *;generalize (l.any λx=>decide (mW m≤jm m A d x))=p;generalize (l.any λx=>decide (mW m≤jm m B d x))=q;simp only [mX];grind
theorem Hz{k:Nat}{l:List Int}{x:Int}(hk:l.length < k)(hl:l.length≤1000000):f7 k l x=some (match l.findIdx? (λy=>decide (x=y)) with |some i=>(i:Int) |none=> -1):=by
 unfold f7
 have key:=np (f:=dc k l x) l (λ(_:Unit) j=>j) (λ_ j y=>if decide (x=y)=true then Except.error (j:Int) else .ok ()) (λ_ _=>True) (λr=>some r)
  (λn s j hj _=>by
   have hck:ck ((j:Int)+1)=some ((j:Int)+1):=dq (by omega) (by omega);refine⟨?_,λ_ _=>trivial⟩;simp only [dc,Int.ofNat_lt,hj,if_true,eH hj,bs,decide_eq_true_eq];grind)
  (λn s _=>by simp [dc]) (n:=k) (s0:=()) hk trivial
 rw [show dc k l x k 0=_ from key,pX (λy=>decide (x=y)) l 0];grind [decide,mB,qV]
def nu:List Int->List Int
 |[a,b]=>if b < a then [b,a] else [a,b]
 |l=>l
theorem tK{l:List Int}{x:Int}:x∈nu l↔x∈l:=by
 unfold nu;grind
theorem Jt{k:Nat}{l:List Int}(hk:10≤k)(hl:l.length≤2):fL k l=some (nu l):=by
 obtain⟨k,rfl⟩:∃n,k=n+4:=⟨k - 4,by omega⟩;have e0:oY (k+4) (IntKind.u64.wrap (0:Int))=some 0:=by kernel_rfl
 have e1:oY (k+4) (IntKind.u64.wrap (1:Int))=some 1:=by kernel_rfl
 have e2:oY (k+4) (IntKind.u64.wrap (2:Int))=some 2:=by kernel_rfl
 have c0:ck ((0:Int) - 0)=some 0:=rfl;have c1:ck ((1:Int) - 0)=some 1:=rfl;have c2:ck ((2:Int) - 0)=some 2:=rfl;have d1:ck ((0:Int)+1)=some 1:=rfl;have d2:ck ((1:Int)+1)=some 2:=rfl;have d3:ck ((1:Int) - 1)=some 0:=rfl;match l,hl with
 |[],_=>
  simp only [fL,length_nil,Int.ofNat_zero,e0,bs,cR,cy,bP,aZ,nu,c0,d1];rfl
 |[a],_=>
  simp_all [fL,bs,cR,cy,bP,aZ,nu]
 |[a,b],_=>
  have:(([a,b]:List Int).length:Int)=2:=rfl;have g0:aQ [a,b] (0:Int)=some a:=rfl;have g1:aQ [a,b] (1:Int)=some b:=rfl;have hn:∀x:Int,kM (k+4) x=some false:=λx=>by simp [kM]
  have hl:∀x y:Int,oh (k+4) x y=some (decide (x < y)):=λx y=>by simp [oh,hn]
  simp only [fL,this,e2,bs,cR,cy,bP,aZ,bB,c2,d1,d2,d3,g0,g1,hl];grind [nu,bB,bs,aQ]
end Go.Proofs.YtcollhgigbijkaaGreat
set_option linter.unusedVariables false
set_option linter.unusedSimpArgs false
namespace Go.Proofs.YtcollhgigbijkaaGreat
open K Go Go.Proofs
structure Vd(m:ae):Prop where
 c1:1≤mC m
 c5:mC m≤5
 w0:0≤mW m
 w3:mW m≤3
 s0:0≤mS m
 s3:mS m≤3
 h1:1≤mH m
 h3:mH m≤3
 d1:1≤(mD m).length
 d6:(mD m).length≤6
 r3:∀r∈mD m,r.length≤3
 l5:∀r∈mD m,∀l∈r,l.length≤5
 x5:∀r∈mD m,∀l∈r,∀x∈l,0≤x/\x < mC m
 nd:∀r∈mD m,r.flatten.Nodup
 g8:(mG m).length≤8
 gl:∀g∈mG m,0≤g.1/\g.1 < mC m/\0≤g.2.1/\g.2.1≤(mD m).length
theorem zJ{l:List Int}{c:Int}{s:List Int}(h:zK l c=some s):s.length≤2/\∀x∈s,x∈l:=by
 unfold zK at h;cases e:l.findIdx? (λy=>decide (c=y)) with
 |none=>simp_all
 |some i=>
  rw [e] at h;obtain rfl:=Option.some.inj h;have hi:i < l.length:=(List.findIdx?_eq_some_iff_getElem.1 e).1;grind
theorem Ib{d:List (List Int)}{c:Int}{s:List Int}(h:zL d c=some s):∃l∈d,zK l c=some s:=by
 simp_all [zL,List.exists_of_findSome?_eq_some]
theorem uF{m:ae}(v:Vd m){d:Nat}{c:Int}{s:List Int}(h:C0 m d c=some s):s.length≤2/\∀x∈s,0≤x/\x < mC m:=by
 obtain⟨l,hl,h2⟩:=Ib h;cases e:(mD m)[d]? with
 |none=>simp_all
 |some r=>
  rw [e] at hl;have h3:=zJ h2;exact⟨h3.1,λx hx=>v.x5 r (List.mem_of_getElem? e) l hl x (h3.2 x hx)⟩
def O1(m:ae)(c:Int)(d:Nat):Int ⊕ List Int:=match C0 m d c with
 |some s=>.inr (nu s)
 |none=>.inl (pg m c d)
theorem yK{k:Nat}{c:Int}{r:List (List Int)}(hk:10≤k)(hr:r.length≤3)(hl:∀l∈r,l.length≤5):
 cE k c r k 0=some (match zL r c with |some s=>.error (.inr (nu s)) |none=>.ok ()):=by
 have key:=np (f:=cE k c r) r (λ(_:Unit) j=>j) (λ_ _ l=>match zK l c with |some s=>Except.error (Sum.inr (nu s):Int ⊕ List Int) |none=>.ok ()) (λ_ _=>True) (λx=>some x)
  (λn s j hj _=>by
   refine⟨?_,λ_ _=>trivial⟩;have h5:=hl _ (List.getElem_mem hj);have hck:ck ((j:Int)+1)=some ((j:Int)+1):=dq (by omega) (by omega);simp only [cE,Int.ofNat_lt,hj,if_true,eH hj,bs];rw [Hz (by omega) (by omega),bs];generalize r[j]=l at *;have hb:zK l c=(l.findIdx? λy=>decide (c=y)).map λi=>(if 0 < i then [l[i-1]?.getD 0] else [])++(l[i+1]?).toList:=rfl;cases e:l.findIdx? (λy=>decide (c=y)) with
   |none=>
    simp_all
   |some i=>
    rw [e] at hb;simp only [Option.map_some] at hb;have hi:i < l.length:=(List.findIdx?_eq_some_iff_getElem.1 e).1;rw [hb];have hlen:=(zJ hb).1;have c1:ck ((i:Int) - 1)=some ((i:Int) - 1):=dq (by omega) (by omega);have c2:ck ((i:Int)+1)=some ((i:Int)+1):=dq (by omega) (by omega);have ok0:cK (cf (length ([]:List Int)+length [l[i-1]?.getD 0]))=some ():=dO (by simp [cf]);simp only [show(0:Int)≤(i:Int) from Int.natCast_nonneg _,if_true,c1,c2,bs]
    have e1:(if(0:Int) < (i:Int) then((aQ l ((i:Int) - 1)).bind λx11=>(cK (cf (length ([]:List Int)+length [x11]))).bind λ_=>some (([]:List Int)++[x11])) else some ([]:List Int))=some (if 0 < i then [l[i-1]?.getD 0] else []):=by
     by_cases h0:0 < i
     .have g:aQ l ((i:Int) - 1)=some (l[i-1]?.getD 0):=by
       grind [eH,List.getElem?_eq_getElem]
      simp_all
     simp_all
    rw [e1,bs];generalize (if 0 < i then [l[i-1]?.getD 0] else [])=p at *
    have e2:(if(i:Int)+1 < (l.length:Int) then((aQ l ((i:Int)+1)).bind λx18=>(cK (cf (length p+length [x18]))).bind λ_=>some (p++[x18])) else some p)=some (p++(l[i+1]?).toList):=by
     by_cases h1:i+1 < l.length
     .have g:aQ l ((i:Int)+1)=some l[i+1]:=by
       have:((i:Int)+1)=((i+1:Nat):Int):=by omega
       rw [this,eH h1]
      rw [if_pos (by omega),g,bs,List.getElem?_eq_getElem h1];grind [List.getElem?_eq_getElem,dO,length_append,cf,bs]
     grind
    simp_all [bs,Jt])
  (λn s _=>by simp [cE]) (n:=k) (s0:=()) (by omega) trivial
 rw [show cE k c r k 0=_ from key]
 congr 1
 have:∀(r:List (List Int)) (j:Nat),fG (λ(_:Unit) _ l=>match zK l c with |some s=>Except.error (Sum.inr (nu s):Int ⊕ List Int) |none=>.ok ()) j r ()=match zL r c with |some s=>.error (.inr (nu s)) |none=>.ok ():=by
  intro r
  induction r with
  |nil=>intro j;rfl
  |cons l r ih=>
   intro j;rw [fG];unfold zL;rw [findSome?_cons];cases zK l c with
   |none=>exact ih (j+1)
   |some s=>rfl
 simp_all
theorem CX{m:ae}{c:Int}:∀{d:Nat},pg m c d≤d+1
 |0=>by grind [pg]
 |d+1=>by have:=CX (m:=m) (c:=c) (d:=d);grind [pg]
theorem tY{k:Nat}{m:ae}{c:Int}(v:Vd m)(hk:10≤k):∀(d m0:Nat),d < m0->d < (mD m).length->dW k m0 m c (d:Int)=some (O1 m c d)
 |d,0,h,_=>absurd h (not_lt_zero _)
 |d,m0+1,h,hd=>by
  have hm:=List.getElem_mem hd
  unfold dW
  rw [eH hd,bs,yK hk (v.r3 _ hm) (v.l5 _ hm)]
  have hbes:C0 m d c=zL (mD m)[d] c:=by unfold C0;simp_all
  cases e:zL (mD m)[d] c with
  |some s=>
   simp_all [qV,O1]
  |none=>
   rw [mB]
   unfold O1
   rw [hbes,e]
   match d,hd,h with
   |0,hd,h=>
    simp_all [pg]
   |d+1,hd,h=>
    have h6:=v.d6
    have c1:ck (((d+1:Nat):Int) - 1)=some (d:Int):=by grind [dq]
    have ih:=tY v hk d m0 (by omega) (by omega) (c:=c)
    rw [if_pos (by omega),c1,bs,ih,bs]
    rw [hbes.symm] at e
    have hcold:pg m c (d+1)=pg m c d+1:=by grind [pg]
    have hle:=CX (m:=m) (c:=c) (d:=d)
    unfold O1
    cases e2:C0 m d c with
    |some s=>
     simp only [JE]
     have:pg m c d=0:=by cases d <;> simp [pg,e2]
     simp_all
    |none=>
     have c2:ck ((1:Int)+(pg m c d:Int))=some ((1:Int)+(pg m c d:Int)):=dq (by omega) (by omega)
     simp only [JE,PI,c2,bs,if_true,hcold]
     grind
end Go.Proofs.YtcollhgigbijkaaGreat
set_option linter.unusedVariables false
set_option linter.unusedSimpArgs false
namespace Go.Proofs.YtcollhgigbijkaaGreat
open K Go Go.Proofs
def ku(f:Int->Int):List Int:=[f 0,f 1,f 2,f 3,f 4]
def upd(f:Int->Int)(c v:Int):Int->Int:=λx=>if x=c then v else f x
theorem TW{c:Int}(h0:0≤c)(h:c < 5):c=0\/c=1\/c=2\/c=3\/c=4:=by omega
theorem tc{f:Int->Int}{c:Int}(h0:0≤c)(h:c < 5):aQ (ku f) c=some (f c):=by
 rcases TW h0 h with rfl |rfl |rfl |rfl |rfl <;> rfl
theorem BV{f:Int->Int}{c v:Int}(h0:0≤c)(h:c < 5):List.set (ku f) (Int.toNat c) v=ku (upd f c v):=by
 rcases TW h0 h with rfl |rfl |rfl |rfl |rfl <;> rfl
theorem mj{f g:Int->Int}(h:∀c,0≤c->c < 5->f c=g c):ku f=ku g:=by
 simp_all [ku]
def PE(m:ae)(f:Int->Int)(d:Nat)(c:Int):Int:=match C0 m d c with
 |none=>if mH m≤(pg m c d:Int) then -1 else f c
 |some l=>if 0≤f c then f c+1 else if l.any λx=>decide (mW m≤f x) then 0 else -1
def O2(m:ae)(f:Int->Int)(d:Nat):Int->Int:=λc=>if 0≤c/\c < mC m then PE m f d c else f c
theorem vf{k:Nat}{m:ae}{f:Int->Int}(hw:0≤mW m){s:List Int}(hs:s.length < k)(hs2:s.length≤1000)(hx:∀x∈s,0≤x/\x < 5):
 bS k m (ku f) s k 0=some (match s.find? (λx=>decide (mW m≤f x)) with |some x=>.error x |none=>.ok ()):=by
 have key:=np (f:=bS k m (ku f) s) s (λ(_:Unit) j=>j) (λ_ _ x=>if decide (mW m≤f x)=true then Except.error x else .ok ()) (λ_ _=>True) (λx=>some x)
  (λn _ j hj _=>by
   refine⟨?_,λ_ _=>trivial⟩;have h5:=hx _ (List.getElem_mem hj);have hck:ck ((j:Int)+1)=some ((j:Int)+1):=dq (by omega) (by omega);have him:mX (0:Int) m.2.1=mW m:=by show mX 0 (mW m)=mW m;grind [mX]
   simp only [bS,Int.ofNat_lt,hj,if_true,eH hj,bs,dO h5,tc h5.1 h5.2,him,hck,decide_eq_true_eq];grind)
  (λn s _=>by simp [bS]) (n:=k) (s0:=()) hs trivial
 rw [show bS k m (ku f) s k 0=_ from key]
 congr 1
 have:∀(s:List Int) (j:Nat),fG (λ(_:Unit) _ x=>if decide (mW m≤f x)=true then Except.error x else .ok ()) j s ()=match s.find? (λx=>decide (mW m≤f x)) with |some x=>.error x |none=>.ok ():=by
  intro s
  induction s with
  |nil=>intro j;rfl
  |cons x s ih=>
   intro j;rw [fG,find?_cons];grind
 simp_all
theorem yD{s:List Int}:(nu s).length=s.length:=by
 unfold nu;grind
def Jh(m:ae)(f:Int->Int)(l:List Int):Int:=((nu l).find? λx=>decide (mW m≤f x)).getD (-1)
theorem Aw{k:Nat}{m:ae}{f:Int->Int}{c:Int}{d:Nat}(v:Vd m)(hk:10≤k)(hd:d < (mD m).length){l:List Int}(h:C0 m d c=some l):
 dk k m (ku f) c (d:Int)=some (Jh m f l):=by
 have h6:=v.d6
 have c5:=v.c5
 have hb:=uF v h
 unfold dk
 rw [tY v hk d k (by omega) hd,bs]
 unfold O1
 rw [h]
 have e1:H9 (Sum.inr (nu l):Int ⊕ List Int) (λn=>ii k n) (λl=>ig k l)=some (nu l):=rfl
 rw [e1,bs,vf v.w0 (by rw [yD];omega) (by rw [yD];omega) λx hx=>by grind [tK]]
 unfold Jh
 cases(nu l).find? λx=>decide (mW m≤f x) with
 |none=>rw [mB];rfl
 |some x=>rw [qV];rfl
theorem Jg{m:ae}{f:Int->Int}{l:List Int}(hx:∀x∈l,0≤x):0≤Jh m f l↔(l.any λx=>decide (mW m≤f x))=true:=by
 unfold Jh;rw [List.any_eq_true];cases e:(nu l).find? λx=>decide (mW m≤f x) with
 |none=>
  simp_all [Option.getD_none,List.find?_eq_none,tK]
 |some x=>
  grind [List.mem_of_find?_eq_some,tK]
theorem Hg{k:Nat}{m:ae}{f:Int->Int}{d:Nat}(v:Vd m)(hk:10≤k)(hd:d < (mD m).length)(hf:∀c,0≤c->c < mC m-> -1≤f c/\f c≤1000):
 gx k m (ku f) (d:Int)=some (ku (O2 m f d)):=by
 have c5:=v.c5
 have c1:=v.c1
 have h6:=v.d6
 unfold gx
 have key:=ff (T:=List Int×Int) (f:=cp k m (ku f) (d:Int)) (List.range (mC m).toNat) (λ(g:Int->Int) j=>(ku g,j)) (λg j _=>upd g (j:Int) (PE m f d (j:Int))) (λj g=>g=λc=>if 0≤c/\c < (j:Int) then PE m f d c else f c) (λg=>some (ku g))
  (λn g j hj hg=>by
   rw [length_range] at hj;have j0:(0:Int)≤(j:Int):=Int.natCast_nonneg _;have j1:(j:Int) < mC m:=by omega
   have j5:(j:Int) < 5:=by omega
   have hck:ck ((j:Int)+1)=some ((j:Int)+1):=dq (by omega) (by omega);have hp:cK ((0:Int)≤(j:Int)/\(j:Int) < 5)=some ():=dO ⟨j0,j5⟩;have hgj:g (j:Int)=f (j:Int):=by simp_all
   have hfj:=hf _ j0 j1;refine⟨?_,?_⟩
   .have hm1:(m.1:Int)=mC m:=rfl;have hm2:m.2.2.2.1=mH m:=rfl;simp only [cp,hm1,hm2,j1,if_true,tY v hk d k (by omega) hd,bs,hp,tc j0 j5,hck,BV j0 j5];unfold O1 PE;cases e:C0 m d (j:Int) with
    |none=>
     simp only [JE,PI,if_true];by_cases hh:mH m≤(pg m (j:Int) d:Int)
     .simp_all
     .simp only [hh,if_false,bs];refine congrArg (λr=>cp k m (ku f) (d:Int) n (r,(j:Int)+1)) (mj λc _ _=>?_);simp_all [upd]
    |some l=>
     have hb:=uF v e;simp only [JE,Bool.false_eq_true,if_false,not_false_eq_true,if_true];by_cases h0:0≤f (j:Int)
     .have hck2:ck (f (j:Int)+1)=some (f (j:Int)+1):=dq (by omega) (by omega);simp_all
     .simp only [h0,if_false,Aw v hk hd e,bs];have ht:=Jg (m:=m) (f:=f) (l:=l) λx hx=>(hb.2 x hx).1;by_cases hany:(l.any λx=>decide (mW m≤f x))=true
      .simp_all
      .rw [if_neg λh=>hany (ht.1 h),bs,if_neg hany];refine congrArg (λr=>cp k m (ku f) (d:Int) n (r,(j:Int)+1)) (mj λc _ _=>?_);grind [upd]
   .rw [hg];funext c;unfold upd;grind)
  (λn g hg=>by
   rw [length_range];have:((mC m).toNat:Int)=mC m:=by omega
   simp_all [cp,if_neg,mC]) (n:=k) (s0:=f) (by grind) (by grind)
 rw [show cp k m (ku f) (d:Int) k (ku f,0)=_ from key.1,bs]
 congr 1
 refine mj λc _ _=>?_
 rw [key.2,length_range]
 unfold O2
 grind
end Go.Proofs.YtcollhgigbijkaaGreat
set_option linter.unusedVariables false
set_option linter.unusedSimpArgs false
namespace Go.Proofs.YtcollhgigbijkaaGreat
open K Go Go.Proofs
def cr(F:Nat->Int->Int):List (List Int):=[ku (F 0),ku (F 1),ku (F 2),ku (F 3),ku (F 4),ku (F 5),ku (F 6)]
def Aq(F:Nat->Int->Int)(n:Nat)(f:Int->Int):Nat->Int->Int:=λi=>if i=n then f else F i
theorem TV{n:Nat}(h:n < 7):n=0\/n=1\/n=2\/n=3\/n=4\/n=5\/n=6:=by omega
theorem xG{F:Nat->Int->Int}{n:Nat}(h:n < 7):aQ (cr F) (n:Int)=some (ku (F n)):=by
 rcases TV h with rfl |rfl |rfl |rfl |rfl |rfl |rfl <;> rfl
theorem OA{F:Nat->Int->Int}{n:Nat}{f:Int->Int}(h:n < 7):List.set (cr F) n (ku f)=cr (Aq F n f):=by
 rcases TV h with rfl |rfl |rfl |rfl |rfl |rfl |rfl <;> rfl
def O7(m:ae)(B:Int->Bool):Nat->Int->Int
 |0=>λc=>if B c then mW m else -1
 |n+1=>O2 m (O7 m B n) n
theorem xQ{m:ae}(v:Vd m){B:Int->Bool}:∀(n:Nat) (c:Int),0≤c->c < mC m->O7 m B n c=jm m B n c
 |0,c,_,_=>rfl
 |n+1,c,h0,h1=>by
  have ih:=xQ v (B:=B) n
  show O2 m (O7 m B n) n c=jm m B (n+1) c
  unfold O2
  rw [if_pos ⟨h0,h1⟩]
  unfold PE jm
  cases e:C0 m n c with
  |none=>simp_all
  |some l=>
   have hb:=(uF v e).2
   grind
def E1(m:ae)(B:Int->Bool):Nat->Int->Int:=λn=>if n≤(mD m).length then O7 m B n else λ_=>0
def mJ(S:Int):Int->Bool:=λc=>decide (dC S c.toNat)
theorem FX{k:Nat}{m:ae}{S:Int}(hk:10≤k)(hS:hP S):eM k m S=some (ku λc=>if mJ S c then mW m else -1):=by
 unfold eM
 have key:=ff (T:=List Int×Int) (f:=cD k m S) (List.range 5) (λ(g:Int->Int) j=>(ku g,j)) (λg j _=>upd g (j:Int) (if mJ S (j:Int) then mW m else -1)) (λj g=>∀c,0≤c->c < (j:Int)->g c=if mJ S c then mW m else -1) (λg=>some (ku g))
  (λn g j hj hg=>by
   rw [length_range] at hj;have j0:(0:Int)≤(j:Int):=Int.natCast_nonneg _;have j5:(j:Int) < 5:=by omega
   have hck:ck ((j:Int)+1)=some ((j:Int)+1):=dq (by omega) (by omega);have hp:cK ((0:Int)≤(j:Int)/\(j:Int) < 5)=some ():=dO ⟨j0,j5⟩;have hp':cK ((0:Int)≤(j:Int)/\True)=some ():=dO ⟨j0,trivial⟩;refine⟨?_,?_⟩
   .simp only [cD,j5,if_true,hp,hp',bs,xm (k:=k) hS (by omega:j < 8),hck,BV j0 j5];have hin:mJ S (j:Int)=decide (dC S j):=by unfold mJ;simp_all
    rw [hin];cases hh:decide (dC S j) with
    |true=>
     simp only [if_true,bs];refine congrArg (λr=>cD k m S n (r,(j:Int)+1)) (mj λc _ _=>?_);simp_all [upd]
    |false=>simp_all
   .intro c hc0 hc1;unfold upd;grind)
  (λn g hg=>by
   simp_all [length_range,cD,if_neg]) (n:=k) (s0:=λ_=>0) (by grind) (λc h0 h1=>by omega)
 have e0:([(0:Int),(0:Int),(0:Int),(0:Int),(0:Int)]:List Int)=ku λ_=>0:=rfl;rw [e0,show cD k m S k (ku λ_=>0,0)=_ from key.1,bs];refine congrArg some (mj λc h0 h5=>?_);simp_all
theorem oR{k:Nat}{m:ae}{S:Int}(v:Vd m)(hk:10≤k)(hS:hP S):lq k m S=some (cr (E1 m (mJ S))):=by
 have d6:=v.d6;have d1:=v.d1;have w0:=v.w0;have w3:=v.w3;unfold lq jh;have hm:cK (0≤S/\S < 256)=some ():=dO hS;have hp0:cK ((0:Int)≤0/\(0:Int) < 7)=some ():=dO ⟨by omega,by omega⟩;rw [hm,bs,FX hk hS,bs,hp0,bs]
 have key:=ff (T:=List (List Int)×Int) (f:=bK k m) (mD m) (λ(F:Nat->Int->Int) j=>(cr F,j)) (λF j _=>Aq F (j+1) (O2 m (F j) j)) (λj F=>F=λn=>if n≤j then O7 m (mJ S) n else λ_=>0) (λF=>some (cr F))
  (λn F j hj hF=>by
   have j0:(0:Int)≤(j:Int):=Int.natCast_nonneg _;have hck:ck ((j:Int)+1)=some ((j:Int)+1):=dq (by omega) (by omega);have hp:cK ((0:Int)≤(j:Int)/\(j:Int) < 7)=some ():=dO ⟨j0,by omega⟩;have hp2:cK ((0:Int)≤(j:Int)+1/\(j:Int)+1 < 7)=some ():=dO ⟨by omega,by omega⟩;have hFj:F j=O7 m (mJ S) j:=by simp_all
   have hj':(j:Int) < (m.2.2.2.2.1.length:Int):=Int.ofNat_lt.2 hj
   have hnx:=Hg (k:=k) (f:=F j) v hk hj (λc h0 h1=>by
    rw [hFj,xQ v j c h0 h1];have:=xP (B:=mJ S) w0 (d:=j) (c:=c);have:=Ij (B:=mJ S) w3 (d:=j) (c:=c);omega)
   refine⟨?_,?_⟩
   .simp only [bK,hj',if_true,hck,hp,bs,xG (F:=F) (show j < 7 by omega),hnx,hp2];grind [Int.toNat,OA]
   .rw [hF];funext i;unfold Aq;by_cases e:i=j+1
    .subst e;simp only [if_true,Nat.le_refl];rfl
    grind)
  (λn F hF=>by
   unfold bK;simp_all) (n:=k) (s0:=Aq (λ_ _=>0) 0 (λc=>if mJ S c then mW m else -1)) (by omega) (by
   funext n;unfold Aq;by_cases e:n=0
   .subst e;rfl
   simp_all)
 have e0:List.set sx (Int.toNat 0) (ku λc=>if mJ S c then mW m else -1)=cr (Aq (λ_ _=>0) 0 (λc=>if mJ S c then mW m else -1)):=rfl;rw [e0,show bK k m k (cr (Aq (λ_ _=>0) 0 (λc=>if mJ S c then mW m else -1)),0)=_ from key.1,bs];rw [key.2];rfl
theorem xF{m:ae}(v:Vd m){B:Int->Bool}{n:Nat}{c:Int}(hn:n≤(mD m).length)(h0:0≤c)(h1:c < mC m):E1 m B n c=jm m B n c:=by
 simp_all [E1,if_pos,xQ]
end Go.Proofs.YtcollhgigbijkaaGreat
set_option linter.unusedVariables false
set_option linter.unusedSimpArgs false
namespace Go.Proofs.YtcollhgigbijkaaGreat
open K Go Go.Proofs
def wk{σ:Type}(bad:σ->Int->Option Int)(add:σ->Int->σ):List Int->σ->Except Int σ
 |[],s=>.ok s
 |x::l,s=>match bad s x with
  |some e=>.error e
  |none=>wk bad add l (add s x)
theorem wK{σ:Type}{bad:σ->Int->Option Int}{add:σ->Int->σ}:∀(l:List Int) (j:Nat) (s:σ),fG (λs _ x=>match bad s x with |some e=>Except.error e |none=>.ok (add s x)) j l s=wk bad add l s
 |[],j,s=>rfl
 |x::l,j,s=>by
  rw [fG,wk]
  cases bad s x with
  |some e=>rfl
  |none=>exact wK l (j+1) (add s x)
theorem vB{σ:Type}{bad:σ->Int->Option Int}{add:σ->Int->σ}:∀(a b:List Int) (s:σ),wk bad add (a++b) s=match wk bad add a s with | .error e=>.error e | .ok s'=>wk bad add b s'
 |[],b,s=>rfl
 |x::a,b,s=>by
  rw [cons_append,wk,wk]
  cases bad s x with
  |some e=>rfl
  |none=>exact vB a b (add s x)
theorem BO{σ:Type}{bad:σ->Int->Option Int}{add:σ->Int->σ}:∀(r:List (List Int)) (j:Nat) (s:σ),fG (λs _ l=>wk bad add l s) j r s=wk bad add r.flatten s
 |[],j,s=>rfl
 |l::r,j,s=>by
  rw [fG,flatten_cons,vB]
  cases wk bad add l s with
  |error e=>rfl
  |ok s'=>exact BO r (j+1) s'
theorem Fq{σ τ:Type}{b1:σ->Int->Option Int}{a1:σ->Int->σ}{b2:τ->Int->Option Int}{a2:τ->Int->τ}(R:σ->τ->Prop)(hb:∀s t x,R s t->b1 s x=b2 t x)(ha:∀s t x,R s t->b1 s x=none->R (a1 s x) (a2 t x)):
 ∀(l:List Int) (s:σ) (t:τ),R s t->(∃e,wk b1 a1 l s= .error e/\wk b2 a2 l t= .error e)\/∃s' t',wk b1 a1 l s= .ok s'/\wk b2 a2 l t= .ok t'/\R s' t'
 |[],s,t,h=>.inr ⟨s,t,rfl,rfl,h⟩
 |x::l,s,t,h=>by
  rw [wk,wk,<-hb s t x h]
  cases e:b1 s x with
  |some c=>simp_all
  |none=>exact Fq R hb ha l _ _ (ha s t x h e)
theorem Am{σ:Type}{bad:σ->Int->Option Int}{add:σ->Int->σ}(P:σ->Prop)(hs:∀s x,P s->bad s x=none->P (add s x)):∀(l:List Int) (s s':σ),P s->wk bad add l s= .ok s'->P s'
 |[],s,s',h,e=>by cases e;exact h
 |x::l,s,s',h,e=>by
  rw [wk] at e
  cases hb:bad s x with
  |some c=>simp_all
  |none=>rw [hb] at e;exact Am P hs l _ s' (hs s x h hb) e
theorem kG{k:Nat}{a b c:Int}:dE k a b c=some (decide (b≤a/\a≤c)):=by
 grind [dE]
theorem Rf{n:Int}(h:1≤n/\n≤5):ck (n - 1)=some (n - 1):=by grind [dq]
def Ai(C:Int)(s x:Int):Option Int:=if¬(0≤x/\x < C) then some 3 else if dC s x.toNat then some 4 else none
def u4(s x:Int):Int:=wa .u8 s (oc .u8 1 x)
def Bw(C:Int)(s:List Int)(x:Int):Option Int:=if¬(0≤x/\x < C) then some 3 else if x∈s then some 4 else none
def Da(s:List Int)(x:Int):List Int:=s++[x]
theorem nZ:hP 0:=⟨by decide,by decide⟩
theorem MN{C s x:Int}(h:Ai C s x=none):0≤x/\x < C:=by
 unfold Ai at h;grind
theorem lG{k:Nat}{s x:Int}(hs:hP s)(h0:0≤x)(h8:x < 8):eS k s x=some (u4 s x)/\hP (u4 s x)/\∀i:Nat,dC (u4 s x) i↔dC s i\/(i:Int)=x:=by
 have h1:=NT h0 h8;have h2:=Hy hs h1.1;refine⟨?_,h2.1,λi=>?_⟩
 .unfold eS;rw [dO h0,bs];rfl
 .show dC (wa .u8 s (oc .u8 1 x)) i↔_;simp_all
theorem zM{C s x:Int}(hC:C≤5)(hs:hP s)(h:Ai C s x=none):hP (u4 s x):=by
 have:=MN h;exact(lG (k:=0) hs this.1 (by omega)).2.1
def sw(C:Int)(r:List (List Int)):Int:=if 3 < r.length then 6 else match wk (Bw C) Da r.flatten [] with | .error e=>e | .ok _=>0
theorem Et{k:Nat}{m:ae}(hC:1≤mC m/\mC m≤5){l:List Int}(hk:l.length < k)(hl:l.length≤1000){s:Int}(hs:hP s):
 cZ k m l k (s,0)=some (wk (Ai (mC m)) u4 l s):=by
 have key:=np (T:=Int×Int) (f:=cZ k m l) l (λ(s:Int) j=>(s,j)) (λs _ x=>match Ai (mC m) s x with |some e=>Except.error e |none=>.ok (u4 s x)) (λ_ s=>hP s) (λr=>some r)
  (λn s j hj hs=>by
   have hck:ck ((j:Int)+1)=some ((j:Int)+1):=dq (by omega) (by omega);have hc:ck (m.1 - 1)=some (m.1 - 1):=Rf hC;refine⟨?_,λs' e=>?_⟩
   .simp only [cZ,Int.ofNat_lt,hj,if_true,eH hj,bs,hc,kG];generalize l[j]=x;by_cases h:0≤x/\x < mC m
    .have h':0≤x/\x≤m.1 - 1:=⟨h.1,by grind⟩;have hh:=xm (k:=k) hs (i:=x.toNat) (by omega);have ex:((x.toNat:Nat):Int)=x:=by omega
     rw [ex] at hh;simp only [h',and_self,decide_true,not_true_eq_false,if_false,hh,bs];have eb:Ai (mC m) s x=if dC s x.toNat then some 4 else none:=by unfold Ai;simp_all
     rw [eb];by_cases h2:dC s x.toNat
     .simp_all
     .simp only [h2,decide_false,Bool.false_eq_true,if_false,(lG (k:=k) hs h.1 (by omega)).1,bs,hck]
    .have h':¬(0≤x/\x≤m.1 - 1):=λhh=>h ⟨hh.1,by grind⟩;have eb:Ai (mC m) s x=some 3:=by unfold Ai;simp_all
     simp_all
   .cases e2:Ai (mC m) s l[j] with
    |some c=>simp_all
    |none=>grind [zM])
  (λn s _=>by simp [cZ]) (n:=k) (s0:=s) hk hs
 simp_all [cZ,wK]
theorem Eu{k:Nat}{m:ae}(hC:1≤mC m/\mC m≤5){r:List (List Int)}(hk:r.length < k)(hr:r.length≤1000)(hl:∀l∈r,l.length < k/\l.length≤1000):
 c6 k m r k (0,0)=some (match wk (Ai (mC m)) u4 r.flatten 0 with | .error e=>.error e | .ok _=>.ok ()):=by
 have key:=np (T:=Int×Int) (f:=c6 k m r) r (λ(s:Int) j=>(s,j)) (λs _ l=>wk (Ai (mC m)) u4 l s) (λ_ s=>hP s) (λx=>some (match x with | .error e=>Except.error e | .ok _=>.ok ()))
  (λn s j hj hs=>by
   have hck:ck ((j:Int)+1)=some ((j:Int)+1):=dq (by omega) (by omega);have hlj:=hl _ (List.getElem_mem hj);refine⟨?_,λs' e=>Am hP (λs x=>zM hC.2) _ _ _ hs e⟩;simp only [c6,Int.ofNat_lt,hj,if_true,eH hj,bs,Et hC hlj.1 hlj.2 hs];cases wk (Ai (mC m)) u4 r[j] s with
   |error e=>rw [qV]
   |ok s'=>rw [mB,hck,bs])
  (λn s _=>by simp [c6]) (n:=k) (s0:=0) hk nZ
 simp_all [c6,BO]
theorem K1{C:Int}(hC:C≤5)(l:List Int):(∃e,wk (Ai C) u4 l 0= .error e/\wk (Bw C) Da l []= .error e)\/∃s t,wk (Ai C) u4 l 0= .ok s/\wk (Bw C) Da l []= .ok t/\(hP s/\∀i:Nat,dC s i↔(i:Int)∈t):=by
 refine Fq (λs t=>hP s/\∀i:Nat,dC s i↔(i:Int)∈t) (λs t x h=>?_) (λs t x h hb=>?_) l 0 [] ⟨nZ,λi=>by simp [dC]⟩
 .unfold Ai Bw;grind
 .have hx:=MN hb;have hw:=lG (k:=0) h.1 hx.1 (by omega);simp_all [Da]
theorem Kp{k:Nat}{m:ae}(hC:1≤mC m/\mC m≤5){r:List (List Int)}(hk:1000 < k)(hr:r.length≤1000)(hl:∀l∈r,l.length≤1000):iO k m r=some (sw (mC m) r):=by
 unfold iO sw;by_cases h3:3 < r.length
 .grind
 .rw [if_neg (by omega),if_neg h3,Eu hC (by omega) hr λl hh=>⟨by grind,hl l hh⟩];rcases K1 hC.2 r.flatten with⟨e,h1,h2⟩ |⟨s,t,h1,h2,_⟩
  .simp_all [qV]
  simp_all [mB]
end Go.Proofs.YtcollhgigbijkaaGreat
set_option linter.unusedVariables false
set_option linter.unusedSimpArgs false
namespace Go.Proofs.YtcollhgigbijkaaGreat
open K Go Go.Proofs
theorem rH:∀(n:Nat) (l:List Int),l.Nodup->(∀x∈l,0≤x/\x < (n:Int))->l.length≤n
 |0,l,_,h=>by
  cases l with
  |nil=>simp
  |cons x l=>have:=h x (by simp);omega
 |n+1,l,hn,h=>by
  have h1:=rH n (l.erase (n:Int)) (hn.erase _) (λx hx=>by
   grind)
  grind
theorem QK{C:Int}{s:List Int}{x:Int}(h:Bw C s x=none):(0≤x/\x < C)/\x∉s:=by
 unfold Bw at h;grind
def Mt(C:Int)(s:List Int):Prop:=s.Nodup/\∀x∈s,0≤x/\x < C
theorem Mt.add{C:Int}{s:List Int}{x:Int}(h:Mt C s)(hb:Bw C s x=none):Mt C (Da s x):=by
 have:=QK hb;refine⟨?_,λy hy=>?_⟩
 .unfold Da;rw [nodup_append];exact⟨h.1,by simp,λa ha b hb e=>by simp_all⟩
 .rcases List.mem_append.1 hy with hy |hy
  .exact h.2 y hy
  simp_all
theorem Mt.len{C:Int}{s:List Int}(hC:0≤C/\C≤5)(h:Mt C s):s.length≤5:=by
 have:=rH C.toNat s h.1 λx hx=>⟨(h.2 x hx).1,by have:=(h.2 x hx).2;omega⟩;omega
theorem Ft{C:Int}:∀{l s t:List Int},wk (Bw C) Da l s= .ok t->t=s++l
 |[],s,t,e=>by cases e;simp
 |x::l,s,t,e=>by
  rw [wk] at e
  cases hb:Bw C s x with
  |some c=>simp_all
  |none=>
   rw [hb] at e
   have:=Ft e
   simp_all [Da]
theorem BP{C:Int}:∀{l s:List Int},(s++l).Nodup->(∀x∈l,0≤x/\x < C)->wk (Bw C) Da l s= .ok (s++l)
 |[],s,_,_=>by simp [wk]
 |x::l,s,hn,hr=>by
  have hx:x∉s:=by
   grind
  have hb:Bw C s x=none:=by
   unfold Bw;simp_all
  rw [wk,hb];simp only [];rw [BP (s:=Da s x) (by simp_all [Da]) λy hy=>hr y (mem_cons_of_mem _ hy)];simp_all [Da]
theorem wq{C:Int}{r:List (List Int)}:sw C r=0↔r.length≤3/\r.flatten.Nodup/\∀x∈r.flatten,0≤x/\x < C:=by
 unfold sw;constructor
 .intro h;split at h
  .cases h
  .cases e:wk (Bw C) Da r.flatten [] with
   |ok t=>
    have h1:=Am (Mt C) (λs x=>Mt.add) _ _ _ ⟨nodup_nil,λx hx=>by cases hx⟩ e;have h2:=Ft e;rw [nil_append] at h2;subst h2;exact⟨by omega,h1.1,h1.2⟩
   |error c=>
    rw [e] at h;exfalso
    have:∀(l s:List Int),wk (Bw C) Da l s≠.error 0:=by
     intro l
     induction l with
     |nil=>intro s h;cases h
     |cons x l ih=>
      grind [wk,Bw]
    simp_all
 .rintro⟨h1,h2,h3⟩;rw [if_neg (by omega),BP (by simp_all) h3]
def HG(m:ae)(g:bF):Int:=if(0≤g.1/\g.1 < mC m)/\0≤g.2.1/\g.2.1≤(mD m).length then 0 else 3
theorem N8{k:Nat}{m:ae}(hC:1≤mC m/\mC m≤5){g:bF}:fZ k m g=some (HG m g):=by
 have hc:ck (m.1 - 1)=some (m.1 - 1):=Rf hC;unfold fZ HG;have e:decide (0≤g.1/\g.1≤m.1 - 1)=decide (0≤g.1/\g.1 < mC m):=decide_eq_decide.2 ⟨λh=>⟨h.1,by grind⟩,λh=>⟨h.1,by grind⟩⟩;rw [hc,bs,kG,bs,e];by_cases h1:0≤g.1/\g.1 < mC m
 .by_cases h2:0≤g.2.1/\g.2.1≤(mD m).length <;> simp [h1,h2,kG]
 grind
def lE{α:Type}(f:α->Int)(l:List α):Int:=((l.map f).find? λe=>decide (e≠0)).getD 0
theorem sd{α:Type}(f:α->Int):∀(l:List α) (j:Nat),fG (λ(_:Unit) _ x=>if¬(f x=0) then Except.error (f x) else .ok ()) j l ()=if lE f l=0 then .ok () else .error (lE f l)
 |[],j=>by simp [fG,lE]
 |x::l,j=>by
  rw [fG]
  by_cases h:f x=0
  .
   have:lE f (x::l)=lE f l:=by simp [lE,h]
   rw [this]
   simp only [h,not_true_eq_false,if_false]
   exact sd f l (j+1)
  simp_all [lE]
theorem oO{α:Type}{f:α->Int}{l:List α}:lE f l=0↔∀x∈l,f x=0:=by
 induction l with
 |nil=>simp [lE]
 |cons x l ih=>
  grind [lE]
structure Sm(m:ae):Prop where
 d:(mD m).length≤1000
 r:∀r∈mD m,r.length≤1000/\∀l∈r,l.length≤1000
 g:(mG m).length≤1000
def lZ(m:ae):Int:=
 if¬((1≤mC m/\mC m≤5)/\(0≤mW m/\mW m≤3)/\(0≤mS m/\mS m≤3)/\1≤mH m/\mH m≤3) then 1
 else if(mD m).length=0 then 7 else if 6 < (mD m).length then 6 else if¬(lE (sw (mC m)) (mD m)=0) then lE (sw (mC m)) (mD m)
 else if 8 < (mG m).length then 6 else lE (HG m) (mG m)
theorem Kq{k:Nat}{m:ae}(hs:Sm m)(hk:1000 < k):mr k m=some (lZ m):=by
 unfold mr lZ;simp only [kG,bs];by_cases h1:1≤mC m/\mC m≤5
 .by_cases h2:0≤mW m/\mW m≤3
  .by_cases h3:0≤mS m/\mS m≤3
   .by_cases h4:1≤mH m/\mH m≤3
    .have e1:(1≤m.1/\m.1≤5)=True:=eq_true h1;have e2:(0≤m.2.1/\m.2.1≤3)=True:=eq_true h2;have e3:(0≤m.2.2.1/\m.2.2.1≤3)=True:=eq_true h3;have e4:(1≤m.2.2.2.1/\m.2.2.2.1≤3)=True:=eq_true h4;simp only [e1,e2,e3,e4,decide_true,not_true_eq_false,if_false,Bool.not_true,Bool.false_eq_true,bs,and_self,h1,h2,h3,h4];by_cases h5:(mD m).length=0
     .simp_all
     .rw [if_neg (show¬((m.2.2.2.2.1.length:Int) < 1) by grind),if_neg h5];by_cases h6:6 < (mD m).length
      .grind
      .rw [if_neg (show¬((6:Int) < (m.2.2.2.2.1.length:Int)) by grind),if_neg h6]
       have key:=np (f:=eZ k m) (mD m) (λ(_:Unit) j=>j) (λ_ _ x=>if¬(sw (mC m) x=0) then Except.error (sw (mC m) x) else .ok ()) (λ_ _=>True) (λr=>some r)
        (λn s j hj _=>by
         have hck:ck ((j:Int)+1)=some ((j:Int)+1):=dq (by omega) (by omega);have hr:=hs.r _ (List.getElem_mem hj);refine⟨?_,λ_ _=>trivial⟩;have hj':(j:Int) < (m.2.2.2.2.1.length:Int):=Int.ofNat_lt.2 hj;have hg:aQ m.2.2.2.2.1 (j:Int)=some (mD m)[j]:=eH hj;simp only [eZ,hj',if_true,hg,bs,Kp h1 hk hr.1 hr.2];grind)
        (λn s _=>by
         unfold eZ;simp_all) (n:=k) (s0:=()) (by omega) trivial
       rw [show eZ k m k 0=_ from key,sd];by_cases h7:lE (sw (mC m)) (mD m)=0
       .rw [if_pos h7,mB,show(if¬(lE (sw (mC m)) (mD m)=0) then lE (sw (mC m)) (mD m) else if 8 < (mG m).length then 6 else lE (HG m) (mG m))=(if 8 < (mG m).length then 6 else lE (HG m) (mG m)) from if_neg (λhn=>hn h7)];by_cases h8:8 < (mG m).length
        .grind
        .rw [if_neg (show¬((8:Int) < (m.2.2.2.2.2.length:Int)) by grind),if_neg h8]
         have key:=np (f:=eY k m) (mG m) (λ(_:Unit) j=>j) (λ_ _ x=>if¬(HG m x=0) then Except.error (HG m x) else .ok ()) (λ_ _=>True) (λr=>some r)
          (λn s j hj _=>by
           have hck:ck ((j:Int)+1)=some ((j:Int)+1):=dq (by omega) (by omega);refine⟨?_,λ_ _=>trivial⟩;have hj':(j:Int) < (m.2.2.2.2.2.length:Int):=Int.ofNat_lt.2 hj;have hg:aQ m.2.2.2.2.2 (j:Int)=some (mG m)[j]:=eH hj;simp only [eY,hj',if_true,hg,bs,N8 h1];grind)
          (λn s _=>by
           simp_all [eY,if_neg,Int.lt_irrefl]) (n:=k) (s0:=()) (by omega) trivial
         rw [show eY k m k 0=_ from key,sd];by_cases h9:lE (HG m) (mG m)=0
         .rw [if_pos h9,mB,h9]
         .rw [if_neg h9,qV]
       .rw [if_neg h7,qV,if_pos h7]
    grind
   grind
  grind
 grind
end Go.Proofs.YtcollhgigbijkaaGreat
set_option linter.unusedVariables false
set_option linter.unusedSimpArgs false
namespace Go.Proofs.YtcollhgigbijkaaGreat
open K Go Go.Proofs
theorem uc{r:List (List Int)}{l:List Int}(h:r.flatten.Nodup)(hl:l∈r):l.Nodup:=by
 grind
theorem I7{σ:Type}{bad:σ->Int->Option Int}{add:σ->Int->σ}{x:Int}{l:List Int}{s:σ}{e:Int}(h:bad s x=some e):wk bad add (x::l) s= .error e:=by rw [wk,h]
theorem I4{σ:Type}{bad:σ->Int->Option Int}{add:σ->Int->σ}{x:Int}{l:List Int}{s:σ}(h:bad s x=none):wk bad add (x::l) s=wk bad add l (add s x):=by rw [wk,h]
theorem Vd.of{m:ae}(h:lZ m=0):Vd m:=by
 unfold lZ at h;by_cases h1:(1≤mC m/\mC m≤5)/\(0≤mW m/\mW m≤3)/\(0≤mS m/\mS m≤3)/\1≤mH m/\mH m≤3
 .rw [if_neg (λhn=>hn h1)] at h;by_cases h2:(mD m).length=0
  .omega
  .rw [if_neg h2] at h;by_cases h3:6 < (mD m).length
   .omega
   .rw [if_neg h3] at h;by_cases h4:lE (sw (mC m)) (mD m)=0
    .rw [if_neg (λhn=>hn h4)] at h;by_cases h5:8 < (mG m).length
     .omega
     .rw [if_neg h5] at h;have hd:=λr hr=>wq.1 (oO.1 h4 r hr);have hx:∀r∈mD m,∀l∈r,∀x∈l,0≤x/\x < mC m:=λr hr l hl x hx=>(hd r hr).2.2 x (List.mem_flatten.2 ⟨l,hl,hx⟩)
      exact⟨h1.1.1,h1.1.2,h1.2.1.1,h1.2.1.2,h1.2.2.1.1,h1.2.2.1.2,h1.2.2.2.1,h1.2.2.2.2,by omega,by omega,λr hr=>(hd r hr).1,λr hr l hl=>by
       have hn:l.Nodup:=uc (hd r hr).2.1 hl;have:=rH (mC m).toNat l hn λx hxx=>by grind
       omega,hx,λr hr=>(hd r hr).2.1,by omega,λg hg=>by
        grind [oO,HG]⟩
    omega
 omega
theorem Vd.chk{m:ae}(v:Vd m):lZ m=0:=by
 unfold lZ;have h1:(1≤mC m/\mC m≤5)/\(0≤mW m/\mW m≤3)/\(0≤mS m/\mS m≤3)/\1≤mH m/\mH m≤3:=⟨⟨v.c1,v.c5⟩,⟨v.w0,v.w3⟩,⟨v.s0,v.s3⟩,v.h1,v.h3⟩
 have h4:lE (sw (mC m)) (mD m)=0:=oO.2 λr hr=>wq.2 ⟨v.r3 r hr,v.nd r hr,λx hx=>by
  obtain⟨l,hl,hx⟩:=List.mem_flatten.1 hx;exact v.x5 r hr l hl x hx⟩
 have h9:lE (HG m) (mG m)=0:=oO.2 λg hg=>by
  have:=v.gl g hg;unfold HG;omega
 have d1:=v.d1;have d6:=v.d6;have g8:=v.g8;omega
theorem Vd.sm{m:ae}(v:Vd m):Sm m:=⟨by have:=v.d6;omega,λr hr=>⟨by have:=v.r3 r hr;omega,λl hl=>by have:=v.l5 r hr l hl;omega⟩,by have:=v.g8;omega⟩
def uY(C:Int)(p:Option Int)(x:Int):Option Int:=if¬(0≤x/\x < C) then some 3 else if p.any (λy=>decide (x≤y)) then some 5 else none
def Lm(C:Int)(p:Option Int×Int)(x:Int):Option Int:=uY C p.1 x
def O8(p:Option Int×Int)(x:Int):Option Int×Int:=(some x,u4 p.2 x)
def Lx(p:Option Int)(x:Int):Option Int:=some x
def sD(C:Int)(b:List Int):Int:=match wk (uY C) Lx b none with | .error e=>e | .ok _=>0
def ce(b:List Int):Int:=b.foldl u4 0
theorem MO{C:Int}{p:Option Int}{x:Int}(h:uY C p x=none):(0≤x/\x < C)/\p.any (λy=>decide (x≤y))=false:=by
 unfold uY at h;grind
theorem C3{C:Int}:∀(b:List Int) (p:Option Int) (s:Int),(∃e,wk (Lm C) O8 b (p,s)= .error e/\wk (uY C) Lx b p= .error e)\/∃q,wk (Lm C) O8 b (p,s)= .ok (q,b.foldl u4 s)/\wk (uY C) Lx b p= .ok q
 |[],p,s=>.inr ⟨p,rfl,rfl⟩
 |x::b,p,s=>by
  cases e:uY C p x with
  |some c=>exact .inl ⟨c,I7 e,I7 e⟩
  |none=>
   rw [I4 (bad:=Lm C) (s:=(p,s)) (x:=x) e,I4 e]
   exact C3 (C:=C) b (some x) (u4 s x)
theorem yY{k:Nat}{m:ae}(hC:1≤mC m/\mC m≤5){b:List Int}(hk:b.length < k)(hb:b.length≤1000):
 eV k m b k (0,0)=some (if sD (mC m) b=0 then .ok (ce b) else .error (none,0,sD (mC m) b)):=by
 have key:=np (T:=Int×Int) (f:=eV k m b) b (λ(s:Option Int×Int) j=>(s.2,j)) (λs _ x=>match Lm (mC m) s x with |some e=>Except.error e |none=>.ok (O8 s x)) (λj s=>hP s.2/\s.1=if j=0 then none else b[j-1]?) (λr=>some (match r with | .error e=>Except.error (none,0,e) | .ok s=>.ok s.2))
  (λn s j hj hs=>by
   have hck:ck ((j:Int)+1)=some ((j:Int)+1):=dq (by omega) (by omega);have hc:ck (m.1 - 1)=some (m.1 - 1):=Rf hC;refine⟨?_,λs' e=>?_⟩
   .simp only [eV,Int.ofNat_lt,hj,if_true,eH hj,bs,hc,kG];generalize b[j]=x;rw [show Lm (mC m) s x=uY (mC m) s.1 x from rfl];by_cases h:0≤x/\x < mC m
    .have h':0≤x/\x≤m.1 - 1:=⟨h.1,by grind⟩;have eb:uY (mC m) s.1 x=if s.1.any (λy=>decide (x≤y)) then some 5 else none:=by unfold uY;simp_all
     have ep:(if(0:Int) < (j:Int) then((ck ((j:Int) - 1)).bind λx12=>(aQ b x12).bind λx13=>some (decide (x≤x13))) else some false)=some (s.1.any λy=>decide (x≤y)):=by
      rw [hs.2];by_cases h0:j=0
      .simp_all
      .have c1:ck ((j:Int) - 1)=some ((j - 1:Nat):Int):=by grind [dq]
       rw [if_pos (by omega),c1,bs,eH (by omega),bs,if_neg h0,List.getElem?_eq_getElem (by omega)];rfl
     rw [eb];simp only [h',and_self,decide_true,not_true_eq_false,if_false,bs];rw [ep,bs];cases s.1.any λy=>decide (x≤y) with
     |true=>simp_all
     |false=>
      simp only [Bool.false_eq_true,if_false,(lG (k:=k) hs.1 h.1 (by omega)).1,bs,hck];rfl
    .have h':¬(0≤x/\x≤m.1 - 1):=λhh=>h ⟨hh.1,by grind⟩;have eb:uY (mC m) s.1 x=some 3:=by unfold uY;simp_all
     simp_all
   .cases e2:Lm (mC m) s b[j] with
    |some c=>simp_all
    |none=>
     rw [e2] at e;cases e;have hx:=MO e2;exact⟨(lG (k:=0) hs.1 hx.1.1 (by omega)).2.1,by show some b[j]=if j+1=0 then none else b[j+1 - 1]?;simp_all⟩)
  (λn s _=>by simp [eV]) (n:=k) (s0:=(none,0)) hk ⟨nZ,rfl⟩
 rw [show eV k m b k (0,0)=_ from key]
 have e1:fG (λ(s:Option Int×Int) _ x=>match Lm (mC m) s x with |some e=>Except.error e |none=>.ok (O8 s x)) 0 b (none,0)=wk (Lm (mC m)) O8 b (none,0):=wK (bad:=Lm (mC m)) (add:=O8) b 0 (none,0)
 rw [e1]
 unfold sD
 have z:∀(l:List Int) (p:Option Int),wk (uY (mC m)) Lx l p≠.error 0:=by
  intro l
  induction l with
  |nil=>intro p h;cases h
  |cons x l ih=>
   intro p h;rw [wk] at h;cases hb:uY (mC m) p x with
   |some c=>
    grind [uY]
   |none=>grind
 rcases C3 (C:=mC m) b none 0 with⟨e,h1,h2⟩ |⟨q,h1,h2⟩
 .
  grind
 .
  rw [h1,h2];rfl
end Go.Proofs.YtcollhgigbijkaaGreat
set_option linter.unusedVariables false
set_option linter.unusedSimpArgs false
namespace Go.Proofs.YtcollhgigbijkaaGreat
open K Go Go.Proofs
theorem qq{C:Int}(hC:C≤5):∀(b:List Int) (s:Int),hP s->(∀x∈b,0≤x/\x < C)->hP (b.foldl u4 s)/\∀i:Nat,dC (b.foldl u4 s) i↔dC s i\/(i:Int)∈b
 |[],s,hs,_=>⟨hs,λi=>by simp⟩
 |x::b,s,hs,hb=>by
  have hx:=hb x mem_cons_self
  have hw:=lG (k:=0) hs hx.1 (by omega)
  have:=qq hC b (u4 s x) hw.2.1 λy hy=>hb y (mem_cons_of_mem _ hy)
  grind
structure Bg(C:Int)(b:List Int):Prop where
 rng:∀x∈b,0≤x/\x < C
 asc:b.Pairwise (· < ·)
theorem An{C:Int}:∀{b:List Int} {p:Option Int},(∃q,wk (uY C) Lx b p= .ok q)↔(∀x∈b,0≤x/\x < C)/\b.Pairwise (· < ·)/\∀y,p=some y->∀x∈b.head?,y < x
 |[],p=>by simp [wk]
 |x::b,p=>by
  cases e:uY C p x with
  |some c=>
   rw [I7 e]
   constructor
   .
    simp_all
   .
    rintro⟨h1,h2,h3⟩
    exfalso
    unfold uY at e
    rw [if_neg (λhn=>hn (h1 x mem_cons_self))] at e
    cases p with
    |none=>cases e
    |some y=>
     have:=h3 y rfl x (by simp)
     grind
  |none=>
   have hx:=MO e
   rw [I4 e,An (b:=b) (p:=Lx p x)]
   constructor
   .
    rintro⟨h1,h2,h3⟩
    refine⟨λy hy=>?_,?_,λy hy z hz=>?_⟩
    .
     grind
    .
     rw [pairwise_cons]
     refine⟨λy hy=>?_,h2⟩
     cases b with
     |nil=>cases hy
     |cons z b=>
      have hz:=h3 x rfl z (by simp)
      grind [pairwise_cons]
    simp_all
   simp_all [pairwise_cons,mem_cons_of_mem,Lx,mem_of_mem_head?]
theorem C4{C:Int}:∀{l:List Int} {p:Option Int},wk (uY C) Lx l p≠.error 0
 |[],p,h=>by cases h
 |x::l,p,h=>by
  cases hb:uY C p x with
  |some c=>
   rw [I7 hb] at h
   grind [uY]
  |none=>rw [I4 hb] at h;exact C4 h
theorem oZ{C:Int}{b:List Int}:sD C b=0↔Bg C b:=by
 unfold sD;constructor
 .intro h;cases e:wk (uY C) Lx b none with
  |error c=>simp_all [C4]
  |ok q=>have:=An.1 ⟨q,e⟩;exact⟨this.1,this.2.1⟩
 .rintro⟨h1,h2⟩;obtain⟨q,e⟩:=(An (p:=none)).2 ⟨h1,h2,λy hy=>by cases hy⟩;rw [e]
theorem Bg.set{C:Int}(hC:C≤5){b:List Int}(h:Bg C b):hP (ce b)/\∀c:Int,0≤c->mJ (ce b) c=decide (c∈b):=by
 have:=qq hC b 0 nZ h.rng;refine⟨this.1,λc hc=>?_⟩;unfold mJ;have e:((c.toNat:Nat):Int)=c:=by omega
 have h2:=this.2 c.toNat;rw [e] at h2;refine decide_eq_decide.2 ?_;show dC (b.foldl u4 0) c.toNat↔_;simp_all [dC]
def uX(m:ae)(i:Nat):Int:=match i with |0=>mC m - 1 |1=>((mD m).length:Int) - 1 |_=>(mD m).length
def ye(n:Int)(l:List Int):Bool:=l.all λx=>decide (0≤x/\x≤n)
theorem pE{k:Nat}{m:ae}(v:Vd m){i:Nat}(hi:i < 3){l:List Int}(hk:l.length < k)(hl:l.length≤1000):
 dz k m (i:Int) l k 0=some (if ye (uX m i) l then .ok () else .error (none,0,3)):=by
 have c1:=v.c1
 have c5:=v.c5
 have d6:=v.d6
 have d1:=v.d1
 have key:=np (T:=Int) (f:=dz k m (i:Int) l) l (λ(_:Unit) j=>j) (λ_ _ x=>if 0≤x/\x≤uX m i then .ok () else Except.error ((none,0,3):Option ae×Int×Int)) (λ_ _=>True) (λr=>some r)
  (λn s j hj _=>by
   have hck:ck ((j:Int)+1)=some ((j:Int)+1):=dq (by omega) (by omega);have hc:ck (m.1 - 1)=some (mC m - 1):=Rf ⟨c1,c5⟩;have hd:ck ((m.2.2.2.2.1.length:Int) - 1)=some (((mD m).length:Int) - 1):=dq (by omega) (by grind)
   have hg:aQ [mC m - 1,((mD m).length:Int) - 1,((mD m).length:Int)] (i:Int)=some (uX m i):=by
    have:i=0\/i=1\/i=2:=by omega
    rcases this with rfl |rfl |rfl <;> rfl
   refine⟨?_,λ_ _=>trivial⟩;simp only [dz,Int.ofNat_lt,hj,if_true,eH hj,bs,hc,hd];rw [show aQ [mC m - 1,((mD m).length:Int) - 1,(m.2.2.2.2.1.length:Int)] (i:Int)=some (uX m i) from hg,bs,kG,bs];grind)
  (λn s _=>by simp [dz]) (n:=k) (s0:=()) hk trivial
 rw [show dz k m (i:Int) l k 0=_ from key]
 congr 1
 have:∀(l:List Int) (j:Nat),fG (λ(_:Unit) _ x=>if 0≤x/\x≤uX m i then .ok () else Except.error ((none,0,3):Option ae×Int×Int)) j l ()=if ye (uX m i) l then .ok () else .error (none,0,3):=by
  intro l
  induction l with
  |nil=>intro j;rfl
  |cons x l ih=>
   intro j;rw [fG];by_cases h:0≤x/\x≤uX m i
   .simp_all [if_pos,ye,uX,all_cons,and_self,decide_true,Bool.true_and]
   .rw [if_neg h];have:ye (uX m i) (x::l)=false:=by simp only [ye,all_cons,h,decide_false,Bool.false_and]
    simp_all
 simp_all
theorem yr{k:Nat}{m:ae}(v:Vd m)(hk:10≤k):∀n:Nat,n≤32->vA k m n=some ()
 |0,_=>rfl
 |n+1,h=>by
  have e:IntKind.u8.wrap (n:Int)=(n:Int):=s7 (by omega)
  unfold vA
  rw [yr v hk n (by omega),bs,e,oR v hk ⟨by omega,by omega⟩,bs]
theorem Jb{k:Nat}{m:ae}(v:Vd m)(hk:10≤k):eu k m=some ():=by
 have c1:=v.c1;have c5:=v.c5;unfold eu
 have hc:m.1=1\/m.1=2\/m.1=3\/m.1=4\/m.1=5:=by
  grind
 have e:0≤oc .i64 1 m.1/\oc .i64 1 m.1≤32:=by
  rcases hc with h |h |h |h |h <;> rw [h] <;> decide
 rw [if_pos ⟨by omega,by omega⟩];simp_all [yr]
def JI(m:ae)(cs ds ns:List Int):Bool:=ye (uX m 0) cs && ye (uX m 1) ds && ye (uX m 2) ns
theorem uf{k:Nat}{m:ae}{b cs ds ns:List Int}(hs:Sm m)(hk:1010≤k)(hb:b.length≤1000)(h1:cs.length≤1000)(h2:ds.length≤1000)(h3:ns.length≤1000):
 jF k m b cs ds ns=some (if¬(lZ m=0) then(none,0,lZ m) else if¬(sD (mC m) b=0) then(none,0,sD (mC m) b) else if JI m cs ds ns then(some m,ce b,0) else(none,0,3)):=by
 unfold jF
 rw [Kq hs (by omega),bs]
 by_cases hc:lZ m=0
 .
  have v:=Vd.of hc;rw [if_neg (λhn=>hn hc),if_neg (λhn=>hn hc),yY ⟨v.c1,v.c5⟩ (by omega) hb];by_cases hg:sD (mC m) b=0
  .rw [if_pos hg,mB,if_neg (λhn=>hn hg)];obtain⟨n,rfl⟩:∃n,k=n+4:=⟨k - 4,by omega⟩;have e0:=pE v (k:=n+4) (i:=0) (by omega) (l:=cs) (by omega) h1;have e1:=pE v (k:=n+4) (i:=1) (by omega) (l:=ds) (by omega) h2;have e2:=pE v (k:=n+4) (i:=2) (by omega) (l:=ns) (by omega) h3;have g0:aQ [cs,ds,ns] (0:Int)=some cs:=rfl;have g1:aQ [cs,ds,ns] (1:Int)=some ds:=rfl;have g2:aQ [cs,ds,ns] (2:Int)=some ns:=rfl;have k0:ck ((0:Int)+1)=some 1:=rfl;have k1:ck ((1:Int)+1)=some 2:=rfl;have k2:ck ((2:Int)+1)=some 3:=rfl;have ln:(([cs,ds,ns]:List (List Int)).length:Int)=3:=rfl
   have s0:cO (n+4) m cs ds ns (n+4) 0=if ye (uX m 0) cs then cO (n+4) m cs ds ns (n+3) 1 else some (.error (none,0,3)):=by
    rw [cO,ln,if_pos (by decide),g0,bs,show dz (n+4) m 0 cs (n+4) 0=_ from e0];cases ye (uX m 0) cs with
    |true=>simp_all [if_true,mB,bs]
    |false=>simp_all [Bool.false_eq_true,if_false,qV]
   have s1:cO (n+4) m cs ds ns (n+3) 1=if ye (uX m 1) ds then cO (n+4) m cs ds ns (n+2) 2 else some (.error (none,0,3)):=by
    rw [cO,ln,if_pos (by decide),g1,bs,show dz (n+4) m 1 ds (n+4) 0=_ from e1];cases ye (uX m 1) ds with
    |true=>simp_all [if_true,mB,bs]
    |false=>simp_all [Bool.false_eq_true,if_false,qV]
   have s2:cO (n+4) m cs ds ns (n+2) 2=if ye (uX m 2) ns then cO (n+4) m cs ds ns (n+1) 3 else some (.error (none,0,3)):=by
    rw [cO,ln,if_pos (by decide),g2,bs,show dz (n+4) m 2 ns (n+4) 0=_ from e2];cases ye (uX m 2) ns with
    |true=>simp_all [if_true,mB,bs]
    |false=>simp_all [Bool.false_eq_true,if_false,qV]
   have s3:cO (n+4) m cs ds ns (n+1) 3=some (.ok ()):=by
    rw [cO,ln,if_neg (by decide)]
   rw [s0,s1,s2,s3];unfold JI
   have fin:((iM (n+4) m).bind λr32=>fQ r32 none (λq33=>(eu (n+4) q33).bind λr35=>some (some q33,ce b,(0:Int))))=some (some m,ce b,0):=by
    grind [iM,bs,qS,Jb]
   cases ye (uX m 0) cs with
   |false=>simp_all [Bool.false_eq_true,if_false,Bool.false_and,qV]
   |true=>
    cases ye (uX m 1) ds with
    |false=>simp_all [if_true,Bool.false_eq_true,if_false,Bool.true_and,Bool.false_and,qV]
    |true=>
     cases ye (uX m 2) ns with
     |false=>simp_all [if_true,Bool.false_eq_true,if_false,Bool.true_and,Bool.and_false,qV]
     |true=>simp_all [if_true,Bool.true_and,mB]
  .rw [if_neg hg,qV,if_pos hg]
 simp_all
end Go.Proofs.YtcollhgigbijkaaGreat
set_option linter.unusedVariables false
set_option linter.unusedSimpArgs false
namespace Go.Proofs.YtcollhgigbijkaaGreat
open K Go Go.Proofs
def o9(m:ae)(B:Int->Bool)(n:Nat):List Int:=(List.range (mC m).toNat).map λ(c:Nat)=>jm m B n (c:Int)
def jO(m:ae)(B:Int->Bool):List (List Int):=(List.range ((mD m).length+1)).map (o9 m B)
theorem Gf{m:ae}{B:Int->Bool}{n:Nat}{c:Int}(h0:0≤c)(h1:c < mC m):aQ (o9 m B n) c=some (jm m B n c):=by
 unfold o9;rw [aQ,if_pos h0,List.getElem?_map,List.getElem?_range (by omega)];grind
theorem ww{m:ae}{B:Int->Bool}{n:Nat}(h:n≤(mD m).length):aQ (jO m B) (n:Int)=some (o9 m B n):=by
 unfold jO;rw [aQ,if_pos (by omega),List.getElem?_map,Int.toNat_natCast,List.getElem?_range (by omega)];rfl
theorem FQ{f:Int->Int}{C:Int}(h0:0≤C)(h5:C≤5):List.take C.toNat (ku f)=(List.range C.toNat).map λ(c:Nat)=>f (c:Int):=by
 have:C=0\/C=1\/C=2\/C=3\/C=4\/C=5:=by omega
 rcases this with rfl |rfl |rfl |rfl |rfl |rfl <;> rfl
theorem A7{k:Nat}{m:ae}{b:List Int}(hs:Sm m)(hk:1010≤k)(hb:b.length≤1000):
 iq k m b=some (if¬(lZ m=0) then([],lZ m) else if¬(sD (mC m) b=0) then([],sD (mC m) b) else(jO m λc=>decide (c∈b),0)):=by
 unfold iq
 rw [uf hs hk hb (by simp) (by simp) (by simp),bs]
 by_cases hc:lZ m=0
 .
  have v:=Vd.of hc;by_cases hg:sD (mC m) b=0
  .have hB:=(oZ.1 hg).set v.c5;have ho:JI m [] [] []=true:=rfl;have c1:=v.c1;have c5:=v.c5;have d6:=v.d6;simp only [hc,hg,ho,not_true_eq_false,if_false,if_true,qS];rw [oR v (by omega) hB.1,bs]
   have hd:ck ((m.2.2.2.2.1.length:Int)+1)=some (((mD m).length+1:Nat):Int):=by
    rw [dq (by omega) (by grind)];rfl
   rw [hd,bs]
   have key:=ff (T:=List (List Int)×Int) (f:=d5 k m (cr (E1 m (mJ (ce b)))) (((mD m).length+1:Nat):Int)) (List.range ((mD m).length+1)) (λ(s:List (List Int)) j=>(s,j)) (λs j _=>s++[o9 m (mJ (ce b)) j]) (λj s=>s=(List.range j).map (o9 m (mJ (ce b)))) (λs=>some s)
    (λn s j hj hs=>by
     rw [length_range] at hj;have hck:ck ((j:Int)+1)=some ((j:Int)+1):=dq (by omega) (by omega);have hjlt:(j:Int) < (((mD m).length+1:Nat):Int):=by omega
     have hp:cK (0≤m.1/\m.1≤5)=some ():=dO ⟨by grind,c5⟩
     have ht:List.take (Int.toNat m.1) (ku (E1 m (mJ (ce b)) j))=o9 m (mJ (ce b)) j:=by
      rw [FQ (by omega) c5];unfold o9;refine List.map_congr_left λc hc=>?_;have:=List.mem_range.1 hc;exact xF v (by omega) (by omega) (by omega)
     have hl:(o9 m (mJ (ce b)) j).length≤5:=by grind
     have hsl:s.length=j:=by simp_all
     have hcl:gV k (o9 m (mJ (ce b)) j)=some (o9 m (mJ (ce b)) j):=by
      unfold gV;rw [dO (by show _≤_;omega),bs]
     have hok:cK (cf (length s+length [o9 m (mJ (ce b)) j]))=some ():=dO (by grind [cf]);refine⟨?_,?_⟩
     .simp only [d5,hjlt,if_true,xG (F:=E1 m (mJ (ce b))) (show j < 7 by omega),bs,hp,ht,hcl,hok,hck]
     simp_all [List.range_succ,List.map_append])
    (λn s hs=>by
     simp_all [length_range,d5,if_neg,Int.lt_irrefl]) (n:=k) (s0:=[]) (by grind) rfl
   rw [show d5 k m (cr (E1 m (mJ (ce b)))) (((mD m).length+1:Nat):Int) k ([],0)=_ from key.1,bs,key.2,length_range]
   have hcs:(List.range ((mD m).length+1)).map (o9 m (mJ (ce b)))=jO m λc=>decide (c∈b):=by
    unfold jO;refine List.map_congr_left λn hn=>?_;unfold o9;refine List.map_congr_left λc hc=>?_
    have hage:∀(n:Nat) (c:Int),0≤c->c < mC m->jm m (mJ (ce b)) n c=jm m (λc=>decide (c∈b)) n c:=by
     intro n
     induction n with
     |zero=>simp_all [jm]
     |succ n ih=>
      intro c h0 h1;unfold jm;cases e:C0 m n c with
      |none=>simp_all
      |some l=>
       have hb:=(uF v e).2;grind
    simp_all
   rw [hcs]
  simp_all [not_true_eq_false,not_false_eq_true,if_false,if_true,lT]
 simp_all [not_false_eq_true,if_true,lT]
end Go.Proofs.YtcollhgigbijkaaGreat
set_option linter.unusedVariables false
set_option linter.unusedSimpArgs false
namespace Go.Proofs.YtcollhgigbijkaaGreat
open K Go Go.Proofs
theorem Lo.mono{l:bO}{m n:Int}(h:Lo l m)(hn:m≤n):Lo l n:=⟨h.1,Int.le_trans h.2 hn⟩
theorem TR{α:Type}{l:List α}{x:α}{n:Nat}(h:l.length≤n)(hn:n≤1000000):cf (length l+length [x]):=by
 show length l+length [x]≤4294967296;grind
theorem A5{k:Nat}(hk:50≤k){l:bO}{m:Int}{n:Nat}(hl:Lo l m)(hm:0≤m/\m≤1000)(hn:n≤8):W (gz k l (n:Int)) λr=>Lo r.2 (m+10)/\r.1.length=n/\(∀x∈r.1,0≤x/\x < (n:Int))/\r.1.Nodup:=by
 unfold gz;refine W.bind (R:=λr=>Lo (r.2.1,r.2.2.1,r.2.2.2) (m+10)/\r.1.length=n/\(∀x∈r.1,0≤x/\x < (n:Int))/\r.1.Nodup) ?_ λr h=>W.ret h
 refine W.loop (f:=dT k (n:Int)) (λq y=>∃j:Nat,y.2.2.2.2=(j:Int)/\j≤n/\q=n - j/\Lo (y.1,y.2.1,y.2.2.1) (m+j)/\y.2.2.2.1.length=j/\(∀x∈y.2.2.2.1,0≤x/\x < (j:Int))/\y.2.2.2.1.Nodup) ?_ n k _ (by omega)
  ⟨0,rfl,by omega,by omega,by simp_all,rfl,by simp,by simp⟩
 rintro aJ q ⟨nums,d,s,o,y⟩ ⟨j,hj,hle,hq,hlo,hlen,hx,hnd⟩ ih;simp only at hj hlo hlen hx hnd;subst hj;unfold dT;dsimp only;refine W.ite (λhlt=>?_) (λhge=>W.ret ⟨hlo.mono (by omega),by grind,λx hx'=>by grind,hnd⟩);obtain⟨r5,e5,a5,b5,c5⟩:=kp (k:=k) (n:=(j:Int)) hlo (by omega) (by omega);have b5:=b5 (by omega);have ho:(o++[(j:Int)]).length=j+1:=by simp [hlen]
 have hr5:r5.1.toNat < (o++[(j:Int)]).length:=by omega
 have hjl:j < (o++[(j:Int)]).length:=by omega
 have hgj:(o++[(j:Int)])[j]=(j:Int):=by
  grind
 rw [e5,bs,dO (TR (n:=8) (by omega) (by omega)),bs,xo a5 hr5,bs,eH (by omega),bs];have hgs:aQ (List.set (o++[(j:Int)]) (Int.toNat (j:Int)) (o++[(j:Int)])[r5.1.toNat]) r5.1=some ((List.set (o++[(j:Int)]) (Int.toNat (j:Int)) (o++[(j:Int)])[r5.1.toNat])[r5.1.toNat]'(by grind)):=xo a5 (by grind);rw [hgs,bs,dq (by omega) (by omega),bs]
 have hp:(List.set (List.set (o++[(j:Int)]) (Int.toNat (j:Int)) (o++[(j:Int)])[r5.1.toNat]) (Int.toNat r5.1) (j:Int)).Perm (o++[(j:Int)]):=by
  have:= @set_set_perm Int (o++[(j:Int)]) j r5.1.toNat hjl hr5;rw [hgj] at this;exact this
 refine ih (q - 1) (_,_,_,_,(j:Int)+1) (by omega) ⟨j+1,by grind,by omega,by omega,c5.mono (by omega),by simp [hlen],λx hx'=>?_,hp.nodup_iff.2 ?_⟩
 .grind
 grind
theorem HT{out:List (List Int)}{i:Nat}{x:Int}(h:i < out.length):(out.set i (out[i]++[x])).flatten.Perm (out.flatten++[x]):=by
 have e1:out=out.take i++out[i]::out.drop (i+1):=by simp_all
 grind
structure Rl(C:Int)(r:List (List Int)):Prop where
 r3:r.length≤3
 x5:∀l∈r,∀x∈l,0≤x/\x < C
 nd:r.flatten.Nodup
theorem Rl.l5{C:Int}(hC:0≤C/\C≤5){r:List (List Int)}(h:Rl C r):∀l∈r,l.length≤5:=λl hl=>by
 have:=rH C.toNat l (uc h.nd hl) λx hx=>by have:=h.x5 l hl x hx;omega
 omega
theorem Gm{k:Nat}(hk:50≤k){l:bO}{m:Int}{n:Nat}(hl:Lo l m)(hm:0≤m/\m≤900)(hn:n≤5):
 W (jJ k l (n:Int)) λr=>Lo r.2 (m+30)/\Rl (n:Int) r.1:=by
 unfold jJ
 refine W.bind (CE (l:=(l.1,l.2.1,l.2.2)) hl (by omega) (by omega) (by omega) (by omega)) λr1 h1=>?_
 refine W.chk ⟨by omega,by show _≤_;omega⟩ ?_
 refine W.bind (A5 hk (l:=(r1.2.1,r1.2.2.1,r1.2.2.2)) (m:=m+1) (n:=n) h1.2.2 (by omega) (by omega)) λr4 h4=>?_
 obtain⟨lo4,len4,rng4,nd4⟩:=h4
 refine W.bind (R:=λx=>Lo (x.1,x.2.1,x.2.2.1) (m+30)/\Rl (n:Int) x.2.2.2) ?_ λx hx=>W.ret hx
 refine W.loop (f:=fq k r4) (λq y=>∃j:Nat,y.2.2.2.1=(j:Int)/\j≤n/\q=n - j/\Lo (y.1,y.2.1,y.2.2.1) (m+11+2 * j)/\y.2.2.2.2.length=r1.1.toNat/\(∀x∈y.2.2.2.2.flatten,x∈r4.1.take j)/\y.2.2.2.2.flatten.Nodup) ?_ n k _ (by omega)
  ⟨0,rfl,by omega,by omega,lo4.mono (by omega),by simp,by simp,by simp⟩
 rintro aJ q ⟨nums,d,s,y,out⟩ ⟨j,hj,hle,hq,hlo,hlen,hx,hnd⟩ ih
 simp only at hj hlo hlen hx hnd
 subst hj
 unfold fq
 dsimp only
 refine W.ite (λhlt=>?_) (λhge=>W.ret ⟨hlo.mono (by omega),by grind,λl hl x hxx=>rng4 x (mem_of_mem_take (hx x (List.mem_flatten.2 ⟨l,hl,hxx⟩))),hnd⟩)
 have hj:j < r4.1.length:=by omega
 have hsub:∀x∈r4.1.take j,x∈r4.1.take (j+1):=λx hh=>by grind
 refine W.bind (R:=λx=>Lo (x.1,x.2.1,x.2.2.1) (m+11+2 * j+2)/\x.2.2.2.length=r1.1.toNat/\(∀z∈x.2.2.2.flatten,z∈r4.1.take (j+1))/\x.2.2.2.flatten.Nodup) ?_ λx9 h9=>?_
 .
  refine W.bind (wV (l:=(nums,d,s)) hlo (by omega) (by omega) (by omega)) λr11 h11=>?_;refine W.ite (λ_=>W.ret ⟨h11.mono (by omega),hlen,λz hz=>hsub z (hx z hz),hnd⟩) (λ_=>?_);refine W.ck (by omega) (by omega) ?_;refine W.bind (kp (l:=(r11.2.1,r11.2.2.1,r11.2.2.2)) h11 (by omega) (by omega)) λr13 h13=>?_;have b13:=h13.2.1 (by omega);have hi:r13.1.toNat < out.length:=by omega
  rw [xo h13.1 hi,bs,eH hj,bs]
  have hxj:r4.1[j]∉out.flatten:=λhin=>by
   grind [List.getElem_of_mem,length_take,getElem_inj]
  have hlen2:(out[r13.1.toNat]).length≤5:=by
   have:=rH n _ (uc hnd (List.getElem_mem hi)) λx hxx=>rng4 x (mem_of_mem_take (hx x (List.mem_flatten.2 ⟨_,List.getElem_mem hi,hxx⟩)));omega
  rw [dO (by grind [cf]),bs];have hp:=HT (x:=r4.1[j]) hi;refine W.ret ⟨h13.2.2.mono (by omega),by grind,λz hz=>?_,hp.nodup_iff.2 ?_⟩
  .grind [List.mem_singleton,take_add_one,List.getElem?_eq_getElem,List.mem_append_right]
  grind
 .
  refine W.ck (by omega) (by omega) ?_;exact ih (q - 1) (_,_,_,(j:Int)+1,_) (by omega) ⟨j+1,by grind,by omega,by omega,h9.1.mono (by omega),h9.2⟩
end Go.Proofs.YtcollhgigbijkaaGreat
set_option linter.unusedVariables false
set_option linter.unusedSimpArgs false
namespace Go.Proofs.YtcollhgigbijkaaGreat
open K Go Go.Proofs
theorem LG{c w s h:Int}{ds:List (List (List Int))}(hc:1≤c/\c≤5)(hw:0≤w/\w≤3)(hs:0≤s/\s≤3)(hh:1≤h/\h≤3)(d1:1≤ds.length)(d6:ds.length≤6)(hr:∀r∈ds,Rl c r):Vd (c,w,s,h,ds,[]):=
 ⟨hc.1,hc.2,hw.1,hw.2,hs.1,hs.2,hh.1,hh.2,d1,d6,λr h=>(hr r h).r3,λr h=>(hr r h).l5 ⟨by omega,hc.2⟩,λr h=>(hr r h).x5,λr h=>(hr r h).nd,by simp [mG],λg hg=>by cases hg⟩
theorem Br{k:Nat}{l:List Int}(h:l.length≤1000000):iT k l=some l:=by
 grind [iT,dO,TS,length_nil,bs]
theorem zD{k:Nat}{l:List (List Int)}(hk:l.length < k)(h1:l.length≤1000000)(h2:∀x∈l,x.length≤1000000):gZ k l=some l:=by
 unfold gZ
 have key:=ff (T:=List (List Int)×Int) (f:=dG k l) l (λ(s:List (List Int)) j=>(s,j)) (λs j x=>s++[x]) (λj s=>s=l.take j) (λs=>some s)
  (λn s j hj hs=>by
   have hck:ck ((j:Int)+1)=some ((j:Int)+1):=dq (by omega) (by omega);have hl:s.length=j:=by grind
   have hok:cK (cf (length s+length [l[j]]))=some ():=dO (by grind [cf]);refine⟨?_,?_⟩
   .simp_all [dG,Int.ofNat_lt,if_true,eH,bs,Br,List.getElem_mem]
   simp_all)
  (λn s hs=>by
   unfold dG;simp_all) (n:=k) (s0:=[]) hk (by simp)
 simp_all
theorem A4{k:Nat}(hk:50≤k){l:bO}{m:Int}{cs ds:Int}(hl:Lo l m)(hm:0≤m/\m≤400)(hc:1≤cs/\cs≤5)(hd:1≤ds/\ds≤6):
 W (jK k l cs ds) λr=>Lo r.2 (m+250)/\Vd r.1/\mG r.1=[]/\mC r.1≤cs/\((mD r.1).length:Int)≤ds:=by
 unfold jK
 refine W.bind (CE (l:=(l.1,l.2.1,l.2.2)) hl (by omega) (by omega) (by omega) (by omega)) λr2 h2=>?_
 refine W.bind (kp (l:=(r2.2.1,r2.2.2.1,r2.2.2.2)) h2.2.2 (by omega) (by omega)) λr3 h3=>?_
 have b3:=h3.2.1 (by omega)
 refine W.bind (GE (l:=(r3.2.1,r3.2.2.1,r3.2.2.2)) h3.2.2 (by omega) (by simp) (by simp)) λr4 h4=>?_
 refine W.bind (kp (l:=(r4.2.1,r4.2.2.1,r4.2.2.2)) h4.2 (by omega) (by omega)) λr5 h5=>?_
 have b5:=h5.2.1 (by omega)
 refine W.bind (GE (l:=(r5.2.1,r5.2.2.1,r5.2.2.2)) h5.2.2 (by omega) (by simp) (by simp)) λr6 h6=>?_
 refine W.bind (CE (l:=(r6.2.1,r6.2.2.1,r6.2.2.2)) h6.2 (by omega) (by omega) (by omega) (by omega)) λr7 h7=>?_
 refine W.bind (GE (l:=(r7.2.1,r7.2.2.1,r7.2.2.2)) h7.2.2 (by omega) (by simp) (by simp)) λr8 h8=>?_
 have w4:0≤r4.1/\r4.1≤3:=by
  grind
 have w6:0≤r6.1/\r6.1≤3:=by
  grind
 have w8:1≤r8.1/\r8.1≤3:=by
  grind
 have lo8:=h8.2
 refine W.bind (R:=λx=>Lo (x.2.1,x.2.2.1,x.2.2.2) (m+250)/\(1≤x.1.length/\(x.1.length:Int)≤ds)/\∀r∈x.1,Rl r2.1 r) ?_ λx hx=>W.ret ⟨hx.1,LG (by omega) w4 w6 w8 (by omega) (by omega) hx.2.2,rfl,h2.2.1,hx.2.1.2⟩
 refine W.bind (CE (l:=(r8.2.1,r8.2.2.1,r8.2.2.2)) lo8 (by omega) (by omega) (by omega) (by omega)) λr12 h12=>?_
 refine W.loop (f:=fu k r2) (λq y=>∃j:Nat,y.2.2.2.1.length=j/\y.2.2.2.2=r12.1 - j/\(j:Int)≤r12.1/\q=r12.1.toNat - j/\Lo (y.1,y.2.1,y.2.2.1) (m+10+33 * j)/\∀r∈y.2.2.2.1,Rl r2.1 r) ?_ r12.1.toNat k _ (by omega)
  ⟨0,rfl,by simp,by omega,by omega,h12.2.2.mono (by omega),by simp⟩
 rintro aJ q ⟨nums,d,s,out,y⟩ ⟨j,hj,hy,hle,hq,hlo,hr⟩ ih
 simp only at hj hy hlo hr
 subst hy
 unfold fu
 dsimp only
 refine W.ite (λhlt=>?_) (λhge=>W.ret ⟨hlo.mono (by omega),⟨by grind,by grind⟩,hr⟩)
 refine W.bind (R:=λx=>Lo (x.1,x.2.1,x.2.2.1) (m+10+33 * j+33)/\x.2.2.2.length=j+1/\∀r∈x.2.2.2,Rl r2.1 r) ?_ λx15 h15=>?_
 .
  refine W.bind (R:=λx=>Lo (x.1,x.2.1,x.2.2.1) (m+10+33 * j+1)/\(x.2.2.2=true->0 < out.length)) ?_ λx17 h17=>?_
  .refine W.ite (λh0=>?_) (λh0=>W.ret ⟨hlo.mono (by omega),λh=>by cases h⟩);grind [W.bind,wV,W.ret]
  .refine W.ite (λht=>?_) (λht=>?_)
   .have h0:=h17.2 ht;refine W.ck (by omega) (by omega) ?_;have hi:((out.length:Int) - 1)=((out.length - 1:Nat):Int):=by omega
    have hlt':out.length - 1 < out.length:=by omega
    rw [hi,eH hlt',bs];have hrl:=hr _ (List.getElem_mem hlt');have hl5:=hrl.l5 (by omega);have hr3:=hrl.r3;rw [zD (by omega) (by omega) (λx hx=>by grind),bs,dO (by grind [cf]),bs];refine W.ret ⟨h17.1.mono (by omega),by simp [hj],λr hrr=>?_⟩;grind
   .have hc2:((r2.1.toNat:Nat):Int)=r2.1:=by omega
    have:=Gm hk (l:=(x17.1,x17.2.1,x17.2.2.1)) (m:=m+10+33 * j+1) (n:=r2.1.toNat) h17.1 (by omega) (by omega);rw [hc2] at this;refine W.bind this λr26 h26=>?_;rw [dO (by grind [cf]),bs];refine W.ret ⟨h26.1.mono (by omega),by simp [hj],λr hrr=>?_⟩;grind
 .
  refine W.ck (by omega) (by omega) ?_;exact ih (q - 1) (_,_,_,_,_) (by omega) ⟨j+1,h15.2.1,by grind,by omega,by omega,h15.1.mono (by omega),h15.2.2⟩
theorem Bg.len{C:Int}(hC:0≤C/\C≤5){b:List Int}(h:Bg C b):b.length≤5:=by
 have:=rH C.toNat b (h.asc.imp λhab e=>by omega) λx hx=>by have:=h.rng x hx;omega
 omega
theorem Ge{m:ae}{B:Int->Bool}{n:Nat}(h:0≤mC m):((o9 m B n).length:Int)=mC m:=by
 unfold o9;grind
theorem mA{m:ae}{B:Int->Bool}:(jO m B).length=(mD m).length+1:=by
 unfold jO;simp_all
theorem If{α ε:Type}:∀(l:List α) (j:Nat),fG (λ(_:Unit) _ _=>(.ok ():Except ε Unit)) j l ()= .ok ()
 |[],_=>rfl
 |_::l,j=>If l (j+1)
theorem FB{k:Nat}{m:ae}{B:Int->Bool}(v:Vd m)(hk:10≤k):mt k m (jO m B)=some true:=by
 have c1:=v.c1;have d6:=v.d6;unfold mt;have hd:ck ((m.2.2.2.2.1.length:Int)+1)=some (((mD m).length:Int)+1):=dq (by omega) (by grind);rw [hd,bs,if_neg (λhn=>hn (by rw [mA];omega))]
 have key:=np (T:=Int) (f:=fa k m (jO m B)) (jO m B) (λ(_:Unit) j=>j) (λ_ _ _=>(.ok ():Except Bool Unit)) (λ_ _=>True) (λr=>some r)
  (λn s j hj _=>by
   have hck:ck ((j:Int)+1)=some ((j:Int)+1):=dq (by omega) (by grind [mA]);refine⟨?_,λ_ _=>trivial⟩;have hj2:j≤(mD m).length:=by grind [mA]
   simp only [fa,Int.ofNat_lt,hj,if_true,ww hj2,bs,hck];rw [if_neg (λhn=>hn (Ge (by omega)))])
  (λn s _=>by simp [fa]) (n:=k) (s0:=()) (by rw [mA];omega) trivial
 simp_all [fa,jO,If,mB]
end Go.Proofs.YtcollhgigbijkaaGreat
set_option linter.unusedVariables false
set_option linter.unusedSimpArgs false
namespace Go.Proofs.YtcollhgigbijkaaGreat
open K Go Go.Proofs
end Go.Proofs.YtcollhgigbijkaaGreat
set_option linter.unusedVariables false
set_option linter.unusedSimpArgs false
namespace Go.Proofs.YtcollhgigbijkaaGreat
open K Go Go.Proofs
theorem zl{k:Nat}{l:bO}{m:Int}{x:xE}(hl:Lo l m)(hm:0≤m/\m≤900)(hc:1≤x.1/\x.1≤5)(hd:x.2.2.2.2.1.length≤6):
 W (gY k l x) λr=>Lo r.2 (m+3)/\(0≤r.1.1/\r.1.1 < x.1)/\0≤r.1.2.1/\r.1.2.1≤(x.2.2.2.2.1.length:Int):=by
 unfold gY
 grind [W.ck,W.bind,kp,wV,W.ret]
theorem Vd.with{m:ae}(v:Vd m){gs:List bF}(h8:gs.length≤8)(hg:∀g∈gs,0≤g.1/\g.1 < mC m/\0≤g.2.1/\g.2.1≤(mD m).length):Vd (m.1,m.2.1,m.2.2.1,m.2.2.2.1,m.2.2.2.2.1,gs):=
 ⟨v.c1,v.c5,v.w0,v.w3,v.s0,v.s3,v.h1,v.h3,v.d1,v.d6,v.r3,v.l5,v.x5,v.nd,h8,hg⟩
theorem xn{k:Nat}(hk:50≤k){l:bO}{m:Int}{cs ds:Int}(hl:Lo l m)(hm:0≤m/\m≤400)(hc:1≤cs/\cs≤5)(hd:1≤ds/\ds≤6):
 W (f9 k l cs ds) λr=>Lo r.2 (m+270)/\Vd r.1/\(mG r.1).length≤4/\mC r.1≤cs/\((mD r.1).length:Int)≤ds:=by
 unfold f9
 refine W.bind (A4 hk (l:=(l.1,l.2.1,l.2.2)) hl hm hc hd) λr2 h2=>?_
 obtain⟨lo2,v,hg,hcs,hds⟩:=h2
 have c1:=v.c1
 have c5:=v.c5
 have d6:=v.d6
 refine W.bind (R:=λx=>Lo (x.2.1,x.2.2.1,x.2.2.2) (m+270)/\x.1.length≤4/\∀g∈x.1,0≤g.1/\g.1 < mC r2.1/\0≤g.2.1/\g.2.1≤(mD r2.1).length) ?_ λx hx=>W.ret ⟨hx.1,v.with (by omega) hx.2.2,hx.2.1,hcs,hds⟩
 refine W.bind (kp (l:=(r2.2.1,r2.2.2.1,r2.2.2.2)) lo2 (by omega) (by omega)) λr6 h6=>?_
 have b6:=h6.2.1 (by omega)
 refine W.loop (f:=eo k r2) (λq y=>∃j:Nat,y.2.2.2.1.length=j/\y.2.2.2.2=r6.1 - j/\(j:Int)≤r6.1/\q=r6.1.toNat - j/\Lo (y.1,y.2.1,y.2.2.1) (m+251+3 * j)/\∀g∈y.2.2.2.1,0≤g.1/\g.1 < mC r2.1/\0≤g.2.1/\g.2.1≤(mD r2.1).length) ?_ r6.1.toNat k _ (by omega)
  ⟨0,rfl,by simp,by omega,by omega,h6.2.2.mono (by omega),by simp⟩
 rintro aJ q ⟨nums,d,s,out,y⟩ ⟨j,hj,hy,hle,hq,hlo,hr⟩ ih
 simp only at hj hy hlo hr
 subst hy
 unfold eo
 dsimp only
 refine W.ite (λhlt=>?_) (λhge=>W.ret ⟨hlo.mono (by omega),by grind,hr⟩)
 refine W.bind (zl (l:=(nums,d,s)) (x:=(r2.1.1,r2.1.2.1,r2.1.2.2.1,r2.1.2.2.2.1,r2.1.2.2.2.2.1,())) hlo (by omega) ⟨c1,c5⟩ d6) λr9 h9=>?_
 rw [dO (by grind [cf]),bs]
 refine W.ck (by omega) (by omega) ?_
 refine ih (q - 1) (_,_,_,_,_) (by omega) ⟨j+1,by simp [hj],by grind,by omega,by omega,h9.1.mono (by omega),λg hgg=>?_⟩
 grind
theorem Sm.with{m:ae}(h:Sm m){gs:List bF}(hg:gs.length≤1000):Sm (m.1,m.2.1,m.2.2.1,m.2.2.2.1,m.2.2.2.2.1,gs):=⟨h.d,h.r,hg⟩
end Go.Proofs.YtcollhgigbijkaaGreat
set_option linter.unusedVariables false
set_option linter.unusedSimpArgs false
namespace Go.Proofs.YtcollhgigbijkaaGreat
open K Go Go.Proofs
def nc(C:Nat):Nat->List Int->Nat->List (List Int)
 |0,b,_=>[b]
 |n+1,b,f=>b::(List.range' f (C - f)).flatMap λ(c:Nat)=>nc C n (b++[(c:Int)]) (c+1)
theorem tO{b:List Int}{c:Int}:ce (b++[c])=u4 (ce b) c:=by
 unfold ce;simp_all
theorem zh{σ:Type}{k:Nat}{Y:σ->Int->Option (σ×Bool)}{C:Nat}(hC:C≤5)(hk:10≤k)(g:σ->List Int->σ)(vb:Nat->σ->Prop):
 ∀(n m0:Nat) (b:List Int) (f:Nat) (s:σ) (r:Nat),C - f≤n->f≤C->n < m0->hP (ce b)->(∀r s,∀b'∈nc C n b f,vb (r+1) s->Y s (ce b')=some (g s b',true)/\vb r (g s b'))->vb ((nc C n b f).length+r) s->
  dj k Y (C:Int) m0 (ce b) (f:Int) s=some (true,(nc C n b f).foldl g s)/\vb r ((nc C n b f).foldl g s)
 |n,0,b,f,s,r,_,_,h,_,_,_=>absurd h (not_lt_zero _)
 |0,m0+1,b,f,s,r,h1,h2,_,hm,hY,hI=>by
  have hf:f=C:=by omega
  subst hf
  unfold dj
  obtain⟨k,rfl⟩:∃n,k=n+1:=⟨k - 1,by omega⟩
  have hI:vb (r+1) s:=by rw [Nat.add_comm];exact hI
  have:=hY r s b (by simp [nc]) hI
  rw [this.1,bs,if_neg (by simp)]
  rw [di,if_neg (Int.lt_irrefl _),mB]
  exact⟨rfl,this.2⟩
 |n+1,m0+1,b,f,s,r,h1,h2,h3,hm,hY,hI=>by
  unfold dj
  have hlen:(nc C (n+1) b f).length=((List.range' f (C - f)).flatMap λ(c:Nat)=>nc C n (b++[(c:Int)]) (c+1)).length+1:=by rw [nc,length_cons]
  rw [hlen] at hI
  have h0:=hY (((List.range' f (C - f)).flatMap λ(c:Nat)=>nc C n (b++[(c:Int)]) (c+1)).length+r) s b (by simp [nc]) (by grind)
  rw [h0.1,bs,if_neg (by simp)]
  have loop:∀(d x:Nat) (s:σ) (aJ:Nat) (r:Nat),C - x=d->f≤x->x≤C->d < aJ->vb (((List.range' x (C - x)).flatMap λ(c:Nat)=>nc C n (b++[(c:Int)]) (c+1)).length+r) s->
   di k (ce b) (C:Int) (dj k Y (C:Int) m0) aJ ((x:Int),s)=some (.ok (((List.range' x (C - x)).flatMap λ(c:Nat)=>nc C n (b++[(c:Int)]) (c+1)).foldl g s))/\vb r (((List.range' x (C - x)).flatMap λ(c:Nat)=>nc C n (b++[(c:Int)]) (c+1)).foldl g s):=by
   intro d
   induction d with
   |zero=>
    intro x s aJ r hd hx hx2 hfu hI;obtain⟨aJ,rfl⟩:∃n,aJ=n+1:=⟨aJ - 1,by omega⟩;have:x=C:=by omega
    simp_all [Nat.sub_self,di,if_neg,Int.lt_irrefl]
   |succ d ih=>
    intro x s aJ r hd hx hx2 hfu hI;obtain⟨aJ,rfl⟩:∃n,aJ=n+1:=⟨aJ - 1,by omega⟩;have hw:=lG (k:=k) hm (show(0:Int)≤(x:Int) by omega) (show(x:Int) < 8 by omega);have hck:ck ((x:Int)+1)=some (((x+1:Nat):Int)):=by grind [dq]
    have e:C - x=(C - (x+1))+1:=by omega
    rw [e,List.range'_succ,List.flatMap_cons,length_append,Nat.add_assoc] at hI
    have hsub:=zh hC hk g vb n m0 (b++[(x:Int)]) (x+1) s _ (by omega) (by omega) (by omega) (by simp_all [tO]) (λr s b' hb'=>hY r s b' (by
     rw [nc];grind)) hI
    rw [tO] at hsub;have hih:=ih (x+1) _ aJ r (by omega) (by omega) (by omega) (by omega) hsub.2;rw [di,if_pos (show(x:Int) < (C:Int) by omega),hw.1,bs,hck,bs,hsub.1,bs,if_neg (by simp),bs,hih.1];simp_all [List.range'_succ,List.flatMap_cons,List.foldl_append]
  have hl:=loop (C - f) f _ k r rfl (Nat.le_refl _) h2 (by omega) h0.2;rw [hl.1,mB];exact⟨rfl,hl.2⟩
def HU(m:ae)(but:Nat->Bool)(B:Int->Bool):Bool:=(mG m).zipIdx.all λg=>but g.2 || decide (g.1.2.2=decide (mS m≤jm m B g.1.2.1.toNat g.1.1))
theorem wl{α ε:Type}{p:Nat->α->Bool}{e:ε}:∀(l:List α) (j:Nat),fG (λ(_:Unit) j x=>if p j x=true then .ok () else Except.error e) j l ()=if((l.zipIdx j).all λg=>p g.2 g.1)=true then .ok () else .error e
 |[],j=>rfl
 |x::l,j=>by
  rw [fG,zipIdx_cons,all_cons]
  cases h:p j x with
  |true=>simp only [if_true,Bool.true_and];exact wl l (j+1)
  |false=>simp
theorem zr{k:Nat}{m:ae}{S a2:Int}(v:Vd m)(hk:10≤k)(hS:hP S)(ha:hP a2):c7 k m S a2=some (HU m (λi=>decide (dC a2 i)) (mJ S)):=by
 have g8:=v.g8;have d6:=v.d6;unfold c7 gf;rw [oR v hk hS,bs]
 have key:=np (T:=Int) (f:=cx k m a2 (cr (E1 m (mJ S)))) (mG m) (λ(_:Unit) j=>j) (λ_ j x=>if(decide (dC a2 j) || decide (x.2.2=decide (mS m≤jm m (mJ S) x.2.1.toNat x.1)))=true then .ok () else Except.error ()) (λ_ _=>True) (λr=>some (match r with | .error _=>false | .ok _=>true))
  (λn s j hj _=>by
   have hck:ck ((j:Int)+1)=some ((j:Int)+1):=dq (by omega) (by omega);have hg:=v.gl _ (List.getElem_mem hj);have hj':(j:Int) < (m.2.2.2.2.2.length:Int):=Int.ofNat_lt.2 hj;have hget:aQ m.2.2.2.2.2 (j:Int)=some (mG m)[j]:=eH hj;generalize (mG m)[j]=x at *;have c5:=v.c5;have e2:x.2.1=((x.2.1.toNat:Nat):Int):=by omega
   have hrow:aQ (cr (E1 m (mJ S))) x.2.1=some (ku (E1 m (mJ S) x.2.1.toNat)):=by
    grind [xG,Int.toNat_natCast]
   have hval:aQ (ku (E1 m (mJ S) x.2.1.toNat)) x.1=some (jm m (mJ S) x.2.1.toNat x.1):=by
    grind [tc,xF]
   refine⟨?_,λ_ _=>trivial⟩;have hm1:m.2.2.1=mS m:=rfl;simp only [cx,hj',if_true,hget,bs,xm (k:=k) ha (i:=j) (by omega),hrow,hval,hm1];grind)
  (λn s _=>by
   unfold cx;simp_all) (n:=k) (s0:=()) (by omega) trivial
 rw [show cx k m a2 (cr (E1 m (mJ S))) k 0=_ from key,wl (p:=λj (x:bF)=>decide (dC a2 j) || decide (x.2.2=decide (mS m≤jm m (mJ S) x.2.1.toNat x.1)))];unfold HU;grind
end Go.Proofs.YtcollhgigbijkaaGreat
set_option linter.unusedVariables false
set_option linter.unusedSimpArgs false
namespace Go.Proofs.YtcollhgigbijkaaGreat
open K Go Go.Proofs
theorem sE{m:ae}(v:Vd m){A B:Int->Bool}(h:∀c,0≤c->c < mC m->A c=B c):∀(n:Nat) (c:Int),0≤c->c < mC m->jm m A n c=jm m B n c
 |0,c,h0,h1=>by simp_all [jm]
 |n+1,c,h0,h1=>by
  have ih:=sE v h n
  unfold jm
  cases e:C0 m n c with
  |none=>simp_all
  |some l=>
   have hb:=(uF v e).2
   grind
theorem By{α:Type}{l:List α}{p q:α->Bool}(h:∀x∈l,p x=q x):l.all p=l.all q:=by
 grind
theorem Ek{m:ae}(v:Vd m){but:Nat->Bool}{A B:Int->Bool}(h:∀c,0≤c->c < mC m->A c=B c):HU m but A=HU m but B:=by
 unfold HU;refine By λg hg=>?_;obtain⟨x,i⟩:=g;have hx:=v.gl x (List.fst_mem_of_mem_zipIdx hg);show(but i || decide (x.2.2=decide (mS m≤jm m A x.2.1.toNat x.1)))=(but i || decide (x.2.2=decide (mS m≤jm m B x.2.1.toNat x.1)));grind [sE]
def Ig(m:ae):List (List Int):=nc (mC m).toNat (mC m).toNat [] 0
theorem C5{C:Nat}:∀(n:Nat) (b:List Int) (f:Nat),Bg (C:Int) b->(∀x∈b,x < (f:Int))->∀b'∈nc C n b f,Bg (C:Int) b'
 |0,b,f,h,_,b',hb=>by
  simp_all [nc,List.mem_singleton]
 |n+1,b,f,h,hf,b',hb=>by
  rw [nc,mem_cons] at hb
  rcases hb with rfl |hb
  .
   exact h
  .
   obtain⟨c,hc,hb⟩:=List.mem_flatMap.1 hb
   rw [List.mem_range'_1] at hc
   refine C5 n (b++[(c:Int)]) (c+1) ⟨λx hx=>?_,?_⟩ (λx hx=>?_) b' hb
   .
    rcases List.mem_append.1 hx with hx |hx
    .
     exact h.rng x hx
    grind
   .
    rw [pairwise_append]
    exact⟨h.asc,by simp,λa ha x hx=>by grind⟩
   grind
theorem C6{m:ae}(v:Vd m){b:List Int}(h:b∈Ig m):Bg (mC m) b:=by
 have c1:=v.c1;have:=C5 (C:=(mC m).toNat) (mC m).toNat [] 0 ⟨by simp,by simp⟩ (by simp) b h;grind
theorem zN{m:ae}(v:Vd m):(Ig m).length≤32:=by
 have c1:=v.c1;have c5:=v.c5;have:(mC m).toNat=1\/(mC m).toNat=2\/(mC m).toNat=3\/(mC m).toNat=4\/(mC m).toNat=5:=by omega
 unfold Ig;rcases this with h |h |h |h |h <;> rw [h] <;> decide
def jN(m:ae)(but:Nat->Bool):List (List Int):=(Ig m).filter λb=>HU m but λc=>decide (c∈b)
theorem pr{α β:Type}{p:α->Bool}{h:α->β}:∀(l:List α) (s:List β),l.foldl (λ(s:List β×Bool) b=>(if p b then s.1++[h b] else s.1,false)) (s,false)=(s++(l.filter p).map h,false)
 |[],s=>by simp
 |x::l,s=>by
  rw [foldl_cons,pr l]
  grind
theorem uh{k:Nat}{m:ae}{a2:Int}(v:Vd m)(hk:50≤k)(ha:hP a2):ek k m a2=some ((jN m λi=>decide (dC a2 i)).map ce):=by
 have c1:=v.c1;have c5:=v.c5;unfold ek jH;have hC:m.1=(((mC m).toNat:Nat):Int):=by grind
 have h:=zh (σ:=List Int×Bool) (k:=k) (Y:=qo (λ(y5:(List Int)) (p7:Int)=>(c7 k m p7 a2).bind λr9=>if r9=true then((cK (cf (length y5+length [p7]))).bind λ_=>some (y5++[p7],true)) else(some (y5,true)))) (C:=(mC m).toNat) (by omega) (by omega)
  (λs b=>(if HU m (λi=>decide (dC a2 i)) (λc=>decide (c∈b)) then s.1++[ce b] else s.1,false)) (λr s=>s.2=false/\s.1.length+r≤1000) (mC m).toNat k [] 0 ([],false) 0 (by omega) (by omega) (by omega) nZ (λr s b' hb' hI=>by
   obtain⟨y,q⟩:=s;obtain⟨rfl,hI⟩:q=false/\y.length+(r+1)≤1000:=hI;have hbg:=C6 v hb';have hset:=hbg.set c5;have hex:HU m (λi=>decide (dC a2 i)) (mJ (ce b'))=HU m (λi=>decide (dC a2 i)) (λc=>decide (c∈b')):=Ek v λc h0 _=>hset.2 c h0;unfold qo;simp only [];rw [zr v (by omega) hset.1 ha,hex,bs];cases HU m (λi=>decide (dC a2 i)) (λc=>decide (c∈b')) with
   |true=>
    simp only [if_true];grind [dO,cf,bs,ce]
   |false=>
    grind) ⟨rfl,by have:=zN v;grind [Ig]⟩
 rw [hC,show dj k (qo (λ(y5:(List Int)) (p7:Int)=>(c7 k m p7 a2).bind λr9=>if r9=true then((cK (cf (length y5+length [p7]))).bind λ_=>some (y5++[p7],true)) else(some (y5,true)))) (((mC m).toNat:Nat):Int) k 0 0 ([],false)=_ from h.1,bs,bs];rw [pr (p:=λb=>HU m (λi=>decide (dC a2 i)) λc=>decide (c∈b)) (h:=ce)];simp only [Bool.false_eq_true,if_false,nil_append];rfl
theorem Ic:∀{a b:List Int},a.Pairwise (· < ·)->b.Pairwise (· < ·)->(∀x,x∈a↔x∈b)->a=b
 |[],[],_,_,_=>rfl
 |[],y::b,_,_,h=>absurd ((h y).2 mem_cons_self) (by simp)
 |x::a,[],_,_,h=>absurd ((h x).1 mem_cons_self) (by simp)
 |x::a,y::b,ha,hb,h=>by
  rw [pairwise_cons] at ha hb
  have e:x=y:=by
   grind [mem_cons_self]
  subst e;rw [Ic ha.2 hb.2 λz=>?_];grind
theorem tP{k:Nat}{C:Int}{b:List Int}(hk:10≤k)(hC:C≤5)(h:Bg C b):eT k (ce b)=some b:=by
 have hset:=h.set hC;unfold eT
 have key:=ff (T:=List Int×Int) (f:=dy k (ce b)) (List.range 5) (λ(s:List Int) j=>(s,j)) (λs j _=>if decide (dC (ce b) j) then s++[(j:Int)] else s) (λj s=>s.length≤j/\s.Pairwise (· < ·)/\∀x,x∈s↔x∈b/\x < (j:Int)) (λs=>some s)
  (λn s j hj hs=>by
   rw [length_range] at hj;have hck:ck ((j:Int)+1)=some ((j:Int)+1):=dq (by omega) (by omega);have hj5:(j:Int) < 5:=by omega
   have hin:=hset.2 (j:Int) (by omega);unfold mJ at hin;rw [Int.toNat_natCast] at hin;refine⟨?_,?_⟩
   .simp only [dy,hj5,if_true,xm (k:=k) hset.1 (by omega:j < 8),bs];cases decide (dC (ce b) j) with
    |true=>
     simp only [if_true];rw [dO (by grind [cf]),bs,bs,hck,bs]
    |false=>simp_all
   grind)
  (λn s hs=>by
   simp_all [length_range,dy,if_neg]) (n:=k) (s0:=[]) (by grind) ⟨by simp,by simp,λx=>by simp;intro hx;exact(h.rng x hx).1⟩
 rw [show dy k (ce b) k ([],0)=_ from key.1,bs];have:=key.2;rw [length_range] at this;exact congrArg some (Ic this.2.1 h.asc λx=>by rw [this.2.2 x];exact⟨λhh=>hh.1,λhh=>⟨hh,by have:=h.rng x hh;omega⟩⟩)
end Go.Proofs.YtcollhgigbijkaaGreat
set_option linter.unusedVariables false
set_option linter.unusedSimpArgs false
namespace Go.Proofs.YtcollhgigbijkaaGreat
open K Go Go.Proofs
end Go.Proofs.YtcollhgigbijkaaGreat
set_option linter.unusedVariables false
set_option linter.unusedSimpArgs false
namespace Go.Proofs.YtcollhgigbijkaaGreat
open K Go Go.Proofs
def fj:Nat->Bool:=λ_=>false
theorem Qk:(λi=>decide (dC 0 i))=fj:=by
 grind [fj,dC]
theorem xB{m:ae}(v:Vd m){but:Nat->Bool}{b:List Int}(h:b∈jN m but):Bg (mC m) b:=C6 v (List.mem_filter.1 h).1
theorem uw{m:ae}(v:Vd m){but:Nat->Bool}:(jN m but).length≤32:=Nat.le_trans (List.length_filter_le _ _) (zN v)
theorem Hw{k:Nat}{C:Int}(hC:C≤5)(hk:50≤k){L:List (List Int)}(hL:∀b∈L,Bg C b)(hl:L.length≤40):ee k (L.map ce) k ([],0)=some L:=by
 have key:=ff (T:=List (List Int)×Int) (f:=ee k (L.map ce)) L (λ(s:List (List Int)) j=>(s,j)) (λs _ b=>s++[b]) (λj s=>s=L.take j) (λs=>some s)
  (λn s j hj hs=>by
   have hck:ck ((j:Int)+1)=some ((j:Int)+1):=dq (by omega) (by omega);have hls:s.length=j:=by grind
   have hg:aQ (L.map ce) (j:Int)=some (ce L[j]):=by simp_all [aQ,if_pos,Int.toNat_natCast,List.getElem?_map,List.getElem?_eq_getElem]
   have hj':(j:Int) < ((L.map ce).length:Int):=by simp_all
   have hok:cK (cf (length s+length [L[j]]))=some ():=dO (by grind [cf]);refine⟨?_,?_⟩
   .simp only [ee,hj',if_true,hg,bs,tP (k:=k) (by omega) hC (hL _ (List.getElem_mem hj)),hok,hck]
   simp_all)
  (λn s hs=>by
   unfold ee;simp_all) (n:=k) (s0:=[]) (by omega) (by simp)
 simp_all
theorem Ba{k:Nat}{m:ae}(hs:Sm m)(hk:1010≤k):ir k m=some (if¬(lZ m=0) then([],lZ m) else(jN m fj,0)):=by
 unfold ir;rw [uf hs hk (by simp) (by simp) (by simp) (by simp),bs];by_cases hc:lZ m=0
 .have v:=Vd.of hc;have hb:sD (mC m) []=0:=oZ.2 ⟨by simp,by simp⟩;have ho:JI m [] [] []=true:=rfl;simp only [hc,hb,ho,not_true_eq_false,if_false,if_true,qS];rw [uh v (by omega) nZ,bs,Qk,Hw v.c5 (by omega) (λb h=>xB v h) (by grind [uw,fj]),bs]
 simp_all [not_false_eq_true,if_true,lT]
end Go.Proofs.YtcollhgigbijkaaGreat
set_option linter.unusedVariables false
set_option linter.unusedSimpArgs false
namespace Go.Proofs.YtcollhgigbijkaaGreat
open K Go Go.Proofs
theorem Ec{k:Nat}{m:ae}{cs ds ns:List Int}(hs:Sm m)(hk:1010≤k)(h1:cs.length≤1000)(h2:ds.length≤1000)(h3:ns.length≤1000):
 iy k m cs ds ns=some (if¬(lZ m=0) then(none,[],lZ m) else if¬(JI m cs ds ns=true) then(none,[],3) else if(jN m fj).length=0 then(none,[],9) else(some m,(jN m fj).map ce,0)):=by
 unfold iy
 rw [uf hs hk (by simp) h1 h2 h3,bs]
 by_cases hc:lZ m=0
 .
  have v:=Vd.of hc;have hb:sD (mC m) []=0:=oZ.2 ⟨by simp,by simp⟩;by_cases ho:JI m cs ds ns=true
  .simp only [hc,hb,ho,not_true_eq_false,if_false,if_true,qS];rw [uh v (by omega) nZ,bs,Qk];grind
  simp_all [not_true_eq_false,not_false_eq_true,if_false,if_true,lT,Bool.false_eq_true,if_pos]
 simp_all [not_false_eq_true,if_true,lT]
end Go.Proofs.YtcollhgigbijkaaGreat
set_option linter.unusedVariables false
set_option linter.unusedSimpArgs false
namespace Go.Proofs.YtcollhgigbijkaaGreat
open K Go Go.Proofs
theorem Lc{k:Nat}{m:ae}{b:List Int}(v:Vd m)(hk:10≤k)(hb:Bg (mC m) b):∃F:Nat->Int->Int,lq k m (ce b)=some (cr F)/\∀(n:Nat) (c:Int),n≤(mD m).length->0≤c->c < mC m->F n c=jm m (λc=>decide (c∈b)) n c:=by
 have hs:=hb.set v.c5;refine⟨_,oR v hk hs.1,λn c hn h0 h1=>?_⟩;grind [xF,sE]
end Go.Proofs.YtcollhgigbijkaaGreat
set_option linter.unusedVariables false
set_option linter.unusedSimpArgs false
namespace Go.Proofs.YtcollhgigbijkaaGreat
open K Go Go.Proofs
theorem Ju{α:Type}{p:Prop}[Decidable p]{s:List α}{x:α}{j:Nat}(h:s.length≤j):(if p then s++[x] else s).length≤j+1:=by
 grind
def jZ(m:ae)(B:Int->Bool)(c:Int):Int:=match (List.range ((mD m).length+1)).findIdx? λn=>decide (0≤jm m B n c) with
 |some i=>i
 |none=> -1
theorem F4{k:Nat}{m:ae}{B:Int->Bool}{c:Int}{f:Nat->Int->Option (Except Int Unit)}(hk:(mD m).length+1 < k)(hl:(mD m).length≤1000)
 (step:∀(n j:Nat),j < (mD m).length+1->f (n+1) (j:Int)=if 0≤jm m B j c then some (.error (j:Int)) else f n ((j:Int)+1)) (stop:∀n,f (n+1) (((mD m).length:Int)+1)=some (.ok ())):K.bE (f k 0) some (λ_=>some (-1:Int))=some (jZ m B c):=by
 have key:=np (T:=Int) (f:=f) (List.range ((mD m).length+1)) (λ(_:Unit) j=>j) (λ_ j x=>if decide (0≤jm m B x c)=true then Except.error (j:Int) else .ok ()) (λ_ _=>True) (λr=>some r)
  (λn s j hj _=>by
   grind)
  (λn s _=>by simp_all) (n:=k) (s0:=()) (by simp_all) trivial
 rw [show f k 0=_ from key,pX]
 grind [jZ,K.bE]
theorem Eb{k:Nat}{m:ae}{b:List Int}{c:Int}(v:Vd m)(hk:50≤k)(hb:Bg (mC m) b)(h0:0≤c)(h1:c < mC m):dV k m (ce b) c=some (jZ m (λc=>decide (c∈b)) c):=by
 unfold dV;obtain⟨F,e,h⟩:=Lc (k:=k) v (by omega) hb;have d6:=v.d6;have c5:=v.c5;have hlen:ck (((mD m).length:Int)+1)=some (((mD m).length:Int)+1):=dq (by omega) (by omega);rw [e,bs,show m.2.2.2.2.1=mD m from rfl,hlen,bs];refine F4 (by omega) (by omega) (λn j hj=>?_) (λn=>?_)
 .have hck:ck ((j:Int)+1)=some ((j:Int)+1):=dq (by omega) (by omega);have hj7:j < 7:=by omega
  rw [dF,if_pos (by omega),xG hj7,bs,tc h0 (by omega),bs,h j c (by omega) h0 h1,hck,bs]
 .rw [dF,if_neg (Int.lt_irrefl _)]
theorem PQ{m:ae}{c:Int}:JI m [c] [] []=decide (0≤c/\c < mC m):=by
 simp only [JI,ye,uX,all_cons,List.all_nil,Bool.and_true];grind
end Go.Proofs.YtcollhgigbijkaaGreat
set_option linter.unusedVariables false
set_option linter.unusedSimpArgs false
namespace Go.Proofs.YtcollhgigbijkaaGreat
open K Go Go.Proofs
theorem Hm{s t:Int}(hs:hP s)(ht:hP t)(h:∀i,dC s i↔dC t i):s=t:=by
 obtain⟨a,ha,rfl⟩:=nY hs;obtain⟨b,hb,rfl⟩:=nY ht;congr 1;refine Nat.eq_of_testBit_eq λi=>?_;have:=h i;unfold dC at this;simp_all
def rz(C:Nat)(L:List (List Int)):List Int:=((List.range C).map λ(i:Nat)=>(i:Int)).filter λx=>L.any λb=>decide (x∈b)
theorem ta{C:Nat}{L:List (List Int)}:Bg (C:Int) (rz C L):=by
 refine⟨λx hx=>?_,?_⟩
 .unfold rz at hx;grind
 simp_all [rz,Pairwise.filter,List.pairwise_map,List.pairwise_lt_range]
theorem tL{C:Nat}{L:List (List Int)}{x:Int}(hL:∀b∈L,Bg (C:Int) b):x∈rz C L↔∃b∈L,x∈b:=by
 unfold rz;rw [List.mem_filter,List.mem_map,List.any_eq_true];constructor
 .grind
 .rintro⟨b,hb,h⟩;have:=(hL b hb).rng x h;exact⟨⟨x.toNat,by simp_all,by omega⟩,b,hb,decide_eq_true h⟩
theorem yw{C:Nat}(hC:C≤5):∀(L:List (List Int)) (j:Nat) (s:Int),(∀b∈L,Bg (C:Int) b)->hP s->hP (i9 (λs _ b=>wa .u8 s (ce b)) j L s)/\∀i:Nat,dC (i9 (λs _ b=>wa .u8 s (ce b)) j L s) i↔dC s i\/∃b∈L,(i:Int)∈b
 |[],_,s,_,hs=>⟨hs,λi=>by simp [i9]⟩
 |b::L,j,s,hL,hs=>by
  have hb:hP (ce b)/\∀i:Nat,dC (ce b) i↔dC 0 i\/(i:Int)∈b:=qq (C:=C) (by omega) b 0 nZ (hL b (mem_cons_self ..)).rng
  have h1:=Hy hs hb.1
  have h2:=yw hC L (j+1) (wa .u8 s (ce b)) (λx h=>hL x (mem_cons_of_mem _ h)) h1.1
  simp_all [i9,dC,false_or,mem_cons,exists_eq_or_imp,or_assoc]
def eN(m:ae)(c:Int)(L:List (List Int)):List Int:=(rz (mC m).toNat L).filter λx=>decide (0≤jZ m (λy=>decide (y∈[x])) c)
theorem Bg.one{C x:Int}(h0:0≤x)(h1:x < C):Bg C [x]:=⟨λy hy=>by simp_all,pairwise_singleton _ _⟩
theorem uu{p:Int->Bool}:∀(l:List Int) (j:Nat) (s:List Int),i9 (λ(s:List Int) _ x=>if p x then s++[x] else s) j l s=s++l.filter p
 |[],_,s=>by simp [i9]
 |x::l,j,s=>by
  rw [i9,uu l,List.filter_cons]
  grind
theorem A9{k:Nat}{m:ae}{L:List (List Int)}{r2:(Option ae)×(List Int)×Int}(v:Vd m)(hk:50≤k)(hL:∀b∈L,Bg (mC m) b)(hl:L.length≤40)(hr:r2.2.1=L.map ce):dp k r2 k (0,0)=some (ce (rz (mC m).toNat L)):=by
 have c1:=v.c1;have c5:=v.c5
 have key:=ff (T:=Int×Int) (f:=dp k r2) L (λ(s:Int) j=>(s,j)) (λs _ b=>wa .u8 s (ce b)) (λ_ _=>True) (λs=>some s)
  (λn s j hj _=>by
   have hck:ck ((j:Int)+1)=some ((j:Int)+1):=dq (by omega) (by omega);have hg:aQ r2.2.1 (j:Int)=some (ce L[j]):=by simp_all [HH,Int.toNat_natCast,List.getElem?_map,List.getElem?_eq_getElem]
   simp_all [dp,if_pos,length_map,bs])
  (λn s _=>by simp_all [dp,if_neg,length_map]) (n:=k) (s0:=0) (by omega) trivial
 rw [show dp k r2 k (0,0)=_ from key.1];have hL':∀b∈L,Bg (((mC m).toNat:Nat):Int) b:=λb hb=>by grind
 have h1:=yw (C:=(mC m).toNat) (by omega) L 0 0 hL' nZ;have hU:=ta (C:=(mC m).toNat) (L:=L);have h2:=qq (C:=(mC m).toNat) (by omega) (rz (mC m).toNat L) 0 nZ hU.rng;congr 1;refine Hm h1.1 h2.1 λi=>?_;have h0:¬dC 0 i:=by grind [dC]
 rw [h1.2 i,show ce (rz (mC m).toNat L)=List.foldl u4 0 (rz (mC m).toNat L) from rfl,h2.2 i,tL hL']
theorem A8{k:Nat}{m:ae}{c:Int}{R:List Int}(v:Vd m)(hk:50≤k)(hR:∀x∈R,0≤x/\x < mC m)(hl:R.length≤5)(h0:0≤c)(h1:c < mC m):dn k c m R k ([],0)=some (R.filter λx=>decide (0≤jZ m (λy=>decide (y∈[x])) c)):=by
 have c5:=v.c5
 have key:=ff (T:=(List Int)×Int) (f:=dn k c m R) R (λ(s:List Int) j=>(s,j)) (λ(s:List Int) _ x=>if decide (0≤jZ m (λy=>decide (y∈[x])) c)=true then s++[x] else s) (λj s=>s.length≤j) (λs=>some s)
  (λn s j hj hs=>by
   have hck:ck ((j:Int)+1)=some ((j:Int)+1):=dq (by omega) (by omega);have hx:=hR _ (List.getElem_mem hj);have hok:cf (length s+length [R[j]]):=TR (n:=50) (by omega) (by omega);have hw:=(lG (k:=k) (s:=0) (x:=R[j]) nZ hx.1 (by omega)).1;refine⟨?_,Ju hs⟩;rw [dn,if_pos (by omega),eH hj,bs,hw,bs,show u4 0 R[j]=ce [R[j]] from rfl,Eb v (by omega) (Bg.one hx.1 hx.2) h0 h1,bs];by_cases h:0≤jZ m (λy=>decide (y∈[R[j]])) c
   .simp_all [if_pos,decide_eq_true,dO,bs]
   grind)
  (λn s _=>by rw [dn,if_neg (Int.lt_irrefl _)]) (n:=k) (s0:=[]) (by omega) (Nat.le_refl 0)
 grind [dn,uu]
def Js(m:ae)(c:Int):List Int×Int:=if¬(lZ m=0) then([],lZ m) else if¬(0≤c/\c < mC m) then([],3) else if(jN m fj).length=0 then([],9) else(eN m c (jN m fj),0)
theorem Ks{k:Nat}{m:ae}{c:Int}(hs:Sm m)(hk:1010≤k):jI k m c=some (Js m c):=by
 unfold jI Js;rw [Ec hs hk (by simp) (by simp) (by simp),bs];by_cases hc:lZ m=0
 .have v:=Vd.of hc;have c1:=v.c1;have c5:=v.c5;have hop:JI m [c] [] []=decide (0≤c/\c < mC m):=PQ;simp only [hc,hop,not_true_eq_false,if_false,decide_eq_true_eq];by_cases hn:0≤c/\c < mC m
  .simp only [hn,and_self,not_true_eq_false,if_false];have hl:=uw v (but:=fj);have hL:∀x∈jN m fj,Bg (mC m) x:=λx h=>xB v h;generalize jN m fj=L at *;by_cases h0:L.length=0
   .simp_all [if_pos,lT]
   .rw [if_neg h0,if_neg h0];simp only [qS,not_true_eq_false,if_false];have hU:=ta (C:=(mC m).toNat) (L:=L);rw [show(((mC m).toNat:Nat):Int)=mC m by omega] at hU;rw [A9 v (by omega) hL (by omega) rfl,bs,tP (by omega) c5 hU,bs,A8 v (by omega) hU.rng (hU.len ⟨by omega,c5⟩) hn.1 hn.2,bs];rfl
  simp_all [not_false_eq_true,if_true,lT,if_pos]
 simp_all [not_false_eq_true,if_true,lT]
end Go.Proofs.YtcollhgigbijkaaGreat
set_option linter.unusedVariables false
set_option linter.unusedSimpArgs false
namespace Go.Proofs.YtcollhgigbijkaaGreat
open K Go Go.Proofs
end Go.Proofs.YtcollhgigbijkaaGreat
set_option linter.unusedVariables false
set_option linter.unusedSimpArgs false
namespace Go.Proofs.YtcollhgigbijkaaGreat
open K Go Go.Proofs
theorem HC:qL 1200=some true:=by decide+kernel
theorem W.get{α:Type}{x:Option α}{a:α}(h:W x λy=>y=a):x=some a:=by
 obtain⟨b,e,rfl⟩:=h;exact e
end Go.Proofs.YtcollhgigbijkaaGreat
set_option linter.unusedVariables false
set_option linter.unusedSimpArgs false
namespace Go.Proofs.YtcollhgigbijkaaGreat
open K Go Go.Proofs
theorem Ed{k:Nat}{m:ae}(v:Vd m)(hk:1010≤k):ir k m=some (jN m fj,0):=by
 rw [Ba v.sm hk,v.chk];rfl
