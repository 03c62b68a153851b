import Derived.Test.YtcollhgigbijkaaGreatVAF2
open Nat
open List hiding mem_of_getElem?
open Array hiding mem_of_getElem? mk
set_option linter.unusedVariables false
set_option linter.unusedSimpArgs false
namespace Go.Proofs.YtcollhgigbijkaaGreat
open K Go Go.Proofs
def W{α:Type}(x:Option α)(Q:α->Prop):Prop:=∃a,x=some a/\Q a
namespace W
variable {α β ε:Type}{Q:β->Prop}
theorem ret{a:β}(h:Q a):W (some a) Q:=⟨a,rfl,h⟩
theorem mono{x:Option β}{R:β->Prop}(h:W x R)(hq:∀a,R a->Q a):W x Q:=let ⟨a,e,r⟩:=h;⟨a,e,hq a r⟩
theorem bind{x:Option α}{f:α->Option β}{R:α->Prop}(h:W x R)(hf:∀a,R a->W (f a) Q):W (x.bind f) Q:=by
 obtain⟨a,rfl,r⟩:=h;grind
theorem ck{n:Int}{f:Int->Option β}(h1: -9223372036854775808≤n)(h2:n≤9223372036854775807)(hf:W (f n) Q):W ((K.ck n).bind f) Q:=by
 simp_all [K.ck,if_pos]
theorem chk{p:Prop}[Decidable p]{f:Unit->Option β}(h:p)(hf:W (f ()) Q):W ((cO p).bind f) Q:=by
 simp_all [cO,if_pos]
theorem at_{l:List α}{i:Int}{f:α->Option β}(h0:0≤i)(h1:i < l.length)(hf:∀x,l[i.toNat]? =some x->W (f x) Q):W ((aU l i).bind f) Q:=by
 simp_all [aU,if_pos,List.getElem?_eq_getElem]
theorem ite{p:Prop}[Decidable p]{a b:Option β}(h1:p->W a Q)(h2:¬p->W b Q):W (if p then a else b) Q:=by
 grind
theorem iteB{p:Prop}[Decidable p]{a b:Option α}{f:α->Option β}(h1:p->W (a.bind f) Q)(h2:¬p->W (b.bind f) Q):W ((if p then a else b).bind f) Q:=by
 grind
theorem bEE{x:Option (Except ε α)}{g:ε->Option β}{f:α->Option β}{R:Except ε α->Prop}(h:W x R)(hg:∀e,R (.error e)->W (g e) Q)(hf:∀a,R (.ok a)->W (f a) Q):W (K.bE x g f) Q:=by
 obtain⟨a,rfl,r⟩:=h;cases a with
 |error e=>exact hg e r
 |ok a=>exact hf a r
theorem loop{T:Type}{f:Nat->T->Option β}(I:Nat->T->Prop)(step:∀aL m y,I m y->(∀m' y',m' < m->I m' y'->W (f aL y') Q)->W (f (aL+1) y) Q):∀m aL y,m < aL->I m y->W (f aL y) Q:=by
 intro m
 induction m using Nat.strongRecOn with
 |_ m ih=>
  intro aL y hm hI;cases aL with
  |zero=>omega
  |succ aL=>grind
end W
theorem wrap_u64(n:Int):0≤IntKind.u64.wrap n/\IntKind.u64.wrap n < 18446744073709551616:=by
 simp_all [Int.emod_nonneg,Int.emod_lt_of_pos,IntKind.wrap,IntKind.signed,IntKind.bits]
theorem xl{n:Int}(h0:0≤n)(h1:n < 18446744073709551616):IntKind.u64.wrap n=n:=by
 simp_all [IntKind.wrap,IntKind.signed,IntKind.bits,Int.emod_eq_of_lt]
def Lo(l:bP)(m:Int):Prop:=0≤l.2.1/\l.2.1≤m
theorem IM{k:Nat}{l:bP}{m:Int}(h:Lo l m)(hm:m≤1000000000):W (gz k l) λr=>0≤r.1/\r.1 < 72057594037927936/\Lo r.2 (m+1):=by
 obtain⟨h0,h1⟩:=h;unfold gz
 have fin:∀x:Int,W ((K.ck (l.2.1+1)).bind λx4=>some (gB .u64 (ry .u64 (IntKind.u64.wrap ((ry .u64 x (gB .u64 x (29:Int))) * (2685821657736338717:Int))) (gB .u64 (IntKind.u64.wrap ((ry .u64 x (gB .u64 x (29:Int))) * (2685821657736338717:Int))) (32:Int))) (8:Int),(l.1,x4,x)))
  λr=>0≤r.1/\r.1 < 72057594037927936/\Lo r.2 (m+1):=λx=>by
  refine W.ck (by omega) (by omega) (W.ret ?_)
  generalize IntKind.u64.wrap ((ry .u64 x (gB .u64 x (29:Int))) * (2685821657736338717:Int))=y
  have hx:0≤ry .u64 y (gB .u64 y 32)/\ry .u64 y (gB .u64 y 32) < 18446744073709551616:=wrap_u64 _
  have e:gB .u64 (ry .u64 y (gB .u64 y 32)) 8=(ry .u64 y (gB .u64 y 32)) / 256:=by
   unfold gB;rw [Int.fdiv_eq_ediv_of_nonneg _ (by decide)];rfl
  refine⟨?_,?_,?_,?_⟩
  .
   omega
  .
   omega
  .
   grind
  simp_all
 refine W.iteB (λhlt=>?_) (λ_=>fin _);simp_all [aU,if_pos,List.getElem?_eq_getElem]
theorem l9{k:Nat}{l:bP}{m n:Int}(h:Lo l m)(hm:m≤1000000000)(hn:n≤1000000000):W (cS k l n) λr=>0≤r.1/\(0≤n->r.1≤n)/\Lo r.2 (m+1):=by
 unfold cS;refine W.ite (λh1=>W.ret ⟨Int.le_refl 0,λh=>h,h.1,by show l.2.1≤m+1;have:=h.2;omega⟩) (λh1=>?_);refine W.bind (IM h hm) λr hr=>?_;refine W.ck (by omega) (by omega) ?_;have e:IntKind.u64.wrap (n+1)=n+1:=xl (by omega) (by omega);refine W.chk (by omega) ?_;rw [e];have h2:Int.tmod r.1 (n+1)=r.1 % (n+1):=Int.tmod_eq_emod_of_nonneg hr.1;have h3:=Int.emod_nonneg r.1 (show n+1≠0 by omega);have h4:=Int.emod_lt_of_pos r.1 (show 0 < n+1 by omega);grind [W.ck,W.ret]
theorem Bf{k:Nat}{l:bP}{m a b:Int}(h:Lo l m)(hm:m≤1000000000)(ha:0≤a)(hab:a≤b)(hb:b≤1000000):W (eY k l a b) λr=>a≤r.1/\r.1≤b/\Lo r.2 (m+1):=by
 grind [eY,W.ck,W.bind,l9,W.ret]
theorem wa{k:Nat}{l:bP}{m a:Int}(h:Lo l m)(hm:m≤1000000000)(ha:0≤a)(hb:a≤1000000):W (eD k l a) λr=>Lo r.2 (m+1):=by
 grind [eD,W.ck,W.bind,l9,W.ret]
theorem E9{k:Nat}{l:bP}{m:Int}{some_:List Int}(h:Lo l m)(hm:m≤1000000000)(h0:0 < some_.length)(h1:some_.length≤1000000):W (fY k l some_) λr=>r.1∈some_/\Lo r.2 (m+1):=by
 grind [fY,W.ck,W.bind,l9,W.at_,W.ret,List.mem_of_getElem?]
theorem f5{α:Type}{l:List α}{i:Nat}(h:i < l.length):aU l (i:Int)=some l[i]:=by
 rw [aU,if_pos (by omega)];simp_all
section
variable {α β γ ε σ T:Type}
theorem bs{a:α}{f:α->Option β}:(some a).bind f=f a:=by simp_all
theorem eJ{n:Int}(h1: -9223372036854775808≤n)(h2:n≤9223372036854775807):K.ck n=some n:=by simp_all [K.ck,if_pos]
theorem eF{p:Prop}[Decidable p](h:p):cO p=some ():=by rw [cO,if_pos h]
theorem wA{l:List α}{i:Int}(h0:0≤i)(h:i.toNat < l.length):aU l i=some l[i.toNat]:=by rw [aU,if_pos h0];simp_all
theorem pE{a:α}{g:ε->Option β}{f:α->Option β}:K.bE (some (.ok a)) g f=f a:=by simp_all [K.bE]
theorem qx{e:ε}{g:ε->Option β}{f:α->Option β}:K.bE (some (.error e)) g f=g e:=by simp_all [K.bE]
theorem Bz{q:α}{a:β}{b:α->β}:fJ (some q) a b=b q:=by simp_all [fJ]
theorem BA{a:β}{b:α->β}:fJ none a b=a:=by simp_all [fJ]
theorem RS{n:Nat}(h:n≤4294967296):cE n:=h
def yw(g:σ->Nat->α->σ):Nat->List α->σ->σ
 |_,[],s=>s
 |j,x::l,s=>yw g (j+1) l (g s j x)
theorem nG(l:List α)(mk:σ->Int->T)(g:σ->Nat->α->σ)(P:Nat->σ->Prop){f:Nat->T->Option β}(fin:σ->Option β)
 (step:∀n s (j:Nat) (h:j < l.length),P j s->f (n+1) (mk s j)=f n (mk (g s j l[j]) ((j:Int)+1))/\P (j+1) (g s j l[j]))
 (stop:∀n s,P l.length s->f (n+1) (mk s l.length)=fin s) {s0:σ} {n:Nat} (hn:l.length < n) (h0:P 0 s0):f n (mk s0 0)=fin (yw g 0 l s0)/\P l.length (yw g 0 l s0):=by
 have key:∀(m:List α) (pre:List α) (n:Nat) (s:σ),l=pre++m->m.length < n->P pre.length s->f n (mk s pre.length)=fin (yw g pre.length m s)/\P l.length (yw g pre.length m s):=by
  intro m
  induction m with
  |nil=>
   intro pre n s e hn hp;obtain⟨n,rfl⟩:∃n',n=n'+1:=⟨n - 1,by omega⟩;have:l.length=pre.length:=by grind
   rw [<-this] at hp⊢;exact⟨stop n s hp,hp⟩
  |cons x m ih=>
   intro pre n s e hn hp;simp only [length_cons] at hn;obtain⟨n,rfl⟩:∃n',n=n'+1:=⟨n - 1,by omega⟩;have hl:pre.length < l.length:=by grind
   have hx:l[pre.length]=x:=by simp [e]
   obtain⟨h1,h2⟩:=step n s pre.length hl hp;rw [hx] at h1 h2;have:=ih (pre++[x]) n (g s pre.length x) (by grind) (by omega) (by simp_all);rw [length_append] at this;simp only [length_cons,length_nil,Nat.zero_add] at this;rw [h1];exact this
 have:=key l [] n s0 rfl hn h0
 exact this
def fN(g:σ->Nat->α->Except ε σ):Nat->List α->σ->Except ε σ
 |_,[],s=>.ok s
 |j,x::l,s=>match g s j x with
  | .error e=>.error e
  | .ok s'=>fN g (j+1) l s'
theorem C7(l:List α)(mk:σ->Int->T)(g:σ->Nat->α->Except ε σ)(P:Nat->σ->Prop){f:Nat->T->Option β}(fin:Except ε σ->Option β)
 (step:∀n s (j:Nat) (h:j < l.length),P j s->(∃e,g s j l[j]= .error e/\f (n+1) (mk s j)=fin (.error e))\/(∃s',g s j l[j]= .ok s'/\f (n+1) (mk s j)=f n (mk s' ((j:Int)+1))/\P (j+1) s'))
 (stop:∀n s,P l.length s->f (n+1) (mk s l.length)=fin (.ok s)) {s0:σ} {n:Nat} (hn:l.length < n) (h0:P 0 s0):f n (mk s0 0)=fin (fN g 0 l s0):=by
 have key:∀(m:List α) (pre:List α) (n:Nat) (s:σ),l=pre++m->m.length < n->P pre.length s->f n (mk s pre.length)=fin (fN g pre.length m s):=by
  intro m
  induction m with
  |nil=>
   intro pre n s e hn hp;obtain⟨n,rfl⟩:∃n',n=n'+1:=⟨n - 1,by omega⟩;have:l.length=pre.length:=by grind
   rw [<-this] at hp⊢;exact stop n s hp
  |cons x m ih=>
   intro pre n s e hn hp;simp only [length_cons] at hn;obtain⟨n,rfl⟩:∃n',n=n'+1:=⟨n - 1,by omega⟩;have hl:pre.length < l.length:=by grind
   have hx:l[pre.length]=x:=by simp [e]
   rcases step n s pre.length hl hp with⟨e',h1,h2⟩ |⟨s',h1,h2,h3⟩
   .grind [fN]
   .rw [hx] at h1;have:=ih (pre++[x]) n s' (by grind) (by omega) (by simp_all);simp_all [length_append,length_cons,length_nil,Nat.zero_add,fN]
 exact key l [] n s0 rfl hn h0
end
section
variable {α β ε σ T:Type}
theorem mP(l:List α)(mk:σ->Int->T)(g:σ->Nat->α->Except ε σ)(P:Nat->σ->Prop){f:Nat->T->Option β}(fin:Except ε σ->Option β)
 (step:∀n s (j:Nat) (h:j < l.length),P j s->(f (n+1) (mk s j)=match g s j l[j] with | .error e=>fin (.error e) | .ok s'=>f n (mk s' ((j:Int)+1)))/\∀s',g s j l[j]= .ok s'->P (j+1) s')
 (stop:∀n s,P l.length s->f (n+1) (mk s l.length)=fin (.ok s)) {s0:σ} {n:Nat} (hn:l.length < n) (h0:P 0 s0):f n (mk s0 0)=fin (fN g 0 l s0):=
 C7 l mk g P fin (λn s j h hp=>by
  obtain⟨h1,h2⟩:=step n s j h hp
  grind) stop hn h0
end
theorem tG{α:Type}(p:α->Bool):∀(l:List α) (j:Nat),fN (λ(_:Unit) j x=>if p x then Except.error (j:Int) else .ok ()) j l ()=match l.findIdx? p with |some i=>.error ((i+j:Nat):Int) |none=>.ok ()
 |[],j=>by simp [fN]
 |x::l,j=>by
  rw [fN,findIdx?_cons]
  by_cases h:p x=true
  .
   simp [h]
  .
   simp only [h,if_false,Bool.false_eq_true]
   rw [tG p l (j+1)]
   grind
theorem KT{k:Nat}{l:List Int}{x:Int}(hk:l.length < k)(hl:l.length≤1000000):W (ru k l x) λr=>(0≤r↔x∈l):=by
 unfold ru
 have key:=W.loop (f:=kh k l x) (Q:=λr=>match r with | .error e=>0≤e/\x∈l | .ok _=>x∉l)
  (λm y=>0≤y/\y≤l.length/\m=l.length - y.toNat/\∀j:Nat,(j:Int) < y->l[j]? ≠some x) (λaL m y hI ih=>by
   obtain⟨h0,h1,hm,hj⟩:=hI;unfold kh;refine W.ite (λhlt=>W.at_ h0 hlt λv hv=>W.ite (λe=>W.ret ⟨h0,?_⟩) (λe=>W.ck (by omega) (by omega) (ih (m - 1) _ (by omega) ⟨by omega,by omega,by omega,λj hjy=>?_⟩))) (λhge=>W.ret ?_)
   .grind
   .grind
   grind [List.mem_iff_getElem?,Nat.lt_or_ge,List.getElem?_eq_none])
 refine W.bEE (key l.length k 0 hk ⟨Int.le_refl 0,by omega,by simp,λj hj=>by omega⟩) (λe he=>W.ret ⟨λ_=>he.2,λ_=>he.1⟩) (λ_ ho=>W.ret ⟨λh=>by omega,λh=>absurd h ho⟩)
def kS(s:Int):Prop:=0≤s/\s < 256
def dY(s:Int)(i:Nat):Prop:=s.toNat.testBit i=true
instance (s:Int) (i:Nat):Decidable (dY s i):=by unfold dY;infer_instance
theorem sw{x:Nat}(h:x < 256):IntKind.u8.wrap (x:Int)=x:=by
 grind [IntKind.wrap,IntKind.signed,IntKind.bits]
theorem tq{s:Int}(h:kS s):∃n:Nat,n < 256/\s=n:=⟨s.toNat,by have:=h.1;have:=h.2;omega,by have:=h.1;omega⟩
theorem Fa{n:Nat}(h:n < 256):(BitVec.ofInt IntKind.u8.bits (n:Int)).toNat=n:=by
 show(BitVec.ofInt 8 (n:Int)).toNat=n;simp_all
theorem F7{n m:Nat}(hn:n < 256)(hm:m < 256):n |||m < 256:=or_lt_two_pow (n:=8) hn hm
theorem IX{n m:Nat}(hn:n < 256):n &&& m < 256:=Nat.lt_of_le_of_lt and_le_left hn
theorem Mc{a b:Int}(ha:kS a)(hb:kS b):kS (Be .u8 a b)/\∀i,dY (Be .u8 a b) i↔dY a i\/dY b i:=by
 obtain⟨n,hn,rfl⟩:=tq ha;obtain⟨m,hm,rfl⟩:=tq hb
 have e:Be .u8 (n:Int) (m:Int)=((n |||m:Nat):Int):=by
  grind [Be,BitVec.toNat_or,Fa,sw,F7]
 rw [e];refine⟨⟨by omega,by grind [F7]⟩,λi=>?_⟩;simp [dY,testBit_or]
theorem LP{x:Int}(h0:0≤x)(h8:x < 8):kS (nE .u8 1 x)/\∀i:Nat,dY (nE .u8 1 x) i↔(i:Int)=x:=by
 obtain⟨n,rfl⟩:=Int.eq_ofNat_of_zero_le h0;have hn:n < 8:=by omega
 have e:nE .u8 1 (n:Int)=((2 ^ n:Nat):Int):=by
  unfold nE
  have h1:min (Int.toNat (n:Int)) IntKind.u8.bits=n:=by
   show min n 8=n;omega
  rw [h1,Int.one_mul];have h2:2 ^ n < 256:=Nat.pow_lt_pow_right (by decide) hn;grind [sw]
 rw [e];have h9:2 ^ n < 256:=Nat.pow_lt_pow_right (by decide) hn;refine⟨⟨Int.natCast_nonneg _,Int.ofNat_lt.2 h9⟩,λi=>?_⟩;simp only [dY,Int.toNat_natCast,testBit_two_pow,decide_eq_true_eq];omega
theorem Gm{k:Nat}{s:Int}(hs:kS s){i:Nat}(hi:i < 8):ee k s (i:Int)=some (decide (dY s i)):=by
 obtain⟨n,hn,rfl⟩:=tq hs;unfold ee;rw [cO,if_pos (by omega)];show some _=some _;congr 1
 have e1:gB .u8 (n:Int) (i:Int)=((n >>> i:Nat):Int):=by
  unfold gB
  have h1:min (Int.toNat (i:Int)) IntKind.u8.bits=i:=by
   show min i 8=i;omega
  grind [Int.fdiv_eq_ediv_of_nonneg,Int.natCast_nonneg,Nat.shiftRight_eq_div_pow]
 have hlt:n >>> i < 256:=Nat.lt_of_le_of_lt (by rw [Nat.shiftRight_eq_div_pow];exact div_le_self _ _) hn
 have e2:py .u8 ((n >>> i:Nat):Int) 1=(((n >>> i) &&& 1:Nat):Int):=by
  grind [py,BitVec.ofInt,BitVec.toNat_and,Fa,sw,IX]
 rw [e1,e2]
 have e3:(((n >>> i) &&& 1:Nat):Int)=1↔dY (n:Int) i:=by
  rw [dY,Int.toNat_natCast,testBit];grind
 simp_all
end Go.Proofs.YtcollhgigbijkaaGreat
set_option linter.unusedVariables false
set_option linter.unusedSimpArgs false
namespace Go.Proofs.YtcollhgigbijkaaGreat
open K Go Go.Proofs
abbrev mC(m:ah):Int:=m.1
abbrev mW(m:ah):Int:=m.2.1
abbrev mS(m:ah):Int:=m.2.2.1
abbrev mH(m:ah):Int:=m.2.2.2.1
abbrev mD(m:ah):List (List (List Int)):=m.2.2.2.2.1
abbrev mG(m:ah):List cC:=m.2.2.2.2.2
def yL(l:List Int)(c:Int):Option (List Int):=(l.findIdx? λy=>decide (c=y)).map λi=>(if 0 < i then [l[i-1]?.getD 0] else [])++(l[i+1]?).toList
def yM(d:List (List Int))(c:Int):Option (List Int):=d.findSome? λl=>yL l c
def Dx(m:ah)(d:Nat)(c:Int):Option (List Int):=yM ((mD m)[d]?.getD []) c
def oG(m:ah)(c:Int):Nat->Nat
 |0=>if(Dx m 0 c).isSome then 0 else 1
 |d+1=>if(Dx m (d+1) c).isSome then 0 else oG m c d+1
def oN(m:ah)(B:Int->Bool):Nat->Int->Int
 |0,c=>if B c then mW m else -1
 |d+1,c=>match Dx m d c with
  |none=>if mH m≤(oG m c d:Int) then -1 else oN m B d c
  |some l=>if 0≤oN m B d c then oN m B d c+1 else if l.any λx=>decide (mW m≤oN m B d x) then 0 else -1
theorem wT{m:ah}{B:Int->Bool}(hw:0≤mW m):∀{d:Nat} {c:Int}, -1≤oN m B d c
 |0,c=>by grind [oN]
 |d+1,c=>by
  have:=wT (B:=B) hw (d:=d) (c:=c)
  grind [oN]
theorem G1{m:ah}{B:Int->Bool}(hw:mW m≤3):∀{d:Nat} {c:Int},oN m B d c≤3+d
 |0,c=>by grind [oN]
 |d+1,c=>by
  have:=G1 (B:=B) hw (d:=d) (c:=c)
  grind [oN]
theorem BI{m:ah}{A B U:Int->Bool}(hw:0≤mW m)(hU:∀c,U c=(A c || B c)):∀(d:Nat) (c:Int),oN m U d c=mz (oN m A d c) (oN m B d c)
 |0,c=>by
  grind [oN,mz]
 |d+1,c=>by
  have ih:=BI hw hU d
  have a1:=wT (B:=A) hw (d:=d) (c:=c)
  have b1:=wT (B:=B) hw (d:=d) (c:=c)
  have ec:=ih c
  unfold oN
  split
  .
   grind [mz,ec]
  .
   rename_i l hl
   have hany:(l.any λx=>decide (mW m≤oN m U d x))=((l.any λx=>decide (mW m≤oN m A d x)) || l.any λx=>decide (mW m≤oN m B d x)):=by
    rw [Bool.eq_iff_iff];simp only [List.any_eq_true,Bool.or_eq_true,decide_eq_true_eq];grind [mz]
   rw [hany,ec];generalize oN m A d c=a at *;generalize oN m B d c=b at *;generalize (l.any λx=>decide (mW m≤oN m A d x))=p;generalize (l.any λx=>decide (mW m≤oN m B d x))=q;simp only [mz];grind
theorem Gf{k:Nat}{l:List Int}{x:Int}(hk:l.length < k)(hl:l.length≤1000000):fF k l x=some (match l.findIdx? (λy=>decide (x=y)) with |some i=>(i:Int) |none=> -1):=by
 unfold fF
 have key:=mP (f:=cX k l x) l (λ(_:Unit) j=>j) (λ_ j y=>if decide (x=y)=true then Except.error (j:Int) else .ok ()) (λ_ _=>True) (λr=>some r)
  (λn s j hj _=>by
   have hck:ck ((j:Int)+1)=some ((j:Int)+1):=eJ (by omega) (by omega);refine⟨?_,λ_ _=>trivial⟩;simp only [cX,Int.ofNat_lt,hj,if_true,f5 hj,bs,decide_eq_true_eq];grind)
  (λn s _=>by simp [cX]) (n:=k) (s0:=()) hk trivial
 rw [show cX k l x k 0=_ from key,tG (λy=>decide (x=y)) l 0];grind [decide,pE,qx]
def mR:List Int->List Int
 |[a,b]=>if b < a then [b,a] else [a,b]
 |l=>l
theorem sX{l:List Int}{x:Int}:x∈mR l↔x∈l:=by
 unfold mR;grind
theorem Ij{k:Nat}{l:List Int}(hk:10≤k)(hl:l.length≤2):ff k l=some (mR l):=by
 obtain⟨k,rfl⟩:∃n,k=n+4:=⟨k - 4,by omega⟩;have e0:ot (k+4) (IntKind.u64.wrap (0:Int))=some 0:=by kernel_rfl
 have e1:ot (k+4) (IntKind.u64.wrap (1:Int))=some 1:=by kernel_rfl
 have e2:ot (k+4) (IntKind.u64.wrap (2:Int))=some 2:=by kernel_rfl
 have c0:ck ((0:Int) - 0)=some 0:=rfl;have c1:ck ((1:Int) - 0)=some 1:=rfl;have c2:ck ((2:Int) - 0)=some 2:=rfl;have d1:ck ((0:Int)+1)=some 1:=rfl;have d2:ck ((1:Int)+1)=some 2:=rfl;have d3:ck ((1:Int) - 1)=some 0:=rfl;match l,hl with
 |[],_=>
  simp only [ff,length_nil,Int.ofNat_zero,e0,bs,cL,cf,bM,aW,mR,c0,d1];rfl
 |[a],_=>
  simp_all [ff,bs,cL,cf,bM,aW,mR]
 |[a,b],_=>
  have:(([a,b]:List Int).length:Int)=2:=rfl;have g0:aU [a,b] (0:Int)=some a:=rfl;have g1:aU [a,b] (1:Int)=some b:=rfl;have hn:∀x:Int,kl (k+4) x=some false:=λx=>by simp [kl]
  have hl:∀x y:Int,nJ (k+4) x y=some (decide (x < y)):=λx y=>by simp [nJ,hn]
  simp only [ff,this,e2,bs,cL,cf,bM,aW,bq,c2,d1,d2,d3,g0,g1,hl];grind [mR,bq,bs,aU]
end Go.Proofs.YtcollhgigbijkaaGreat
set_option linter.unusedVariables false
set_option linter.unusedSimpArgs false
namespace Go.Proofs.YtcollhgigbijkaaGreat
open K Go Go.Proofs
structure Vd(m:ah):Prop where
 c1:1≤mC m
 c5:mC m≤5
 w0:0≤mW m
 w3:mW m≤3
 s0:0≤mS m
 s3:mS m≤3
 h1:1≤mH m
 h3:mH m≤3
 d1:1≤(mD m).length
 d6:(mD m).length≤6
 r3:∀r∈mD m,r.length≤3
 l5:∀r∈mD m,∀l∈r,l.length≤5
 x5:∀r∈mD m,∀l∈r,∀x∈l,0≤x/\x < mC m
 nd:∀r∈mD m,r.flatten.Nodup
 g8:(mG m).length≤8
 gl:∀g∈mG m,0≤g.1/\g.1 < mC m/\0≤g.2.1/\g.2.1≤(mD m).length
theorem yK{l:List Int}{c:Int}{s:List Int}(h:yL l c=some s):s.length≤2/\∀x∈s,x∈l:=by
 unfold yL at h;cases e:l.findIdx? (λy=>decide (c=y)) with
 |none=>simp_all
 |some i=>
  rw [e] at h;obtain rfl:=Option.some.inj h;have hi:i < l.length:=(List.findIdx?_eq_some_iff_getElem.1 e).1;grind
theorem GX{d:List (List Int)}{c:Int}{s:List Int}(h:yM d c=some s):∃l∈d,yL l c=some s:=by
 simp_all [yM,List.exists_of_findSome?_eq_some]
theorem wP{m:ah}(v:Vd m){d:Nat}{c:Int}{s:List Int}(h:Dx m d c=some s):s.length≤2/\∀x∈s,0≤x/\x < mC m:=by
 obtain⟨l,hl,h2⟩:=GX h;cases e:(mD m)[d]? with
 |none=>simp_all
 |some r=>
  rw [e] at hl;have h3:=yK h2;exact⟨h3.1,λx hx=>v.x5 r (List.mem_of_getElem? e) l hl x (h3.2 x hx)⟩
def NA(m:ah)(c:Int)(d:Nat):Int ⊕ List Int:=match Dx m d c with
 |some s=>.inr (mR s)
 |none=>.inl (oG m c d)
theorem xR{k:Nat}{c:Int}{r:List (List Int)}(hk:10≤k)(hr:r.length≤3)(hl:∀l∈r,l.length≤5):
 cp k c r k 0=some (match yM r c with |some s=>.error (.inr (mR s)) |none=>.ok ()):=by
 have key:=mP (f:=cp k c r) r (λ(_:Unit) j=>j) (λ_ _ l=>match yL l c with |some s=>Except.error (Sum.inr (mR s):Int ⊕ List Int) |none=>.ok ()) (λ_ _=>True) (λx=>some x)
  (λn s j hj _=>by
   refine⟨?_,λ_ _=>trivial⟩;have h5:=hl _ (List.getElem_mem hj);have hck:ck ((j:Int)+1)=some ((j:Int)+1):=eJ (by omega) (by omega);simp only [cp,Int.ofNat_lt,hj,if_true,f5 hj,bs];rw [Gf (by omega) (by omega),bs];generalize r[j]=l at *;have hb:yL l c=(l.findIdx? λy=>decide (c=y)).map λi=>(if 0 < i then [l[i-1]?.getD 0] else [])++(l[i+1]?).toList:=rfl;cases e:l.findIdx? (λy=>decide (c=y)) with
   |none=>
    simp_all
   |some i=>
    rw [e] at hb;simp only [Option.map_some] at hb;have hi:i < l.length:=(List.findIdx?_eq_some_iff_getElem.1 e).1;rw [hb];have hlen:=(yK hb).1;have c1:ck ((i:Int) - 1)=some ((i:Int) - 1):=eJ (by omega) (by omega);have c2:ck ((i:Int)+1)=some ((i:Int)+1):=eJ (by omega) (by omega);have ok0:cO (cE (length ([]:List Int)+length [l[i-1]?.getD 0]))=some ():=eF (by simp [cE]);simp only [show(0:Int)≤(i:Int) from Int.natCast_nonneg _,if_true,c1,c2,bs]
    have e1:(if(0:Int) < (i:Int) then((aU l ((i:Int) - 1)).bind λx11=>(cO (cE (length ([]:List Int)+length [x11]))).bind λ_=>some (([]:List Int)++[x11])) else some ([]:List Int))=some (if 0 < i then [l[i-1]?.getD 0] else []):=by
     by_cases h0:0 < i
     .have g:aU l ((i:Int) - 1)=some (l[i-1]?.getD 0):=by
       grind [f5,List.getElem?_eq_getElem]
      simp_all
     simp_all
    rw [e1,bs];generalize (if 0 < i then [l[i-1]?.getD 0] else [])=p at *
    have e2:(if(i:Int)+1 < (l.length:Int) then((aU l ((i:Int)+1)).bind λx18=>(cO (cE (length p+length [x18]))).bind λ_=>some (p++[x18])) else some p)=some (p++(l[i+1]?).toList):=by
     by_cases h1:i+1 < l.length
     .have g:aU l ((i:Int)+1)=some l[i+1]:=by
       have:((i:Int)+1)=((i+1:Nat):Int):=by omega
       rw [this,f5 h1]
      rw [if_pos (by omega),g,bs,List.getElem?_eq_getElem h1];grind [List.getElem?_eq_getElem,eF,length_append,cE,bs]
     grind
    simp_all [bs,Ij])
  (λn s _=>by simp [cp]) (n:=k) (s0:=()) (by omega) trivial
 rw [show cp k c r k 0=_ from key]
 congr 1
 have:∀(r:List (List Int)) (j:Nat),fN (λ(_:Unit) _ l=>match yL l c with |some s=>Except.error (Sum.inr (mR s):Int ⊕ List Int) |none=>.ok ()) j r ()=match yM r c with |some s=>.error (.inr (mR s)) |none=>.ok ():=by
  intro r
  induction r with
  |nil=>intro j;rfl
  |cons l r ih=>
   intro j;rw [fN];unfold yM;rw [findSome?_cons];cases yL l c with
   |none=>exact ih (j+1)
   |some s=>rfl
 simp_all
theorem By{m:ah}{c:Int}:∀{d:Nat},oG m c d≤d+1
 |0=>by grind [oG]
 |d+1=>by have:=By (m:=m) (c:=c) (d:=d);grind [oG]
theorem s8{k:Nat}{m:ah}{c:Int}(v:Vd m)(hk:10≤k):∀(d m0:Nat),d < m0->d < (mD m).length->dH k m0 m c (d:Int)=some (NA m c d)
 |d,0,h,_=>absurd h (not_lt_zero _)
 |d,m0+1,h,hd=>by
  have hm:=List.getElem_mem hd
  unfold dH
  rw [f5 hd,bs,xR hk (v.r3 _ hm) (v.l5 _ hm)]
  have hbes:Dx m d c=yM (mD m)[d] c:=by unfold Dx;simp_all
  cases e:yM (mD m)[d] c with
  |some s=>
   simp_all [qx,NA]
  |none=>
   rw [pE]
   unfold NA
   rw [hbes,e]
   match d,hd,h with
   |0,hd,h=>
    simp_all [oG]
   |d+1,hd,h=>
    have h6:=v.d6
    have c1:ck (((d+1:Nat):Int) - 1)=some (d:Int):=by grind [eJ]
    have ih:=s8 v hk d m0 (by omega) (by omega) (c:=c)
    rw [if_pos (by omega),c1,bs,ih,bs]
    rw [hbes.symm] at e
    have hcold:oG m c (d+1)=oG m c d+1:=by grind [oG]
    have hle:=By (m:=m) (c:=c) (d:=d)
    unfold NA
    cases e2:Dx m d c with
    |some s=>
     simp only [Ir]
     have:oG m c d=0:=by cases d <;> simp [oG,e2]
     simp_all
    |none=>
     have c2:ck ((1:Int)+(oG m c d:Int))=some ((1:Int)+(oG m c d:Int)):=eJ (by omega) (by omega)
     simp only [Ir,N6,c2,bs,if_true,hcold]
     grind
end Go.Proofs.YtcollhgigbijkaaGreat
set_option linter.unusedVariables false
set_option linter.unusedSimpArgs false
namespace Go.Proofs.YtcollhgigbijkaaGreat
open K Go Go.Proofs
def kB(f:Int->Int):List Int:=[f 0,f 1,f 2,f 3,f 4]
def upd(f:Int->Int)(c v:Int):Int->Int:=λx=>if x=c then v else f x
theorem RE{c:Int}(h0:0≤c)(h:c < 5):c=0\/c=1\/c=2\/c=3\/c=4:=by omega
theorem AV{f:Int->Int}{c:Int}(h0:0≤c)(h:c < 5):aU (kB f) c=some (f c):=by
 rcases RE h0 h with rfl |rfl |rfl |rfl |rfl <;> rfl
theorem AU{f:Int->Int}{c v:Int}(h0:0≤c)(h:c < 5):List.set (kB f) (Int.toNat c) v=kB (upd f c v):=by
 rcases RE h0 h with rfl |rfl |rfl |rfl |rfl <;> rfl
theorem lQ{f g:Int->Int}(h:∀c,0≤c->c < 5->f c=g c):kB f=kB g:=by
 simp_all [kB]
def NZ(m:ah)(f:Int->Int)(d:Nat)(c:Int):Int:=match Dx m d c with
 |none=>if mH m≤(oG m c d:Int) then -1 else f c
 |some l=>if 0≤f c then f c+1 else if l.any λx=>decide (mW m≤f x) then 0 else -1
def NC(m:ah)(f:Int->Int)(d:Nat):Int->Int:=λc=>if 0≤c/\c < mC m then NZ m f d c else f c
theorem ul{k:Nat}{m:ah}{f:Int->Int}(hw:0≤mW m){s:List Int}(hs:s.length < k)(hs2:s.length≤1000)(hx:∀x∈s,0≤x/\x < 5):
 bO k m (kB f) s k 0=some (match s.find? (λx=>decide (mW m≤f x)) with |some x=>.error x |none=>.ok ()):=by
 have key:=mP (f:=bO k m (kB f) s) s (λ(_:Unit) j=>j) (λ_ _ x=>if decide (mW m≤f x)=true then Except.error x else .ok ()) (λ_ _=>True) (λx=>some x)
  (λn _ j hj _=>by
   refine⟨?_,λ_ _=>trivial⟩;have h5:=hx _ (List.getElem_mem hj);have hck:ck ((j:Int)+1)=some ((j:Int)+1):=eJ (by omega) (by omega);have him:mz (0:Int) m.2.1=mW m:=by show mz 0 (mW m)=mW m;grind [mz]
   simp only [bO,Int.ofNat_lt,hj,if_true,f5 hj,bs,eF h5,AV h5.1 h5.2,him,hck,decide_eq_true_eq];grind)
  (λn s _=>by simp [bO]) (n:=k) (s0:=()) hs trivial
 rw [show bO k m (kB f) s k 0=_ from key]
 congr 1
 have:∀(s:List Int) (j:Nat),fN (λ(_:Unit) _ x=>if decide (mW m≤f x)=true then Except.error x else .ok ()) j s ()=match s.find? (λx=>decide (mW m≤f x)) with |some x=>.error x |none=>.ok ():=by
  intro s
  induction s with
  |nil=>intro j;rfl
  |cons x s ih=>
   intro j;rw [fN,find?_cons];grind
 simp_all
theorem xI{s:List Int}:(mR s).length=s.length:=by
 unfold mR;grind
def H7(m:ah)(f:Int->Int)(l:List Int):Int:=((mR l).find? λx=>decide (mW m≤f x)).getD (-1)
theorem zw{k:Nat}{m:ah}{f:Int->Int}{c:Int}{d:Nat}(v:Vd m)(hk:10≤k)(hd:d < (mD m).length){l:List Int}(h:Dx m d c=some l):
 c7 k m (kB f) c (d:Int)=some (H7 m f l):=by
 have h6:=v.d6
 have c5:=v.c5
 have hb:=wP v h
 unfold c7
 rw [s8 v hk d k (by omega) hd,bs]
 unfold NA
 rw [h]
 have e1:GU (Sum.inr (mR l):Int ⊕ List Int) (λn=>gV k n) (λl=>gR k l)=some (mR l):=rfl
 rw [e1,bs,ul v.w0 (by rw [xI];omega) (by rw [xI];omega) λx hx=>by grind [sX]]
 unfold H7
 cases(mR l).find? λx=>decide (mW m≤f x) with
 |none=>rw [pE];rfl
 |some x=>rw [qx];rfl
theorem H6{m:ah}{f:Int->Int}{l:List Int}(hx:∀x∈l,0≤x):0≤H7 m f l↔(l.any λx=>decide (mW m≤f x))=true:=by
 unfold H7;rw [List.any_eq_true];cases e:(mR l).find? λx=>decide (mW m≤f x) with
 |none=>
  simp_all [Option.getD_none,List.find?_eq_none,sX]
 |some x=>
  grind [List.mem_of_find?_eq_some,sX]
theorem FU{k:Nat}{m:ah}{f:Int->Int}{d:Nat}(v:Vd m)(hk:10≤k)(hd:d < (mD m).length)(hf:∀c,0≤c->c < mC m-> -1≤f c/\f c≤1000):
 fX k m (kB f) (d:Int)=some (kB (NC m f d)):=by
 have c5:=v.c5
 have c1:=v.c1
 have h6:=v.d6
 unfold fX
 have key:=nG (T:=List Int×Int) (f:=bZ k m (kB f) (d:Int)) (List.range (mC m).toNat) (λ(g:Int->Int) j=>(kB g,j)) (λg j _=>upd g (j:Int) (NZ m f d (j:Int))) (λj g=>g=λc=>if 0≤c/\c < (j:Int) then NZ m f d c else f c) (λg=>some (kB g))
  (λn g j hj hg=>by
   rw [length_range] at hj;have j0:(0:Int)≤(j:Int):=Int.natCast_nonneg _;have j1:(j:Int) < mC m:=by omega
   have j5:(j:Int) < 5:=by omega
   have hck:ck ((j:Int)+1)=some ((j:Int)+1):=eJ (by omega) (by omega);have hp:cO ((0:Int)≤(j:Int)/\(j:Int) < 5)=some ():=eF ⟨j0,j5⟩;have hgj:g (j:Int)=f (j:Int):=by simp_all
   have hfj:=hf _ j0 j1;refine⟨?_,?_⟩
   .have hm1:(m.1:Int)=mC m:=rfl;have hm2:m.2.2.2.1=mH m:=rfl;simp only [bZ,hm1,hm2,j1,if_true,s8 v hk d k (by omega) hd,bs,hp,AV j0 j5,hck,AU j0 j5];unfold NA NZ;cases e:Dx m d (j:Int) with
    |none=>
     simp only [Ir,N6,if_true];by_cases hh:mH m≤(oG m (j:Int) d:Int)
     .simp_all
     .simp only [hh,if_false,bs];refine congrArg (λr=>bZ k m (kB f) (d:Int) n (r,(j:Int)+1)) (lQ λc _ _=>?_);simp_all [upd]
    |some l=>
     have hb:=wP v e;simp only [Ir,Bool.false_eq_true,if_false,not_false_eq_true,if_true];by_cases h0:0≤f (j:Int)
     .have hck2:ck (f (j:Int)+1)=some (f (j:Int)+1):=eJ (by omega) (by omega);simp_all
     .simp only [h0,if_false,zw v hk hd e,bs];have ht:=H6 (m:=m) (f:=f) (l:=l) λx hx=>(hb.2 x hx).1;by_cases hany:(l.any λx=>decide (mW m≤f x))=true
      .simp_all
      .rw [if_neg λh=>hany (ht.1 h),bs,if_neg hany];refine congrArg (λr=>bZ k m (kB f) (d:Int) n (r,(j:Int)+1)) (lQ λc _ _=>?_);grind [upd]
   .rw [hg];funext c;unfold upd;grind)
  (λn g hg=>by
   rw [length_range];have:((mC m).toNat:Int)=mC m:=by omega
   simp_all [bZ,if_neg,mC]) (n:=k) (s0:=f) (by grind) (by grind)
 rw [show bZ k m (kB f) (d:Int) k (kB f,0)=_ from key.1,bs]
 congr 1
 refine lQ λc _ _=>?_
 rw [key.2,length_range]
 unfold NC
 grind
end Go.Proofs.YtcollhgigbijkaaGreat
set_option linter.unusedVariables false
set_option linter.unusedSimpArgs false
namespace Go.Proofs.YtcollhgigbijkaaGreat
open K Go Go.Proofs
def cr(F:Nat->Int->Int):List (List Int):=[kB (F 0),kB (F 1),kB (F 2),kB (F 3),kB (F 4),kB (F 5),kB (F 6)]
def zq(F:Nat->Int->Int)(n:Nat)(f:Int->Int):Nat->Int->Int:=λi=>if i=n then f else F i
theorem RD{n:Nat}(h:n < 7):n=0\/n=1\/n=2\/n=3\/n=4\/n=5\/n=6:=by omega
theorem GQ{F:Nat->Int->Int}{n:Nat}(h:n < 7):aU (cr F) (n:Int)=some (kB (F n)):=by
 rcases RD h with rfl |rfl |rfl |rfl |rfl |rfl |rfl <;> rfl
theorem MZ{F:Nat->Int->Int}{n:Nat}{f:Int->Int}(h:n < 7):List.set (cr F) n (kB f)=cr (zq F n f):=by
 rcases RD h with rfl |rfl |rfl |rfl |rfl |rfl |rfl <;> rfl
def NH(m:ah)(B:Int->Bool):Nat->Int->Int
 |0=>λc=>if B c then mW m else -1
 |n+1=>NC m (NH m B n) n
theorem wU{m:ah}(v:Vd m){B:Int->Bool}:∀(n:Nat) (c:Int),0≤c->c < mC m->NH m B n c=oN m B n c
 |0,c,_,_=>rfl
 |n+1,c,h0,h1=>by
  have ih:=wU v (B:=B) n
  show NC m (NH m B n) n c=oN m B (n+1) c
  unfold NC
  rw [if_pos ⟨h0,h1⟩]
  unfold NZ oN
  cases e:Dx m n c with
  |none=>simp_all
  |some l=>
   have hb:=(wP v e).2
   grind
def MY(m:ah)(B:Int->Bool):Nat->Int->Int:=λn=>if n≤(mD m).length then NH m B n else λ_=>0
def ql(S:Int):Int->Bool:=λc=>decide (dY S c.toNat)
theorem EK{k:Nat}{m:ah}{S:Int}(hk:10≤k)(hS:kS S):dX k m S=some (kB λc=>if ql S c then mW m else -1):=by
 unfold dX
 have key:=nG (T:=List Int×Int) (f:=co k m S) (List.range 5) (λ(g:Int->Int) j=>(kB g,j)) (λg j _=>upd g (j:Int) (if ql S (j:Int) then mW m else -1)) (λj g=>∀c,0≤c->c < (j:Int)->g c=if ql S c then mW m else -1) (λg=>some (kB g))
  (λn g j hj hg=>by
   rw [length_range] at hj;have j0:(0:Int)≤(j:Int):=Int.natCast_nonneg _;have j5:(j:Int) < 5:=by omega
   have hck:ck ((j:Int)+1)=some ((j:Int)+1):=eJ (by omega) (by omega);have hp:cO ((0:Int)≤(j:Int)/\(j:Int) < 5)=some ():=eF ⟨j0,j5⟩;have hp':cO ((0:Int)≤(j:Int)/\True)=some ():=eF ⟨j0,trivial⟩;refine⟨?_,?_⟩
   .simp only [co,j5,if_true,hp,hp',bs,Gm (k:=k) hS (by omega:j < 8),hck,AU j0 j5];have hin:ql S (j:Int)=decide (dY S j):=by unfold ql;simp_all
    rw [hin];cases hh:decide (dY S j) with
    |true=>
     simp only [if_true,bs];refine congrArg (λr=>co k m S n (r,(j:Int)+1)) (lQ λc _ _=>?_);simp_all [upd]
    |false=>simp_all
   .intro c hc0 hc1;unfold upd;grind)
  (λn g hg=>by
   simp_all [length_range,co,if_neg]) (n:=k) (s0:=λ_=>0) (by grind) (λc h0 h1=>by omega)
 have e0:([(0:Int),(0:Int),(0:Int),(0:Int),(0:Int)]:List Int)=kB λ_=>0:=rfl;rw [e0,show co k m S k (kB λ_=>0,0)=_ from key.1,bs];refine congrArg some (lQ λc h0 h5=>?_);simp_all
theorem vx{k:Nat}{m:ah}{S:Int}(v:Vd m)(hk:10≤k)(hS:kS S):kZ k m S=some (cr (MY m (ql S))):=by
 have d6:=v.d6;have d1:=v.d1;have w0:=v.w0;have w3:=v.w3;unfold kZ iP;have hm:cO (0≤S/\S < 256)=some ():=eF hS;have hp0:cO ((0:Int)≤0/\(0:Int) < 7)=some ():=eF ⟨by omega,by omega⟩;rw [hm,bs,EK hk hS,bs,hp0,bs]
 have key:=nG (T:=List (List Int)×Int) (f:=bG k m) (mD m) (λ(F:Nat->Int->Int) j=>(cr F,j)) (λF j _=>zq F (j+1) (NC m (F j) j)) (λj F=>F=λn=>if n≤j then NH m (ql S) n else λ_=>0) (λF=>some (cr F))
  (λn F j hj hF=>by
   have j0:(0:Int)≤(j:Int):=Int.natCast_nonneg _;have hck:ck ((j:Int)+1)=some ((j:Int)+1):=eJ (by omega) (by omega);have hp:cO ((0:Int)≤(j:Int)/\(j:Int) < 7)=some ():=eF ⟨j0,by omega⟩;have hp2:cO ((0:Int)≤(j:Int)+1/\(j:Int)+1 < 7)=some ():=eF ⟨by omega,by omega⟩;have hFj:F j=NH m (ql S) j:=by simp_all
   have hj':(j:Int) < (m.2.2.2.2.1.length:Int):=Int.ofNat_lt.2 hj
   have hnx:=FU (k:=k) (f:=F j) v hk hj (λc h0 h1=>by
    rw [hFj,wU v j c h0 h1];have:=wT (B:=ql S) w0 (d:=j) (c:=c);have:=G1 (B:=ql S) w3 (d:=j) (c:=c);omega)
   refine⟨?_,?_⟩
   .simp only [bG,hj',if_true,hck,hp,bs,GQ (F:=F) (show j < 7 by omega),hnx,hp2];grind [Int.toNat,MZ]
   .rw [hF];funext i;unfold zq;by_cases e:i=j+1
    .subst e;simp only [if_true,Nat.le_refl];rfl
    grind)
  (λn F hF=>by
   unfold bG;simp_all) (n:=k) (s0:=zq (λ_ _=>0) 0 (λc=>if ql S c then mW m else -1)) (by omega) (by
   funext n;unfold zq;by_cases e:n=0
   .subst e;rfl
   simp_all)
 have e0:List.set rH (Int.toNat 0) (kB λc=>if ql S c then mW m else -1)=cr (zq (λ_ _=>0) 0 (λc=>if ql S c then mW m else -1)):=rfl;rw [e0,show bG k m k (cr (zq (λ_ _=>0) 0 (λc=>if ql S c then mW m else -1)),0)=_ from key.1,bs];rw [key.2];rfl
theorem Jz{m:ah}(v:Vd m){B:Int->Bool}{n:Nat}{c:Int}(hn:n≤(mD m).length)(h0:0≤c)(h1:c < mC m):MY m B n c=oN m B n c:=by
 simp_all [MY,if_pos,wU]
end Go.Proofs.YtcollhgigbijkaaGreat
set_option linter.unusedVariables false
set_option linter.unusedSimpArgs false
namespace Go.Proofs.YtcollhgigbijkaaGreat
open K Go Go.Proofs
def wk{σ:Type}(bad:σ->Int->Option Int)(add:σ->Int->σ):List Int->σ->Except Int σ
 |[],s=>.ok s
 |x::l,s=>match bad s x with
  |some e=>.error e
  |none=>wk bad add l (add s x)
theorem vM{σ:Type}{bad:σ->Int->Option Int}{add:σ->Int->σ}:∀(l:List Int) (j:Nat) (s:σ),fN (λs _ x=>match bad s x with |some e=>Except.error e |none=>.ok (add s x)) j l s=wk bad add l s
 |[],j,s=>rfl
 |x::l,j,s=>by
  rw [fN,wk]
  cases bad s x with
  |some e=>rfl
  |none=>exact vM l (j+1) (add s x)
theorem uN{σ:Type}{bad:σ->Int->Option Int}{add:σ->Int->σ}:∀(a b:List Int) (s:σ),wk bad add (a++b) s=match wk bad add a s with | .error e=>.error e | .ok s'=>wk bad add b s'
 |[],b,s=>rfl
 |x::a,b,s=>by
  rw [cons_append,wk,wk]
  cases bad s x with
  |some e=>rfl
  |none=>exact uN a b (add s x)
theorem AO{σ:Type}{bad:σ->Int->Option Int}{add:σ->Int->σ}:∀(r:List (List Int)) (j:Nat) (s:σ),fN (λs _ l=>wk bad add l s) j r s=wk bad add r.flatten s
 |[],j,s=>rfl
 |l::r,j,s=>by
  rw [fN,flatten_cons,uN]
  cases wk bad add l s with
  |error e=>rfl
  |ok s'=>exact AO r (j+1) s'
theorem Ej{σ τ:Type}{b1:σ->Int->Option Int}{a1:σ->Int->σ}{b2:τ->Int->Option Int}{a2:τ->Int->τ}(R:σ->τ->Prop)(hb:∀s t x,R s t->b1 s x=b2 t x)(ha:∀s t x,R s t->b1 s x=none->R (a1 s x) (a2 t x)):
 ∀(l:List Int) (s:σ) (t:τ),R s t->(∃e,wk b1 a1 l s= .error e/\wk b2 a2 l t= .error e)\/∃s' t',wk b1 a1 l s= .ok s'/\wk b2 a2 l t= .ok t'/\R s' t'
 |[],s,t,h=>.inr ⟨s,t,rfl,rfl,h⟩
 |x::l,s,t,h=>by
  rw [wk,wk,<-hb s t x h]
  cases e:b1 s x with
  |some c=>simp_all
  |none=>exact Ej R hb ha l _ _ (ha s t x h e)
theorem zm{σ:Type}{bad:σ->Int->Option Int}{add:σ->Int->σ}(P:σ->Prop)(hs:∀s x,P s->bad s x=none->P (add s x)):∀(l:List Int) (s s':σ),P s->wk bad add l s= .ok s'->P s'
 |[],s,s',h,e=>by cases e;exact h
 |x::l,s,s',h,e=>by
  rw [wk] at e
  cases hb:bad s x with
  |some c=>simp_all
  |none=>rw [hb] at e;exact zm P hs l _ s' (hs s x h hb) e
theorem j7{k:Nat}{a b c:Int}:dj k a b c=some (decide (b≤a/\a≤c)):=by
 grind [dj]
theorem PW{n:Int}(h:1≤n/\n≤5):ck (n - 1)=some (n - 1):=by grind [eJ]
def zi(C:Int)(s x:Int):Option Int:=if¬(0≤x/\x < C) then some 3 else if dY s x.toNat then some 4 else none
def wV(s x:Int):Int:=Be .u8 s (nE .u8 1 x)
def Au(C:Int)(s:List Int)(x:Int):Option Int:=if¬(0≤x/\x < C) then some 3 else if x∈s then some 4 else none
def BJ(s:List Int)(x:Int):List Int:=s++[x]
theorem A9:kS 0:=⟨by decide,by decide⟩
theorem KQ{C s x:Int}(h:zi C s x=none):0≤x/\x < C:=by
 unfold zi at h;grind
theorem nR{k:Nat}{s x:Int}(hs:kS s)(h0:0≤x)(h8:x < 8):fo k s x=some (wV s x)/\kS (wV s x)/\∀i:Nat,dY (wV s x) i↔dY s i\/(i:Int)=x:=by
 have h1:=LP h0 h8;have h2:=Mc hs h1.1;refine⟨?_,h2.1,λi=>?_⟩
 .unfold fo;rw [eF h0,bs];rfl
 .show dY (Be .u8 s (nE .u8 1 x)) i↔_;simp_all
theorem yN{C s x:Int}(hC:C≤5)(hs:kS s)(h:zi C s x=none):kS (wV s x):=by
 have:=KQ h;exact(nR (k:=0) hs this.1 (by omega)).2.1
def rG(C:Int)(r:List (List Int)):Int:=if 3 < r.length then 6 else match wk (Au C) BJ r.flatten [] with | .error e=>e | .ok _=>0
theorem Di{k:Nat}{m:ah}(hC:1≤mC m/\mC m≤5){l:List Int}(hk:l.length < k)(hl:l.length≤1000){s:Int}(hs:kS s):
 cT k m l k (s,0)=some (wk (zi (mC m)) wV l s):=by
 have key:=mP (T:=Int×Int) (f:=cT k m l) l (λ(s:Int) j=>(s,j)) (λs _ x=>match zi (mC m) s x with |some e=>Except.error e |none=>.ok (wV s x)) (λ_ s=>kS s) (λr=>some r)
  (λn s j hj hs=>by
   have hck:ck ((j:Int)+1)=some ((j:Int)+1):=eJ (by omega) (by omega);have hc:ck (m.1 - 1)=some (m.1 - 1):=PW hC;refine⟨?_,λs' e=>?_⟩
   .simp only [cT,Int.ofNat_lt,hj,if_true,f5 hj,bs,hc,j7];generalize l[j]=x;by_cases h:0≤x/\x < mC m
    .have h':0≤x/\x≤m.1 - 1:=⟨h.1,by grind⟩;have hh:=Gm (k:=k) hs (i:=x.toNat) (by omega);have ex:((x.toNat:Nat):Int)=x:=by omega
     rw [ex] at hh;simp only [h',and_self,decide_true,not_true_eq_false,if_false,hh,bs];have eb:zi (mC m) s x=if dY s x.toNat then some 4 else none:=by unfold zi;simp_all
     rw [eb];by_cases h2:dY s x.toNat
     .simp_all
     .simp only [h2,decide_false,Bool.false_eq_true,if_false,(nR (k:=k) hs h.1 (by omega)).1,bs,hck]
    .have h':¬(0≤x/\x≤m.1 - 1):=λhh=>h ⟨hh.1,by grind⟩;have eb:zi (mC m) s x=some 3:=by unfold zi;simp_all
     simp_all
   .cases e2:zi (mC m) s l[j] with
    |some c=>simp_all
    |none=>grind [yN])
  (λn s _=>by simp [cT]) (n:=k) (s0:=s) hk hs
 simp_all [cT,vM]
theorem Dj{k:Nat}{m:ah}(hC:1≤mC m/\mC m≤5){r:List (List Int)}(hk:r.length < k)(hr:r.length≤1000)(hl:∀l∈r,l.length < k/\l.length≤1000):
 cU k m r k (0,0)=some (match wk (zi (mC m)) wV r.flatten 0 with | .error e=>.error e | .ok _=>.ok ()):=by
 have key:=mP (T:=Int×Int) (f:=cU k m r) r (λ(s:Int) j=>(s,j)) (λs _ l=>wk (zi (mC m)) wV l s) (λ_ s=>kS s) (λx=>some (match x with | .error e=>Except.error e | .ok _=>.ok ()))
  (λn s j hj hs=>by
   have hck:ck ((j:Int)+1)=some ((j:Int)+1):=eJ (by omega) (by omega);have hlj:=hl _ (List.getElem_mem hj);refine⟨?_,λs' e=>zm kS (λs x=>yN hC.2) _ _ _ hs e⟩;simp only [cU,Int.ofNat_lt,hj,if_true,f5 hj,bs,Di hC hlj.1 hlj.2 hs];cases wk (zi (mC m)) wV r[j] s with
   |error e=>rw [qx]
   |ok s'=>rw [pE,hck,bs])
  (λn s _=>by simp [cU]) (n:=k) (s0:=0) hk A9
 simp_all [cU,AO]
theorem Jp{C:Int}(hC:C≤5)(l:List Int):(∃e,wk (zi C) wV l 0= .error e/\wk (Au C) BJ l []= .error e)\/∃s t,wk (zi C) wV l 0= .ok s/\wk (Au C) BJ l []= .ok t/\(kS s/\∀i:Nat,dY s i↔(i:Int)∈t):=by
 refine Ej (λs t=>kS s/\∀i:Nat,dY s i↔(i:Int)∈t) (λs t x h=>?_) (λs t x h hb=>?_) l 0 [] ⟨A9,λi=>by simp [dY]⟩
 .unfold zi Au;grind
 .have hx:=KQ hb;have hw:=nR (k:=0) h.1 hx.1 (by omega);simp_all [BJ]
theorem IT{k:Nat}{m:ah}(hC:1≤mC m/\mC m≤5){r:List (List Int)}(hk:1000 < k)(hr:r.length≤1000)(hl:∀l∈r,l.length≤1000):iw k m r=some (rG (mC m) r):=by
 unfold iw rG;by_cases h3:3 < r.length
 .grind
 .rw [if_neg (by omega),if_neg h3,Dj hC (by omega) hr λl hh=>⟨by grind,hl l hh⟩];rcases Jp hC.2 r.flatten with⟨e,h1,h2⟩ |⟨s,t,h1,h2,_⟩
  .simp_all [qx]
  simp_all [pE]
end Go.Proofs.YtcollhgigbijkaaGreat
set_option linter.unusedVariables false
set_option linter.unusedSimpArgs false
namespace Go.Proofs.YtcollhgigbijkaaGreat
open K Go Go.Proofs
theorem qO:∀(n:Nat) (l:List Int),l.Nodup->(∀x∈l,0≤x/\x < (n:Int))->l.length≤n
 |0,l,_,h=>by
  cases l with
  |nil=>simp
  |cons x l=>have:=h x (by simp);omega
 |n+1,l,hn,h=>by
  have h1:=qO n (l.erase (n:Int)) (hn.erase _) (λx hx=>by
   grind)
  grind
theorem Pe{C:Int}{s:List Int}{x:Int}(h:Au C s x=none):(0≤x/\x < C)/\x∉s:=by
 unfold Au at h;grind
def Mt(C:Int)(s:List Int):Prop:=s.Nodup/\∀x∈s,0≤x/\x < C
theorem Mt.add{C:Int}{s:List Int}{x:Int}(h:Mt C s)(hb:Au C s x=none):Mt C (BJ s x):=by
 have:=Pe hb;refine⟨?_,λy hy=>?_⟩
 .unfold BJ;rw [nodup_append];exact⟨h.1,by simp,λa ha b hb e=>by simp_all⟩
 .rcases List.mem_append.1 hy with hy |hy
  .exact h.2 y hy
  simp_all
theorem Mt.len{C:Int}{s:List Int}(hC:0≤C/\C≤5)(h:Mt C s):s.length≤5:=by
 have:=qO C.toNat s h.1 λx hx=>⟨(h.2 x hx).1,by have:=(h.2 x hx).2;omega⟩;omega
theorem Ek{C:Int}:∀{l s t:List Int},wk (Au C) BJ l s= .ok t->t=s++l
 |[],s,t,e=>by cases e;simp
 |x::l,s,t,e=>by
  rw [wk] at e
  cases hb:Au C s x with
  |some c=>simp_all
  |none=>
   rw [hb] at e
   have:=Ek e
   simp_all [BJ]
theorem AP{C:Int}:∀{l s:List Int},(s++l).Nodup->(∀x∈l,0≤x/\x < C)->wk (Au C) BJ l s= .ok (s++l)
 |[],s,_,_=>by simp [wk]
 |x::l,s,hn,hr=>by
  have hx:x∉s:=by
   grind
  have hb:Au C s x=none:=by
   unfold Au;simp_all
  rw [wk,hb];simp only [];rw [AP (s:=BJ s x) (by simp_all [BJ]) λy hy=>hr y (mem_cons_of_mem _ hy)];simp_all [BJ]
theorem vv{C:Int}{r:List (List Int)}:rG C r=0↔r.length≤3/\r.flatten.Nodup/\∀x∈r.flatten,0≤x/\x < C:=by
 unfold rG;constructor
 .intro h;split at h
  .cases h
  .cases e:wk (Au C) BJ r.flatten [] with
   |ok t=>
    have h1:=zm (Mt C) (λs x=>Mt.add) _ _ _ ⟨nodup_nil,λx hx=>by cases hx⟩ e;have h2:=Ek e;rw [nil_append] at h2;subst h2;exact⟨by omega,h1.1,h1.2⟩
   |error c=>
    rw [e] at h;exfalso
    have:∀(l s:List Int),wk (Au C) BJ l s≠.error 0:=by
     intro l
     induction l with
     |nil=>intro s h;cases h
     |cons x l ih=>
      grind [wk,Au]
    simp_all
 .rintro⟨h1,h2,h3⟩;rw [if_neg (by omega),AP (by simp_all) h3]
def Gq(m:ah)(g:cC):Int:=if(0≤g.1/\g.1 < mC m)/\0≤g.2.1/\g.2.1≤(mD m).length then 0 else 3
theorem L8{k:Nat}{m:ah}(hC:1≤mC m/\mC m≤5){g:cC}:fC k m g=some (Gq m g):=by
 have hc:ck (m.1 - 1)=some (m.1 - 1):=PW hC;unfold fC Gq;have e:decide (0≤g.1/\g.1≤m.1 - 1)=decide (0≤g.1/\g.1 < mC m):=decide_eq_decide.2 ⟨λh=>⟨h.1,by grind⟩,λh=>⟨h.1,by grind⟩⟩;rw [hc,bs,j7,bs,e];by_cases h1:0≤g.1/\g.1 < mC m
 .by_cases h2:0≤g.2.1/\g.2.1≤(mD m).length <;> simp [h1,h2,j7]
 grind
def kY{α:Type}(f:α->Int)(l:List α):Int:=((l.map f).find? λe=>decide (e≠0)).getD 0
theorem rA{α:Type}(f:α->Int):∀(l:List α) (j:Nat),fN (λ(_:Unit) _ x=>if¬(f x=0) then Except.error (f x) else .ok ()) j l ()=if kY f l=0 then .ok () else .error (kY f l)
 |[],j=>by simp [fN,kY]
 |x::l,j=>by
  rw [fN]
  by_cases h:f x=0
  .
   have:kY f (x::l)=kY f l:=by simp [kY,h]
   rw [this]
   simp only [h,not_true_eq_false,if_false]
   exact rA f l (j+1)
  simp_all [kY]
theorem oc{α:Type}{f:α->Int}{l:List α}:kY f l=0↔∀x∈l,f x=0:=by
 induction l with
 |nil=>simp [kY]
 |cons x l ih=>
  grind [kY]
structure Sm(m:ah):Prop where
 d:(mD m).length≤1000
 r:∀r∈mD m,r.length≤1000/\∀l∈r,l.length≤1000
 g:(mG m).length≤1000
def sq(m:ah):Int:=
 if¬((1≤mC m/\mC m≤5)/\(0≤mW m/\mW m≤3)/\(0≤mS m/\mS m≤3)/\1≤mH m/\mH m≤3) then 1
 else if(mD m).length=0 then 7 else if 6 < (mD m).length then 6 else if¬(kY (rG (mC m)) (mD m)=0) then kY (rG (mC m)) (mD m)
 else if 8 < (mG m).length then 6 else kY (Gq m) (mG m)
theorem IU{k:Nat}{m:ah}(hs:Sm m)(hk:1000 < k):lV k m=some (sq m):=by
 unfold lV sq;simp only [j7,bs];by_cases h1:1≤mC m/\mC m≤5
 .by_cases h2:0≤mW m/\mW m≤3
  .by_cases h3:0≤mS m/\mS m≤3
   .by_cases h4:1≤mH m/\mH m≤3
    .have e1:(1≤m.1/\m.1≤5)=True:=eq_true h1;have e2:(0≤m.2.1/\m.2.1≤3)=True:=eq_true h2;have e3:(0≤m.2.2.1/\m.2.2.1≤3)=True:=eq_true h3;have e4:(1≤m.2.2.2.1/\m.2.2.2.1≤3)=True:=eq_true h4;simp only [e1,e2,e3,e4,decide_true,not_true_eq_false,if_false,Bool.not_true,Bool.false_eq_true,bs,and_self,h1,h2,h3,h4];by_cases h5:(mD m).length=0
     .simp_all
     .rw [if_neg (show¬((m.2.2.2.2.1.length:Int) < 1) by grind),if_neg h5];by_cases h6:6 < (mD m).length
      .grind
      .rw [if_neg (show¬((6:Int) < (m.2.2.2.2.1.length:Int)) by grind),if_neg h6]
       have key:=mP (f:=eu k m) (mD m) (λ(_:Unit) j=>j) (λ_ _ x=>if¬(rG (mC m) x=0) then Except.error (rG (mC m) x) else .ok ()) (λ_ _=>True) (λr=>some r)
        (λn s j hj _=>by
         have hck:ck ((j:Int)+1)=some ((j:Int)+1):=eJ (by omega) (by omega);have hr:=hs.r _ (List.getElem_mem hj);refine⟨?_,λ_ _=>trivial⟩;have hj':(j:Int) < (m.2.2.2.2.1.length:Int):=Int.ofNat_lt.2 hj;have hg:aU m.2.2.2.2.1 (j:Int)=some (mD m)[j]:=f5 hj;simp only [eu,hj',if_true,hg,bs,IT h1 hk hr.1 hr.2];grind)
        (λn s _=>by
         unfold eu;simp_all) (n:=k) (s0:=()) (by omega) trivial
       rw [show eu k m k 0=_ from key,rA];by_cases h7:kY (rG (mC m)) (mD m)=0
       .rw [if_pos h7,pE,show(if¬(kY (rG (mC m)) (mD m)=0) then kY (rG (mC m)) (mD m) else if 8 < (mG m).length then 6 else kY (Gq m) (mG m))=(if 8 < (mG m).length then 6 else kY (Gq m) (mG m)) from if_neg (λhn=>hn h7)];by_cases h8:8 < (mG m).length
        .grind
        .rw [if_neg (show¬((8:Int) < (m.2.2.2.2.2.length:Int)) by grind),if_neg h8]
         have key:=mP (f:=er k m) (mG m) (λ(_:Unit) j=>j) (λ_ _ x=>if¬(Gq m x=0) then Except.error (Gq m x) else .ok ()) (λ_ _=>True) (λr=>some r)
          (λn s j hj _=>by
           have hck:ck ((j:Int)+1)=some ((j:Int)+1):=eJ (by omega) (by omega);refine⟨?_,λ_ _=>trivial⟩;have hj':(j:Int) < (m.2.2.2.2.2.length:Int):=Int.ofNat_lt.2 hj;have hg:aU m.2.2.2.2.2 (j:Int)=some (mG m)[j]:=f5 hj;simp only [er,hj',if_true,hg,bs,L8 h1];grind)
          (λn s _=>by
           simp_all [er,if_neg,Int.lt_irrefl]) (n:=k) (s0:=()) (by omega) trivial
         rw [show er k m k 0=_ from key,rA];by_cases h9:kY (Gq m) (mG m)=0
         .rw [if_pos h9,pE,h9]
         .rw [if_neg h9,qx]
       .rw [if_neg h7,qx,if_pos h7]
    grind
   grind
  grind
 grind
end Go.Proofs.YtcollhgigbijkaaGreat
set_option linter.unusedVariables false
set_option linter.unusedSimpArgs false
namespace Go.Proofs.YtcollhgigbijkaaGreat
open K Go Go.Proofs
theorem tj{r:List (List Int)}{l:List Int}(h:r.flatten.Nodup)(hl:l∈r):l.Nodup:=by
 grind
theorem HU{σ:Type}{bad:σ->Int->Option Int}{add:σ->Int->σ}{x:Int}{l:List Int}{s:σ}{e:Int}(h:bad s x=some e):wk bad add (x::l) s= .error e:=by rw [wk,h]
theorem HQ{σ:Type}{bad:σ->Int->Option Int}{add:σ->Int->σ}{x:Int}{l:List Int}{s:σ}(h:bad s x=none):wk bad add (x::l) s=wk bad add l (add s x):=by rw [wk,h]
theorem Vd.of{m:ah}(h:sq m=0):Vd m:=by
 unfold sq at h;by_cases h1:(1≤mC m/\mC m≤5)/\(0≤mW m/\mW m≤3)/\(0≤mS m/\mS m≤3)/\1≤mH m/\mH m≤3
 .rw [if_neg (λhn=>hn h1)] at h;by_cases h2:(mD m).length=0
  .omega
  .rw [if_neg h2] at h;by_cases h3:6 < (mD m).length
   .omega
   .rw [if_neg h3] at h;by_cases h4:kY (rG (mC m)) (mD m)=0
    .rw [if_neg (λhn=>hn h4)] at h;by_cases h5:8 < (mG m).length
     .omega
     .rw [if_neg h5] at h;have hd:=λr hr=>vv.1 (oc.1 h4 r hr);have hx:∀r∈mD m,∀l∈r,∀x∈l,0≤x/\x < mC m:=λr hr l hl x hx=>(hd r hr).2.2 x (List.mem_flatten.2 ⟨l,hl,hx⟩)
      exact⟨h1.1.1,h1.1.2,h1.2.1.1,h1.2.1.2,h1.2.2.1.1,h1.2.2.1.2,h1.2.2.2.1,h1.2.2.2.2,by omega,by omega,λr hr=>(hd r hr).1,λr hr l hl=>by
       have hn:l.Nodup:=tj (hd r hr).2.1 hl;have:=qO (mC m).toNat l hn λx hxx=>by grind
       omega,hx,λr hr=>(hd r hr).2.1,by omega,λg hg=>by
        grind [oc,Gq]⟩
    omega
 omega
theorem Vd.chk{m:ah}(v:Vd m):sq m=0:=by
 unfold sq;have h1:(1≤mC m/\mC m≤5)/\(0≤mW m/\mW m≤3)/\(0≤mS m/\mS m≤3)/\1≤mH m/\mH m≤3:=⟨⟨v.c1,v.c5⟩,⟨v.w0,v.w3⟩,⟨v.s0,v.s3⟩,v.h1,v.h3⟩
 have h4:kY (rG (mC m)) (mD m)=0:=oc.2 λr hr=>vv.2 ⟨v.r3 r hr,v.nd r hr,λx hx=>by
  obtain⟨l,hl,hx⟩:=List.mem_flatten.1 hx;exact v.x5 r hr l hl x hx⟩
 have h9:kY (Gq m) (mG m)=0:=oc.2 λg hg=>by
  have:=v.gl g hg;unfold Gq;omega
 have d1:=v.d1;have d6:=v.d6;have g8:=v.g8;omega
theorem Vd.sm{m:ah}(v:Vd m):Sm m:=⟨by have:=v.d6;omega,λr hr=>⟨by have:=v.r3 r hr;omega,λl hl=>by have:=v.l5 r hr l hl;omega⟩,by have:=v.g8;omega⟩
def ud(C:Int)(p:Option Int)(x:Int):Option Int:=if¬(0≤x/\x < C) then some 3 else if p.any (λy=>decide (x≤y)) then some 5 else none
def JH(C:Int)(p:Option Int×Int)(x:Int):Option Int:=ud C p.1 x
def NJ(p:Option Int×Int)(x:Int):Option Int×Int:=(some x,wV p.2 x)
def JQ(p:Option Int)(x:Int):Option Int:=some x
def tO(C:Int)(b:List Int):Int:=match wk (ud C) JQ b none with | .error e=>e | .ok _=>0
def im(b:List Int):Int:=b.foldl wV 0
theorem KR{C:Int}{p:Option Int}{x:Int}(h:ud C p x=none):(0≤x/\x < C)/\p.any (λy=>decide (x≤y))=false:=by
 unfold ud at h;grind
theorem BE{C:Int}:∀(b:List Int) (p:Option Int) (s:Int),(∃e,wk (JH C) NJ b (p,s)= .error e/\wk (ud C) JQ b p= .error e)\/∃q,wk (JH C) NJ b (p,s)= .ok (q,b.foldl wV s)/\wk (ud C) JQ b p= .ok q
 |[],p,s=>.inr ⟨p,rfl,rfl⟩
 |x::b,p,s=>by
  cases e:ud C p x with
  |some c=>exact .inl ⟨c,HU e,HU e⟩
  |none=>
   rw [HQ (bad:=JH C) (s:=(p,s)) (x:=x) e,HQ e]
   exact BE (C:=C) b (some x) (wV s x)
theorem yf{k:Nat}{m:ah}(hC:1≤mC m/\mC m≤5){b:List Int}(hk:b.length < k)(hb:b.length≤1000):
 eg k m b k (0,0)=some (if tO (mC m) b=0 then .ok (im b) else .error (none,0,tO (mC m) b)):=by
 have key:=mP (T:=Int×Int) (f:=eg k m b) b (λ(s:Option Int×Int) j=>(s.2,j)) (λs _ x=>match JH (mC m) s x with |some e=>Except.error e |none=>.ok (NJ s x)) (λj s=>kS s.2/\s.1=if j=0 then none else b[j-1]?) (λr=>some (match r with | .error e=>Except.error (none,0,e) | .ok s=>.ok s.2))
  (λn s j hj hs=>by
   have hck:ck ((j:Int)+1)=some ((j:Int)+1):=eJ (by omega) (by omega);have hc:ck (m.1 - 1)=some (m.1 - 1):=PW hC;refine⟨?_,λs' e=>?_⟩
   .simp only [eg,Int.ofNat_lt,hj,if_true,f5 hj,bs,hc,j7];generalize b[j]=x;rw [show JH (mC m) s x=ud (mC m) s.1 x from rfl];by_cases h:0≤x/\x < mC m
    .have h':0≤x/\x≤m.1 - 1:=⟨h.1,by grind⟩;have eb:ud (mC m) s.1 x=if s.1.any (λy=>decide (x≤y)) then some 5 else none:=by unfold ud;simp_all
     have ep:(if(0:Int) < (j:Int) then((ck ((j:Int) - 1)).bind λx12=>(aU b x12).bind λx13=>some (decide (x≤x13))) else some false)=some (s.1.any λy=>decide (x≤y)):=by
      rw [hs.2];by_cases h0:j=0
      .simp_all
      .have c1:ck ((j:Int) - 1)=some ((j - 1:Nat):Int):=by grind [eJ]
       rw [if_pos (by omega),c1,bs,f5 (by omega),bs,if_neg h0,List.getElem?_eq_getElem (by omega)];rfl
     rw [eb];simp only [h',and_self,decide_true,not_true_eq_false,if_false,bs];rw [ep,bs];cases s.1.any λy=>decide (x≤y) with
     |true=>simp_all
     |false=>
      simp only [Bool.false_eq_true,if_false,(nR (k:=k) hs.1 h.1 (by omega)).1,bs,hck];rfl
    .have h':¬(0≤x/\x≤m.1 - 1):=λhh=>h ⟨hh.1,by grind⟩;have eb:ud (mC m) s.1 x=some 3:=by unfold ud;simp_all
     simp_all
   .cases e2:JH (mC m) s b[j] with
    |some c=>simp_all
    |none=>
     rw [e2] at e;cases e;have hx:=KR e2;exact⟨(nR (k:=0) hs.1 hx.1.1 (by omega)).2.1,by show some b[j]=if j+1=0 then none else b[j+1 - 1]?;simp_all⟩)
  (λn s _=>by simp [eg]) (n:=k) (s0:=(none,0)) hk ⟨A9,rfl⟩
 rw [show eg k m b k (0,0)=_ from key]
 have e1:fN (λ(s:Option Int×Int) _ x=>match JH (mC m) s x with |some e=>Except.error e |none=>.ok (NJ s x)) 0 b (none,0)=wk (JH (mC m)) NJ b (none,0):=vM (bad:=JH (mC m)) (add:=NJ) b 0 (none,0)
 rw [e1]
 unfold tO
 have z:∀(l:List Int) (p:Option Int),wk (ud (mC m)) JQ l p≠.error 0:=by
  intro l
  induction l with
  |nil=>intro p h;cases h
  |cons x l ih=>
   intro p h;rw [wk] at h;cases hb:ud (mC m) p x with
   |some c=>
    grind [ud]
   |none=>grind
 rcases BE (C:=mC m) b none 0 with⟨e,h1,h2⟩ |⟨q,h1,h2⟩
 .
  grind
 .
  rw [h1,h2];rfl
end Go.Proofs.YtcollhgigbijkaaGreat
set_option linter.unusedVariables false
set_option linter.unusedSimpArgs false
namespace Go.Proofs.YtcollhgigbijkaaGreat
open K Go Go.Proofs
theorem xK{C:Int}(hC:C≤5):∀(b:List Int) (s:Int),kS s->(∀x∈b,0≤x/\x < C)->kS (b.foldl wV s)/\∀i:Nat,dY (b.foldl wV s) i↔dY s i\/(i:Int)∈b
 |[],s,hs,_=>⟨hs,λi=>by simp⟩
 |x::b,s,hs,hb=>by
  have hx:=hb x mem_cons_self
  have hw:=nR (k:=0) hs hx.1 (by omega)
  have:=xK hC b (wV s x) hw.2.1 λy hy=>hb y (mem_cons_of_mem _ hy)
  grind
structure Bg(C:Int)(b:List Int):Prop where
 rng:∀x∈b,0≤x/\x < C
 asc:b.Pairwise (· < ·)
theorem zn{C:Int}:∀{b:List Int} {p:Option Int},(∃q,wk (ud C) JQ b p= .ok q)↔(∀x∈b,0≤x/\x < C)/\b.Pairwise (· < ·)/\∀y,p=some y->∀x∈b.head?,y < x
 |[],p=>by simp [wk]
 |x::b,p=>by
  cases e:ud C p x with
  |some c=>
   rw [HU e]
   constructor
   .
    simp_all
   .
    rintro⟨h1,h2,h3⟩
    exfalso
    unfold ud at e
    rw [if_neg (λhn=>hn (h1 x mem_cons_self))] at e
    cases p with
    |none=>cases e
    |some y=>
     have:=h3 y rfl x (by simp)
     grind
  |none=>
   have hx:=KR e
   rw [HQ e,zn (b:=b) (p:=JQ p x)]
   constructor
   .
    rintro⟨h1,h2,h3⟩
    refine⟨λy hy=>?_,?_,λy hy z hz=>?_⟩
    .
     grind
    .
     rw [pairwise_cons]
     refine⟨λy hy=>?_,h2⟩
     cases b with
     |nil=>cases hy
     |cons z b=>
      have hz:=h3 x rfl z (by simp)
      grind [pairwise_cons]
    simp_all
   simp_all [pairwise_cons,mem_cons_of_mem,JQ,mem_of_mem_head?]
theorem BF{C:Int}:∀{l:List Int} {p:Option Int},wk (ud C) JQ l p≠.error 0
 |[],p,h=>by cases h
 |x::l,p,h=>by
  cases hb:ud C p x with
  |some c=>
   rw [HU hb] at h
   grind [ud]
  |none=>rw [HQ hb] at h;exact BF h
theorem vC{C:Int}{b:List Int}:tO C b=0↔Bg C b:=by
 unfold tO;constructor
 .intro h;cases e:wk (ud C) JQ b none with
  |error c=>simp_all [BF]
  |ok q=>have:=zn.1 ⟨q,e⟩;exact⟨this.1,this.2.1⟩
 .rintro⟨h1,h2⟩;obtain⟨q,e⟩:=(zn (p:=none)).2 ⟨h1,h2,λy hy=>by cases hy⟩;rw [e]
theorem Bg.set{C:Int}(hC:C≤5){b:List Int}(h:Bg C b):kS (im b)/\∀c:Int,0≤c->ql (im b) c=decide (c∈b):=by
 have:=xK hC b 0 A9 h.rng;refine⟨this.1,λc hc=>?_⟩;unfold ql;have e:((c.toNat:Nat):Int)=c:=by omega
 have h2:=this.2 c.toNat;rw [e] at h2;refine decide_eq_decide.2 ?_;show dY (b.foldl wV 0) c.toNat↔_;simp_all [dY]
def uE(m:ah)(i:Nat):Int:=match i with |0=>mC m - 1 |1=>((mD m).length:Int) - 1 |_=>(mD m).length
def yq(n:Int)(l:List Int):Bool:=l.all λx=>decide (0≤x/\x≤n)
theorem o0{k:Nat}{m:ah}(v:Vd m){i:Nat}(hi:i < 3){l:List Int}(hk:l.length < k)(hl:l.length≤1000):
 dc k m (i:Int) l k 0=some (if yq (uE m i) l then .ok () else .error (none,0,3)):=by
 have c1:=v.c1
 have c5:=v.c5
 have d6:=v.d6
 have d1:=v.d1
 have key:=mP (T:=Int) (f:=dc k m (i:Int) l) l (λ(_:Unit) j=>j) (λ_ _ x=>if 0≤x/\x≤uE m i then .ok () else Except.error ((none,0,3):Option ah×Int×Int)) (λ_ _=>True) (λr=>some r)
  (λn s j hj _=>by
   have hck:ck ((j:Int)+1)=some ((j:Int)+1):=eJ (by omega) (by omega);have hc:ck (m.1 - 1)=some (mC m - 1):=PW ⟨c1,c5⟩;have hd:ck ((m.2.2.2.2.1.length:Int) - 1)=some (((mD m).length:Int) - 1):=eJ (by omega) (by grind)
   have hg:aU [mC m - 1,((mD m).length:Int) - 1,((mD m).length:Int)] (i:Int)=some (uE m i):=by
    have:i=0\/i=1\/i=2:=by omega
    rcases this with rfl |rfl |rfl <;> rfl
   refine⟨?_,λ_ _=>trivial⟩;simp only [dc,Int.ofNat_lt,hj,if_true,f5 hj,bs,hc,hd];rw [show aU [mC m - 1,((mD m).length:Int) - 1,(m.2.2.2.2.1.length:Int)] (i:Int)=some (uE m i) from hg,bs,j7,bs];grind)
  (λn s _=>by simp [dc]) (n:=k) (s0:=()) hk trivial
 rw [show dc k m (i:Int) l k 0=_ from key]
 congr 1
 have:∀(l:List Int) (j:Nat),fN (λ(_:Unit) _ x=>if 0≤x/\x≤uE m i then .ok () else Except.error ((none,0,3):Option ah×Int×Int)) j l ()=if yq (uE m i) l then .ok () else .error (none,0,3):=by
  intro l
  induction l with
  |nil=>intro j;rfl
  |cons x l ih=>
   intro j;rw [fN];by_cases h:0≤x/\x≤uE m i
   .simp_all [if_pos,yq,uE,all_cons,and_self,decide_true,Bool.true_and]
   .rw [if_neg h];have:yq (uE m i) (x::l)=false:=by simp only [yq,all_cons,h,decide_false,Bool.false_and]
    simp_all
 simp_all
theorem xw{k:Nat}{m:ah}(v:Vd m)(hk:10≤k):∀n:Nat,n≤32->uM k m n=some ()
 |0,_=>rfl
 |n+1,h=>by
  have e:IntKind.u8.wrap (n:Int)=(n:Int):=sw (by omega)
  unfold uM
  rw [xw v hk n (by omega),bs,e,vx v hk ⟨by omega,by omega⟩,bs]
theorem HZ{k:Nat}{m:ah}(v:Vd m)(hk:10≤k):dP k m=some ():=by
 have c1:=v.c1;have c5:=v.c5;unfold dP
 have hc:m.1=1\/m.1=2\/m.1=3\/m.1=4\/m.1=5:=by
  grind
 have e:0≤nE .i64 1 m.1/\nE .i64 1 m.1≤32:=by
  rcases hc with h |h |h |h |h <;> rw [h] <;> decide
 rw [if_pos ⟨by omega,by omega⟩];simp_all [xw]
def Qf(m:ah)(cs ds ns:List Int):Bool:=yq (uE m 0) cs && yq (uE m 1) ds && yq (uE m 2) ns
theorem F3{k:Nat}{m:ah}{b cs ds ns:List Int}(hs:Sm m)(hk:1010≤k)(hb:b.length≤1000)(h1:cs.length≤1000)(h2:ds.length≤1000)(h3:ns.length≤1000):
 jo k m b cs ds ns=some (if¬(sq m=0) then(none,0,sq m) else if¬(tO (mC m) b=0) then(none,0,tO (mC m) b) else if Qf m cs ds ns then(some m,im b,0) else(none,0,3)):=by
 unfold jo
 rw [IU hs (by omega),bs]
 by_cases hc:sq m=0
 .
  have v:=Vd.of hc;rw [if_neg (λhn=>hn hc),if_neg (λhn=>hn hc),yf ⟨v.c1,v.c5⟩ (by omega) hb];by_cases hg:tO (mC m) b=0
  .rw [if_pos hg,pE,if_neg (λhn=>hn hg)];obtain⟨n,rfl⟩:∃n,k=n+4:=⟨k - 4,by omega⟩;have e0:=o0 v (k:=n+4) (i:=0) (by omega) (l:=cs) (by omega) h1;have e1:=o0 v (k:=n+4) (i:=1) (by omega) (l:=ds) (by omega) h2;have e2:=o0 v (k:=n+4) (i:=2) (by omega) (l:=ns) (by omega) h3;have g0:aU [cs,ds,ns] (0:Int)=some cs:=rfl;have g1:aU [cs,ds,ns] (1:Int)=some ds:=rfl;have g2:aU [cs,ds,ns] (2:Int)=some ns:=rfl;have k0:ck ((0:Int)+1)=some 1:=rfl;have k1:ck ((1:Int)+1)=some 2:=rfl;have k2:ck ((2:Int)+1)=some 3:=rfl;have ln:(([cs,ds,ns]:List (List Int)).length:Int)=3:=rfl
   have s0:cJ (n+4) m cs ds ns (n+4) 0=if yq (uE m 0) cs then cJ (n+4) m cs ds ns (n+3) 1 else some (.error (none,0,3)):=by
    rw [cJ,ln,if_pos (by decide),g0,bs,show dc (n+4) m 0 cs (n+4) 0=_ from e0];cases yq (uE m 0) cs with
    |true=>simp_all [if_true,pE,bs]
    |false=>simp_all [Bool.false_eq_true,if_false,qx]
   have s1:cJ (n+4) m cs ds ns (n+3) 1=if yq (uE m 1) ds then cJ (n+4) m cs ds ns (n+2) 2 else some (.error (none,0,3)):=by
    rw [cJ,ln,if_pos (by decide),g1,bs,show dc (n+4) m 1 ds (n+4) 0=_ from e1];cases yq (uE m 1) ds with
    |true=>simp_all [if_true,pE,bs]
    |false=>simp_all [Bool.false_eq_true,if_false,qx]
   have s2:cJ (n+4) m cs ds ns (n+2) 2=if yq (uE m 2) ns then cJ (n+4) m cs ds ns (n+1) 3 else some (.error (none,0,3)):=by
    rw [cJ,ln,if_pos (by decide),g2,bs,show dc (n+4) m 2 ns (n+4) 0=_ from e2];cases yq (uE m 2) ns with
    |true=>simp_all [if_true,pE,bs]
    |false=>simp_all [Bool.false_eq_true,if_false,qx]
   have s3:cJ (n+4) m cs ds ns (n+1) 3=some (.ok ()):=by
    rw [cJ,ln,if_neg (by decide)]
   rw [s0,s1,s2,s3];unfold Qf
   have fin:((ir (n+4) m).bind λr32=>fJ r32 none (λq33=>(dP (n+4) q33).bind λr35=>some (some q33,im b,(0:Int))))=some (some m,im b,0):=by
    grind [ir,bs,Bz,HZ]
   cases yq (uE m 0) cs with
   |false=>simp_all [Bool.false_eq_true,if_false,Bool.false_and,qx]
   |true=>
    cases yq (uE m 1) ds with
    |false=>simp_all [if_true,Bool.false_eq_true,if_false,Bool.true_and,Bool.false_and,qx]
    |true=>
     cases yq (uE m 2) ns with
     |false=>simp_all [if_true,Bool.false_eq_true,if_false,Bool.true_and,Bool.and_false,qx]
     |true=>simp_all [if_true,Bool.true_and,pE]
  .rw [if_neg hg,qx,if_pos hg]
 simp_all
end Go.Proofs.YtcollhgigbijkaaGreat
set_option linter.unusedVariables false
set_option linter.unusedSimpArgs false
namespace Go.Proofs.YtcollhgigbijkaaGreat
open K Go Go.Proofs
def oC(m:ah)(B:Int->Bool)(n:Nat):List Int:=(List.range (mC m).toNat).map λ(c:Nat)=>oN m B n (c:Int)
def gI(m:ah)(B:Int->Bool):List (List Int):=(List.range ((mD m).length+1)).map (oC m B)
theorem EU{m:ah}{B:Int->Bool}{n:Nat}{c:Int}(h0:0≤c)(h1:c < mC m):aU (oC m B n) c=some (oN m B n c):=by
 unfold oC;rw [aU,if_pos h0,List.getElem?_map,List.getElem?_range (by omega)];grind
theorem vy{m:ah}{B:Int->Bool}{n:Nat}(h:n≤(mD m).length):aU (gI m B) (n:Int)=some (oC m B n):=by
 unfold gI;rw [aU,if_pos (by omega),List.getElem?_map,Int.toNat_natCast,List.getElem?_range (by omega)];rfl
theorem EF{f:Int->Int}{C:Int}(h0:0≤C)(h5:C≤5):List.take C.toNat (kB f)=(List.range C.toNat).map λ(c:Nat)=>f (c:Int):=by
 have:C=0\/C=1\/C=2\/C=3\/C=4\/C=5:=by omega
 rcases this with rfl |rfl |rfl |rfl |rfl |rfl <;> rfl
theorem zZ{k:Nat}{m:ah}{b:List Int}(hs:Sm m)(hk:1010≤k)(hb:b.length≤1000):
 fq k m b=some (if¬(sq m=0) then([],sq m) else if¬(tO (mC m) b=0) then([],tO (mC m) b) else(gI m λc=>decide (c∈b),0)):=by
 unfold fq
 rw [F3 hs hk hb (by simp) (by simp) (by simp),bs]
 by_cases hc:sq m=0
 .
  have v:=Vd.of hc;by_cases hg:tO (mC m) b=0
  .have hB:=(vC.1 hg).set v.c5;have ho:Qf m [] [] []=true:=rfl;have c1:=v.c1;have c5:=v.c5;have d6:=v.d6;simp only [hc,hg,ho,not_true_eq_false,if_false,if_true,Bz];rw [vx v (by omega) hB.1,bs]
   have hd:ck ((m.2.2.2.2.1.length:Int)+1)=some (((mD m).length+1:Nat):Int):=by
    rw [eJ (by omega) (by grind)];rfl
   rw [hd,bs]
   have key:=nG (T:=List (List Int)×Int) (f:=dL k m (cr (MY m (ql (im b)))) (((mD m).length+1:Nat):Int)) (List.range ((mD m).length+1)) (λ(s:List (List Int)) j=>(s,j)) (λs j _=>s++[oC m (ql (im b)) j]) (λj s=>s=(List.range j).map (oC m (ql (im b)))) (λs=>some s)
    (λn s j hj hs=>by
     rw [length_range] at hj;have hck:ck ((j:Int)+1)=some ((j:Int)+1):=eJ (by omega) (by omega);have hjlt:(j:Int) < (((mD m).length+1:Nat):Int):=by omega
     have hp:cO (0≤m.1/\m.1≤5)=some ():=eF ⟨by grind,c5⟩
     have ht:List.take (Int.toNat m.1) (kB (MY m (ql (im b)) j))=oC m (ql (im b)) j:=by
      rw [EF (by omega) c5];unfold oC;refine List.map_congr_left λc hc=>?_;have:=List.mem_range.1 hc;exact Jz v (by omega) (by omega) (by omega)
     have hl:(oC m (ql (im b)) j).length≤5:=by grind
     have hsl:s.length=j:=by simp_all
     have hcl:gu k (oC m (ql (im b)) j)=some (oC m (ql (im b)) j):=by
      unfold gu;rw [eF (by show _≤_;omega),bs]
     have hok:cO (cE (length s+length [oC m (ql (im b)) j]))=some ():=eF (by grind [cE]);refine⟨?_,?_⟩
     .simp only [dL,hjlt,if_true,GQ (F:=MY m (ql (im b))) (show j < 7 by omega),bs,hp,ht,hcl,hok,hck]
     simp_all [List.range_succ,List.map_append])
    (λn s hs=>by
     simp_all [length_range,dL,if_neg,Int.lt_irrefl]) (n:=k) (s0:=[]) (by grind) rfl
   rw [show dL k m (cr (MY m (ql (im b)))) (((mD m).length+1:Nat):Int) k ([],0)=_ from key.1,bs,key.2,length_range]
   have hcs:(List.range ((mD m).length+1)).map (oC m (ql (im b)))=gI m λc=>decide (c∈b):=by
    unfold gI;refine List.map_congr_left λn hn=>?_;unfold oC;refine List.map_congr_left λc hc=>?_
    have hage:∀(n:Nat) (c:Int),0≤c->c < mC m->oN m (ql (im b)) n c=oN m (λc=>decide (c∈b)) n c:=by
     intro n
     induction n with
     |zero=>simp_all [oN]
     |succ n ih=>
      intro c h0 h1;unfold oN;cases e:Dx m n c with
      |none=>simp_all
      |some l=>
       have hb:=(wP v e).2;grind
    simp_all
   rw [hcs]
  simp_all [not_true_eq_false,not_false_eq_true,if_false,if_true,BA]
 simp_all [not_false_eq_true,if_true,BA]
end Go.Proofs.YtcollhgigbijkaaGreat
set_option linter.unusedVariables false
set_option linter.unusedSimpArgs false
namespace Go.Proofs.YtcollhgigbijkaaGreat
open K Go Go.Proofs
theorem Lo.mono{l:bP}{m n:Int}(h:Lo l m)(hn:m≤n):Lo l n:=⟨h.1,Int.le_trans h.2 hn⟩
theorem RR{α:Type}{l:List α}{x:α}{n:Nat}(h:l.length≤n)(hn:n≤1000000):cE (length l+length [x]):=by
 show length l+length [x]≤4294967296;grind
theorem zY{k:Nat}(hk:50≤k){l:bP}{m:Int}{n:Nat}(hl:Lo l m)(hm:0≤m/\m≤1000)(hn:n≤8):W (fZ k l (n:Int)) λr=>Lo r.2 (m+10)/\r.1.length=n/\(∀x∈r.1,0≤x/\x < (n:Int))/\r.1.Nodup:=by
 unfold fZ;refine W.bind (R:=λr=>Lo (r.2.1,r.2.2.1,r.2.2.2) (m+10)/\r.1.length=n/\(∀x∈r.1,0≤x/\x < (n:Int))/\r.1.Nodup) ?_ λr h=>W.ret h
 refine W.loop (f:=dE k (n:Int)) (λq y=>∃j:Nat,y.2.2.2.2=(j:Int)/\j≤n/\q=n - j/\Lo (y.1,y.2.1,y.2.2.1) (m+j)/\y.2.2.2.1.length=j/\(∀x∈y.2.2.2.1,0≤x/\x < (j:Int))/\y.2.2.2.1.Nodup) ?_ n k _ (by omega)
  ⟨0,rfl,by omega,by omega,by simp_all,rfl,by simp,by simp⟩
 rintro aL q ⟨nums,d,s,o,y⟩ ⟨j,hj,hle,hq,hlo,hlen,hx,hnd⟩ ih;simp only at hj hlo hlen hx hnd;subst hj;unfold dE;dsimp only;refine W.ite (λhlt=>?_) (λhge=>W.ret ⟨hlo.mono (by omega),by grind,λx hx'=>by grind,hnd⟩);obtain⟨r5,e5,a5,b5,c5⟩:=l9 (k:=k) (n:=(j:Int)) hlo (by omega) (by omega);have b5:=b5 (by omega);have ho:(o++[(j:Int)]).length=j+1:=by simp [hlen]
 have hr5:r5.1.toNat < (o++[(j:Int)]).length:=by omega
 have hjl:j < (o++[(j:Int)]).length:=by omega
 have hgj:(o++[(j:Int)])[j]=(j:Int):=by
  grind
 rw [e5,bs,eF (RR (n:=8) (by omega) (by omega)),bs,wA a5 hr5,bs,f5 (by omega),bs];have hgs:aU (List.set (o++[(j:Int)]) (Int.toNat (j:Int)) (o++[(j:Int)])[r5.1.toNat]) r5.1=some ((List.set (o++[(j:Int)]) (Int.toNat (j:Int)) (o++[(j:Int)])[r5.1.toNat])[r5.1.toNat]'(by grind)):=wA a5 (by grind);rw [hgs,bs,eJ (by omega) (by omega),bs]
 have hp:(List.set (List.set (o++[(j:Int)]) (Int.toNat (j:Int)) (o++[(j:Int)])[r5.1.toNat]) (Int.toNat r5.1) (j:Int)).Perm (o++[(j:Int)]):=by
  have:= @set_set_perm Int (o++[(j:Int)]) j r5.1.toNat hjl hr5;rw [hgj] at this;exact this
 refine ih (q - 1) (_,_,_,_,(j:Int)+1) (by omega) ⟨j+1,by grind,by omega,by omega,c5.mono (by omega),by simp [hlen],λx hx'=>?_,hp.nodup_iff.2 ?_⟩
 .grind
 grind
theorem GF{out:List (List Int)}{i:Nat}{x:Int}(h:i < out.length):(out.set i (out[i]++[x])).flatten.Perm (out.flatten++[x]):=by
 have e1:out=out.take i++out[i]::out.drop (i+1):=by simp_all
 grind
structure Rl(C:Int)(r:List (List Int)):Prop where
 r3:r.length≤3
 x5:∀l∈r,∀x∈l,0≤x/\x < C
 nd:r.flatten.Nodup
theorem Rl.l5{C:Int}(hC:0≤C/\C≤5){r:List (List Int)}(h:Rl C r):∀l∈r,l.length≤5:=λl hl=>by
 have:=qO C.toNat l (tj h.nd hl) λx hx=>by have:=h.x5 l hl x hx;omega
 omega
theorem EZ{k:Nat}(hk:50≤k){l:bP}{m:Int}{n:Nat}(hl:Lo l m)(hm:0≤m/\m≤900)(hn:n≤5):
 W (jq k l (n:Int)) λr=>Lo r.2 (m+30)/\Rl (n:Int) r.1:=by
 unfold jq
 refine W.bind (Bf (l:=(l.1,l.2.1,l.2.2)) hl (by omega) (by omega) (by omega) (by omega)) λr1 h1=>?_
 refine W.chk ⟨by omega,by show _≤_;omega⟩ ?_
 refine W.bind (zY hk (l:=(r1.2.1,r1.2.2.1,r1.2.2.2)) (m:=m+1) (n:=n) h1.2.2 (by omega) (by omega)) λr4 h4=>?_
 obtain⟨lo4,len4,rng4,nd4⟩:=h4
 refine W.bind (R:=λx=>Lo (x.1,x.2.1,x.2.2.1) (m+30)/\Rl (n:Int) x.2.2.2) ?_ λx hx=>W.ret hx
 refine W.loop (f:=eO k r4) (λq y=>∃j:Nat,y.2.2.2.1=(j:Int)/\j≤n/\q=n - j/\Lo (y.1,y.2.1,y.2.2.1) (m+11+2 * j)/\y.2.2.2.2.length=r1.1.toNat/\(∀x∈y.2.2.2.2.flatten,x∈r4.1.take j)/\y.2.2.2.2.flatten.Nodup) ?_ n k _ (by omega)
  ⟨0,rfl,by omega,by omega,lo4.mono (by omega),by simp,by simp,by simp⟩
 rintro aL q ⟨nums,d,s,y,out⟩ ⟨j,hj,hle,hq,hlo,hlen,hx,hnd⟩ ih
 simp only at hj hlo hlen hx hnd
 subst hj
 unfold eO
 dsimp only
 refine W.ite (λhlt=>?_) (λhge=>W.ret ⟨hlo.mono (by omega),by grind,λl hl x hxx=>rng4 x (mem_of_mem_take (hx x (List.mem_flatten.2 ⟨l,hl,hxx⟩))),hnd⟩)
 have hj:j < r4.1.length:=by omega
 have hsub:∀x∈r4.1.take j,x∈r4.1.take (j+1):=λx hh=>by grind
 refine W.bind (R:=λx=>Lo (x.1,x.2.1,x.2.2.1) (m+11+2 * j+2)/\x.2.2.2.length=r1.1.toNat/\(∀z∈x.2.2.2.flatten,z∈r4.1.take (j+1))/\x.2.2.2.flatten.Nodup) ?_ λx9 h9=>?_
 .
  refine W.bind (wa (l:=(nums,d,s)) hlo (by omega) (by omega) (by omega)) λr11 h11=>?_;refine W.ite (λ_=>W.ret ⟨h11.mono (by omega),hlen,λz hz=>hsub z (hx z hz),hnd⟩) (λ_=>?_);refine W.ck (by omega) (by omega) ?_;refine W.bind (l9 (l:=(r11.2.1,r11.2.2.1,r11.2.2.2)) h11 (by omega) (by omega)) λr13 h13=>?_;have b13:=h13.2.1 (by omega);have hi:r13.1.toNat < out.length:=by omega
  rw [wA h13.1 hi,bs,f5 hj,bs]
  have hxj:r4.1[j]∉out.flatten:=λhin=>by
   grind [List.getElem_of_mem,length_take,getElem_inj]
  have hlen2:(out[r13.1.toNat]).length≤5:=by
   have:=qO n _ (tj hnd (List.getElem_mem hi)) λx hxx=>rng4 x (mem_of_mem_take (hx x (List.mem_flatten.2 ⟨_,List.getElem_mem hi,hxx⟩)));omega
  rw [eF (by grind [cE]),bs];have hp:=GF (x:=r4.1[j]) hi;refine W.ret ⟨h13.2.2.mono (by omega),by grind,λz hz=>?_,hp.nodup_iff.2 ?_⟩
  .grind [List.mem_singleton,take_add_one,List.getElem?_eq_getElem,List.mem_append_right]
  grind
 .
  refine W.ck (by omega) (by omega) ?_;exact ih (q - 1) (_,_,_,(j:Int)+1,_) (by omega) ⟨j+1,by grind,by omega,by omega,h9.1.mono (by omega),h9.2⟩
end Go.Proofs.YtcollhgigbijkaaGreat
set_option linter.unusedVariables false
set_option linter.unusedSimpArgs false
namespace Go.Proofs.YtcollhgigbijkaaGreat
open K Go Go.Proofs
theorem JY{c w s h:Int}{ds:List (List (List Int))}(hc:1≤c/\c≤5)(hw:0≤w/\w≤3)(hs:0≤s/\s≤3)(hh:1≤h/\h≤3)(d1:1≤ds.length)(d6:ds.length≤6)(hr:∀r∈ds,Rl c r):Vd (c,w,s,h,ds,[]):=
 ⟨hc.1,hc.2,hw.1,hw.2,hs.1,hs.2,hh.1,hh.2,d1,d6,λr h=>(hr r h).r3,λr h=>(hr r h).l5 ⟨by omega,hc.2⟩,λr h=>(hr r h).x5,λr h=>(hr r h).nd,by simp [mG],λg hg=>by cases hg⟩
theorem Ap{k:Nat}{l:List Int}(h:l.length≤1000000):iC k l=some l:=by
 grind [iC,eF,RS,length_nil,bs]
theorem yE{k:Nat}{l:List (List Int)}(hk:l.length < k)(h1:l.length≤1000000)(h2:∀x∈l,x.length≤1000000):gA k l=some l:=by
 unfold gA
 have key:=nG (T:=List (List Int)×Int) (f:=dn k l) l (λ(s:List (List Int)) j=>(s,j)) (λs j x=>s++[x]) (λj s=>s=l.take j) (λs=>some s)
  (λn s j hj hs=>by
   have hck:ck ((j:Int)+1)=some ((j:Int)+1):=eJ (by omega) (by omega);have hl:s.length=j:=by grind
   have hok:cO (cE (length s+length [l[j]]))=some ():=eF (by grind [cE]);refine⟨?_,?_⟩
   .simp_all [dn,Int.ofNat_lt,if_true,f5,bs,Ap,List.getElem_mem]
   simp_all)
  (λn s hs=>by
   unfold dn;simp_all) (n:=k) (s0:=[]) hk (by simp)
 simp_all
theorem zX{k:Nat}(hk:50≤k){l:bP}{m:Int}{cs ds:Int}(hl:Lo l m)(hm:0≤m/\m≤400)(hc:1≤cs/\cs≤5)(hd:1≤ds/\ds≤6):
 W (ia k l cs ds) λr=>Lo r.2 (m+250)/\Vd r.1/\mG r.1=[]/\mC r.1≤cs/\((mD r.1).length:Int)≤ds:=by
 unfold ia
 refine W.bind (Bf (l:=(l.1,l.2.1,l.2.2)) hl (by omega) (by omega) (by omega) (by omega)) λr2 h2=>?_
 refine W.bind (l9 (l:=(r2.2.1,r2.2.2.1,r2.2.2.2)) h2.2.2 (by omega) (by omega)) λr3 h3=>?_
 have b3:=h3.2.1 (by omega)
 refine W.bind (E9 (l:=(r3.2.1,r3.2.2.1,r3.2.2.2)) h3.2.2 (by omega) (by simp) (by simp)) λr4 h4=>?_
 refine W.bind (l9 (l:=(r4.2.1,r4.2.2.1,r4.2.2.2)) h4.2 (by omega) (by omega)) λr5 h5=>?_
 have b5:=h5.2.1 (by omega)
 refine W.bind (E9 (l:=(r5.2.1,r5.2.2.1,r5.2.2.2)) h5.2.2 (by omega) (by simp) (by simp)) λr6 h6=>?_
 refine W.bind (Bf (l:=(r6.2.1,r6.2.2.1,r6.2.2.2)) h6.2 (by omega) (by omega) (by omega) (by omega)) λr7 h7=>?_
 refine W.bind (E9 (l:=(r7.2.1,r7.2.2.1,r7.2.2.2)) h7.2.2 (by omega) (by simp) (by simp)) λr8 h8=>?_
 have w4:0≤r4.1/\r4.1≤3:=by
  grind
 have w6:0≤r6.1/\r6.1≤3:=by
  grind
 have w8:1≤r8.1/\r8.1≤3:=by
  grind
 have lo8:=h8.2
 refine W.bind (R:=λx=>Lo (x.2.1,x.2.2.1,x.2.2.2) (m+250)/\(1≤x.1.length/\(x.1.length:Int)≤ds)/\∀r∈x.1,Rl r2.1 r) ?_ λx hx=>W.ret ⟨hx.1,JY (by omega) w4 w6 w8 (by omega) (by omega) hx.2.2,rfl,h2.2.1,hx.2.1.2⟩
 refine W.bind (Bf (l:=(r8.2.1,r8.2.2.1,r8.2.2.2)) lo8 (by omega) (by omega) (by omega) (by omega)) λr12 h12=>?_
 refine W.loop (f:=eP k r2) (λq y=>∃j:Nat,y.2.2.2.1.length=j/\y.2.2.2.2=r12.1 - j/\(j:Int)≤r12.1/\q=r12.1.toNat - j/\Lo (y.1,y.2.1,y.2.2.1) (m+10+33 * j)/\∀r∈y.2.2.2.1,Rl r2.1 r) ?_ r12.1.toNat k _ (by omega)
  ⟨0,rfl,by simp,by omega,by omega,h12.2.2.mono (by omega),by simp⟩
 rintro aL q ⟨nums,d,s,out,y⟩ ⟨j,hj,hy,hle,hq,hlo,hr⟩ ih
 simp only at hj hy hlo hr
 subst hy
 unfold eP
 dsimp only
 refine W.ite (λhlt=>?_) (λhge=>W.ret ⟨hlo.mono (by omega),⟨by grind,by grind⟩,hr⟩)
 refine W.bind (R:=λx=>Lo (x.1,x.2.1,x.2.2.1) (m+10+33 * j+33)/\x.2.2.2.length=j+1/\∀r∈x.2.2.2,Rl r2.1 r) ?_ λx15 h15=>?_
 .
  refine W.bind (R:=λx=>Lo (x.1,x.2.1,x.2.2.1) (m+10+33 * j+1)/\(x.2.2.2=true->0 < out.length)) ?_ λx17 h17=>?_
  .refine W.ite (λh0=>?_) (λh0=>W.ret ⟨hlo.mono (by omega),λh=>by cases h⟩);grind [W.bind,wa,W.ret]
  .refine W.ite (λht=>?_) (λht=>?_)
   .have h0:=h17.2 ht;refine W.ck (by omega) (by omega) ?_;have hi:((out.length:Int) - 1)=((out.length - 1:Nat):Int):=by omega
    have hlt':out.length - 1 < out.length:=by omega
    rw [hi,f5 hlt',bs];have hrl:=hr _ (List.getElem_mem hlt');have hl5:=hrl.l5 (by omega);have hr3:=hrl.r3;rw [yE (by omega) (by omega) (λx hx=>by grind),bs,eF (by grind [cE]),bs];refine W.ret ⟨h17.1.mono (by omega),by simp [hj],λr hrr=>?_⟩;grind
   .have hc2:((r2.1.toNat:Nat):Int)=r2.1:=by omega
    have:=EZ hk (l:=(x17.1,x17.2.1,x17.2.2.1)) (m:=m+10+33 * j+1) (n:=r2.1.toNat) h17.1 (by omega) (by omega);rw [hc2] at this;refine W.bind this λr26 h26=>?_;rw [eF (by grind [cE]),bs];refine W.ret ⟨h26.1.mono (by omega),by simp [hj],λr hrr=>?_⟩;grind
 .
  refine W.ck (by omega) (by omega) ?_;exact ih (q - 1) (_,_,_,_,_) (by omega) ⟨j+1,h15.2.1,by grind,by omega,by omega,h15.1.mono (by omega),h15.2.2⟩
theorem tN{k:Nat}(hk:50≤k){l:bP}{m:Int}{c:Int}(hl:Lo l m)(hm:0≤m/\m≤900)(hc:1≤c/\c≤5):
 W (ib k l c) λr=>Lo r.2 (m+10)/\Bg c r.1:=by
 unfold ib
 refine W.bind (R:=λx=>Lo (x.2.1,x.2.2.1,x.2.2.2) (m+10)/\Bg c x.1) ?_ λx hx=>W.ret hx
 refine W.loop (f:=eQ k c) (λq y=>∃j:Nat,y.2.2.2.2=(j:Int)/\(j:Int)≤c/\q=c.toNat - j/\Lo (y.1,y.2.1,y.2.2.1) (m+j)/\y.2.2.2.1.length≤j/\(∀x∈y.2.2.2.1,0≤x/\x < (j:Int))/\y.2.2.2.1.Pairwise (· < ·)) ?_ c.toNat k _ (by omega)
  ⟨0,rfl,by omega,by omega,by simp_all,by simp,by simp,by simp⟩
 rintro aL q ⟨nums,d,s,o,y⟩ ⟨j,hj,hle,hq,hlo,hlen,hx,hp⟩ ih
 simp only at hj hlo hlen hx hp
 subst hj
 unfold eQ
 dsimp only
 refine W.ite (λhlt=>?_) (λhge=>W.ret ⟨hlo.mono (by omega),λx hxx=>by grind,hp⟩)
 refine W.bind (R:=λx=>Lo (x.1,x.2.1,x.2.2.1) (m+j+1)/\x.2.2.2.length≤j+1/\(∀z∈x.2.2.2,0≤z/\z < ((j+1:Nat):Int))/\x.2.2.2.Pairwise (· < ·)) ?_ λx5 h5=>?_
 .
  refine W.bind (wa (l:=(nums,d,s)) hlo (by omega) (by omega) (by omega)) λr7 h7=>?_;refine W.ite (λht=>?_) (λht=>W.ret ⟨h7,by grind,λz hz=>by grind,hp⟩);grind [eF,cE,bs,W.ret,List.mem_singleton]
 .
  refine W.ck (by omega) (by omega) ?_;exact ih (q - 1) (_,_,_,_,_) (by omega) ⟨j+1,by grind,by omega,by omega,h5.1.mono (by omega),h5.2⟩
theorem Bg.len{C:Int}(hC:0≤C/\C≤5){b:List Int}(h:Bg C b):b.length≤5:=by
 have:=qO C.toNat b (h.asc.imp λhab e=>by omega) λx hx=>by have:=h.rng x hx;omega
 omega
theorem ET{m:ah}{B:Int->Bool}{n:Nat}(h:0≤mC m):((oC m B n).length:Int)=mC m:=by
 unfold oC;grind
theorem kj{m:ah}{B:Int->Bool}:(gI m B).length=(mD m).length+1:=by
 unfold gI;simp_all
theorem wR{α ε:Type}:∀(l:List α) (j:Nat),fN (λ(_:Unit) _ _=>(.ok ():Except ε Unit)) j l ()= .ok ()
 |[],_=>rfl
 |_::l,j=>wR l (j+1)
theorem Es{k:Nat}{m:ah}{B:Int->Bool}(v:Vd m)(hk:10≤k):iS k m (gI m B)=some true:=by
 have c1:=v.c1;have d6:=v.d6;unfold iS;have hd:ck ((m.2.2.2.2.1.length:Int)+1)=some (((mD m).length:Int)+1):=eJ (by omega) (by grind);rw [hd,bs,if_neg (λhn=>hn (by rw [kj];omega))]
 have key:=mP (T:=Int) (f:=eA k m (gI m B)) (gI m B) (λ(_:Unit) j=>j) (λ_ _ _=>(.ok ():Except Bool Unit)) (λ_ _=>True) (λr=>some r)
  (λn s j hj _=>by
   have hck:ck ((j:Int)+1)=some ((j:Int)+1):=eJ (by omega) (by grind [kj]);refine⟨?_,λ_ _=>trivial⟩;have hj2:j≤(mD m).length:=by grind [kj]
   simp only [eA,Int.ofNat_lt,hj,if_true,vy hj2,bs,hck];rw [if_neg (λhn=>hn (ET (by omega)))])
  (λn s _=>by simp [eA]) (n:=k) (s0:=()) (by rw [kj];omega) trivial
 simp_all [eA,gI,wR,pE]
