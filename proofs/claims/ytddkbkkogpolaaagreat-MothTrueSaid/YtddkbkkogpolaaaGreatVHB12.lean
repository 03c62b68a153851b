import Derived.Test.YtddkbkkogpolaaaGreatVHF2
open Nat
open List hiding mem_of_getElem?
open Array hiding mem_of_getElem? mk
set_option linter.unusedVariables false
set_option linter.unusedSimpArgs false
namespace Go.Proofs.YtddkbkkogpolaaaGreat
open K Go Go.Proofs
def W{α:Type}(x:Option α)(Q:α->Prop):Prop:=∃a,x=some a/\Q a
namespace W
variable {α β ε:Type}{Q:β->Prop}
theorem ret{a:β}(h:Q a):W (some a) Q:=⟨a,rfl,h⟩
theorem mono{x:Option β}{R:β->Prop}(h:W x R)(hq:∀a,R a->Q a):W x Q:=let ⟨a,e,r⟩:=h;⟨a,e,hq a r⟩
theorem bind{x:Option α}{f:α->Option β}{R:α->Prop}(h:W x R)(hf:∀a,R a->W (f a) Q):W (x.bind f) Q:=by
 obtain⟨a,rfl,r⟩:=h;grind
theorem ck{n:Int}{f:Int->Option β}(h1: -9223372036854775808≤n)(h2:n≤9223372036854775807)(hf:W (f n) Q):W ((K.ck n).bind f) Q:=by
 simp_all [K.ck,if_pos]
theorem chk{p:Prop}[Decidable p]{f:Unit->Option β}(h:p)(hf:W (f ()) Q):W ((cP p).bind f) Q:=by
 simp_all [cP,if_pos]
theorem at_{l:List α}{i:Int}{f:α->Option β}(h0:0≤i)(h1:i < l.length)(hf:∀x,l[i.toNat]? =some x->W (f x) Q):W ((aR l i).bind f) Q:=by
 simp_all [aR,if_pos,List.getElem?_eq_getElem]
theorem ite{p:Prop}[Decidable p]{a b:Option β}(h1:p->W a Q)(h2:¬p->W b Q):W (if p then a else b) Q:=by
 grind
theorem iteB{p:Prop}[Decidable p]{a b:Option α}{f:α->Option β}(h1:p->W (a.bind f) Q)(h2:¬p->W (b.bind f) Q):W ((if p then a else b).bind f) Q:=by
 grind
theorem loop{T:Type}{f:Nat->T->Option β}(I:Nat->T->Prop)(step:∀aG m y,I m y->(∀m' y',m' < m->I m' y'->W (f aG y') Q)->W (f (aG+1) y) Q):∀m aG y,m < aG->I m y->W (f aG y) Q:=by
 intro m
 induction m using Nat.strongRecOn with
 |_ m ih=>
  intro aG y hm hI;cases aG with
  |zero=>omega
  |succ aG=>grind
end W
theorem wrap_u64(n:Int):0≤IntKind.u64.wrap n/\IntKind.u64.wrap n < 18446744073709551616:=by
 simp_all [Int.emod_nonneg,Int.emod_lt_of_pos,IntKind.wrap,IntKind.signed,IntKind.bits]
theorem yZ{n:Int}(h0:0≤n)(h1:n < 18446744073709551616):IntKind.u64.wrap n=n:=by
 simp_all [IntKind.wrap,IntKind.signed,IntKind.bits,Int.emod_eq_of_lt]
def Lo(l:bO)(m:Int):Prop:=0≤l.2.1/\l.2.1≤m
theorem Lx{k:Nat}{l:bO}{m:Int}(h:Lo l m)(hm:m≤1000000000):W (il k l) λr=>0≤r.1/\r.1 < 72057594037927936/\Lo r.2 (m+1):=by
 obtain⟨h0,h1⟩:=h;unfold il
 have fin:∀x:Int,W ((K.ck (l.2.1+1)).bind λx4=>some (ip .u64 (sQ .u64 (IntKind.u64.wrap ((sQ .u64 x (ip .u64 x (29:Int))) * (2685821657736338717:Int))) (ip .u64 (IntKind.u64.wrap ((sQ .u64 x (ip .u64 x (29:Int))) * (2685821657736338717:Int))) (32:Int))) (8:Int),(l.1,x4,x)))
  λr=>0≤r.1/\r.1 < 72057594037927936/\Lo r.2 (m+1):=λx=>by
  refine W.ck (by omega) (by omega) (W.ret ?_)
  generalize IntKind.u64.wrap ((sQ .u64 x (ip .u64 x (29:Int))) * (2685821657736338717:Int))=y
  have hx:0≤sQ .u64 y (ip .u64 y 32)/\sQ .u64 y (ip .u64 y 32) < 18446744073709551616:=wrap_u64 _
  have e:ip .u64 (sQ .u64 y (ip .u64 y 32)) 8=(sQ .u64 y (ip .u64 y 32)) / 256:=by
   unfold ip;rw [Int.fdiv_eq_ediv_of_nonneg _ (by decide)];rfl
  refine⟨?_,?_,?_,?_⟩
  .
   omega
  .
   omega
  .
   grind
  simp_all
 refine W.iteB (λhlt=>?_) (λ_=>fin _);simp_all [aR,if_pos,List.getElem?_eq_getElem]
theorem kG{k:Nat}{l:bO}{m n:Int}(h:Lo l m)(hm:m≤1000000000)(hn:n≤1000000000):W (cC k l n) λr=>0≤r.1/\(0≤n->r.1≤n)/\Lo r.2 (m+1):=by
 unfold cC;refine W.ite (λh1=>W.ret ⟨Int.le_refl 0,λh=>h,h.1,by show l.2.1≤m+1;have:=h.2;omega⟩) (λh1=>?_);refine W.bind (Lx h hm) λr hr=>?_;refine W.ck (by omega) (by omega) ?_;have e:IntKind.u64.wrap (n+1)=n+1:=yZ (by omega) (by omega);refine W.chk (by omega) ?_;rw [e];have h2:Int.tmod r.1 (n+1)=r.1 % (n+1):=Int.tmod_eq_emod_of_nonneg hr.1;have h3:=Int.emod_nonneg r.1 (show n+1≠0 by omega);have h4:=Int.emod_lt_of_pos r.1 (show 0 < n+1 by omega);grind [W.ck,W.ret]
theorem DZ{k:Nat}{l:bO}{m a b:Int}(h:Lo l m)(hm:m≤1000000000)(ha:0≤a)(hab:a≤b)(hb:b≤1000000):W (fJ k l a b) λr=>a≤r.1/\r.1≤b/\Lo r.2 (m+1):=by
 grind [fJ,W.ck,W.bind,kG,W.ret]
theorem t3{k:Nat}{l:bO}{m a:Int}(h:Lo l m)(hm:m≤1000000000)(ha:0≤a)(hb:a≤1000000):W (ew k l a) λr=>Lo r.2 (m+1):=by
 grind [ew,W.ck,W.bind,kG,W.ret]
theorem HM{k:Nat}{l:bO}{m:Int}{some_:List Int}(h:Lo l m)(hm:m≤1000000000)(h0:0 < some_.length)(h1:some_.length≤1000000):W (gU k l some_) λr=>r.1∈some_/\Lo r.2 (m+1):=by
 grind [gU,W.ck,W.bind,kG,W.at_,W.ret,List.mem_of_getElem?]
theorem eN{α:Type}{l:List α}{i:Nat}(h:i < l.length):aR l (i:Int)=some l[i]:=by
 rw [aR,if_pos (by omega)];simp_all
section
variable {α β γ ε σ T:Type}
theorem bs{a:α}{f:α->Option β}:(some a).bind f=f a:=by simp_all
theorem dw{n:Int}(h1: -9223372036854775808≤n)(h2:n≤9223372036854775807):K.ck n=some n:=by simp_all [K.ck,if_pos]
theorem dB{p:Prop}[Decidable p](h:p):cP p=some ():=by rw [cP,if_pos h]
theorem yh{l:List α}{i:Int}(h0:0≤i)(h:i.toNat < l.length):aR l i=some l[i.toNat]:=by rw [aR,if_pos h0];simp_all
theorem IJ{l:List α}{i:Int}{x:α}(h0:0≤i)(h:l[i.toNat]? =some x):aR l i=some x:=by simp_all [aR,if_pos]
theorem mt{a:α}{g:ε->Option β}{f:α->Option β}:K.bE (some (.ok a)) g f=f a:=by simp_all [K.bE]
theorem oU{e:ε}{g:ε->Option β}{f:α->Option β}:K.bE (some (.error e)) g f=g e:=by simp_all [K.bE]
theorem pB{q:α}{a:β}{b:α->β}:fF (some q) a b=b q:=by simp_all [fF]
theorem kO{a:β}{b:α->β}:fF none a b=a:=by simp_all [fF]
theorem VN{n:Nat}(h:n≤4294967296):bW n:=h
def lH(g:σ->Nat->α->σ):Nat->List α->σ->σ
 |_,[],s=>s
 |j,x::l,s=>lH g (j+1) l (g s j x)
theorem iq(l:List α)(mk:σ->Int->T)(g:σ->Nat->α->σ)(P:Nat->σ->Prop){f:Nat->T->Option β}(fin:σ->Option β)
 (step:∀n s (j:Nat) (h:j < l.length),P j s->f (n+1) (mk s j)=f n (mk (g s j l[j]) ((j:Int)+1))/\P (j+1) (g s j l[j]))
 (stop:∀n s,P l.length s->f (n+1) (mk s l.length)=fin s) {s0:σ} {n:Nat} (hn:l.length < n) (h0:P 0 s0):f n (mk s0 0)=fin (lH g 0 l s0)/\P l.length (lH g 0 l s0):=by
 have key:∀(m:List α) (pre:List α) (n:Nat) (s:σ),l=pre++m->m.length < n->P pre.length s->f n (mk s pre.length)=fin (lH g pre.length m s)/\P l.length (lH g pre.length m s):=by
  intro m
  induction m with
  |nil=>
   intro pre n s e hn hp;obtain⟨n,rfl⟩:∃n',n=n'+1:=⟨n - 1,by omega⟩;have:l.length=pre.length:=by grind
   rw [<-this] at hp⊢;exact⟨stop n s hp,hp⟩
  |cons x m ih=>
   intro pre n s e hn hp;simp only [length_cons] at hn;obtain⟨n,rfl⟩:∃n',n=n'+1:=⟨n - 1,by omega⟩;have hl:pre.length < l.length:=by grind
   have hx:l[pre.length]=x:=by simp [e]
   obtain⟨h1,h2⟩:=step n s pre.length hl hp;rw [hx] at h1 h2;have:=ih (pre++[x]) n (g s pre.length x) (by grind) (by omega) (by simp_all);rw [length_append] at this;simp only [length_cons,length_nil,Nat.zero_add] at this;rw [h1];exact this
 have:=key l [] n s0 rfl hn h0
 exact this
def eD(g:σ->Nat->α->Except ε σ):Nat->List α->σ->Except ε σ
 |_,[],s=>.ok s
 |j,x::l,s=>match g s j x with
  | .error e=>.error e
  | .ok s'=>eD g (j+1) l s'
theorem wX(l:List α)(mk:σ->Int->T)(g:σ->Nat->α->Except ε σ)(P:Nat->σ->Prop){f:Nat->T->Option β}(fin:Except ε σ->Option β)
 (step:∀n s (j:Nat) (h:j < l.length),P j s->(∃e,g s j l[j]= .error e/\f (n+1) (mk s j)=fin (.error e))\/(∃s',g s j l[j]= .ok s'/\f (n+1) (mk s j)=f n (mk s' ((j:Int)+1))/\P (j+1) s'))
 (stop:∀n s,P l.length s->f (n+1) (mk s l.length)=fin (.ok s)) {s0:σ} {n:Nat} (hn:l.length < n) (h0:P 0 s0):f n (mk s0 0)=fin (eD g 0 l s0):=by
 have key:∀(m:List α) (pre:List α) (n:Nat) (s:σ),l=pre++m->m.length < n->P pre.length s->f n (mk s pre.length)=fin (eD g pre.length m s):=by
  intro m
  induction m with
  |nil=>
   intro pre n s e hn hp;obtain⟨n,rfl⟩:∃n',n=n'+1:=⟨n - 1,by omega⟩;have:l.length=pre.length:=by grind
   rw [<-this] at hp⊢;exact stop n s hp
  |cons x m ih=>
   intro pre n s e hn hp;simp only [length_cons] at hn;obtain⟨n,rfl⟩:∃n',n=n'+1:=⟨n - 1,by omega⟩;have hl:pre.length < l.length:=by grind
   have hx:l[pre.length]=x:=by simp [e]
   rcases step n s pre.length hl hp with⟨e',h1,h2⟩ |⟨s',h1,h2,h3⟩
   .grind [eD]
   .rw [hx] at h1;have:=ih (pre++[x]) n s' (by grind) (by omega) (by simp_all);simp_all [length_append,length_cons,length_nil,Nat.zero_add,eD]
 exact key l [] n s0 rfl hn h0
end
section
variable {α β ε σ T:Type}
theorem me(l:List α)(mk:σ->Int->T)(g:σ->Nat->α->Except ε σ)(P:Nat->σ->Prop){f:Nat->T->Option β}(fin:Except ε σ->Option β)
 (step:∀n s (j:Nat) (h:j < l.length),P j s->(f (n+1) (mk s j)=match g s j l[j] with | .error e=>fin (.error e) | .ok s'=>f n (mk s' ((j:Int)+1)))/\∀s',g s j l[j]= .ok s'->P (j+1) s')
 (stop:∀n s,P l.length s->f (n+1) (mk s l.length)=fin (.ok s)) {s0:σ} {n:Nat} (hn:l.length < n) (h0:P 0 s0):f n (mk s0 0)=fin (eD g 0 l s0):=
 wX l mk g P fin (λn s j h hp=>by
  obtain⟨h1,h2⟩:=step n s j h hp
  grind) stop hn h0
end
theorem uZ{α:Type}(p:α->Bool):∀(l:List α) (j:Nat),eD (λ(_:Unit) j x=>if p x then Except.error (j:Int) else .ok ()) j l ()=match l.findIdx? p with |some i=>.error ((i+j:Nat):Int) |none=>.ok ()
 |[],j=>by simp [eD]
 |x::l,j=>by
  rw [eD,findIdx?_cons]
  by_cases h:p x=true
  .
   simp [h]
  .
   simp only [h,if_false,Bool.false_eq_true]
   rw [uZ p l (j+1)]
   grind
theorem zx{k:Nat}{a b:List Int}(h:a.length < k)(hk:a.length≤1000000):fi k a b=some (decide (a=b)):=by
 unfold fi;by_cases hl:a.length=b.length
 .rw [if_neg (by simp [hl])]
  have key:=wX (f:=dH k a b) a (λ(_:Unit) j=>j) (λ_ j x=>if x=b[j]?.getD 0 then .ok () else Except.error false) (λ_ _=>True) (λr=>some r)
   (λn s j hj _=>by
    have hjb:j < b.length:=by omega
    have hb:b[j]?.getD 0=b[j]:=by simp_all
    have hck:ck ((j:Int)+1)=some ((j:Int)+1):=dw (by omega) (by omega);rw [hb];simp only [dH,Int.ofNat_lt,hj,if_true,eN hj,eN hjb,bs];by_cases e:a[j]=b[j] <;> simp [e,hck])
   (λn s _=>by simp [dH]) (n:=k) (s0:=()) h trivial
  rw [show dH k a b k 0=_ from key]
  have:∀(a:List Int) (j:Nat),a.length+j=b.length->eD (λ(_:Unit) j x=>if x=b[j]?.getD 0 then .ok () else Except.error false) j a ()=if a=b.drop j then .ok () else .error false:=by
   intro a
   induction a with
   |nil=>
    simp_all [drop_eq_nil_of_le,length_nil,eD]
   |cons x a ih=>
    intro j hj;simp only [length_cons] at hj;have hjb:j < b.length:=by omega
    have hd:b.drop j=b[j]::b.drop (j+1):=drop_eq_getElem_cons hjb;have hb:b[j]?.getD 0=b[j]:=by simp_all
    rw [eD,hb,hd];grind
  rw [this a 0 (by omega),drop_zero];by_cases e:a=b
  .rw [if_pos e,mt,decide_eq_true e]
  .rw [if_neg e,oU,decide_eq_false e]
 .rw [if_pos (by omega),decide_eq_false (λe=>hl (by rw [e]))]
def iS(s:Int):Prop:=0≤s/\s < 256
def dX(s:Int)(i:Nat):Prop:=s.toNat.testBit i=true
instance (s:Int) (i:Nat):Decidable (dX s i):=by unfold dX;infer_instance
theorem tU{x:Nat}(h:x < 256):IntKind.u8.wrap (x:Int)=x:=by
 grind [IntKind.wrap,IntKind.signed,IntKind.bits]
theorem uO{s:Int}(h:iS s):∃n:Nat,n < 256/\s=n:=⟨s.toNat,by have:=h.1;have:=h.2;omega,by have:=h.1;omega⟩
theorem HN{n:Nat}(h:n < 256):(BitVec.ofInt IntKind.u8.bits (n:Int)).toNat=n:=by
 show(BitVec.ofInt 8 (n:Int)).toNat=n;simp_all
theorem Iw{n m:Nat}(hn:n < 256)(hm:m < 256):n |||m < 256:=or_lt_two_pow (n:=8) hn hm
theorem LJ{n m:Nat}(hn:n < 256):n &&& m < 256:=Nat.lt_of_le_of_lt and_le_left hn
theorem PR{a b:Int}(ha:iS a)(hb:iS b):iS (DY .u8 a b)/\∀i,dX (DY .u8 a b) i↔dX a i\/dX b i:=by
 obtain⟨n,hn,rfl⟩:=uO ha;obtain⟨m,hm,rfl⟩:=uO hb
 have e:DY .u8 (n:Int) (m:Int)=((n |||m:Nat):Int):=by
  grind [DY,BitVec.toNat_or,HN,tU,Iw]
 rw [e];refine⟨⟨by omega,by grind [Iw]⟩,λi=>?_⟩;simp [dX,testBit_or]
theorem Py{x:Int}(h0:0≤x)(h8:x < 8):iS (oO .u8 1 x)/\∀i:Nat,dX (oO .u8 1 x) i↔(i:Int)=x:=by
 obtain⟨n,rfl⟩:=Int.eq_ofNat_of_zero_le h0;have hn:n < 8:=by omega
 have e:oO .u8 1 (n:Int)=((2 ^ n:Nat):Int):=by
  unfold oO
  have h1:min (Int.toNat (n:Int)) IntKind.u8.bits=n:=by
   show min n 8=n;omega
  rw [h1,Int.one_mul];have h2:2 ^ n < 256:=Nat.pow_lt_pow_right (by decide) hn;grind [tU]
 rw [e];have h9:2 ^ n < 256:=Nat.pow_lt_pow_right (by decide) hn;refine⟨⟨Int.natCast_nonneg _,Int.ofNat_lt.2 h9⟩,λi=>?_⟩;simp only [dX,Int.toNat_natCast,testBit_two_pow,decide_eq_true_eq];omega
theorem yg{k:Nat}{s:Int}(hs:iS s){i:Nat}(hi:i < 8):eX k s (i:Int)=some (decide (dX s i)):=by
 obtain⟨n,hn,rfl⟩:=uO hs;unfold eX;rw [cP,if_pos (by omega)];show some _=some _;congr 1
 have e1:ip .u8 (n:Int) (i:Int)=((n >>> i:Nat):Int):=by
  unfold ip
  have h1:min (Int.toNat (i:Int)) IntKind.u8.bits=i:=by
   show min i 8=i;omega
  grind [Int.fdiv_eq_ediv_of_nonneg,Int.natCast_nonneg,Nat.shiftRight_eq_div_pow]
 have hlt:n >>> i < 256:=Nat.lt_of_le_of_lt (by rw [Nat.shiftRight_eq_div_pow];exact div_le_self _ _) hn
 have e2:qG .u8 ((n >>> i:Nat):Int) 1=(((n >>> i) &&& 1:Nat):Int):=by
  grind [qG,BitVec.ofInt,BitVec.toNat_and,HN,tU,LJ]
 rw [e1,e2]
 have e3:(((n >>> i) &&& 1:Nat):Int)=1↔dX (n:Int) i:=by
  rw [dX,Int.toNat_natCast,testBit];grind
 simp_all
end Go.Proofs.YtddkbkkogpolaaaGreat
set_option linter.unusedVariables false
set_option linter.unusedSimpArgs false
namespace Go.Proofs.YtddkbkkogpolaaaGreat
open K Go Go.Proofs
abbrev mC(m:ae):Int:=m.1
abbrev mW(m:ae):Int:=m.2.1
abbrev mS(m:ae):Int:=m.2.2.1
abbrev mH(m:ae):Int:=m.2.2.2.1
abbrev mD(m:ae):List (List (List Int)):=m.2.2.2.2.1
abbrev mG(m:ae):List bq:=m.2.2.2.2.2
def AP(l:List Int)(c:Int):Option (List Int):=(l.findIdx? λy=>decide (c=y)).map λi=>(if 0 < i then [l[i-1]?.getD 0] else [])++(l[i+1]?).toList
def AQ(d:List (List Int))(c:Int):Option (List Int):=d.findSome? λl=>AP l c
def AS(m:ae)(d:Nat)(c:Int):Option (List Int):=AQ ((mD m)[d]?.getD []) c
def nc(m:ae)(c:Int):Nat->Nat
 |0=>if(AS m 0 c).isSome then 0 else 1
 |d+1=>if(AS m (d+1) c).isSome then 0 else nc m c d+1
def mi(m:ae)(B:Int->Bool):Nat->Int->Int
 |0,c=>if B c then mW m else -1
 |d+1,c=>match AS m d c with
  |none=>if mH m≤(nc m c d:Int) then -1 else mi m B d c
  |some l=>if 0≤mi m B d c then mi m B d c+1 else if l.any λx=>decide (mW m≤mi m B d x) then 0 else -1
theorem Jl{m:ae}{B:Int->Bool}(hw:0≤mW m):∀{d:Nat} {c:Int}, -1≤mi m B d c
 |0,c=>by grind [mi]
 |d+1,c=>by
  have:=Jl (B:=B) hw (d:=d) (c:=c)
  grind [mi]
theorem Jk{m:ae}{B:Int->Bool}(hw:mW m≤3):∀{d:Nat} {c:Int},mi m B d c≤3+d
 |0,c=>by grind [mi]
 |d+1,c=>by
  have:=Jk (B:=B) hw (d:=d) (c:=c)
  grind [mi]
theorem IB{k:Nat}{l:List Int}{x:Int}(hk:l.length < k)(hl:l.length≤1000000):gi k l x=some (match l.findIdx? (λy=>decide (x=y)) with |some i=>(i:Int) |none=> -1):=by
 unfold gi
 have key:=me (f:=dn k l x) l (λ(_:Unit) j=>j) (λ_ j y=>if decide (x=y)=true then Except.error (j:Int) else .ok ()) (λ_ _=>True) (λr=>some r)
  (λn s j hj _=>by
   have hck:ck ((j:Int)+1)=some ((j:Int)+1):=dw (by omega) (by omega);refine⟨?_,λ_ _=>trivial⟩;simp only [dn,Int.ofNat_lt,hj,if_true,eN hj,bs,decide_eq_true_eq];grind)
  (λn s _=>by simp [dn]) (n:=k) (s0:=()) hk trivial
 rw [show dn k l x k 0=_ from key,uZ (λy=>decide (x=y)) l 0];grind [decide,mt,oU]
def nU:List Int->List Int
 |[a,b]=>if b < a then [b,a] else [a,b]
 |l=>l
theorem uj{l:List Int}{x:Int}:x∈nU l↔x∈l:=by
 unfold nU;grind
theorem KW{k:Nat}{l:List Int}(hk:10≤k)(hl:l.length≤2):fO k l=some (nU l):=by
 obtain⟨k,rfl⟩:∃n,k=n+4:=⟨k - 4,by omega⟩;have e0:pI (k+4) (IntKind.u64.wrap (0:Int))=some 0:=by kernel_rfl
 have e1:pI (k+4) (IntKind.u64.wrap (1:Int))=some 1:=by kernel_rfl
 have e2:pI (k+4) (IntKind.u64.wrap (2:Int))=some 2:=by kernel_rfl
 have c0:ck ((0:Int) - 0)=some 0:=rfl;have c1:ck ((1:Int) - 0)=some 1:=rfl;have c2:ck ((2:Int) - 0)=some 2:=rfl;have d1:ck ((0:Int)+1)=some 1:=rfl;have d2:ck ((1:Int)+1)=some 2:=rfl;have d3:ck ((1:Int) - 1)=some 0:=rfl;match l,hl with
 |[],_=>
  simp only [fO,length_nil,Int.ofNat_zero,e0,bs,cZ,cF,bX,bi,nU,c0,d1];rfl
 |[a],_=>
  simp_all [fO,bs,cZ,cF,bX,bi,nU]
 |[a,b],_=>
  have:(([a,b]:List Int).length:Int)=2:=rfl;have g0:aR [a,b] (0:Int)=some a:=rfl;have g1:aR [a,b] (1:Int)=some b:=rfl;have hn:∀x:Int,kY (k+4) x=some false:=λx=>by simp [kY]
  have hl:∀x y:Int,oR (k+4) x y=some (decide (x < y)):=λx y=>by simp [oR,hn]
  simp only [fO,this,e2,bs,cZ,cF,bX,bi,bL,c2,d1,d2,d3,g0,g1,hl];grind [nU,bL,bs,aR]
end Go.Proofs.YtddkbkkogpolaaaGreat
set_option linter.unusedVariables false
set_option linter.unusedSimpArgs false
namespace Go.Proofs.YtddkbkkogpolaaaGreat
open K Go Go.Proofs
structure Vd(m:ae):Prop where
 c1:1≤mC m
 c5:mC m≤5
 w0:0≤mW m
 w3:mW m≤3
 s0:0≤mS m
 s3:mS m≤3
 h1:1≤mH m
 h3:mH m≤3
 d1:1≤(mD m).length
 d6:(mD m).length≤6
 r3:∀r∈mD m,r.length≤3
 l5:∀r∈mD m,∀l∈r,l.length≤5
 x5:∀r∈mD m,∀l∈r,∀x∈l,0≤x/\x < mC m
 nd:∀r∈mD m,r.flatten.Nodup
 g8:(mG m).length≤8
 gl:∀g∈mG m,0≤g.1/\g.1 < mC m/\0≤g.2.1/\g.2.1≤(mD m).length
theorem AO{l:List Int}{c:Int}{s:List Int}(h:AP l c=some s):s.length≤2/\∀x∈s,x∈l:=by
 unfold AP at h;cases e:l.findIdx? (λy=>decide (c=y)) with
 |none=>simp_all
 |some i=>
  rw [e] at h;obtain rfl:=Option.some.inj h;have hi:i < l.length:=(List.findIdx?_eq_some_iff_getElem.1 e).1;grind
theorem Jc{d:List (List Int)}{c:Int}{s:List Int}(h:AQ d c=some s):∃l∈d,AP l c=some s:=by
 simp_all [AQ,List.exists_of_findSome?_eq_some]
theorem ve{m:ae}(v:Vd m){d:Nat}{c:Int}{s:List Int}(h:AS m d c=some s):s.length≤2/\∀x∈s,0≤x/\x < mC m:=by
 obtain⟨l,hl,h2⟩:=Jc h;cases e:(mD m)[d]? with
 |none=>simp_all
 |some r=>
  rw [e] at hl;have h3:=AO h2;exact⟨h3.1,λx hx=>v.x5 r (List.mem_of_getElem? e) l hl x (h3.2 x hx)⟩
def QH(m:ae)(c:Int)(d:Nat):Int ⊕ List Int:=match AS m d c with
 |some s=>.inr (nU s)
 |none=>.inl (nc m c d)
theorem zI{k:Nat}{c:Int}{r:List (List Int)}(hk:10≤k)(hr:r.length≤3)(hl:∀l∈r,l.length≤5):
 cI k c r k 0=some (match AQ r c with |some s=>.error (.inr (nU s)) |none=>.ok ()):=by
 have key:=me (f:=cI k c r) r (λ(_:Unit) j=>j) (λ_ _ l=>match AP l c with |some s=>Except.error (Sum.inr (nU s):Int ⊕ List Int) |none=>.ok ()) (λ_ _=>True) (λx=>some x)
  (λn s j hj _=>by
   refine⟨?_,λ_ _=>trivial⟩;have h5:=hl _ (List.getElem_mem hj);have hck:ck ((j:Int)+1)=some ((j:Int)+1):=dw (by omega) (by omega);simp only [cI,Int.ofNat_lt,hj,if_true,eN hj,bs];rw [IB (by omega) (by omega),bs];generalize r[j]=l at *;have hb:AP l c=(l.findIdx? λy=>decide (c=y)).map λi=>(if 0 < i then [l[i-1]?.getD 0] else [])++(l[i+1]?).toList:=rfl;cases e:l.findIdx? (λy=>decide (c=y)) with
   |none=>
    simp_all
   |some i=>
    rw [e] at hb;simp only [Option.map_some] at hb;have hi:i < l.length:=(List.findIdx?_eq_some_iff_getElem.1 e).1;rw [hb];have hlen:=(AO hb).1;have c1:ck ((i:Int) - 1)=some ((i:Int) - 1):=dw (by omega) (by omega);have c2:ck ((i:Int)+1)=some ((i:Int)+1):=dw (by omega) (by omega);have ok0:cP (bW (length ([]:List Int)+length [l[i-1]?.getD 0]))=some ():=dB (by simp [bW]);simp only [show(0:Int)≤(i:Int) from Int.natCast_nonneg _,if_true,c1,c2,bs]
    have e1:(if(0:Int) < (i:Int) then((aR l ((i:Int) - 1)).bind λx11=>(cP (bW (length ([]:List Int)+length [x11]))).bind λ_=>some (([]:List Int)++[x11])) else some ([]:List Int))=some (if 0 < i then [l[i-1]?.getD 0] else []):=by
     by_cases h0:0 < i
     .have g:aR l ((i:Int) - 1)=some (l[i-1]?.getD 0):=by
       grind [eN,List.getElem?_eq_getElem]
      simp_all
     simp_all
    rw [e1,bs];generalize (if 0 < i then [l[i-1]?.getD 0] else [])=p at *
    have e2:(if(i:Int)+1 < (l.length:Int) then((aR l ((i:Int)+1)).bind λx18=>(cP (bW (length p+length [x18]))).bind λ_=>some (p++[x18])) else some p)=some (p++(l[i+1]?).toList):=by
     by_cases h1:i+1 < l.length
     .have g:aR l ((i:Int)+1)=some l[i+1]:=by
       have:((i:Int)+1)=((i+1:Nat):Int):=by omega
       rw [this,eN h1]
      rw [if_pos (by omega),g,bs,List.getElem?_eq_getElem h1];grind [List.getElem?_eq_getElem,dB,length_append,bW,bs]
     grind
    simp_all [bs,KW])
  (λn s _=>by simp [cI]) (n:=k) (s0:=()) (by omega) trivial
 rw [show cI k c r k 0=_ from key]
 congr 1
 have:∀(r:List (List Int)) (j:Nat),eD (λ(_:Unit) _ l=>match AP l c with |some s=>Except.error (Sum.inr (nU s):Int ⊕ List Int) |none=>.ok ()) j r ()=match AQ r c with |some s=>.error (.inr (nU s)) |none=>.ok ():=by
  intro r
  induction r with
  |nil=>intro j;rfl
  |cons l r ih=>
   intro j;rw [eD];unfold AQ;rw [findSome?_cons];cases AP l c with
   |none=>exact ih (j+1)
   |some s=>rfl
 simp_all
theorem Ee{m:ae}{c:Int}:∀{d:Nat},nc m c d≤d+1
 |0=>by grind [nc]
 |d+1=>by have:=Ee (m:=m) (c:=c) (d:=d);grind [nc]
theorem ux{k:Nat}{m:ae}{c:Int}(v:Vd m)(hk:10≤k):∀(d m0:Nat),d < m0->d < (mD m).length->ec k m0 m c (d:Int)=some (QH m c d)
 |d,0,h,_=>absurd h (not_lt_zero _)
 |d,m0+1,h,hd=>by
  have hm:=List.getElem_mem hd
  unfold ec
  rw [eN hd,bs,zI hk (v.r3 _ hm) (v.l5 _ hm)]
  have hbes:AS m d c=AQ (mD m)[d] c:=by unfold AS;simp_all
  cases e:AQ (mD m)[d] c with
  |some s=>
   simp_all [oU,QH]
  |none=>
   rw [mt]
   unfold QH
   rw [hbes,e]
   match d,hd,h with
   |0,hd,h=>
    simp_all [nc]
   |d+1,hd,h=>
    have h6:=v.d6
    have c1:ck (((d+1:Nat):Int) - 1)=some (d:Int):=by grind [dw]
    have ih:=ux v hk d m0 (by omega) (by omega) (c:=c)
    rw [if_pos (by omega),c1,bs,ih,bs]
    rw [hbes.symm] at e
    have hcold:nc m c (d+1)=nc m c d+1:=by grind [nc]
    have hle:=Ee (m:=m) (c:=c) (d:=d)
    unfold QH
    cases e2:AS m d c with
    |some s=>
     simp only [K5]
     have:nc m c d=0:=by cases d <;> simp [nc,e2]
     simp_all
    |none=>
     have c2:ck ((1:Int)+(nc m c d:Int))=some ((1:Int)+(nc m c d:Int)):=dw (by omega) (by omega)
     simp only [K5,Q9,c2,bs,if_true,hcold]
     grind
end Go.Proofs.YtddkbkkogpolaaaGreat
set_option linter.unusedVariables false
set_option linter.unusedSimpArgs false
namespace Go.Proofs.YtddkbkkogpolaaaGreat
open K Go Go.Proofs
def kH(f:Int->Int):List Int:=[f 0,f 1,f 2,f 3,f 4]
def upd(f:Int->Int)(c v:Int):Int->Int:=λx=>if x=c then v else f x
theorem VC{c:Int}(h0:0≤c)(h:c < 5):c=0\/c=1\/c=2\/c=3\/c=4:=by omega
theorem tY{f:Int->Int}{c:Int}(h0:0≤c)(h:c < 5):aR (kH f) c=some (f c):=by
 rcases VC h0 h with rfl |rfl |rfl |rfl |rfl <;> rfl
theorem Dw{f:Int->Int}{c v:Int}(h0:0≤c)(h:c < 5):List.set (kH f) (Int.toNat c) v=kH (upd f c v):=by
 rcases VC h0 h with rfl |rfl |rfl |rfl |rfl <;> rfl
theorem mN{f g:Int->Int}(h:∀c,0≤c->c < 5->f c=g c):kH f=kH g:=by
 simp_all [kH]
def Q6(m:ae)(f:Int->Int)(d:Nat)(c:Int):Int:=match AS m d c with
 |none=>if mH m≤(nc m c d:Int) then -1 else f c
 |some l=>if 0≤f c then f c+1 else if l.any λx=>decide (mW m≤f x) then 0 else -1
def QI(m:ae)(f:Int->Int)(d:Nat):Int->Int:=λc=>if 0≤c/\c < mC m then Q6 m f d c else f c
theorem vM{k:Nat}{m:ae}{f:Int->Int}(hw:0≤mW m){s:List Int}(hs:s.length < k)(hs2:s.length≤1000)(hx:∀x∈s,0≤x/\x < 5):
 bY k m (kH f) s k 0=some (match s.find? (λx=>decide (mW m≤f x)) with |some x=>.error x |none=>.ok ()):=by
 have key:=me (f:=bY k m (kH f) s) s (λ(_:Unit) j=>j) (λ_ _ x=>if decide (mW m≤f x)=true then Except.error x else .ok ()) (λ_ _=>True) (λx=>some x)
  (λn _ j hj _=>by
   refine⟨?_,λ_ _=>trivial⟩;have h5:=hx _ (List.getElem_mem hj);have hck:ck ((j:Int)+1)=some ((j:Int)+1):=dw (by omega) (by omega);have him:sR (0:Int) m.2.1=mW m:=by show sR 0 (mW m)=mW m;grind [sR]
   simp only [bY,Int.ofNat_lt,hj,if_true,eN hj,bs,dB h5,tY h5.1 h5.2,him,hck,decide_eq_true_eq];grind)
  (λn s _=>by simp [bY]) (n:=k) (s0:=()) hs trivial
 rw [show bY k m (kH f) s k 0=_ from key]
 congr 1
 have:∀(s:List Int) (j:Nat),eD (λ(_:Unit) _ x=>if decide (mW m≤f x)=true then Except.error x else .ok ()) j s ()=match s.find? (λx=>decide (mW m≤f x)) with |some x=>.error x |none=>.ok ():=by
  intro s
  induction s with
  |nil=>intro j;rfl
  |cons x s ih=>
   intro j;rw [eD,find?_cons];grind
 simp_all
theorem zt{s:List Int}:(nU s).length=s.length:=by
 unfold nU;grind
def KJ(m:ae)(f:Int->Int)(l:List Int):Int:=((nU l).find? λx=>decide (mW m≤f x)).getD (-1)
theorem BB{k:Nat}{m:ae}{f:Int->Int}{c:Int}{d:Nat}(v:Vd m)(hk:10≤k)(hd:d < (mD m).length){l:List Int}(h:AS m d c=some l):
 dA k m (kH f) c (d:Int)=some (KJ m f l):=by
 have h6:=v.d6
 have c5:=v.c5
 have hb:=ve v h
 unfold dA
 rw [ux v hk d k (by omega) hd,bs]
 unfold QH
 rw [h]
 have e1:I9 (Sum.inr (nU l):Int ⊕ List Int) (λn=>iC k n) (λl=>iy k l)=some (nU l):=rfl
 rw [e1,bs,vM v.w0 (by rw [zt];omega) (by rw [zt];omega) λx hx=>by grind [uj]]
 unfold KJ
 cases(nU l).find? λx=>decide (mW m≤f x) with
 |none=>rw [mt];rfl
 |some x=>rw [oU];rfl
theorem KI{m:ae}{f:Int->Int}{l:List Int}(hx:∀x∈l,0≤x):0≤KJ m f l↔(l.any λx=>decide (mW m≤f x))=true:=by
 unfold KJ;rw [List.any_eq_true];cases e:(nU l).find? λx=>decide (mW m≤f x) with
 |none=>
  simp_all [Option.getD_none,List.find?_eq_none,uj]
 |some x=>
  grind [List.mem_of_find?_eq_some,uj]
theorem Il{k:Nat}{m:ae}{f:Int->Int}{d:Nat}(v:Vd m)(hk:10≤k)(hd:d < (mD m).length)(hf:∀c,0≤c->c < mC m-> -1≤f c/\f c≤1000):
 gR k m (kH f) (d:Int)=some (kH (QI m f d)):=by
 have c5:=v.c5
 have c1:=v.c1
 have h6:=v.d6
 unfold gR
 have key:=iq (T:=List Int×Int) (f:=cz k m (kH f) (d:Int)) (List.range (mC m).toNat) (λ(g:Int->Int) j=>(kH g,j)) (λg j _=>upd g (j:Int) (Q6 m f d (j:Int))) (λj g=>g=λc=>if 0≤c/\c < (j:Int) then Q6 m f d c else f c) (λg=>some (kH g))
  (λn g j hj hg=>by
   rw [length_range] at hj;have j0:(0:Int)≤(j:Int):=Int.natCast_nonneg _;have j1:(j:Int) < mC m:=by omega
   have j5:(j:Int) < 5:=by omega
   have hck:ck ((j:Int)+1)=some ((j:Int)+1):=dw (by omega) (by omega);have hp:cP ((0:Int)≤(j:Int)/\(j:Int) < 5)=some ():=dB ⟨j0,j5⟩;have hgj:g (j:Int)=f (j:Int):=by simp_all
   have hfj:=hf _ j0 j1;refine⟨?_,?_⟩
   .have hm1:(m.1:Int)=mC m:=rfl;have hm2:m.2.2.2.1=mH m:=rfl;simp only [cz,hm1,hm2,j1,if_true,ux v hk d k (by omega) hd,bs,hp,tY j0 j5,hck,Dw j0 j5];unfold QH Q6;cases e:AS m d (j:Int) with
    |none=>
     simp only [K5,Q9,if_true];by_cases hh:mH m≤(nc m (j:Int) d:Int)
     .simp_all
     .simp only [hh,if_false,bs];refine congrArg (λr=>cz k m (kH f) (d:Int) n (r,(j:Int)+1)) (mN λc _ _=>?_);simp_all [upd]
    |some l=>
     have hb:=ve v e;simp only [K5,Bool.false_eq_true,if_false,not_false_eq_true,if_true];by_cases h0:0≤f (j:Int)
     .have hck2:ck (f (j:Int)+1)=some (f (j:Int)+1):=dw (by omega) (by omega);simp_all
     .simp only [h0,if_false,BB v hk hd e,bs];have ht:=KI (m:=m) (f:=f) (l:=l) λx hx=>(hb.2 x hx).1;by_cases hany:(l.any λx=>decide (mW m≤f x))=true
      .simp_all
      .rw [if_neg λh=>hany (ht.1 h),bs,if_neg hany];refine congrArg (λr=>cz k m (kH f) (d:Int) n (r,(j:Int)+1)) (mN λc _ _=>?_);grind [upd]
   .rw [hg];funext c;unfold upd;grind)
  (λn g hg=>by
   rw [length_range];have:((mC m).toNat:Int)=mC m:=by omega
   simp_all [cz,if_neg,mC]) (n:=k) (s0:=f) (by grind) (by grind)
 rw [show cz k m (kH f) (d:Int) k (kH f,0)=_ from key.1,bs]
 congr 1
 refine mN λc _ _=>?_
 rw [key.2,length_range]
 unfold QI
 grind
end Go.Proofs.YtddkbkkogpolaaaGreat
set_option linter.unusedVariables false
set_option linter.unusedSimpArgs false
namespace Go.Proofs.YtddkbkkogpolaaaGreat
open K Go Go.Proofs
def cr(F:Nat->Int->Int):List (List Int):=[kH (F 0),kH (F 1),kH (F 2),kH (F 3),kH (F 4),kH (F 5),kH (F 6)]
def Bw(F:Nat->Int->Int)(n:Nat)(f:Int->Int):Nat->Int->Int:=λi=>if i=n then f else F i
theorem VB{n:Nat}(h:n < 7):n=0\/n=1\/n=2\/n=3\/n=4\/n=5\/n=6:=by omega
theorem yw{F:Nat->Int->Int}{n:Nat}(h:n < 7):aR (cr F) (n:Int)=some (kH (F n)):=by
 rcases VB h with rfl |rfl |rfl |rfl |rfl |rfl |rfl <;> rfl
theorem Qc{F:Nat->Int->Int}{n:Nat}{f:Int->Int}(h:n < 7):List.set (cr F) n (kH f)=cr (Bw F n f):=by
 rcases VB h with rfl |rfl |rfl |rfl |rfl |rfl |rfl <;> rfl
def QM(m:ae)(B:Int->Bool):Nat->Int->Int
 |0=>λc=>if B c then mW m else -1
 |n+1=>QI m (QM m B n) n
theorem yG{m:ae}(v:Vd m){B:Int->Bool}:∀(n:Nat) (c:Int),0≤c->c < mC m->QM m B n c=mi m B n c
 |0,c,_,_=>rfl
 |n+1,c,h0,h1=>by
  have ih:=yG v (B:=B) n
  show QI m (QM m B n) n c=mi m B (n+1) c
  unfold QI
  rw [if_pos ⟨h0,h1⟩]
  unfold Q6 mi
  cases e:AS m n c with
  |none=>simp_all
  |some l=>
   have hb:=(ve v e).2
   grind
def Gm(m:ae)(B:Int->Bool):Nat->Int->Int:=λn=>if n≤(mD m).length then QM m B n else λ_=>0
def ni(S:Int):Int->Bool:=λc=>decide (dX S c.toNat)
theorem Hi{k:Nat}{m:ae}{S:Int}(hk:10≤k)(hS:iS S):eS k m S=some (kH λc=>if ni S c then mW m else -1):=by
 unfold eS
 have key:=iq (T:=List Int×Int) (f:=cH k m S) (List.range 5) (λ(g:Int->Int) j=>(kH g,j)) (λg j _=>upd g (j:Int) (if ni S (j:Int) then mW m else -1)) (λj g=>∀c,0≤c->c < (j:Int)->g c=if ni S c then mW m else -1) (λg=>some (kH g))
  (λn g j hj hg=>by
   rw [length_range] at hj;have j0:(0:Int)≤(j:Int):=Int.natCast_nonneg _;have j5:(j:Int) < 5:=by omega
   have hck:ck ((j:Int)+1)=some ((j:Int)+1):=dw (by omega) (by omega);have hp:cP ((0:Int)≤(j:Int)/\(j:Int) < 5)=some ():=dB ⟨j0,j5⟩;have hp':cP ((0:Int)≤(j:Int)/\True)=some ():=dB ⟨j0,trivial⟩;refine⟨?_,?_⟩
   .simp only [cH,j5,if_true,hp,hp',bs,yg (k:=k) hS (by omega:j < 8),hck,Dw j0 j5];have hin:ni S (j:Int)=decide (dX S j):=by unfold ni;simp_all
    rw [hin];cases hh:decide (dX S j) with
    |true=>
     simp only [if_true,bs];refine congrArg (λr=>cH k m S n (r,(j:Int)+1)) (mN λc _ _=>?_);simp_all [upd]
    |false=>simp_all
   .intro c hc0 hc1;unfold upd;grind)
  (λn g hg=>by
   simp_all [length_range,cH,if_neg]) (n:=k) (s0:=λ_=>0) (by grind) (λc h0 h1=>by omega)
 have e0:([(0:Int),(0:Int),(0:Int),(0:Int),(0:Int)]:List Int)=kH λ_=>0:=rfl;rw [e0,show cH k m S k (kH λ_=>0,0)=_ from key.1,bs];refine congrArg some (mN λc h0 h5=>?_);simp_all
theorem pA{k:Nat}{m:ae}{S:Int}(v:Vd m)(hk:10≤k)(hS:iS S):kz k m S=some (cr (Gm m (ni S))):=by
 have d6:=v.d6;have d1:=v.d1;have w0:=v.w0;have w3:=v.w3;unfold kz jw;have hm:cP (0≤S/\S < 256)=some ():=dB hS;have hp0:cP ((0:Int)≤0/\(0:Int) < 7)=some ():=dB ⟨by omega,by omega⟩;rw [hm,bs,Hi hk hS,bs,hp0,bs]
 have key:=iq (T:=List (List Int)×Int) (f:=bU k m) (mD m) (λ(F:Nat->Int->Int) j=>(cr F,j)) (λF j _=>Bw F (j+1) (QI m (F j) j)) (λj F=>F=λn=>if n≤j then QM m (ni S) n else λ_=>0) (λF=>some (cr F))
  (λn F j hj hF=>by
   have j0:(0:Int)≤(j:Int):=Int.natCast_nonneg _;have hck:ck ((j:Int)+1)=some ((j:Int)+1):=dw (by omega) (by omega);have hp:cP ((0:Int)≤(j:Int)/\(j:Int) < 7)=some ():=dB ⟨j0,by omega⟩;have hp2:cP ((0:Int)≤(j:Int)+1/\(j:Int)+1 < 7)=some ():=dB ⟨by omega,by omega⟩;have hFj:F j=QM m (ni S) j:=by simp_all
   have hj':(j:Int) < (m.2.2.2.2.1.length:Int):=Int.ofNat_lt.2 hj
   have hnx:=Il (k:=k) (f:=F j) v hk hj (λc h0 h1=>by
    rw [hFj,yG v j c h0 h1];have:=Jl (B:=ni S) w0 (d:=j) (c:=c);have:=Jk (B:=ni S) w3 (d:=j) (c:=c);omega)
   refine⟨?_,?_⟩
   .simp only [bU,hj',if_true,hck,hp,bs,yw (F:=F) (show j < 7 by omega),hnx,hp2];grind [Int.toNat,Qc]
   .rw [hF];funext i;unfold Bw;by_cases e:i=j+1
    .subst e;simp only [if_true,Nat.le_refl];rfl
    grind)
  (λn F hF=>by
   unfold bU;simp_all) (n:=k) (s0:=Bw (λ_ _=>0) 0 (λc=>if ni S c then mW m else -1)) (by omega) (by
   funext n;unfold Bw;by_cases e:n=0
   .subst e;rfl
   simp_all)
 have e0:List.set s4 (Int.toNat 0) (kH λc=>if ni S c then mW m else -1)=cr (Bw (λ_ _=>0) 0 (λc=>if ni S c then mW m else -1)):=rfl;rw [e0,show bU k m k (cr (Bw (λ_ _=>0) 0 (λc=>if ni S c then mW m else -1)),0)=_ from key.1,bs];rw [key.2];rfl
theorem yv{m:ae}(v:Vd m){B:Int->Bool}{n:Nat}{c:Int}(hn:n≤(mD m).length)(h0:0≤c)(h1:c < mC m):Gm m B n c=mi m B n c:=by
 simp_all [Gm,if_pos,yG]
end Go.Proofs.YtddkbkkogpolaaaGreat
set_option linter.unusedVariables false
set_option linter.unusedSimpArgs false
namespace Go.Proofs.YtddkbkkogpolaaaGreat
open K Go Go.Proofs
def wk{σ:Type}(bad:σ->Int->Option Int)(add:σ->Int->σ):List Int->σ->Except Int σ
 |[],s=>.ok s
 |x::l,s=>match bad s x with
  |some e=>.error e
  |none=>wk bad add l (add s x)
theorem xu{σ:Type}{bad:σ->Int->Option Int}{add:σ->Int->σ}:∀(l:List Int) (j:Nat) (s:σ),eD (λs _ x=>match bad s x with |some e=>Except.error e |none=>.ok (add s x)) j l s=wk bad add l s
 |[],j,s=>rfl
 |x::l,j,s=>by
  rw [eD,wk]
  cases bad s x with
  |some e=>rfl
  |none=>exact xu l (j+1) (add s x)
theorem wl{σ:Type}{bad:σ->Int->Option Int}{add:σ->Int->σ}:∀(a b:List Int) (s:σ),wk bad add (a++b) s=match wk bad add a s with | .error e=>.error e | .ok s'=>wk bad add b s'
 |[],b,s=>rfl
 |x::a,b,s=>by
  rw [cons_append,wk,wk]
  cases bad s x with
  |some e=>rfl
  |none=>exact wl a b (add s x)
theorem Dl{σ:Type}{bad:σ->Int->Option Int}{add:σ->Int->σ}:∀(r:List (List Int)) (j:Nat) (s:σ),eD (λs _ l=>wk bad add l s) j r s=wk bad add r.flatten s
 |[],j,s=>rfl
 |l::r,j,s=>by
  rw [eD,flatten_cons,wl]
  cases wk bad add l s with
  |error e=>rfl
  |ok s'=>exact Dl r (j+1) s'
theorem GN{σ τ:Type}{b1:σ->Int->Option Int}{a1:σ->Int->σ}{b2:τ->Int->Option Int}{a2:τ->Int->τ}(R:σ->τ->Prop)(hb:∀s t x,R s t->b1 s x=b2 t x)(ha:∀s t x,R s t->b1 s x=none->R (a1 s x) (a2 t x)):
 ∀(l:List Int) (s:σ) (t:τ),R s t->(∃e,wk b1 a1 l s= .error e/\wk b2 a2 l t= .error e)\/∃s' t',wk b1 a1 l s= .ok s'/\wk b2 a2 l t= .ok t'/\R s' t'
 |[],s,t,h=>.inr ⟨s,t,rfl,rfl,h⟩
 |x::l,s,t,h=>by
  rw [wk,wk,<-hb s t x h]
  cases e:b1 s x with
  |some c=>simp_all
  |none=>exact GN R hb ha l _ _ (ha s t x h e)
theorem Bq{σ:Type}{bad:σ->Int->Option Int}{add:σ->Int->σ}(P:σ->Prop)(hs:∀s x,P s->bad s x=none->P (add s x)):∀(l:List Int) (s s':σ),P s->wk bad add l s= .ok s'->P s'
 |[],s,s',h,e=>by cases e;exact h
 |x::l,s,s',h,e=>by
  rw [wk] at e
  cases hb:bad s x with
  |some c=>simp_all
  |none=>rw [hb] at e;exact Bq P hs l _ s' (hs s x h hb) e
theorem kU{k:Nat}{a b c:Int}:dN k a b c=some (decide (b≤a/\a≤c)):=by
 grind [dN]
theorem TN{n:Int}(h:1≤n/\n≤5):ck (n - 1)=some (n - 1):=by grind [dw]
def Bj(C:Int)(s x:Int):Option Int:=if¬(0≤x/\x < C) then some 3 else if dX s x.toNat then some 4 else none
def s9(s x:Int):Int:=DY .u8 s (oO .u8 1 x)
def CZ(C:Int)(s:List Int)(x:Int):Option Int:=if¬(0≤x/\x < C) then some 3 else if x∈s then some 4 else none
def En(s:List Int)(x:Int):List Int:=s++[x]
theorem rE:iS 0:=⟨by decide,by decide⟩
theorem Ot{C s x:Int}(h:Bj C s x=none):0≤x/\x < C:=by
 unfold Bj at h;grind
theorem kF{k:Nat}{s x:Int}(hs:iS s)(h0:0≤x)(h8:x < 8):eW k s x=some (s9 s x)/\iS (s9 s x)/\∀i:Nat,dX (s9 s x) i↔dX s i\/(i:Int)=x:=by
 have h1:=Py h0 h8;have h2:=PR hs h1.1;refine⟨?_,h2.1,λi=>?_⟩
 .unfold eW;rw [dB h0,bs];rfl
 .show dX (DY .u8 s (oO .u8 1 x)) i↔_;simp_all
theorem AT{C s x:Int}(hC:C≤5)(hs:iS s)(h:Bj C s x=none):iS (s9 s x):=by
 have:=Ot h;exact(kF (k:=0) hs this.1 (by omega)).2.1
def sZ(C:Int)(r:List (List Int)):Int:=if 3 < r.length then 6 else match wk (CZ C) En r.flatten [] with | .error e=>e | .ok _=>0
theorem Fz{k:Nat}{m:ae}(hC:1≤mC m/\mC m≤5){l:List Int}(hk:l.length < k)(hl:l.length≤1000){s:Int}(hs:iS s):
 dc k m l k (s,0)=some (wk (Bj (mC m)) s9 l s):=by
 have key:=me (T:=Int×Int) (f:=dc k m l) l (λ(s:Int) j=>(s,j)) (λs _ x=>match Bj (mC m) s x with |some e=>Except.error e |none=>.ok (s9 s x)) (λ_ s=>iS s) (λr=>some r)
  (λn s j hj hs=>by
   have hck:ck ((j:Int)+1)=some ((j:Int)+1):=dw (by omega) (by omega);have hc:ck (m.1 - 1)=some (m.1 - 1):=TN hC;refine⟨?_,λs' e=>?_⟩
   .simp only [dc,Int.ofNat_lt,hj,if_true,eN hj,bs,hc,kU];generalize l[j]=x;by_cases h:0≤x/\x < mC m
    .have h':0≤x/\x≤m.1 - 1:=⟨h.1,by grind⟩;have hh:=yg (k:=k) hs (i:=x.toNat) (by omega);have ex:((x.toNat:Nat):Int)=x:=by omega
     rw [ex] at hh;simp only [h',and_self,decide_true,not_true_eq_false,if_false,hh,bs];have eb:Bj (mC m) s x=if dX s x.toNat then some 4 else none:=by unfold Bj;simp_all
     rw [eb];by_cases h2:dX s x.toNat
     .simp_all
     .simp only [h2,decide_false,Bool.false_eq_true,if_false,(kF (k:=k) hs h.1 (by omega)).1,bs,hck]
    .have h':¬(0≤x/\x≤m.1 - 1):=λhh=>h ⟨hh.1,by grind⟩;have eb:Bj (mC m) s x=some 3:=by unfold Bj;simp_all
     simp_all
   .cases e2:Bj (mC m) s l[j] with
    |some c=>simp_all
    |none=>grind [AT])
  (λn s _=>by simp [dc]) (n:=k) (s0:=s) hk hs
 simp_all [dc,xu]
theorem FA{k:Nat}{m:ae}(hC:1≤mC m/\mC m≤5){r:List (List Int)}(hk:r.length < k)(hr:r.length≤1000)(hl:∀l∈r,l.length < k/\l.length≤1000):
 de k m r k (0,0)=some (match wk (Bj (mC m)) s9 r.flatten 0 with | .error e=>.error e | .ok _=>.ok ()):=by
 have key:=me (T:=Int×Int) (f:=de k m r) r (λ(s:Int) j=>(s,j)) (λs _ l=>wk (Bj (mC m)) s9 l s) (λ_ s=>iS s) (λx=>some (match x with | .error e=>Except.error e | .ok _=>.ok ()))
  (λn s j hj hs=>by
   have hck:ck ((j:Int)+1)=some ((j:Int)+1):=dw (by omega) (by omega);have hlj:=hl _ (List.getElem_mem hj);refine⟨?_,λs' e=>Bq iS (λs x=>AT hC.2) _ _ _ hs e⟩;simp only [de,Int.ofNat_lt,hj,if_true,eN hj,bs,Fz hC hlj.1 hlj.2 hs];cases wk (Bj (mC m)) s9 r[j] s with
   |error e=>rw [oU]
   |ok s'=>rw [mt,hck,bs])
  (λn s _=>by simp [de]) (n:=k) (s0:=0) hk rE
 simp_all [de,Dl]
theorem MJ{C:Int}(hC:C≤5)(l:List Int):(∃e,wk (Bj C) s9 l 0= .error e/\wk (CZ C) En l []= .error e)\/∃s t,wk (Bj C) s9 l 0= .ok s/\wk (CZ C) En l []= .ok t/\(iS s/\∀i:Nat,dX s i↔(i:Int)∈t):=by
 refine GN (λs t=>iS s/\∀i:Nat,dX s i↔(i:Int)∈t) (λs t x h=>?_) (λs t x h hb=>?_) l 0 [] ⟨rE,λi=>by simp [dX]⟩
 .unfold Bj CZ;grind
 .have hx:=Ot hb;have hw:=kF (k:=0) h.1 hx.1 (by omega);simp_all [En]
theorem LF{k:Nat}{m:ae}(hC:1≤mC m/\mC m≤5){r:List (List Int)}(hk:1000 < k)(hr:r.length≤1000)(hl:∀l∈r,l.length≤1000):jf k m r=some (sZ (mC m) r):=by
 unfold jf sZ;by_cases h3:3 < r.length
 .grind
 .rw [if_neg (by omega),if_neg h3,FA hC (by omega) hr λl hh=>⟨by grind,hl l hh⟩];rcases MJ hC.2 r.flatten with⟨e,h1,h2⟩ |⟨s,t,h1,h2,_⟩
  .simp_all [oU]
  simp_all [mt]
end Go.Proofs.YtddkbkkogpolaaaGreat
set_option linter.unusedVariables false
set_option linter.unusedSimpArgs false
namespace Go.Proofs.YtddkbkkogpolaaaGreat
open K Go Go.Proofs
theorem qi:∀(n:Nat) (l:List Int),l.Nodup->(∀x∈l,0≤x/\x < (n:Int))->l.length≤n
 |0,l,_,h=>by
  cases l with
  |nil=>simp
  |cons x l=>have:=h x (by simp);omega
 |n+1,l,hn,h=>by
  have h1:=qi n (l.erase (n:Int)) (hn.erase _) (λx hx=>by
   grind)
  grind
theorem SU{C:Int}{s:List Int}{x:Int}(h:CZ C s x=none):(0≤x/\x < C)/\x∉s:=by
 unfold CZ at h;grind
def Mt(C:Int)(s:List Int):Prop:=s.Nodup/\∀x∈s,0≤x/\x < C
theorem Mt.add{C:Int}{s:List Int}{x:Int}(h:Mt C s)(hb:CZ C s x=none):Mt C (En s x):=by
 have:=SU hb;refine⟨?_,λy hy=>?_⟩
 .unfold En;rw [nodup_append];exact⟨h.1,by simp,λa ha b hb e=>by simp_all⟩
 .rcases List.mem_append.1 hy with hy |hy
  .exact h.2 y hy
  simp_all
theorem Mt.len{C:Int}{s:List Int}(hC:0≤C/\C≤5)(h:Mt C s):s.length≤5:=by
 have:=qi C.toNat s h.1 λx hx=>⟨(h.2 x hx).1,by have:=(h.2 x hx).2;omega⟩;omega
theorem GO{C:Int}:∀{l s t:List Int},wk (CZ C) En l s= .ok t->t=s++l
 |[],s,t,e=>by cases e;simp
 |x::l,s,t,e=>by
  rw [wk] at e
  cases hb:CZ C s x with
  |some c=>simp_all
  |none=>
   rw [hb] at e
   have:=GO e
   simp_all [En]
theorem Dm{C:Int}:∀{l s:List Int},(s++l).Nodup->(∀x∈l,0≤x/\x < C)->wk (CZ C) En l s= .ok (s++l)
 |[],s,_,_=>by simp [wk]
 |x::l,s,hn,hr=>by
  have hx:x∉s:=by
   grind
  have hb:CZ C s x=none:=by
   unfold CZ;simp_all
  rw [wk,hb];simp only [];rw [Dm (s:=En s x) (by simp_all [En]) λy hy=>hr y (mem_cons_of_mem _ hy)];simp_all [En]
theorem xf{C:Int}{r:List (List Int)}:sZ C r=0↔r.length≤3/\r.flatten.Nodup/\∀x∈r.flatten,0≤x/\x < C:=by
 unfold sZ;constructor
 .intro h;split at h
  .cases h
  .cases e:wk (CZ C) En r.flatten [] with
   |ok t=>
    have h1:=Bq (Mt C) (λs x=>Mt.add) _ _ _ ⟨nodup_nil,λx hx=>by cases hx⟩ e;have h2:=GO e;rw [nil_append] at h2;subst h2;exact⟨by omega,h1.1,h1.2⟩
   |error c=>
    rw [e] at h;exfalso
    have:∀(l s:List Int),wk (CZ C) En l s≠.error 0:=by
     intro l
     induction l with
     |nil=>intro s h;cases h
     |cons x l ih=>
      grind [wk,CZ]
    simp_all
 .rintro⟨h1,h2,h3⟩;rw [if_neg (by omega),Dm (by simp_all) h3]
def II(m:ae)(g:bq):Int:=if(0≤g.1/\g.1 < mC m)/\0≤g.2.1/\g.2.1≤(mD m).length then 0 else 3
theorem PP{k:Nat}{m:ae}(hC:1≤mC m/\mC m≤5){g:bq}:gf k m g=some (II m g):=by
 have hc:ck (m.1 - 1)=some (m.1 - 1):=TN hC;unfold gf II;have e:decide (0≤g.1/\g.1≤m.1 - 1)=decide (0≤g.1/\g.1 < mC m):=decide_eq_decide.2 ⟨λh=>⟨h.1,by grind⟩,λh=>⟨h.1,by grind⟩⟩;rw [hc,bs,kU,bs,e];by_cases h1:0≤g.1/\g.1 < mC m
 .by_cases h2:0≤g.2.1/\g.2.1≤(mD m).length <;> simp [h1,h2,kU]
 grind
def lU{α:Type}(f:α->Int)(l:List α):Int:=((l.map f).find? λe=>decide (e≠0)).getD 0
theorem sU{α:Type}(f:α->Int):∀(l:List α) (j:Nat),eD (λ(_:Unit) _ x=>if¬(f x=0) then Except.error (f x) else .ok ()) j l ()=if lU f l=0 then .ok () else .error (lU f l)
 |[],j=>by simp [eD,lU]
 |x::l,j=>by
  rw [eD]
  by_cases h:f x=0
  .
   have:lU f (x::l)=lU f l:=by simp [lU,h]
   rw [this]
   simp only [h,not_true_eq_false,if_false]
   exact sU f l (j+1)
  simp_all [lU]
theorem py{α:Type}{f:α->Int}{l:List α}:lU f l=0↔∀x∈l,f x=0:=by
 induction l with
 |nil=>simp [lU]
 |cons x l ih=>
  grind [lU]
structure Sm(m:ae):Prop where
 d:(mD m).length≤1000
 r:∀r∈mD m,r.length≤1000/\∀l∈r,l.length≤1000
 g:(mG m).length≤1000
def kQ(m:ae):Int:=
 if¬((1≤mC m/\mC m≤5)/\(0≤mW m/\mW m≤3)/\(0≤mS m/\mS m≤3)/\1≤mH m/\mH m≤3) then 1
 else if(mD m).length=0 then 7 else if 6 < (mD m).length then 6 else if¬(lU (sZ (mC m)) (mD m)=0) then lU (sZ (mC m)) (mD m)
 else if 8 < (mG m).length then 6 else lU (II m) (mG m)
theorem LG{k:Nat}{m:ae}(hs:Sm m)(hk:1000 < k):mX k m=some (kQ m):=by
 unfold mX kQ;simp only [kU,bs];by_cases h1:1≤mC m/\mC m≤5
 .by_cases h2:0≤mW m/\mW m≤3
  .by_cases h3:0≤mS m/\mS m≤3
   .by_cases h4:1≤mH m/\mH m≤3
    .have e1:(1≤m.1/\m.1≤5)=True:=eq_true h1;have e2:(0≤m.2.1/\m.2.1≤3)=True:=eq_true h2;have e3:(0≤m.2.2.1/\m.2.2.1≤3)=True:=eq_true h3;have e4:(1≤m.2.2.2.1/\m.2.2.2.1≤3)=True:=eq_true h4;simp only [e1,e2,e3,e4,decide_true,not_true_eq_false,if_false,Bool.not_true,Bool.false_eq_true,bs,and_self,h1,h2,h3,h4];by_cases h5:(mD m).length=0
     .simp_all
     .rw [if_neg (show¬((m.2.2.2.2.1.length:Int) < 1) by grind),if_neg h5];by_cases h6:6 < (mD m).length
      .grind
      .rw [if_neg (show¬((6:Int) < (m.2.2.2.2.1.length:Int)) by grind),if_neg h6]
       have key:=me (f:=ff k m) (mD m) (λ(_:Unit) j=>j) (λ_ _ x=>if¬(sZ (mC m) x=0) then Except.error (sZ (mC m) x) else .ok ()) (λ_ _=>True) (λr=>some r)
        (λn s j hj _=>by
         have hck:ck ((j:Int)+1)=some ((j:Int)+1):=dw (by omega) (by omega);have hr:=hs.r _ (List.getElem_mem hj);refine⟨?_,λ_ _=>trivial⟩;have hj':(j:Int) < (m.2.2.2.2.1.length:Int):=Int.ofNat_lt.2 hj;have hg:aR m.2.2.2.2.1 (j:Int)=some (mD m)[j]:=eN hj;simp only [ff,hj',if_true,hg,bs,LF h1 hk hr.1 hr.2];grind)
        (λn s _=>by
         unfold ff;simp_all) (n:=k) (s0:=()) (by omega) trivial
       rw [show ff k m k 0=_ from key,sU];by_cases h7:lU (sZ (mC m)) (mD m)=0
       .rw [if_pos h7,mt,show(if¬(lU (sZ (mC m)) (mD m)=0) then lU (sZ (mC m)) (mD m) else if 8 < (mG m).length then 6 else lU (II m) (mG m))=(if 8 < (mG m).length then 6 else lU (II m) (mG m)) from if_neg (λhn=>hn h7)];by_cases h8:8 < (mG m).length
        .grind
        .rw [if_neg (show¬((8:Int) < (m.2.2.2.2.2.length:Int)) by grind),if_neg h8]
         have key:=me (f:=fe k m) (mG m) (λ(_:Unit) j=>j) (λ_ _ x=>if¬(II m x=0) then Except.error (II m x) else .ok ()) (λ_ _=>True) (λr=>some r)
          (λn s j hj _=>by
           have hck:ck ((j:Int)+1)=some ((j:Int)+1):=dw (by omega) (by omega);refine⟨?_,λ_ _=>trivial⟩;have hj':(j:Int) < (m.2.2.2.2.2.length:Int):=Int.ofNat_lt.2 hj;have hg:aR m.2.2.2.2.2 (j:Int)=some (mG m)[j]:=eN hj;simp only [fe,hj',if_true,hg,bs,PP h1];grind)
          (λn s _=>by
           simp_all [fe,if_neg,Int.lt_irrefl]) (n:=k) (s0:=()) (by omega) trivial
         rw [show fe k m k 0=_ from key,sU];by_cases h9:lU (II m) (mG m)=0
         .rw [if_pos h9,mt,h9]
         .rw [if_neg h9,oU]
       .rw [if_neg h7,oU,if_pos h7]
    grind
   grind
  grind
 grind
end Go.Proofs.YtddkbkkogpolaaaGreat
set_option linter.unusedVariables false
set_option linter.unusedSimpArgs false
namespace Go.Proofs.YtddkbkkogpolaaaGreat
open K Go Go.Proofs
theorem uJ{r:List (List Int)}{l:List Int}(h:r.flatten.Nodup)(hl:l∈r):l.Nodup:=by
 grind
theorem Kw{σ:Type}{bad:σ->Int->Option Int}{add:σ->Int->σ}{x:Int}{l:List Int}{s:σ}{e:Int}(h:bad s x=some e):wk bad add (x::l) s= .error e:=by rw [wk,h]
theorem Kt{σ:Type}{bad:σ->Int->Option Int}{add:σ->Int->σ}{x:Int}{l:List Int}{s:σ}(h:bad s x=none):wk bad add (x::l) s=wk bad add l (add s x):=by rw [wk,h]
theorem Vd.of{m:ae}(h:kQ m=0):Vd m:=by
 unfold kQ at h;by_cases h1:(1≤mC m/\mC m≤5)/\(0≤mW m/\mW m≤3)/\(0≤mS m/\mS m≤3)/\1≤mH m/\mH m≤3
 .rw [if_neg (λhn=>hn h1)] at h;by_cases h2:(mD m).length=0
  .omega
  .rw [if_neg h2] at h;by_cases h3:6 < (mD m).length
   .omega
   .rw [if_neg h3] at h;by_cases h4:lU (sZ (mC m)) (mD m)=0
    .rw [if_neg (λhn=>hn h4)] at h;by_cases h5:8 < (mG m).length
     .omega
     .rw [if_neg h5] at h;have hd:=λr hr=>xf.1 (py.1 h4 r hr);have hx:∀r∈mD m,∀l∈r,∀x∈l,0≤x/\x < mC m:=λr hr l hl x hx=>(hd r hr).2.2 x (List.mem_flatten.2 ⟨l,hl,hx⟩)
      exact⟨h1.1.1,h1.1.2,h1.2.1.1,h1.2.1.2,h1.2.2.1.1,h1.2.2.1.2,h1.2.2.2.1,h1.2.2.2.2,by omega,by omega,λr hr=>(hd r hr).1,λr hr l hl=>by
       have hn:l.Nodup:=uJ (hd r hr).2.1 hl;have:=qi (mC m).toNat l hn λx hxx=>by grind
       omega,hx,λr hr=>(hd r hr).2.1,by omega,λg hg=>by
        grind [py,II]⟩
    omega
 omega
theorem Vd.chk{m:ae}(v:Vd m):kQ m=0:=by
 unfold kQ;have h1:(1≤mC m/\mC m≤5)/\(0≤mW m/\mW m≤3)/\(0≤mS m/\mS m≤3)/\1≤mH m/\mH m≤3:=⟨⟨v.c1,v.c5⟩,⟨v.w0,v.w3⟩,⟨v.s0,v.s3⟩,v.h1,v.h3⟩
 have h4:lU (sZ (mC m)) (mD m)=0:=py.2 λr hr=>xf.2 ⟨v.r3 r hr,v.nd r hr,λx hx=>by
  obtain⟨l,hl,hx⟩:=List.mem_flatten.1 hx;exact v.x5 r hr l hl x hx⟩
 have h9:lU (II m) (mG m)=0:=py.2 λg hg=>by
  have:=v.gl g hg;unfold II;omega
 have d1:=v.d1;have d6:=v.d6;have g8:=v.g8;omega
theorem Vd.sm{m:ae}(v:Vd m):Sm m:=⟨by have:=v.d6;omega,λr hr=>⟨by have:=v.r3 r hr;omega,λl hl=>by have:=v.l5 r hr l hl;omega⟩,by have:=v.g8;omega⟩
def vE(C:Int)(p:Option Int)(x:Int):Option Int:=if¬(0≤x/\x < C) then some 3 else if p.any (λy=>decide (x≤y)) then some 5 else none
def M7(C:Int)(p:Option Int×Int)(x:Int):Option Int:=vE C p.1 x
def QN(p:Option Int×Int)(x:Int):Option Int×Int:=(some x,s9 p.2 x)
def Nj(p:Option Int)(x:Int):Option Int:=some x
def rR(C:Int)(b:List Int):Int:=match wk (vE C) Nj b none with | .error e=>e | .ok _=>0
def cJ(b:List Int):Int:=b.foldl s9 0
theorem Ou{C:Int}{p:Option Int}{x:Int}(h:vE C p x=none):(0≤x/\x < C)/\p.any (λy=>decide (x≤y))=false:=by
 unfold vE at h;grind
theorem Ei{C:Int}:∀(b:List Int) (p:Option Int) (s:Int),(∃e,wk (M7 C) QN b (p,s)= .error e/\wk (vE C) Nj b p= .error e)\/∃q,wk (M7 C) QN b (p,s)= .ok (q,b.foldl s9 s)/\wk (vE C) Nj b p= .ok q
 |[],p,s=>.inr ⟨p,rfl,rfl⟩
 |x::b,p,s=>by
  cases e:vE C p x with
  |some c=>exact .inl ⟨c,Kw e,Kw e⟩
  |none=>
   rw [Kt (bad:=M7 C) (s:=(p,s)) (x:=x) e,Kt e]
   exact Ei (C:=C) b (some x) (s9 s x)
theorem zY{k:Nat}{m:ae}(hC:1≤mC m/\mC m≤5){b:List Int}(hk:b.length < k)(hb:b.length≤1000):
 eY k m b k (0,0)=some (if rR (mC m) b=0 then .ok (cJ b) else .error (none,0,rR (mC m) b)):=by
 have key:=me (T:=Int×Int) (f:=eY k m b) b (λ(s:Option Int×Int) j=>(s.2,j)) (λs _ x=>match M7 (mC m) s x with |some e=>Except.error e |none=>.ok (QN s x)) (λj s=>iS s.2/\s.1=if j=0 then none else b[j-1]?) (λr=>some (match r with | .error e=>Except.error (none,0,e) | .ok s=>.ok s.2))
  (λn s j hj hs=>by
   have hck:ck ((j:Int)+1)=some ((j:Int)+1):=dw (by omega) (by omega);have hc:ck (m.1 - 1)=some (m.1 - 1):=TN hC;refine⟨?_,λs' e=>?_⟩
   .simp only [eY,Int.ofNat_lt,hj,if_true,eN hj,bs,hc,kU];generalize b[j]=x;rw [show M7 (mC m) s x=vE (mC m) s.1 x from rfl];by_cases h:0≤x/\x < mC m
    .have h':0≤x/\x≤m.1 - 1:=⟨h.1,by grind⟩;have eb:vE (mC m) s.1 x=if s.1.any (λy=>decide (x≤y)) then some 5 else none:=by unfold vE;simp_all
     have ep:(if(0:Int) < (j:Int) then((ck ((j:Int) - 1)).bind λx12=>(aR b x12).bind λx13=>some (decide (x≤x13))) else some false)=some (s.1.any λy=>decide (x≤y)):=by
      rw [hs.2];by_cases h0:j=0
      .simp_all
      .have c1:ck ((j:Int) - 1)=some ((j - 1:Nat):Int):=by grind [dw]
       rw [if_pos (by omega),c1,bs,eN (by omega),bs,if_neg h0,List.getElem?_eq_getElem (by omega)];rfl
     rw [eb];simp only [h',and_self,decide_true,not_true_eq_false,if_false,bs];rw [ep,bs];cases s.1.any λy=>decide (x≤y) with
     |true=>simp_all
     |false=>
      simp only [Bool.false_eq_true,if_false,(kF (k:=k) hs.1 h.1 (by omega)).1,bs,hck];rfl
    .have h':¬(0≤x/\x≤m.1 - 1):=λhh=>h ⟨hh.1,by grind⟩;have eb:vE (mC m) s.1 x=some 3:=by unfold vE;simp_all
     simp_all
   .cases e2:M7 (mC m) s b[j] with
    |some c=>simp_all
    |none=>
     rw [e2] at e;cases e;have hx:=Ou e2;exact⟨(kF (k:=0) hs.1 hx.1.1 (by omega)).2.1,by show some b[j]=if j+1=0 then none else b[j+1 - 1]?;simp_all⟩)
  (λn s _=>by simp [eY]) (n:=k) (s0:=(none,0)) hk ⟨rE,rfl⟩
 rw [show eY k m b k (0,0)=_ from key]
 have e1:eD (λ(s:Option Int×Int) _ x=>match M7 (mC m) s x with |some e=>Except.error e |none=>.ok (QN s x)) 0 b (none,0)=wk (M7 (mC m)) QN b (none,0):=xu (bad:=M7 (mC m)) (add:=QN) b 0 (none,0)
 rw [e1]
 unfold rR
 have z:∀(l:List Int) (p:Option Int),wk (vE (mC m)) Nj l p≠.error 0:=by
  intro l
  induction l with
  |nil=>intro p h;cases h
  |cons x l ih=>
   intro p h;rw [wk] at h;cases hb:vE (mC m) p x with
   |some c=>
    grind [vE]
   |none=>grind
 rcases Ei (C:=mC m) b none 0 with⟨e,h1,h2⟩ |⟨q,h1,h2⟩
 .
  grind
 .
  rw [h1,h2];rfl
end Go.Proofs.YtddkbkkogpolaaaGreat
set_option linter.unusedVariables false
set_option linter.unusedSimpArgs false
namespace Go.Proofs.YtddkbkkogpolaaaGreat
open K Go Go.Proofs
theorem zw{C:Int}(hC:C≤5):∀(b:List Int) (s:Int),iS s->(∀x∈b,0≤x/\x < C)->iS (b.foldl s9 s)/\∀i:Nat,dX (b.foldl s9 s) i↔dX s i\/(i:Int)∈b
 |[],s,hs,_=>⟨hs,λi=>by simp⟩
 |x::b,s,hs,hb=>by
  have hx:=hb x mem_cons_self
  have hw:=kF (k:=0) hs hx.1 (by omega)
  have:=zw hC b (s9 s x) hw.2.1 λy hy=>hb y (mem_cons_of_mem _ hy)
  grind
structure Bg(C:Int)(b:List Int):Prop where
 rng:∀x∈b,0≤x/\x < C
 asc:b.Pairwise (· < ·)
theorem Br{C:Int}:∀{b:List Int} {p:Option Int},(∃q,wk (vE C) Nj b p= .ok q)↔(∀x∈b,0≤x/\x < C)/\b.Pairwise (· < ·)/\∀y,p=some y->∀x∈b.head?,y < x
 |[],p=>by simp [wk]
 |x::b,p=>by
  cases e:vE C p x with
  |some c=>
   rw [Kw e]
   constructor
   .
    simp_all
   .
    rintro⟨h1,h2,h3⟩
    exfalso
    unfold vE at e
    rw [if_neg (λhn=>hn (h1 x mem_cons_self))] at e
    cases p with
    |none=>cases e
    |some y=>
     have:=h3 y rfl x (by simp)
     grind
  |none=>
   have hx:=Ou e
   rw [Kt e,Br (b:=b) (p:=Nj p x)]
   constructor
   .
    rintro⟨h1,h2,h3⟩
    refine⟨λy hy=>?_,?_,λy hy z hz=>?_⟩
    .
     grind
    .
     rw [pairwise_cons]
     refine⟨λy hy=>?_,h2⟩
     cases b with
     |nil=>cases hy
     |cons z b=>
      have hz:=h3 x rfl z (by simp)
      grind [pairwise_cons]
    simp_all
   simp_all [pairwise_cons,mem_cons_of_mem,Nj,mem_of_mem_head?]
theorem Ej{C:Int}:∀{l:List Int} {p:Option Int},wk (vE C) Nj l p≠.error 0
 |[],p,h=>by cases h
 |x::l,p,h=>by
  cases hb:vE C p x with
  |some c=>
   rw [Kw hb] at h
   grind [vE]
  |none=>rw [Kt hb] at h;exact Ej h
theorem nf{C:Int}{b:List Int}:rR C b=0↔Bg C b:=by
 unfold rR;constructor
 .intro h;cases e:wk (vE C) Nj b none with
  |error c=>simp_all [Ej]
  |ok q=>have:=Br.1 ⟨q,e⟩;exact⟨this.1,this.2.1⟩
 .rintro⟨h1,h2⟩;obtain⟨q,e⟩:=(Br (p:=none)).2 ⟨h1,h2,λy hy=>by cases hy⟩;rw [e]
theorem Bg.set{C:Int}(hC:C≤5){b:List Int}(h:Bg C b):iS (cJ b)/\∀c:Int,0≤c->ni (cJ b) c=decide (c∈b):=by
 have:=zw hC b 0 rE h.rng;refine⟨this.1,λc hc=>?_⟩;unfold ni;have e:((c.toNat:Nat):Int)=c:=by omega
 have h2:=this.2 c.toNat;rw [e] at h2;refine decide_eq_decide.2 ?_;show dX (b.foldl s9 0) c.toNat↔_;simp_all [dX]
def vD(m:ae)(i:Nat):Int:=match i with |0=>mC m - 1 |1=>((mD m).length:Int) - 1 |_=>(mD m).length
def yT(n:Int)(l:List Int):Bool:=l.all λx=>decide (0≤x/\x≤n)
theorem qj{k:Nat}{m:ae}(v:Vd m){i:Nat}(hi:i < 3){l:List Int}(hk:l.length < k)(hl:l.length≤1000):
 dF k m (i:Int) l k 0=some (if yT (vD m i) l then .ok () else .error (none,0,3)):=by
 have c1:=v.c1
 have c5:=v.c5
 have d6:=v.d6
 have d1:=v.d1
 have key:=me (T:=Int) (f:=dF k m (i:Int) l) l (λ(_:Unit) j=>j) (λ_ _ x=>if 0≤x/\x≤vD m i then .ok () else Except.error ((none,0,3):Option ae×Int×Int)) (λ_ _=>True) (λr=>some r)
  (λn s j hj _=>by
   have hck:ck ((j:Int)+1)=some ((j:Int)+1):=dw (by omega) (by omega);have hc:ck (m.1 - 1)=some (mC m - 1):=TN ⟨c1,c5⟩;have hd:ck ((m.2.2.2.2.1.length:Int) - 1)=some (((mD m).length:Int) - 1):=dw (by omega) (by grind)
   have hg:aR [mC m - 1,((mD m).length:Int) - 1,((mD m).length:Int)] (i:Int)=some (vD m i):=by
    have:i=0\/i=1\/i=2:=by omega
    rcases this with rfl |rfl |rfl <;> rfl
   refine⟨?_,λ_ _=>trivial⟩;simp only [dF,Int.ofNat_lt,hj,if_true,eN hj,bs,hc,hd];rw [show aR [mC m - 1,((mD m).length:Int) - 1,(m.2.2.2.2.1.length:Int)] (i:Int)=some (vD m i) from hg,bs,kU,bs];grind)
  (λn s _=>by simp [dF]) (n:=k) (s0:=()) hk trivial
 rw [show dF k m (i:Int) l k 0=_ from key]
 congr 1
 have:∀(l:List Int) (j:Nat),eD (λ(_:Unit) _ x=>if 0≤x/\x≤vD m i then .ok () else Except.error ((none,0,3):Option ae×Int×Int)) j l ()=if yT (vD m i) l then .ok () else .error (none,0,3):=by
  intro l
  induction l with
  |nil=>intro j;rfl
  |cons x l ih=>
   intro j;rw [eD];by_cases h:0≤x/\x≤vD m i
   .simp_all [if_pos,yT,vD,all_cons,and_self,decide_true,Bool.true_and]
   .rw [if_neg h];have:yT (vD m i) (x::l)=false:=by simp only [yT,all_cons,h,decide_false,Bool.false_and]
    simp_all
 simp_all
theorem zh{k:Nat}{m:ae}(v:Vd m)(hk:10≤k):∀n:Nat,n≤32->wj k m n=some ()
 |0,_=>rfl
 |n+1,h=>by
  have e:IntKind.u8.wrap (n:Int)=(n:Int):=tU (by omega)
  unfold wj
  rw [zh v hk n (by omega),bs,e,pA v hk ⟨by omega,by omega⟩,bs]
theorem KB{k:Nat}{m:ae}(v:Vd m)(hk:10≤k):eC k m=some ():=by
 have c1:=v.c1;have c5:=v.c5;unfold eC
 have hc:m.1=1\/m.1=2\/m.1=3\/m.1=4\/m.1=5:=by
  grind
 have e:0≤oO .i64 1 m.1/\oO .i64 1 m.1≤32:=by
  rcases hc with h |h |h |h |h <;> rw [h] <;> decide
 rw [if_pos ⟨by omega,by omega⟩];simp_all [zh]
def K9(m:ae)(cs ds ns:List Int):Bool:=yT (vD m 0) cs && yT (vD m 1) ds && yT (vD m 2) ns
theorem rD{k:Nat}{m:ae}{b cs ds ns:List Int}(hs:Sm m)(hk:1010≤k)(hb:b.length≤1000)(h1:cs.length≤1000)(h2:ds.length≤1000)(h3:ns.length≤1000):
 i9 k m b cs ds ns=some (if¬(kQ m=0) then(none,0,kQ m) else if¬(rR (mC m) b=0) then(none,0,rR (mC m) b) else if K9 m cs ds ns then(some m,cJ b,0) else(none,0,3)):=by
 unfold i9
 rw [LG hs (by omega),bs]
 by_cases hc:kQ m=0
 .
  have v:=Vd.of hc;rw [if_neg (λhn=>hn hc),if_neg (λhn=>hn hc),zY ⟨v.c1,v.c5⟩ (by omega) hb];by_cases hg:rR (mC m) b=0
  .rw [if_pos hg,mt,if_neg (λhn=>hn hg)];obtain⟨n,rfl⟩:∃n,k=n+4:=⟨k - 4,by omega⟩;have e0:=qj v (k:=n+4) (i:=0) (by omega) (l:=cs) (by omega) h1;have e1:=qj v (k:=n+4) (i:=1) (by omega) (l:=ds) (by omega) h2;have e2:=qj v (k:=n+4) (i:=2) (by omega) (l:=ns) (by omega) h3;have g0:aR [cs,ds,ns] (0:Int)=some cs:=rfl;have g1:aR [cs,ds,ns] (1:Int)=some ds:=rfl;have g2:aR [cs,ds,ns] (2:Int)=some ns:=rfl;have k0:ck ((0:Int)+1)=some 1:=rfl;have k1:ck ((1:Int)+1)=some 2:=rfl;have k2:ck ((2:Int)+1)=some 3:=rfl;have ln:(([cs,ds,ns]:List (List Int)).length:Int)=3:=rfl
   have s0:cT (n+4) m cs ds ns (n+4) 0=if yT (vD m 0) cs then cT (n+4) m cs ds ns (n+3) 1 else some (.error (none,0,3)):=by
    rw [cT,ln,if_pos (by decide),g0,bs,show dF (n+4) m 0 cs (n+4) 0=_ from e0];cases yT (vD m 0) cs with
    |true=>simp_all [if_true,mt,bs]
    |false=>simp_all [Bool.false_eq_true,if_false,oU]
   have s1:cT (n+4) m cs ds ns (n+3) 1=if yT (vD m 1) ds then cT (n+4) m cs ds ns (n+2) 2 else some (.error (none,0,3)):=by
    rw [cT,ln,if_pos (by decide),g1,bs,show dF (n+4) m 1 ds (n+4) 0=_ from e1];cases yT (vD m 1) ds with
    |true=>simp_all [if_true,mt,bs]
    |false=>simp_all [Bool.false_eq_true,if_false,oU]
   have s2:cT (n+4) m cs ds ns (n+2) 2=if yT (vD m 2) ns then cT (n+4) m cs ds ns (n+1) 3 else some (.error (none,0,3)):=by
    rw [cT,ln,if_pos (by decide),g2,bs,show dF (n+4) m 2 ns (n+4) 0=_ from e2];cases yT (vD m 2) ns with
    |true=>simp_all [if_true,mt,bs]
    |false=>simp_all [Bool.false_eq_true,if_false,oU]
   have s3:cT (n+4) m cs ds ns (n+1) 3=some (.ok ()):=by
    rw [cT,ln,if_neg (by decide)]
   rw [s0,s1,s2,s3];unfold K9
   have fin:((jd (n+4) m).bind λr32=>fF r32 none (λq33=>(eC (n+4) q33).bind λr35=>some (some q33,cJ b,(0:Int))))=some (some m,cJ b,0):=by
    grind [jd,bs,pB,KB]
   cases yT (vD m 0) cs with
   |false=>simp_all [Bool.false_eq_true,if_false,Bool.false_and,oU]
   |true=>
    cases yT (vD m 1) ds with
    |false=>simp_all [if_true,Bool.false_eq_true,if_false,Bool.true_and,Bool.false_and,oU]
    |true=>
     cases yT (vD m 2) ns with
     |false=>simp_all [if_true,Bool.false_eq_true,if_false,Bool.true_and,Bool.and_false,oU]
     |true=>simp_all [if_true,Bool.true_and,mt]
  .rw [if_neg hg,oU,if_pos hg]
 simp_all
end Go.Proofs.YtddkbkkogpolaaaGreat
set_option linter.unusedVariables false
set_option linter.unusedSimpArgs false
namespace Go.Proofs.YtddkbkkogpolaaaGreat
open K Go Go.Proofs
def oz(m:ae)(B:Int->Bool)(n:Nat):List Int:=(List.range (mC m).toNat).map λ(c:Nat)=>mi m B n (c:Int)
def jl(m:ae)(B:Int->Bool):List (List Int):=(List.range ((mD m).length+1)).map (oz m B)
theorem zD{m:ae}{B:Int->Bool}{n:Nat}{c:Int}(h0:0≤c)(h1:c < mC m):aR (oz m B n) c=some (mi m B n c):=by
 unfold oz;rw [aR,if_pos h0,List.getElem?_map,List.getElem?_range (by omega)];grind
theorem s6{m:ae}{B:Int->Bool}{n:Nat}(h:n≤(mD m).length):aR (jl m B) (n:Int)=some (oz m B n):=by
 unfold jl;rw [aR,if_pos (by omega),List.getElem?_map,Int.toNat_natCast,List.getElem?_range (by omega)];rfl
theorem G6{f:Int->Int}{C:Int}(h0:0≤C)(h5:C≤5):List.take C.toNat (kH f)=(List.range C.toNat).map λ(c:Nat)=>f (c:Int):=by
 have:C=0\/C=1\/C=2\/C=3\/C=4\/C=5:=by omega
 rcases this with rfl |rfl |rfl |rfl |rfl |rfl <;> rfl
theorem Cj{k:Nat}{m:ae}{b:List Int}(hs:Sm m)(hk:1010≤k)(hb:b.length≤1000):
 jx k m b=some (if¬(kQ m=0) then([],kQ m) else if¬(rR (mC m) b=0) then([],rR (mC m) b) else(jl m λc=>decide (c∈b),0)):=by
 unfold jx
 rw [rD hs hk hb (by simp) (by simp) (by simp),bs]
 by_cases hc:kQ m=0
 .
  have v:=Vd.of hc;by_cases hg:rR (mC m) b=0
  .have hB:=(nf.1 hg).set v.c5;have ho:K9 m [] [] []=true:=rfl;have c1:=v.c1;have c5:=v.c5;have d6:=v.d6;simp only [hc,hg,ho,not_true_eq_false,if_false,if_true,pB];rw [pA v (by omega) hB.1,bs]
   have hd:ck ((m.2.2.2.2.1.length:Int)+1)=some (((mD m).length+1:Nat):Int):=by
    rw [dw (by omega) (by grind)];rfl
   rw [hd,bs]
   have key:=iq (T:=List (List Int)×Int) (f:=eo k m (cr (Gm m (ni (cJ b)))) (((mD m).length+1:Nat):Int)) (List.range ((mD m).length+1)) (λ(s:List (List Int)) j=>(s,j)) (λs j _=>s++[oz m (ni (cJ b)) j]) (λj s=>s=(List.range j).map (oz m (ni (cJ b)))) (λs=>some s)
    (λn s j hj hs=>by
     rw [length_range] at hj;have hck:ck ((j:Int)+1)=some ((j:Int)+1):=dw (by omega) (by omega);have hjlt:(j:Int) < (((mD m).length+1:Nat):Int):=by omega
     have hp:cP (0≤m.1/\m.1≤5)=some ():=dB ⟨by grind,c5⟩
     have ht:List.take (Int.toNat m.1) (kH (Gm m (ni (cJ b)) j))=oz m (ni (cJ b)) j:=by
      rw [G6 (by omega) c5];unfold oz;refine List.map_congr_left λc hc=>?_;have:=List.mem_range.1 hc;exact yv v (by omega) (by omega) (by omega)
     have hl:(oz m (ni (cJ b)) j).length≤5:=by grind
     have hsl:s.length=j:=by simp_all
     have hcl:dx k (oz m (ni (cJ b)) j)=some (oz m (ni (cJ b)) j):=by
      unfold dx;rw [dB (by show _≤_;omega),bs]
     have hok:cP (bW (length s+length [oz m (ni (cJ b)) j]))=some ():=dB (by grind [bW]);refine⟨?_,?_⟩
     .simp only [eo,hjlt,if_true,yw (F:=Gm m (ni (cJ b))) (show j < 7 by omega),bs,hp,ht,hcl,hok,hck]
     simp_all [List.range_succ,List.map_append])
    (λn s hs=>by
     simp_all [length_range,eo,if_neg,Int.lt_irrefl]) (n:=k) (s0:=[]) (by grind) rfl
   rw [show eo k m (cr (Gm m (ni (cJ b)))) (((mD m).length+1:Nat):Int) k ([],0)=_ from key.1,bs,key.2,length_range]
   have hcs:(List.range ((mD m).length+1)).map (oz m (ni (cJ b)))=jl m λc=>decide (c∈b):=by
    unfold jl;refine List.map_congr_left λn hn=>?_;unfold oz;refine List.map_congr_left λc hc=>?_
    have hage:∀(n:Nat) (c:Int),0≤c->c < mC m->mi m (ni (cJ b)) n c=mi m (λc=>decide (c∈b)) n c:=by
     intro n
     induction n with
     |zero=>simp_all [mi]
     |succ n ih=>
      intro c h0 h1;unfold mi;cases e:AS m n c with
      |none=>simp_all
      |some l=>
       have hb:=(ve v e).2;grind
    simp_all
   rw [hcs]
  simp_all [not_true_eq_false,not_false_eq_true,if_false,if_true,kO]
 simp_all [not_false_eq_true,if_true,kO]
end Go.Proofs.YtddkbkkogpolaaaGreat
set_option linter.unusedVariables false
set_option linter.unusedSimpArgs false
namespace Go.Proofs.YtddkbkkogpolaaaGreat
open K Go Go.Proofs
theorem Lo.mono{l:bO}{m n:Int}(h:Lo l m)(hn:m≤n):Lo l n:=⟨h.1,Int.le_trans h.2 hn⟩
theorem Vz{α:Type}{l:List α}{x:α}{n:Nat}(h:l.length≤n)(hn:n≤1000000):bW (length l+length [x]):=by
 show length l+length [x]≤4294967296;grind
theorem Ci{k:Nat}(hk:50≤k){l:bO}{m:Int}{n:Nat}(hl:Lo l m)(hm:0≤m/\m≤1000)(hn:n≤8):W (gV k l (n:Int)) λr=>Lo r.2 (m+10)/\r.1.length=n/\(∀x∈r.1,0≤x/\x < (n:Int))/\r.1.Nodup:=by
 unfold gV;refine W.bind (R:=λr=>Lo (r.2.1,r.2.2.1,r.2.2.2) (m+10)/\r.1.length=n/\(∀x∈r.1,0≤x/\x < (n:Int))/\r.1.Nodup) ?_ λr h=>W.ret h
 refine W.loop (f:=d4 k (n:Int)) (λq y=>∃j:Nat,y.2.2.2.2=(j:Int)/\j≤n/\q=n - j/\Lo (y.1,y.2.1,y.2.2.1) (m+j)/\y.2.2.2.1.length=j/\(∀x∈y.2.2.2.1,0≤x/\x < (j:Int))/\y.2.2.2.1.Nodup) ?_ n k _ (by omega)
  ⟨0,rfl,by omega,by omega,by simp_all,rfl,by simp,by simp⟩
 rintro aG q ⟨nums,d,s,o,y⟩ ⟨j,hj,hle,hq,hlo,hlen,hx,hnd⟩ ih;simp only at hj hlo hlen hx hnd;subst hj;unfold d4;dsimp only;refine W.ite (λhlt=>?_) (λhge=>W.ret ⟨hlo.mono (by omega),by grind,λx hx'=>by grind,hnd⟩);obtain⟨r5,e5,a5,b5,c5⟩:=kG (k:=k) (n:=(j:Int)) hlo (by omega) (by omega);have b5:=b5 (by omega);have ho:(o++[(j:Int)]).length=j+1:=by simp [hlen]
 have hr5:r5.1.toNat < (o++[(j:Int)]).length:=by omega
 have hjl:j < (o++[(j:Int)]).length:=by omega
 have hgj:(o++[(j:Int)])[j]=(j:Int):=by
  grind
 rw [e5,bs,dB (Vz (n:=8) (by omega) (by omega)),bs,yh a5 hr5,bs,eN (by omega),bs];have hgs:aR (List.set (o++[(j:Int)]) (Int.toNat (j:Int)) (o++[(j:Int)])[r5.1.toNat]) r5.1=some ((List.set (o++[(j:Int)]) (Int.toNat (j:Int)) (o++[(j:Int)])[r5.1.toNat])[r5.1.toNat]'(by grind)):=yh a5 (by grind);rw [hgs,bs,dw (by omega) (by omega),bs]
 have hp:(List.set (List.set (o++[(j:Int)]) (Int.toNat (j:Int)) (o++[(j:Int)])[r5.1.toNat]) (Int.toNat r5.1) (j:Int)).Perm (o++[(j:Int)]):=by
  have:= @set_set_perm Int (o++[(j:Int)]) j r5.1.toNat hjl hr5;rw [hgj] at this;exact this
 refine ih (q - 1) (_,_,_,_,(j:Int)+1) (by omega) ⟨j+1,by grind,by omega,by omega,c5.mono (by omega),by simp [hlen],λx hx'=>?_,hp.nodup_iff.2 ?_⟩
 .grind
 grind
theorem IT{out:List (List Int)}{i:Nat}{x:Int}(h:i < out.length):(out.set i (out[i]++[x])).flatten.Perm (out.flatten++[x]):=by
 have e1:out=out.take i++out[i]::out.drop (i+1):=by simp_all
 grind
structure Rl(C:Int)(r:List (List Int)):Prop where
 r3:r.length≤3
 x5:∀l∈r,∀x∈l,0≤x/\x < C
 nd:r.flatten.Nodup
theorem Rl.l5{C:Int}(hC:0≤C/\C≤5){r:List (List Int)}(h:Rl C r):∀l∈r,l.length≤5:=λl hl=>by
 have:=qi C.toNat l (uJ h.nd hl) λx hx=>by have:=h.x5 l hl x hx;omega
 omega
theorem HB{k:Nat}(hk:50≤k){l:bO}{m:Int}{n:Nat}(hl:Lo l m)(hm:0≤m/\m≤900)(hn:n≤5):
 W (jV k l (n:Int)) λr=>Lo r.2 (m+30)/\Rl (n:Int) r.1:=by
 unfold jV
 refine W.bind (DZ (l:=(l.1,l.2.1,l.2.2)) hl (by omega) (by omega) (by omega) (by omega)) λr1 h1=>?_
 refine W.chk ⟨by omega,by show _≤_;omega⟩ ?_
 refine W.bind (Ci hk (l:=(r1.2.1,r1.2.2.1,r1.2.2.2)) (m:=m+1) (n:=n) h1.2.2 (by omega) (by omega)) λr4 h4=>?_
 obtain⟨lo4,len4,rng4,nd4⟩:=h4
 refine W.bind (R:=λx=>Lo (x.1,x.2.1,x.2.2.1) (m+30)/\Rl (n:Int) x.2.2.2) ?_ λx hx=>W.ret hx
 refine W.loop (f:=fy k r4) (λq y=>∃j:Nat,y.2.2.2.1=(j:Int)/\j≤n/\q=n - j/\Lo (y.1,y.2.1,y.2.2.1) (m+11+2 * j)/\y.2.2.2.2.length=r1.1.toNat/\(∀x∈y.2.2.2.2.flatten,x∈r4.1.take j)/\y.2.2.2.2.flatten.Nodup) ?_ n k _ (by omega)
  ⟨0,rfl,by omega,by omega,lo4.mono (by omega),by simp,by simp,by simp⟩
 rintro aG q ⟨nums,d,s,y,out⟩ ⟨j,hj,hle,hq,hlo,hlen,hx,hnd⟩ ih
 simp only at hj hlo hlen hx hnd
 subst hj
 unfold fy
 dsimp only
 refine W.ite (λhlt=>?_) (λhge=>W.ret ⟨hlo.mono (by omega),by grind,λl hl x hxx=>rng4 x (mem_of_mem_take (hx x (List.mem_flatten.2 ⟨l,hl,hxx⟩))),hnd⟩)
 have hj:j < r4.1.length:=by omega
 have hsub:∀x∈r4.1.take j,x∈r4.1.take (j+1):=λx hh=>by grind
 refine W.bind (R:=λx=>Lo (x.1,x.2.1,x.2.2.1) (m+11+2 * j+2)/\x.2.2.2.length=r1.1.toNat/\(∀z∈x.2.2.2.flatten,z∈r4.1.take (j+1))/\x.2.2.2.flatten.Nodup) ?_ λx9 h9=>?_
 .
  refine W.bind (t3 (l:=(nums,d,s)) hlo (by omega) (by omega) (by omega)) λr11 h11=>?_;refine W.ite (λ_=>W.ret ⟨h11.mono (by omega),hlen,λz hz=>hsub z (hx z hz),hnd⟩) (λ_=>?_);refine W.ck (by omega) (by omega) ?_;refine W.bind (kG (l:=(r11.2.1,r11.2.2.1,r11.2.2.2)) h11 (by omega) (by omega)) λr13 h13=>?_;have b13:=h13.2.1 (by omega);have hi:r13.1.toNat < out.length:=by omega
  rw [yh h13.1 hi,bs,eN hj,bs]
  have hxj:r4.1[j]∉out.flatten:=λhin=>by
   grind [List.getElem_of_mem,length_take,getElem_inj]
  have hlen2:(out[r13.1.toNat]).length≤5:=by
   have:=qi n _ (uJ hnd (List.getElem_mem hi)) λx hxx=>rng4 x (mem_of_mem_take (hx x (List.mem_flatten.2 ⟨_,List.getElem_mem hi,hxx⟩)));omega
  rw [dB (by grind [bW]),bs];have hp:=IT (x:=r4.1[j]) hi;refine W.ret ⟨h13.2.2.mono (by omega),by grind,λz hz=>?_,hp.nodup_iff.2 ?_⟩
  .grind [List.mem_singleton,take_add_one,List.getElem?_eq_getElem,List.mem_append_right]
  grind
 .
  refine W.ck (by omega) (by omega) ?_;exact ih (q - 1) (_,_,_,(j:Int)+1,_) (by omega) ⟨j+1,by grind,by omega,by omega,h9.1.mono (by omega),h9.2⟩
end Go.Proofs.YtddkbkkogpolaaaGreat
set_option linter.unusedVariables false
set_option linter.unusedSimpArgs false
namespace Go.Proofs.YtddkbkkogpolaaaGreat
open K Go Go.Proofs
theorem Nu{c w s h:Int}{ds:List (List (List Int))}(hc:1≤c/\c≤5)(hw:0≤w/\w≤3)(hs:0≤s/\s≤3)(hh:1≤h/\h≤3)(d1:1≤ds.length)(d6:ds.length≤6)(hr:∀r∈ds,Rl c r):Vd (c,w,s,h,ds,[]):=
 ⟨hc.1,hc.2,hw.1,hw.2,hs.1,hs.2,hh.1,hh.2,d1,d6,λr h=>(hr r h).r3,λr h=>(hr r h).l5 ⟨by omega,hc.2⟩,λr h=>(hr r h).x5,λr h=>(hr r h).nd,by simp [mG],λg hg=>by cases hg⟩
theorem CV{k:Nat}{l:List Int}(h:l.length≤1000000):ji k l=some l:=by
 grind [ji,dB,VN,length_nil,bs]
theorem AG{k:Nat}{l:List (List Int)}(hk:l.length < k)(h1:l.length≤1000000)(h2:∀x∈l,x.length≤1000000):io k l=some l:=by
 unfold io
 have key:=iq (T:=List (List Int)×Int) (f:=dO k l) l (λ(s:List (List Int)) j=>(s,j)) (λs j x=>s++[x]) (λj s=>s=l.take j) (λs=>some s)
  (λn s j hj hs=>by
   have hck:ck ((j:Int)+1)=some ((j:Int)+1):=dw (by omega) (by omega);have hl:s.length=j:=by grind
   have hok:cP (bW (length s+length [l[j]]))=some ():=dB (by grind [bW]);refine⟨?_,?_⟩
   .simp_all [dO,Int.ofNat_lt,if_true,eN,bs,CV,List.getElem_mem]
   simp_all)
  (λn s hs=>by
   unfold dO;simp_all) (n:=k) (s0:=[]) hk (by simp)
 simp_all
theorem Cf{k:Nat}(hk:50≤k){l:bO}{m:Int}{cs ds:Int}(hl:Lo l m)(hm:0≤m/\m≤400)(hc:1≤cs/\cs≤5)(hd:1≤ds/\ds≤6):
 W (jW k l cs ds) λr=>Lo r.2 (m+250)/\Vd r.1/\mG r.1=[]/\mC r.1≤cs/\((mD r.1).length:Int)≤ds:=by
 unfold jW
 refine W.bind (DZ (l:=(l.1,l.2.1,l.2.2)) hl (by omega) (by omega) (by omega) (by omega)) λr2 h2=>?_
 refine W.bind (kG (l:=(r2.2.1,r2.2.2.1,r2.2.2.2)) h2.2.2 (by omega) (by omega)) λr3 h3=>?_
 have b3:=h3.2.1 (by omega)
 refine W.bind (HM (l:=(r3.2.1,r3.2.2.1,r3.2.2.2)) h3.2.2 (by omega) (by simp) (by simp)) λr4 h4=>?_
 refine W.bind (kG (l:=(r4.2.1,r4.2.2.1,r4.2.2.2)) h4.2 (by omega) (by omega)) λr5 h5=>?_
 have b5:=h5.2.1 (by omega)
 refine W.bind (HM (l:=(r5.2.1,r5.2.2.1,r5.2.2.2)) h5.2.2 (by omega) (by simp) (by simp)) λr6 h6=>?_
 refine W.bind (DZ (l:=(r6.2.1,r6.2.2.1,r6.2.2.2)) h6.2 (by omega) (by omega) (by omega) (by omega)) λr7 h7=>?_
 refine W.bind (HM (l:=(r7.2.1,r7.2.2.1,r7.2.2.2)) h7.2.2 (by omega) (by simp) (by simp)) λr8 h8=>?_
 have w4:0≤r4.1/\r4.1≤3:=by
  grind
 have w6:0≤r6.1/\r6.1≤3:=by
  grind
 have w8:1≤r8.1/\r8.1≤3:=by
  grind
 have lo8:=h8.2
 refine W.bind (R:=λx=>Lo (x.2.1,x.2.2.1,x.2.2.2) (m+250)/\(1≤x.1.length/\(x.1.length:Int)≤ds)/\∀r∈x.1,Rl r2.1 r) ?_ λx hx=>W.ret ⟨hx.1,Nu (by omega) w4 w6 w8 (by omega) (by omega) hx.2.2,rfl,h2.2.1,hx.2.1.2⟩
 refine W.bind (DZ (l:=(r8.2.1,r8.2.2.1,r8.2.2.2)) lo8 (by omega) (by omega) (by omega) (by omega)) λr12 h12=>?_
 refine W.loop (f:=fA k r2) (λq y=>∃j:Nat,y.2.2.2.1.length=j/\y.2.2.2.2=r12.1 - j/\(j:Int)≤r12.1/\q=r12.1.toNat - j/\Lo (y.1,y.2.1,y.2.2.1) (m+10+33 * j)/\∀r∈y.2.2.2.1,Rl r2.1 r) ?_ r12.1.toNat k _ (by omega)
  ⟨0,rfl,by simp,by omega,by omega,h12.2.2.mono (by omega),by simp⟩
 rintro aG q ⟨nums,d,s,out,y⟩ ⟨j,hj,hy,hle,hq,hlo,hr⟩ ih
 simp only at hj hy hlo hr
 subst hy
 unfold fA
 dsimp only
 refine W.ite (λhlt=>?_) (λhge=>W.ret ⟨hlo.mono (by omega),⟨by grind,by grind⟩,hr⟩)
 refine W.bind (R:=λx=>Lo (x.1,x.2.1,x.2.2.1) (m+10+33 * j+33)/\x.2.2.2.length=j+1/\∀r∈x.2.2.2,Rl r2.1 r) ?_ λx15 h15=>?_
 .
  refine W.bind (R:=λx=>Lo (x.1,x.2.1,x.2.2.1) (m+10+33 * j+1)/\(x.2.2.2=true->0 < out.length)) ?_ λx17 h17=>?_
  .refine W.ite (λh0=>?_) (λh0=>W.ret ⟨hlo.mono (by omega),λh=>by cases h⟩);grind [W.bind,t3,W.ret]
  .refine W.ite (λht=>?_) (λht=>?_)
   .have h0:=h17.2 ht;refine W.ck (by omega) (by omega) ?_;have hi:((out.length:Int) - 1)=((out.length - 1:Nat):Int):=by omega
    have hlt':out.length - 1 < out.length:=by omega
    rw [hi,eN hlt',bs];have hrl:=hr _ (List.getElem_mem hlt');have hl5:=hrl.l5 (by omega);have hr3:=hrl.r3;rw [AG (by omega) (by omega) (λx hx=>by grind),bs,dB (by grind [bW]),bs];refine W.ret ⟨h17.1.mono (by omega),by simp [hj],λr hrr=>?_⟩;grind
   .have hc2:((r2.1.toNat:Nat):Int)=r2.1:=by omega
    have:=HB hk (l:=(x17.1,x17.2.1,x17.2.2.1)) (m:=m+10+33 * j+1) (n:=r2.1.toNat) h17.1 (by omega) (by omega);rw [hc2] at this;refine W.bind this λr26 h26=>?_;rw [dB (by grind [bW]),bs];refine W.ret ⟨h26.1.mono (by omega),by simp [hj],λr hrr=>?_⟩;grind
 .
  refine W.ck (by omega) (by omega) ?_;exact ih (q - 1) (_,_,_,_,_) (by omega) ⟨j+1,h15.2.1,by grind,by omega,by omega,h15.1.mono (by omega),h15.2.2⟩
theorem CY{k:Nat}(hk:50≤k){l:bO}{m:Int}{c:Int}(hl:Lo l m)(hm:0≤m/\m≤900)(hc:1≤c/\c≤5):
 W (jX k l c) λr=>Lo r.2 (m+10)/\Bg c r.1:=by
 unfold jX
 refine W.bind (R:=λx=>Lo (x.2.1,x.2.2.1,x.2.2.2) (m+10)/\Bg c x.1) ?_ λx hx=>W.ret hx
 refine W.loop (f:=fB k c) (λq y=>∃j:Nat,y.2.2.2.2=(j:Int)/\(j:Int)≤c/\q=c.toNat - j/\Lo (y.1,y.2.1,y.2.2.1) (m+j)/\y.2.2.2.1.length≤j/\(∀x∈y.2.2.2.1,0≤x/\x < (j:Int))/\y.2.2.2.1.Pairwise (· < ·)) ?_ c.toNat k _ (by omega)
  ⟨0,rfl,by omega,by omega,by simp_all,by simp,by simp,by simp⟩
 rintro aG q ⟨nums,d,s,o,y⟩ ⟨j,hj,hle,hq,hlo,hlen,hx,hp⟩ ih
 simp only at hj hlo hlen hx hp
 subst hj
 unfold fB
 dsimp only
 refine W.ite (λhlt=>?_) (λhge=>W.ret ⟨hlo.mono (by omega),λx hxx=>by grind,hp⟩)
 refine W.bind (R:=λx=>Lo (x.1,x.2.1,x.2.2.1) (m+j+1)/\x.2.2.2.length≤j+1/\(∀z∈x.2.2.2,0≤z/\z < ((j+1:Nat):Int))/\x.2.2.2.Pairwise (· < ·)) ?_ λx5 h5=>?_
 .
  refine W.bind (t3 (l:=(nums,d,s)) hlo (by omega) (by omega) (by omega)) λr7 h7=>?_;refine W.ite (λht=>?_) (λht=>W.ret ⟨h7,by grind,λz hz=>by grind,hp⟩);grind [dB,bW,bs,W.ret,List.mem_singleton]
 .
  refine W.ck (by omega) (by omega) ?_;exact ih (q - 1) (_,_,_,_,_) (by omega) ⟨j+1,by grind,by omega,by omega,h5.1.mono (by omega),h5.2⟩
theorem Bg.len{C:Int}(hC:0≤C/\C≤5){b:List Int}(h:Bg C b):b.length≤5:=by
 have:=qi C.toNat b (h.asc.imp λhab e=>by omega) λx hx=>by have:=h.rng x hx;omega
 omega
theorem Ht{m:ae}{B:Int->Bool}{n:Nat}(h:0≤mC m):((oz m B n).length:Int)=mC m:=by
 unfold oz;grind
theorem kX{m:ae}{B:Int->Bool}:(jl m B).length=(mD m).length+1:=by
 unfold jl;simp_all
theorem yC{α ε:Type}:∀(l:List α) (j:Nat),eD (λ(_:Unit) _ _=>(.ok ():Except ε Unit)) j l ()= .ok ()
 |[],_=>rfl
 |_::l,j=>yC l (j+1)
theorem GT{k:Nat}{m:ae}{B:Int->Bool}(v:Vd m)(hk:10≤k):mY k m (jl m B)=some true:=by
 have c1:=v.c1;have d6:=v.d6;unfold mY;have hd:ck ((m.2.2.2.2.1.length:Int)+1)=some (((mD m).length:Int)+1):=dw (by omega) (by grind);rw [hd,bs,if_neg (λhn=>hn (by rw [kX];omega))]
 have key:=me (T:=Int) (f:=fg k m (jl m B)) (jl m B) (λ(_:Unit) j=>j) (λ_ _ _=>(.ok ():Except Bool Unit)) (λ_ _=>True) (λr=>some r)
  (λn s j hj _=>by
   have hck:ck ((j:Int)+1)=some ((j:Int)+1):=dw (by omega) (by grind [kX]);refine⟨?_,λ_ _=>trivial⟩;have hj2:j≤(mD m).length:=by grind [kX]
   simp only [fg,Int.ofNat_lt,hj,if_true,s6 hj2,bs,hck];rw [if_neg (λhn=>hn (Ht (by omega)))])
  (λn s _=>by simp [fg]) (n:=k) (s0:=()) (by rw [kX];omega) trivial
 simp_all [fg,jl,yC,mt]
end Go.Proofs.YtddkbkkogpolaaaGreat
set_option linter.unusedVariables false
set_option linter.unusedSimpArgs false
namespace Go.Proofs.YtddkbkkogpolaaaGreat
open K Go Go.Proofs
end Go.Proofs.YtddkbkkogpolaaaGreat
set_option linter.unusedVariables false
set_option linter.unusedSimpArgs false
namespace Go.Proofs.YtddkbkkogpolaaaGreat
open K Go Go.Proofs
theorem Ao{k:Nat}{l:bO}{m:Int}{x:yu}(hl:Lo l m)(hm:0≤m/\m≤900)(hc:1≤x.1/\x.1≤5)(hd:x.2.2.2.2.1.length≤6):
 W (im k l x) λr=>Lo r.2 (m+3)/\(0≤r.1.1/\r.1.1 < x.1)/\0≤r.1.2.1/\r.1.2.1≤(x.2.2.2.2.1.length:Int):=by
 unfold im
 grind [W.ck,W.bind,kG,t3,W.ret]
theorem Vd.with{m:ae}(v:Vd m){gs:List bq}(h8:gs.length≤8)(hg:∀g∈gs,0≤g.1/\g.1 < mC m/\0≤g.2.1/\g.2.1≤(mD m).length):Vd (m.1,m.2.1,m.2.2.1,m.2.2.2.1,m.2.2.2.2.1,gs):=
 ⟨v.c1,v.c5,v.w0,v.w3,v.s0,v.s3,v.h1,v.h3,v.d1,v.d6,v.r3,v.l5,v.x5,v.nd,h8,hg⟩
theorem Sm.with{m:ae}(h:Sm m){gs:List bq}(hg:gs.length≤1000):Sm (m.1,m.2.1,m.2.2.1,m.2.2.2.1,m.2.2.2.2.1,gs):=⟨h.d,h.r,hg⟩
end Go.Proofs.YtddkbkkogpolaaaGreat
set_option linter.unusedVariables false
set_option linter.unusedSimpArgs false
namespace Go.Proofs.YtddkbkkogpolaaaGreat
open K Go Go.Proofs
def fp(C:Nat):Nat->List Int->Nat->List (List Int)
 |0,b,_=>[b]
 |n+1,b,f=>b::(List.range' f (C - f)).flatMap λ(c:Nat)=>fp C n (b++[(c:Int)]) (c+1)
theorem ul{b:List Int}{c:Int}:cJ (b++[c])=s9 (cJ b) c:=by
 unfold cJ;simp_all
theorem Ah{σ:Type}{k:Nat}{Y:σ->Int->Option (σ×Bool)}{C:Nat}(hC:C≤5)(hk:10≤k)(g:σ->List Int->σ)(qN:Nat->σ->Prop):
 ∀(n m0:Nat) (b:List Int) (f:Nat) (s:σ) (r:Nat),C - f≤n->f≤C->n < m0->iS (cJ b)->(∀r s,∀b'∈fp C n b f,qN (r+1) s->Y s (cJ b')=some (g s b',true)/\qN r (g s b'))->qN ((fp C n b f).length+r) s->
  dy k Y (C:Int) m0 (cJ b) (f:Int) s=some (true,(fp C n b f).foldl g s)/\qN r ((fp C n b f).foldl g s)
 |n,0,b,f,s,r,_,_,h,_,_,_=>absurd h (not_lt_zero _)
 |0,m0+1,b,f,s,r,h1,h2,_,hm,hY,hI=>by
  have hf:f=C:=by omega
  subst hf
  unfold dy
  obtain⟨k,rfl⟩:∃n,k=n+1:=⟨k - 1,by omega⟩
  have hI:qN (r+1) s:=by rw [Nat.add_comm];exact hI
  have:=hY r s b (by simp [fp]) hI
  rw [this.1,bs,if_neg (by simp)]
  rw [du,if_neg (Int.lt_irrefl _),mt]
  exact⟨rfl,this.2⟩
 |n+1,m0+1,b,f,s,r,h1,h2,h3,hm,hY,hI=>by
  unfold dy
  have hlen:(fp C (n+1) b f).length=((List.range' f (C - f)).flatMap λ(c:Nat)=>fp C n (b++[(c:Int)]) (c+1)).length+1:=by rw [fp,length_cons]
  rw [hlen] at hI
  have h0:=hY (((List.range' f (C - f)).flatMap λ(c:Nat)=>fp C n (b++[(c:Int)]) (c+1)).length+r) s b (by simp [fp]) (by grind)
  rw [h0.1,bs,if_neg (by simp)]
  have loop:∀(d x:Nat) (s:σ) (aG:Nat) (r:Nat),C - x=d->f≤x->x≤C->d < aG->qN (((List.range' x (C - x)).flatMap λ(c:Nat)=>fp C n (b++[(c:Int)]) (c+1)).length+r) s->
   du k (cJ b) (C:Int) (dy k Y (C:Int) m0) aG ((x:Int),s)=some (.ok (((List.range' x (C - x)).flatMap λ(c:Nat)=>fp C n (b++[(c:Int)]) (c+1)).foldl g s))/\qN r (((List.range' x (C - x)).flatMap λ(c:Nat)=>fp C n (b++[(c:Int)]) (c+1)).foldl g s):=by
   intro d
   induction d with
   |zero=>
    intro x s aG r hd hx hx2 hfu hI;obtain⟨aG,rfl⟩:∃n,aG=n+1:=⟨aG - 1,by omega⟩;have:x=C:=by omega
    simp_all [Nat.sub_self,du,if_neg,Int.lt_irrefl]
   |succ d ih=>
    intro x s aG r hd hx hx2 hfu hI;obtain⟨aG,rfl⟩:∃n,aG=n+1:=⟨aG - 1,by omega⟩;have hw:=kF (k:=k) hm (show(0:Int)≤(x:Int) by omega) (show(x:Int) < 8 by omega);have hck:ck ((x:Int)+1)=some (((x+1:Nat):Int)):=by grind [dw]
    have e:C - x=(C - (x+1))+1:=by omega
    rw [e,List.range'_succ,List.flatMap_cons,length_append,Nat.add_assoc] at hI
    have hsub:=Ah hC hk g qN n m0 (b++[(x:Int)]) (x+1) s _ (by omega) (by omega) (by omega) (by simp_all [ul]) (λr s b' hb'=>hY r s b' (by
     rw [fp];grind)) hI
    rw [ul] at hsub;have hih:=ih (x+1) _ aG r (by omega) (by omega) (by omega) (by omega) hsub.2;rw [du,if_pos (show(x:Int) < (C:Int) by omega),hw.1,bs,hck,bs,hsub.1,bs,if_neg (by simp),bs,hih.1];simp_all [List.range'_succ,List.flatMap_cons,List.foldl_append]
  have hl:=loop (C - f) f _ k r rfl (Nat.le_refl _) h2 (by omega) h0.2;rw [hl.1,mt];exact⟨rfl,hl.2⟩
def Ea(m:ae)(but:Nat->Bool)(B:Int->Bool):Bool:=(mG m).zipIdx.all λg=>but g.2 || decide (g.1.2.2=decide (mS m≤mi m B g.1.2.1.toNat g.1.1))
theorem xc{α ε:Type}{p:Nat->α->Bool}{e:ε}:∀(l:List α) (j:Nat),eD (λ(_:Unit) j x=>if p j x=true then .ok () else Except.error e) j l ()=if((l.zipIdx j).all λg=>p g.2 g.1)=true then .ok () else .error e
 |[],j=>rfl
 |x::l,j=>by
  rw [eD,zipIdx_cons,all_cons]
  cases h:p j x with
  |true=>simp only [if_true,Bool.true_and];exact xc l (j+1)
  |false=>simp
theorem Av{k:Nat}{m:ae}{S a2:Int}(v:Vd m)(hk:10≤k)(hS:iS S)(ha:iS a2):dj k m S a2=some (Ea m (λi=>decide (dX a2 i)) (ni S)):=by
 have g8:=v.g8;have d6:=v.d6;unfold dj gy;rw [pA v hk hS,bs]
 have key:=me (T:=Int) (f:=cD k m a2 (cr (Gm m (ni S)))) (mG m) (λ(_:Unit) j=>j) (λ_ j x=>if(decide (dX a2 j) || decide (x.2.2=decide (mS m≤mi m (ni S) x.2.1.toNat x.1)))=true then .ok () else Except.error ()) (λ_ _=>True) (λr=>some (match r with | .error _=>false | .ok _=>true))
  (λn s j hj _=>by
   have hck:ck ((j:Int)+1)=some ((j:Int)+1):=dw (by omega) (by omega);have hg:=v.gl _ (List.getElem_mem hj);have hj':(j:Int) < (m.2.2.2.2.2.length:Int):=Int.ofNat_lt.2 hj;have hget:aR m.2.2.2.2.2 (j:Int)=some (mG m)[j]:=eN hj;generalize (mG m)[j]=x at *;have c5:=v.c5;have e2:x.2.1=((x.2.1.toNat:Nat):Int):=by omega
   have hrow:aR (cr (Gm m (ni S))) x.2.1=some (kH (Gm m (ni S) x.2.1.toNat)):=by
    grind [yw,Int.toNat_natCast]
   have hval:aR (kH (Gm m (ni S) x.2.1.toNat)) x.1=some (mi m (ni S) x.2.1.toNat x.1):=by
    grind [tY,yv]
   refine⟨?_,λ_ _=>trivial⟩;have hm1:m.2.2.1=mS m:=rfl;simp only [cD,hj',if_true,hget,bs,yg (k:=k) ha (i:=j) (by omega),hrow,hval,hm1];grind)
  (λn s _=>by
   unfold cD;simp_all) (n:=k) (s0:=()) (by omega) trivial
 rw [show cD k m a2 (cr (Gm m (ni S))) k 0=_ from key,xc (p:=λj (x:bq)=>decide (dX a2 j) || decide (x.2.2=decide (mS m≤mi m (ni S) x.2.1.toNat x.1)))];unfold Ea;grind
end Go.Proofs.YtddkbkkogpolaaaGreat
set_option linter.unusedVariables false
set_option linter.unusedSimpArgs false
namespace Go.Proofs.YtddkbkkogpolaaaGreat
open K Go Go.Proofs
theorem s8{m:ae}(v:Vd m){A B:Int->Bool}(h:∀c,0≤c->c < mC m->A c=B c):∀(n:Nat) (c:Int),0≤c->c < mC m->mi m A n c=mi m B n c
 |0,c,h0,h1=>by simp_all [mi]
 |n+1,c,h0,h1=>by
  have ih:=s8 v h n
  unfold mi
  cases e:AS m n c with
  |none=>simp_all
  |some l=>
   have hb:=(ve v e).2
   grind
theorem C0{α:Type}{l:List α}{p q:α->Bool}(h:∀x∈l,p x=q x):l.all p=l.all q:=by
 grind
theorem Fp{m:ae}(v:Vd m){but:Nat->Bool}{A B:Int->Bool}(h:∀c,0≤c->c < mC m->A c=B c):Ea m but A=Ea m but B:=by
 unfold Ea;refine C0 λg hg=>?_;obtain⟨x,i⟩:=g;have hx:=v.gl x (List.fst_mem_of_mem_zipIdx hg);show(but i || decide (x.2.2=decide (mS m≤mi m A x.2.1.toNat x.1)))=(but i || decide (x.2.2=decide (mS m≤mi m B x.2.1.toNat x.1)));grind [s8]
def FR(m:ae):List (List Int):=fp (mC m).toNat (mC m).toNat [] 0
theorem yD{C:Nat}:∀(n:Nat) (b:List Int) (f:Nat),Bg (C:Int) b->(∀x∈b,x < (f:Int))->∀b'∈fp C n b f,Bg (C:Int) b'
 |0,b,f,h,_,b',hb=>by
  simp_all [fp,List.mem_singleton]
 |n+1,b,f,h,hf,b',hb=>by
  rw [fp,mem_cons] at hb
  rcases hb with rfl |hb
  .
   exact h
  .
   obtain⟨c,hc,hb⟩:=List.mem_flatMap.1 hb
   rw [List.mem_range'_1] at hc
   refine yD n (b++[(c:Int)]) (c+1) ⟨λx hx=>?_,?_⟩ (λx hx=>?_) b' hb
   .
    rcases List.mem_append.1 hx with hx |hx
    .
     exact h.rng x hx
    grind
   .
    rw [pairwise_append]
    exact⟨h.asc,by simp,λa ha x hx=>by grind⟩
   grind
theorem Ek{m:ae}(v:Vd m){b:List Int}(h:b∈FR m):Bg (mC m) b:=by
 have c1:=v.c1;have:=yD (C:=(mC m).toNat) (mC m).toNat [] 0 ⟨by simp,by simp⟩ (by simp) b h;grind
theorem AV{m:ae}(v:Vd m):(FR m).length≤32:=by
 have c1:=v.c1;have c5:=v.c5;have:(mC m).toNat=1\/(mC m).toNat=2\/(mC m).toNat=3\/(mC m).toNat=4\/(mC m).toNat=5:=by omega
 unfold FR;rcases this with h |h |h |h |h <;> rw [h] <;> decide
def eP(m:ae)(but:Nat->Bool):List (List Int):=(FR m).filter λb=>Ea m but λc=>decide (c∈b)
theorem pU{α β:Type}{p:α->Bool}{h:α->β}:∀(l:List α) (s:List β),l.foldl (λ(s:List β×Bool) b=>(if p b then s.1++[h b] else s.1,false)) (s,false)=(s++(l.filter p).map h,false)
 |[],s=>by simp
 |x::l,s=>by
  rw [foldl_cons,pU l]
  grind
theorem qE{k:Nat}{m:ae}{a2:Int}(v:Vd m)(hk:50≤k)(ha:iS a2):cg k m a2=some ((eP m λi=>decide (dX a2 i)).map cJ):=by
 have c1:=v.c1;have c5:=v.c5;unfold cg jU;have hC:m.1=(((mC m).toNat:Nat):Int):=by grind
 have h:=Ah (σ:=List Int×Bool) (k:=k) (Y:=lm (λ(y5:(List Int)) (p7:Int)=>(dj k m p7 a2).bind λr9=>if r9=true then((cP (bW (length y5+length [p7]))).bind λ_=>some (y5++[p7],true)) else(some (y5,true)))) (C:=(mC m).toNat) (by omega) (by omega)
  (λs b=>(if Ea m (λi=>decide (dX a2 i)) (λc=>decide (c∈b)) then s.1++[cJ b] else s.1,false)) (λr s=>s.2=false/\s.1.length+r≤1000) (mC m).toNat k [] 0 ([],false) 0 (by omega) (by omega) (by omega) rE (λr s b' hb' hI=>by
   obtain⟨y,q⟩:=s;obtain⟨rfl,hI⟩:q=false/\y.length+(r+1)≤1000:=hI;have hbg:=Ek v hb';have hset:=hbg.set c5;have hex:Ea m (λi=>decide (dX a2 i)) (ni (cJ b'))=Ea m (λi=>decide (dX a2 i)) (λc=>decide (c∈b')):=Fp v λc h0 _=>hset.2 c h0;unfold lm;simp only [];rw [Av v (by omega) hset.1 ha,hex,bs];cases Ea m (λi=>decide (dX a2 i)) (λc=>decide (c∈b')) with
   |true=>
    simp only [if_true];grind [dB,bW,bs,cJ]
   |false=>
    grind) ⟨rfl,by have:=AV v;grind [FR]⟩
 rw [hC,show dy k (lm (λ(y5:(List Int)) (p7:Int)=>(dj k m p7 a2).bind λr9=>if r9=true then((cP (bW (length y5+length [p7]))).bind λ_=>some (y5++[p7],true)) else(some (y5,true)))) (((mC m).toNat:Nat):Int) k 0 0 ([],false)=_ from h.1,bs,bs];rw [pU (p:=λb=>Ea m (λi=>decide (dX a2 i)) λc=>decide (c∈b)) (h:=cJ)];simp only [Bool.false_eq_true,if_false,nil_append];rfl
theorem Jd:∀{a b:List Int},a.Pairwise (· < ·)->b.Pairwise (· < ·)->(∀x,x∈a↔x∈b)->a=b
 |[],[],_,_,_=>rfl
 |[],y::b,_,_,h=>absurd ((h y).2 mem_cons_self) (by simp)
 |x::a,[],_,_,h=>absurd ((h x).1 mem_cons_self) (by simp)
 |x::a,y::b,ha,hb,h=>by
  rw [pairwise_cons] at ha hb
  have e:x=y:=by
   grind [mem_cons_self]
  subst e;rw [Jd ha.2 hb.2 λz=>?_];grind
theorem BJ{k:Nat}{C:Int}{b:List Int}(hk:10≤k)(hC:C≤5)(h:Bg C b):fU k (cJ b)=some b:=by
 have hset:=h.set hC;unfold fU
 have key:=iq (T:=List Int×Int) (f:=dE k (cJ b)) (List.range 5) (λ(s:List Int) j=>(s,j)) (λs j _=>if decide (dX (cJ b) j) then s++[(j:Int)] else s) (λj s=>s.length≤j/\s.Pairwise (· < ·)/\∀x,x∈s↔x∈b/\x < (j:Int)) (λs=>some s)
  (λn s j hj hs=>by
   rw [length_range] at hj;have hck:ck ((j:Int)+1)=some ((j:Int)+1):=dw (by omega) (by omega);have hj5:(j:Int) < 5:=by omega
   have hin:=hset.2 (j:Int) (by omega);unfold ni at hin;rw [Int.toNat_natCast] at hin;refine⟨?_,?_⟩
   .simp only [dE,hj5,if_true,yg (k:=k) hset.1 (by omega:j < 8),bs];cases decide (dX (cJ b) j) with
    |true=>
     simp only [if_true];rw [dB (by grind [bW]),bs,bs,hck,bs]
    |false=>simp_all
   grind)
  (λn s hs=>by
   simp_all [length_range,dE,if_neg]) (n:=k) (s0:=[]) (by grind) ⟨by simp,by simp,λx=>by simp;intro hx;exact(h.rng x hx).1⟩
 rw [show dE k (cJ b) k ([],0)=_ from key.1,bs];have:=key.2;rw [length_range] at this;exact congrArg some (Jd this.2.1 h.asc λx=>by rw [this.2.2 x];exact⟨λhh=>hh.1,λhh=>⟨hh,by have:=h.rng x hh;omega⟩⟩)
end Go.Proofs.YtddkbkkogpolaaaGreat
set_option linter.unusedVariables false
set_option linter.unusedSimpArgs false
namespace Go.Proofs.YtddkbkkogpolaaaGreat
open K Go Go.Proofs
end Go.Proofs.YtddkbkkogpolaaaGreat
set_option linter.unusedVariables false
set_option linter.unusedSimpArgs false
namespace Go.Proofs.YtddkbkkogpolaaaGreat
open K Go Go.Proofs
def cN:Nat->Bool:=λ_=>false
theorem PS:(λi=>decide (dX 0 i))=cN:=by
 grind [cN,dX]
theorem Uh:(λi:Nat=>decide ((i:Int)∈([]:List Int)))=cN:=by
 grind [cN]
theorem yr{m:ae}(v:Vd m){but:Nat->Bool}{b:List Int}(h:b∈eP m but):Bg (mC m) b:=Ek v (List.mem_filter.1 h).1
theorem rJ{m:ae}(v:Vd m){but:Nat->Bool}:(eP m but).length≤32:=Nat.le_trans (List.length_filter_le _ _) (AV v)
theorem IA{k:Nat}{C:Int}(hC:C≤5)(hk:50≤k){L:List (List Int)}(hL:∀b∈L,Bg C b)(hl:L.length≤40):eu k (L.map cJ) k ([],0)=some L:=by
 have key:=iq (T:=List (List Int)×Int) (f:=eu k (L.map cJ)) L (λ(s:List (List Int)) j=>(s,j)) (λs _ b=>s++[b]) (λj s=>s=L.take j) (λs=>some s)
  (λn s j hj hs=>by
   have hck:ck ((j:Int)+1)=some ((j:Int)+1):=dw (by omega) (by omega);have hls:s.length=j:=by grind
   have hg:aR (L.map cJ) (j:Int)=some (cJ L[j]):=by simp_all [aR,if_pos,Int.toNat_natCast,List.getElem?_map,List.getElem?_eq_getElem]
   have hj':(j:Int) < ((L.map cJ).length:Int):=by simp_all
   have hok:cP (bW (length s+length [L[j]]))=some ():=dB (by grind [bW]);refine⟨?_,?_⟩
   .simp only [eu,hj',if_true,hg,bs,BJ (k:=k) (by omega) hC (hL _ (List.getElem_mem hj)),hok,hck]
   simp_all)
  (λn s hs=>by
   unfold eu;simp_all) (n:=k) (s0:=[]) (by omega) (by simp)
 simp_all
theorem Cm{k:Nat}{m:ae}(hs:Sm m)(hk:1010≤k):iG k m=some (if¬(kQ m=0) then([],kQ m) else(eP m cN,0)):=by
 unfold iG;rw [rD hs hk (by simp) (by simp) (by simp) (by simp),bs];by_cases hc:kQ m=0
 .have v:=Vd.of hc;have hb:rR (mC m) []=0:=nf.2 ⟨by simp,by simp⟩;have ho:K9 m [] [] []=true:=rfl;simp only [hc,hb,ho,not_true_eq_false,if_false,if_true,pB];rw [qE v (by omega) rE,bs,PS,IA v.c5 (by omega) (λb h=>yr v h) (by grind [rJ,cN]),bs]
 simp_all [not_false_eq_true,if_true,kO]
end Go.Proofs.YtddkbkkogpolaaaGreat
set_option linter.unusedVariables false
set_option linter.unusedSimpArgs false
namespace Go.Proofs.YtddkbkkogpolaaaGreat
open K Go Go.Proofs
theorem E8{k:Nat}{m:ae}{cs ds ns:List Int}(hs:Sm m)(hk:1010≤k)(h1:cs.length≤1000)(h2:ds.length≤1000)(h3:ns.length≤1000):
 iL k m cs ds ns=some (if¬(kQ m=0) then(none,[],kQ m) else if¬(K9 m cs ds ns=true) then(none,[],3) else if(eP m cN).length=0 then(none,[],9) else(some m,(eP m cN).map cJ,0)):=by
 unfold iL
 rw [rD hs hk (by simp) h1 h2 h3,bs]
 by_cases hc:kQ m=0
 .
  have v:=Vd.of hc;have hb:rR (mC m) []=0:=nf.2 ⟨by simp,by simp⟩;by_cases ho:K9 m cs ds ns=true
  .simp only [hc,hb,ho,not_true_eq_false,if_false,if_true,pB];rw [qE v (by omega) rE,bs,PS];grind
  simp_all [not_true_eq_false,not_false_eq_true,if_false,if_true,kO,Bool.false_eq_true,if_pos]
 simp_all [not_false_eq_true,if_true,kO]
end Go.Proofs.YtddkbkkogpolaaaGreat
set_option linter.unusedVariables false
set_option linter.unusedSimpArgs false
namespace Go.Proofs.YtddkbkkogpolaaaGreat
open K Go Go.Proofs
theorem MV{k:Nat}{m:ae}{b:List Int}(v:Vd m)(hk:10≤k)(hb:Bg (mC m) b):∃F:Nat->Int->Int,kz k m (cJ b)=some (cr F)/\∀(n:Nat) (c:Int),n≤(mD m).length->0≤c->c < mC m->F n c=mi m (λc=>decide (c∈b)) n c:=by
 have hs:=hb.set v.c5;refine⟨_,pA v hk hs.1,λn c hn h0 h1=>?_⟩;grind [yv,s8]
theorem MX{k:Nat}{m:ae}{b:List Int}{α:Type}{n:Nat}{c:Int}{f:Int->Option α}(v:Vd m)(hk:10≤k)(hb:Bg (mC m) b)(hn:n≤(mD m).length)(h0:0≤c)(h1:c < mC m):
 ((kz k m (cJ b)).bind λr=>(aR r (n:Int)).bind λx=>(aR x c).bind λy=>f y)=f (mi m (λc=>decide (c∈b)) n c):=by
 obtain⟨F,e,h⟩:=MV v hk hb
 have d6:=v.d6
 have c5:=v.c5
 grind [bs,yw,tY]
def rO(m:ae)(n:Nat)(c:Int)(x:Int)(L:List (List Int)):Nat:=L.countP λb=>decide (x≤mi m (λc=>decide (c∈b)) n c)
theorem xb{p:List Int->Bool}:∀(L:List (List Int)) (j:Nat) (s:Int),lH (λ(s:Int) _ b=>if p b then s+1 else s) j L s=s+(L.countP p:Nat)
 |[],_,s=>by simp [lH]
 |b::L,j,s=>by
  rw [lH,xb L,List.countP_cons]
  grind
theorem I7{L:List (List Int)}{p:List Int->Bool}{f:Nat->Int×Int->Option Int}{k:Nat}(hk:L.length < k)(hl:L.length≤1000)
 (step:∀(n:Nat) (s:Int) (j:Nat) (h:j < L.length),0≤s->s≤j->f (n+1) (s,j)=f n (if p L[j] then s+1 else s,(j:Int)+1)) (stop:∀(n:Nat) (s:Int),f (n+1) (s,L.length)=some s):f k (0,0)=some (L.countP p:Int):=by
 have key:=iq (T:=Int×Int) (f:=f) L (λ(s:Int) j=>(s,j)) (λs _ b=>if p b then s+1 else s) (λj s=>0≤s/\s≤j) (λs=>some s)
  (λn s j hj hs=>⟨step n s j hj hs.1 hs.2,by omega⟩) (λn s _=>stop n s) (n:=k) (s0:=0) hk ⟨by omega,by omega⟩
 simp_all [xb]
theorem wZ{σ:Type}{g:σ->Nat->Nat->σ}:∀(n i j:Nat) (s:σ),i=j->lH (λs j _=>g s j j) j (List.range' i n) s=lH (λs j x=>g s j x) j (List.range' i n) s
 |0,_,_,_,_=>rfl
 |n+1,i,j,s,h=>by
  subst h
  rw [List.range'_succ]
  exact wZ n (i+1) (i+1) _ rfl
end Go.Proofs.YtddkbkkogpolaaaGreat
set_option linter.unusedVariables false
set_option linter.unusedSimpArgs false
namespace Go.Proofs.YtddkbkkogpolaaaGreat
open K Go Go.Proofs
def Oh(m:ae)(gs:List bq):ae:=(m.1,m.2.1,m.2.2.1,m.2.2.2.1,m.2.2.2.2.1,gs)
theorem Ef{m:ae}{gs:List bq}{c:Int}:∀d:Nat,nc (Oh m gs) c d=nc m c d
 |0=>rfl
 |d+1=>by rw [nc,nc,Ef d];rfl
theorem yF{m:ae}{gs:List bq}{B:Int->Bool}:∀(n:Nat) (c:Int),mi (Oh m gs) B n c=mi m B n c
 |0,c=>rfl
 |n+1,c=>by
  rw [mi,mi,show AS (Oh m gs) n c=AS m n c from rfl,Ef,yF n c]
  cases AS m n c with
  |none=>rfl
  |some l=>
   have:(λx=>decide (mW (Oh m gs)≤mi (Oh m gs) B n x))=λx=>decide (mW m≤mi m B n x):=by
    funext x;rw [yF n x];rfl
   simp_all
theorem vf{C:Nat}:∀(t:List Int) (n:Nat) (b:List Int) (f:Nat),C - f≤n->(∀x∈t,(f:Int)≤x/\x < C)->t.Pairwise (· < ·)->b++t∈fp C n b f
 |[],0,b,f,_,_,_=>by simp [fp]
 |[],n+1,b,f,_,_,_=>by simp [fp]
 |x::t,0,b,f,h,hx,_=>by grind [mem_cons_self]
 |x::t,n+1,b,f,h,hx,hp=>by
  have h0:=hx x (mem_cons_self ..)
  rw [pairwise_cons] at hp
  rw [fp]
  refine mem_cons_of_mem _ (List.mem_flatMap.2 ⟨x.toNat,by grind,?_⟩)
  have:=vf t n (b++[((x.toNat:Nat):Int)]) (x.toNat+1) (by omega) (λy hy=>⟨by grind,(hx y (mem_cons_of_mem _ hy)).2⟩) hp.2
  grind
theorem AU{m:ae}{b:List Int}(h:Bg (mC m) b):b∈FR m:=by
 have:=vf (C:=(mC m).toNat) b (mC m).toNat [] 0 (by omega) (λx hx=>by have:=h.rng x hx;omega) h.asc;exact this
def TJ(m:ae)(B:Int->Bool)(g:bq):Prop:=g.2.2=decide (mS m≤mi m B g.2.1.toNat g.1)
theorem Fo{m:ae}{B:Int->Bool}(h:∀g∈mG m,TJ m B g):Ea m cN B=true:=by
 unfold Ea;rw [List.all_eq_true];intro g hg;have:g.1∈mG m:=List.fst_mem_of_mem_zipIdx hg;simp only [cN,Bool.false_or];exact decide_eq_true (h _ this)
theorem K1{k:Nat}(hk:1010≤k){l:bO}{m0:Int}(hl:Lo l m0)(hm:0≤m0/\m0≤400):
 W (mZ k l) λr=>∃(m:ae) (b:List Int) (l':bO),r=(m,b,jl m λc=>decide (c∈b),true,l')/\Vd m/\Bg (mC m) b/\Lo l' (m0+300)/\mC m≤4/\((mD m).length:Int)≤4/\(mG m).length≤4/\b∈eP m cN:=by
 unfold mZ
 refine W.bind (Cf (by omega) (l:=(l.1,l.2.1,l.2.2)) hl hm (by omega) (by omega)) λr2 h2=>?_
 obtain⟨lo2,v,hg,hcs,hds⟩:=h2
 have c1:=v.c1
 have c5:=v.c5
 have d6:=v.d6
 refine W.bind (CY (by omega) (l:=(r2.2.1,r2.2.2.1,r2.2.2.2)) (c:=r2.1.1) lo2 (by omega) ⟨c1,c5⟩) λr4 h4=>?_
 obtain⟨lo4,hb⟩:=h4
 have l4:=hb.len ⟨by omega,c5⟩
 have eta:(r2.1.1,r2.1.2.1,r2.1.2.2.1,r2.1.2.2.2.1,r2.1.2.2.2.2.1,([]:List bq))=r2.1:=by
  grind
 rw [eta,Cj v.sm hk (by omega),bs,v.chk,nf.2 hb]
 simp only [not_true_eq_false,if_false]
 rw [GT v (by omega),bs]
 simp only [Bool.not_true,bs,Bool.false_eq_true,if_false]
 let B:Int->Bool:=λc=>decide (c∈r4.1)
 refine W.bind (R:=λx=>Lo (x.2.1,x.2.2.1,x.2.2.2) (m0+300)/\x.1.length≤4/\∀g∈x.1,(0≤g.1/\g.1 < mC r2.1/\0≤g.2.1/\g.2.1≤(mD r2.1).length)/\TJ r2.1 B g) ?_ λx hx=>?_
 .
  refine W.bind (kG (l:=(r4.2.1,r4.2.2.1,r4.2.2.2)) lo4 (by omega) (by omega)) λr6 h6=>?_;have b6:=h6.2.1 (by omega)
  refine W.loop (f:=iM k r2 (jl r2.1 B,0)) (λq y=>∃j:Nat,y.2.2.2.1.length=j/\y.2.2.2.2=r6.1 - j/\(j:Int)≤r6.1/\q=r6.1.toNat - j/\Lo (y.1,y.2.1,y.2.2.1) (m0+261+3 * j)/\∀g∈y.2.2.2.1,(0≤g.1/\g.1 < mC r2.1/\0≤g.2.1/\g.2.1≤(mD r2.1).length)/\TJ r2.1 B g) ?_ r6.1.toNat k _ (by omega)
   ⟨0,rfl,by simp,by omega,by omega,h6.2.2.mono (by omega),by simp⟩
  rintro aG q ⟨nums,d,s,out,y⟩ ⟨j,hj,hy,hle,hq,hlo,hr⟩ ih;simp only at hj hy hlo hr;subst hy;unfold iM;dsimp only;refine W.ite (λhlt=>?_) (λhge=>W.ret ⟨hlo.mono (by omega),by grind,hr⟩);refine W.bind (Ao (l:=(nums,d,s)) (x:=(r2.1.1,r2.1.2.1,r2.1.2.2.1,r2.1.2.2.2.1,r2.1.2.2.2.2.1,())) hlo (by omega) ⟨c1,c5⟩ d6) λr9 h9=>?_;obtain⟨n9,e9⟩:∃n9:Nat,r9.1.2.1=n9:=⟨r9.1.2.1.toNat,by omega⟩;have hn9:n9≤(mD r2.1).length:=by grind
  rw [e9,s6 hn9,bs,zD h9.2.1.1 h9.2.1.2,bs,dB (by grind [bW]),bs];refine W.ck (by omega) (by omega) ?_;refine ih (q - 1) (_,_,_,_,_) (by omega) ⟨j+1,by simp [hj],by grind,by omega,by omega,h9.1.mono (by omega),λg hgg=>?_⟩;rcases List.mem_append.1 hgg with h |h
  .grind
  .rw [List.mem_singleton.1 h];exact⟨⟨h9.2.1.1,h9.2.1.2,by grind,by grind⟩,rfl⟩
 .
  have vm:Vd (Oh r2.1 x.1):=v.with (by omega) λg h=>(hx.2.2 g h).1
  have hcr:jl r2.1 B=jl (Oh r2.1 x.1) B:=by
   unfold jl oz;refine List.map_congr_left λn _=>List.map_congr_left λc _=>?_;simp_all [yF]
  refine W.ret ⟨Oh r2.1 x.1,r4.1,(x.2.1,x.2.2.1,x.2.2.2),?_,vm,hb,hx.1,hcs,hds,hx.2.1,?_⟩
  .rw [<-hcr];rfl
  .unfold eP;rw [List.mem_filter];refine⟨AU hb,Fo λg h=>?_⟩;unfold TJ;rw [yF];exact(hx.2.2 g h).2
end Go.Proofs.YtddkbkkogpolaaaGreat
set_option linter.unusedVariables false
set_option linter.unusedSimpArgs false
namespace Go.Proofs.YtddkbkkogpolaaaGreat
open K Go Go.Proofs
def VQ(D:List (List (List Int)))(d:Int)(S:Int->Bool):List (List (List Int)):=D.mapIdx λj r=>r.map λl=>l.filter λn=>decide ((j:Int) < d) || !S n
def frz(m:ae)(d:Int)(S:Int->Bool):ae:=(m.1,m.2.1,m.2.2.1,m.2.2.2.1,VQ (mD m) d S,m.2.2.2.2.2)
end Go.Proofs.YtddkbkkogpolaaaGreat
set_option linter.unusedVariables false
set_option linter.unusedSimpArgs false
namespace Go.Proofs.YtddkbkkogpolaaaGreat
open K Go Go.Proofs
end Go.Proofs.YtddkbkkogpolaaaGreat
set_option linter.unusedVariables false
set_option linter.unusedSimpArgs false
namespace Go.Proofs.YtddkbkkogpolaaaGreat
open K Go Go.Proofs
def lT{σ:Type}(G:σ->List Int->σ×Bool):List (List Int)->σ->Bool×σ
 |[],s=>(true,s)
 |x::l,s=>if(G s x).2=true then lT G l (G s x).1 else(false,(G s x).1)
theorem zB{σ:Type}{G:σ->List Int->σ×Bool}:∀(l1 l2:List (List Int)) (s:σ),lT G (l1++l2) s=if(lT G l1 s).1=true then lT G l2 (lT G l1 s).2 else(false,(lT G l1 s).2)
 |[],l2,s=>by simp [lT]
 |x::l,l2,s=>by
  rw [cons_append,lT,lT]
  split
  .
   exact zB l l2 _
  .
   simp
def Px{σ:Type}(r:Bool×σ):Except (Bool×σ) σ:=if r.1=true then .ok r.2 else .error (false,r.2)
theorem uV{σ:Type}{k:Nat}{Y:σ->List Int->Option (σ×Bool)}{C:Nat}(hC:C≤8)(hk:10≤k)(G:σ->List Int->σ×Bool)(qN:σ->Prop):
 ∀(n m0:Nat) (b:List Int) (f:Nat) (s:σ),C - f≤n->f≤C->n < m0->b.length+n≤20->(∀s,∀b'∈fp C n b f,qN s->Y s b'=some (G s b')/\((G s b').2=true->qN (G s b').1))->qN s->
  cK k Y (C:Int) m0 b (f:Int) s=some (lT G (fp C n b f) s)/\((lT G (fp C n b f) s).1=true->qN (lT G (fp C n b f) s).2)
 |n,0,b,f,s,_,_,h,_,_,_=>absurd h (not_lt_zero _)
 |0,m0+1,b,f,s,h1,h2,_,hb,hY,hI=>by
  have hf:f=C:=by omega
  subst hf
  obtain⟨k,rfl⟩:∃n,k=n+1:=⟨k - 1,by omega⟩
  have:=hY s b (by simp [fp]) hI
  unfold cK
  rw [show dx (k+1) b=some b by unfold dx;rw [dB (by show _≤_;omega),bs],bs,this.1,bs,fp,lT,lT]
  by_cases hg:(G s b).2=true
  .
   simp_all [if_neg,cU,Int.lt_irrefl,mt,if_pos]
  simp_all
 |n+1,m0+1,b,f,s,h1,h2,h3,hb,hY,hI=>by
  have h0:=hY s b (by simp [fp]) hI
  unfold cK
  rw [show dx k b=some b by unfold dx;rw [dB (by show _≤_;omega),bs],bs,h0.1,bs]
  have loop:∀(d x:Nat) (s:σ) (aG:Nat),C - x=d->f≤x->x≤C->d < aG->qN s->
   cU k b (C:Int) (cK k Y (C:Int) m0) aG ((x:Int),s)=some (Px (lT G ((List.range' x (C - x)).flatMap λ(c:Nat)=>fp C n (b++[(c:Int)]) (c+1)) s))/\((lT G ((List.range' x (C - x)).flatMap λ(c:Nat)=>fp C n (b++[(c:Int)]) (c+1)) s).1=true->qN (lT G ((List.range' x (C - x)).flatMap λ(c:Nat)=>fp C n (b++[(c:Int)]) (c+1)) s).2):=by
   intro d
   induction d with
   |zero=>
    intro x s aG hd hx hx2 hfu hI;obtain⟨aG,rfl⟩:∃n,aG=n+1:=⟨aG - 1,by omega⟩;have:x=C:=by omega
    subst this;rw [Nat.sub_self,cU,if_neg (Int.lt_irrefl _)];exact⟨rfl,λ_=>hI⟩
   |succ d ih=>
    intro x s aG hd hx hx2 hfu hI;obtain⟨aG,rfl⟩:∃n,aG=n+1:=⟨aG - 1,by omega⟩;have hck:ck ((x:Int)+1)=some (((x+1:Nat):Int)):=by grind [dw]
    have e:C - x=(C - (x+1))+1:=by omega
    have hsub:=uV hC hk G qN n m0 (b++[(x:Int)]) (x+1) s (by omega) (by omega) (by omega) (by simp;omega) (λs b' hb'=>hY s b' (by
     rw [fp];refine mem_cons_of_mem _ (List.mem_flatMap.2 ⟨x,List.mem_range'.2 ⟨x - f,by omega,by omega⟩,hb'⟩))) hI
    rw [e,List.range'_succ,List.flatMap_cons,zB];rw [cU,if_pos (show(x:Int) < (C:Int) by omega),dB (by show _≤_;simp;omega),bs,hck,bs];rw [show cK k Y (C:Int) m0 (b++[(x:Int)]) (((x+1:Nat):Int)) s=_ from hsub.1,bs];by_cases hr:(lT G (fp C n (b++[(x:Int)]) (x+1)) s).1=true
    .rw [if_neg (by simp [hr]),bs,if_pos hr];exact ih (x+1) _ aG (by omega) (by omega) (by omega) (by omega) (hsub.2 hr)
    simp_all [if_pos,if_neg,Px]
  rw [fp,lT];by_cases hg:(G s b).2=true
  .have hl:=loop (C - f) f (G s b).1 k rfl (Nat.le_refl _) h2 (by omega) (h0.2 hg);rw [if_neg (by simp [hg]),if_pos hg,hl.1];refine⟨?_,hl.2⟩;unfold Px;by_cases hr:(lT G ((List.range' f (C - f)).flatMap λ(c:Nat)=>fp C n (b++[(c:Int)]) (c+1)) (G s b).1).1=true
   .rw [if_pos hr,mt];grind
   .rw [if_neg hr,oU];grind
  simp_all
def M9(m:ae):List (List Int):=fp (mG m).length (mG m).length [] 0
theorem Jg{C:Nat}{s:List Int}(h:s∈fp C C [] 0):Bg (C:Int) s:=yD _ _ 0 ⟨by simp,by simp⟩ (by simp) s h
theorem M6{C:Nat}{b:List Int}(h:Bg (C:Int) b):b.length≤C:=by
 refine qi C b (h.asc.imp λh=>by omega) λx hx=>?_;have:=h.rng x hx;omega
def OX(m:ae)(s:List Int):Bool:=decide (0 < (eP m λi=>decide ((i:Int)∈s)).length)
theorem Ho:∀(b:List Int) (s:Int),iS s->(∀x∈b,0≤x/\x < 8)->iS (b.foldl s9 s)/\∀i:Nat,dX (b.foldl s9 s) i↔dX s i\/(i:Int)∈b
 |[],s,hs,_=>⟨hs,λi=>by simp⟩
 |x::b,s,hs,hb=>by
  have hx:=hb x mem_cons_self
  have hw:=kF (k:=0) hs hx.1 (by omega)
  have:=Ho b (s9 s x) hw.2.1 λy hy=>hb y (mem_cons_of_mem _ hy)
  grind
theorem Gx{k:Nat}{p:List Int}(hp:∀x∈p,0≤x/\x < 8)(hk:p.length < k)(hl:p.length≤100):dh k p k (0,0)=some (cJ p):=by
 have key:=iq (T:=Int×Int) (f:=dh k p) p (λ(s:Int) j=>(s,j)) (λs _ x=>s9 s x) (λ_ s=>iS s) (λs=>some s)
  (λn s j hj hs=>by
   have hx:=hp _ (List.getElem_mem hj);have hw:=kF (k:=k) hs hx.1 hx.2;have hck:ck ((j:Int)+1)=some ((j:Int)+1):=dw (by omega) (by omega);simp_all [dh,if_pos,eN,bs])
  (λn s _=>by rw [dh,if_neg (Int.lt_irrefl _)]) (n:=k) (s0:=0) hk rE
 rw [show dh k p k (0,0)=_ from key.1]
 have:∀(l:List Int) (j:Nat) (s:Int),lH (λs _ x=>s9 s x) j l s=l.foldl s9 s:=by
  intro l
  induction l with
  |nil=>intro j s;rfl
  |cons x l ih=>simp_all [lH,foldl_cons]
 rw [this];rfl
def Kr(m:ae)(j:Nat):Option (List Int):=(M9 m).find? λp=>decide (p.length=j) && OX m p
theorem wB{P:List Int->Bool}:∀(l:List (List Int)) (y:List Int),lT (λ(s:List Int×Bool) p=>if P p=true then((p,true),false) else((s.1,false),true)) l (y,false)=(match l.find? P with
 |some p=>(false,(p,true))
 |none=>(true,(y,false)))
 |[],y=>rfl
 |x::l,y=>by
  rw [lT,find?_cons]
  cases h:P x with
  |true=>simp
  |false=>
   simp only [Bool.false_eq_true,if_false,if_true]
   exact wB l y
theorem yX{k:Nat}{m:ae}(v:Vd m)(hk:50≤k)(j:Nat)(y:List Int):
 gk k (lm (λ(y14:(List Int)) (p16:(List Int))=>
  if¬((p16.length:Int)=(j:Int)) then(some (y14,true)) else(((dh k p16 k ((0:Int),(0:Int))):Option (Int)).bind λx18=>
  (cg k m x18).bind λr25=>
  if(0:Int) < (r25.length:Int) then(some (p16,false)) else(some (y14,true))))) (m.2.2.2.2.2.length:Int) (y,false)=some (match Kr m j with
  |some p=>(p,true)
  |none=>(y,false)):=by
 have g8:=v.g8
 unfold gk
 have h:=uV (σ:=List Int×Bool) (k:=k) (Y:=lm (λ(y14:(List Int)) (p16:(List Int))=>
  if¬((p16.length:Int)=(j:Int)) then(some (y14,true)) else(((dh k p16 k ((0:Int),(0:Int))):Option (Int)).bind λx18=>
  (cg k m x18).bind λr25=>
  if(0:Int) < (r25.length:Int) then(some (p16,false)) else(some (y14,true))))) (C:=(mG m).length) g8 (by omega)
  (λs p=>if(decide (p.length=j) && OX m p)=true then((p,true),false) else((s.1,false),true)) (λs=>s.2=false) (mG m).length k [] 0 (y,false) (by omega) (by omega) (by omega) (by simp;omega) (λs p hp hI=>by
   obtain⟨y,q⟩:=s;obtain rfl:q=false:=hI;have hb:=Jg hp;have hl:=M6 hb;unfold lm;simp only [];refine⟨?_,λh=>?_⟩
   .by_cases hj:p.length=j
    .have hs:=Ho p 0 rE λx hx=>by have:=hb.rng x hx;omega
     have e:(λi=>decide (dX (cJ p) i))=λi:Nat=>decide ((i:Int)∈p):=by
      funext i;have:=hs.2 i;have h0:=congrFun PS i;unfold cN at h0;rw [decide_eq_decide];show dX (p.foldl s9 0) i↔_;simp_all
     rw [if_neg (by omega),Gx (λx hx=>by have:=hb.rng x hx;omega) (by omega) (by omega),bs,show cg k m (cJ p)=_ from qE v hk hs.1,bs,length_map];rw [e];unfold OX;grind
    grind
   grind) rfl
 rw [show(m.2.2.2.2.2.length:Int)=(((mG m).length:Nat):Int) from rfl]
 rw [show cK k _ (((mG m).length:Nat):Int) k [] (0:Int) (y,false)=_ from h.1,bs,wB]
 unfold Kr M9
 grind
end Go.Proofs.YtddkbkkogpolaaaGreat
set_option linter.unusedVariables false
set_option linter.unusedSimpArgs false
namespace Go.Proofs.YtddkbkkogpolaaaGreat
open K Go Go.Proofs
theorem PY{N:Nat}:((List.range N).map λ(i:Nat)=>(i:Int))∈fp N N [] 0:=by
 have:=vf (C:=N) ((List.range N).map λ(i:Nat)=>(i:Int)) N [] 0 (by omega) (λx hx=>by grind) (by simp_all [List.pairwise_map,List.pairwise_lt_range]);simp_all
theorem He{m:ae}(v:Vd m):OX m ((List.range (mG m).length).map λ(i:Nat)=>(i:Int))=true:=by
 unfold OX eP;rw [decide_eq_true_iff];refine List.length_pos_of_mem (List.mem_filter.2 ⟨AU (b:=[]) ⟨by simp,by simp⟩,?_⟩);unfold Ea;grind
theorem Gy{m:ae}(v:Vd m):(Kr m (mG m).length).isSome=true:=by
 grind [Kr,M9,List.find?_isSome,PY,He]
def TD(m:ae):List Int×Int:=if¬(kQ m=0) then([],kQ m) else(((List.range ((mG m).length+1)).findSome? (Kr m)).getD [],0)
theorem yY{k:Nat}{m:ae}(v:Vd m)(hk:50≤k):∀(d j:Nat) (y:List Int) (aG:Nat),(mG m).length - j=d->j≤(mG m).length->d < aG->
 fW k m m aG (y,(j:Int))=some (((List.range' j (d+1)).findSome? (Kr m)).getD [],0)
 |d,j,y,0,_,_,h=>absurd h (not_lt_zero _)
 |d,j,y,aG+1,hd,hj,hf=>by
  have g8:=v.g8
  rw [fW]
  show(gk k (lm λy14 p16=>if¬((p16.length:Int)=(j:Int)) then _ else _) _ (y,false)).bind _=_
  rw [yX v hk j y,bs,List.range'_succ,findSome?_cons]
  have hck:ck ((j:Int)+1)=some (((j+1:Nat):Int)):=by grind [dw]
  cases e:Kr m j with
  |some p=>simp
  |none=>
   simp only [Bool.false_eq_true,if_false]
   rw [hck,bs]
   cases d with
   |zero=>
    have:j=(mG m).length:=by omega
    grind [Gy]
   |succ d=>exact yY v hk d (j+1) y aG (by omega) (by omega) (by omega)
theorem E9{k:Nat}{m:ae}(hs:Sm m)(hk:1010≤k):mU k m=some (TD m):=by
 unfold mU TD;rw [rD hs hk (by simp) (by simp) (by simp) (by simp),bs];by_cases hc:kQ m=0
 .have v:=Vd.of hc;have g8:=v.g8;have c1:=v.c1;have hb:rR (mC m) []=0:=nf.2 ⟨by simp,by simp⟩;have ho:K9 m [] [] []=true:=rfl;simp only [hc,hb,ho,not_true_eq_false,if_false,if_true,pB];have:=yY v (show 50≤k by omega) (mG m).length 0 [] k rfl (zero_le _) (by omega);simp_all [fW,List.range_eq_range']
 simp_all [not_false_eq_true,if_true,kO,if_false]
end Go.Proofs.YtddkbkkogpolaaaGreat
set_option linter.unusedVariables false
set_option linter.unusedSimpArgs false
namespace Go.Proofs.YtddkbkkogpolaaaGreat
open K Go Go.Proofs
def nO(x n:Nat):Int:=if x=n then 1 else if 0 < x then 3 else 2
theorem KD{k x n:Nat}:iK k (x:Int) (n:Int)=some (nO x n):=by
 have e1:ck ((0:Int)+1)=some 1:=rfl;have e2:ck ((1:Int)+1)=some 2:=rfl;unfold iK nO;grind
theorem yb{k:Nat}{m:ae}{n:Nat}{r2:(Option ae)×(List Int)×Int}{L:List (List Int)}{y:(List Int)×Int}(v:Vd m)(hk:50≤k)(hL:∀b∈L,Bg (mC m) b)(hl:L.length≤40)(hr:r2.2.1=L.map cJ)(hn:n≤(mD m).length)(h0:0≤y.2)(h1:y.2 < mC m):
 fX k (n:Int) r2 m y k (0,0)=some (rO m n y.2 0 L:Int):=by
 refine I7 (by omega) (by omega) (λn' s j hj s0 s1=>?_) (λn' s=>?_)
 .
  have hck:ck ((j:Int)+1)=some ((j:Int)+1):=dw (by omega) (by omega);have hcs:ck (s+1)=some (s+1):=dw (by omega) (by omega);have hb:=hL _ (List.getElem_mem hj);have hg:aR r2.2.1 (j:Int)=some (cJ L[j]):=by simp_all [IJ,Int.toNat_natCast,List.getElem?_map,List.getElem?_eq_getElem]
  have hlt:(j:Int) < (r2.2.1.length:Int):=by simp_all
  rw [fX,if_pos hlt,hg,bs,MX v (by omega) hb hn h0 h1];grind
 simp_all [fX,if_neg,length_map]
theorem MB{C:Int}{g:Int->Int}{f:Nat->(List Int)×Int->Option (List Int)}{k:Nat}(h0:0≤C)(hk:C.toNat < k)(hc:C≤1000)
 (step:∀(n:Nat) (s:List Int) (j:Nat),(j:Int) < C->s.length=j->f (n+1) (s,(j:Int))=f n (s++[g j],(j:Int)+1)) (stop:∀(n:Nat) (s:List Int),f (n+1) (s,C)=some s):f k ([],0)=some ((List.range C.toNat).map λ(j:Nat)=>g j):=by
 have key:=iq (T:=(List Int)×Int) (f:=f) (List.range C.toNat) (λ(s:List Int) j=>(s,j)) (λs j _=>s++[g j]) (λj s=>s.length=j) (λs=>some s)
  (λn s j hj hs=>by
   simp_all)
  (λn s _=>by grind) (n:=k) (s0:=[]) (by simp_all) rfl
 rw [show f k ([],0)=_ from key.1]
 have hsnoc:∀(l:List Nat) (j:Nat) (s:List Int),lH (λ(s:List Int) j x=>s++[g ((x:Nat):Int)]) j l s=s++l.map λ(x:Nat)=>g x:=by
  intro l
  induction l with
  |nil=>simp_all [lH]
  |cons x l ih=>grind [lH]
 rw [List.range_eq_range',wZ (g:=λs j x=>s++[g ((x:Nat):Int)]) _ 0 0 _ rfl,hsnoc,nil_append]
def xA(m:ae)(n:Int):List Int×Int:=if¬(kQ m=0) then([],kQ m) else if¬(0≤n/\n≤((mD m).length:Int)) then([],3) else if(eP m cN).length=0 then([],9) else
 ((List.range (mC m).toNat).map λ(c:Nat)=>nO (rO m n.toNat c 0 (eP m cN)) (eP m cN).length,0)
theorem Fa{k:Nat}{m:ae}{n:Int}(hs:Sm m)(hk:1010≤k):mV k m n=some (xA m n):=by
 unfold mV xA;rw [E8 hs hk (by simp) (by simp) (by simp),bs];by_cases hc:kQ m=0
 .have v:=Vd.of hc;have c1:=v.c1;have c5:=v.c5;have hop:K9 m [] [] [n]=decide (0≤n/\n≤((mD m).length:Int)):=by simp [K9,yT,vD]
  simp only [hc,hop,not_true_eq_false,if_false,decide_eq_true_eq];by_cases hn:0≤n/\n≤((mD m).length:Int)
  .simp only [hn,and_self,not_true_eq_false,if_false];have hl:=rJ v (but:=cN);have hL:∀x∈eP m cN,Bg (mC m) x:=λx h=>yr v h;generalize eP m cN=L at *;by_cases h0:L.length=0
   .simp_all [if_pos,kO]
   .rw [if_neg h0,if_neg h0];obtain⟨n',rfl⟩:∃n':Nat,n=n':=⟨n.toNat,by omega⟩;simp only [pB,not_true_eq_false,if_false,Int.toNat_natCast];rw [MB (f:=fY k m (n':Int) (some m,L.map cJ,0) m) (k:=k) (C:=mC m) (g:=λc=>nO (rO m n' c 0 L) L.length) (by omega) (by omega) (by omega) (λn s j hj hs=>?_) (λn s=>?_),bs]
    .have hck:ck ((j:Int)+1)=some ((j:Int)+1):=dw (by omega) (by omega);have hok:∀x:Int,bW (length s+length [x]):=λx=>Vz (n:=10) (by omega) (by omega);rw [fY,if_pos hj,yb v (by omega) hL (by omega) rfl (by omega) (y:=(s,(j:Int))) (by omega) hj,bs];show Option.bind (Option.bind (iK k _ ((L.map cJ).length:Int)) _) _=_;rw [length_map,KD,bs];show Option.bind (Option.bind (cP (bW (length s+length [nO (rO m n' j 0 L) L.length]))) λ_=>some (s++[nO (rO m n' j 0 L) L.length])) _=_;simp_all [dB,bs]
    .rw [fY,if_neg (Int.lt_irrefl _)]
  simp_all [not_false_eq_true,if_true,kO,if_pos]
 simp_all [not_false_eq_true,if_true,kO]
end Go.Proofs.YtddkbkkogpolaaaGreat
set_option linter.unusedVariables false
set_option linter.unusedSimpArgs false
namespace Go.Proofs.YtddkbkkogpolaaaGreat
open K Go Go.Proofs
theorem IE:rG 1200=some true:=by decide+kernel
theorem W.get{α:Type}{x:Option α}{a:α}(h:W x λy=>y=a):x=some a:=by
 obtain⟨b,e,rfl⟩:=h;exact e
