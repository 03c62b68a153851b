import Derived.Test.YtddkbkkogpolaaaGreatVFF2
open Nat
open List hiding mem_of_getElem?
open Array hiding mem_of_getElem? mk
set_option linter.unusedVariables false
set_option linter.unusedSimpArgs false
namespace Go.Proofs.YtddkbkkogpolaaaGreat
open K Go Go.Proofs
def W{α:Type}(x:Option α)(Q:α->Prop):Prop:=∃a,x=some a/\Q a
namespace W
variable {α β ε:Type}{Q:β->Prop}
theorem ret{a:β}(h:Q a):W (some a) Q:=⟨a,rfl,h⟩
theorem mono{x:Option β}{R:β->Prop}(h:W x R)(hq:∀a,R a->Q a):W x Q:=let ⟨a,e,r⟩:=h;⟨a,e,hq a r⟩
theorem bind{x:Option α}{f:α->Option β}{R:α->Prop}(h:W x R)(hf:∀a,R a->W (f a) Q):W (x.bind f) Q:=by
 obtain⟨a,rfl,r⟩:=h;grind
theorem ck{n:Int}{f:Int->Option β}(h1: -9223372036854775808≤n)(h2:n≤9223372036854775807)(hf:W (f n) Q):W ((K.ck n).bind f) Q:=by
 simp_all [K.ck,if_pos]
theorem chk{p:Prop}[Decidable p]{f:Unit->Option β}(h:p)(hf:W (f ()) Q):W ((cH p).bind f) Q:=by
 simp_all [cH,if_pos]
theorem at_{l:List α}{i:Int}{f:α->Option β}(h0:0≤i)(h1:i < l.length)(hf:∀x,l[i.toNat]? =some x->W (f x) Q):W ((aV l i).bind f) Q:=by
 simp_all [aV,if_pos,List.getElem?_eq_getElem]
theorem ite{p:Prop}[Decidable p]{a b:Option β}(h1:p->W a Q)(h2:¬p->W b Q):W (if p then a else b) Q:=by
 grind
theorem iteB{p:Prop}[Decidable p]{a b:Option α}{f:α->Option β}(h1:p->W (a.bind f) Q)(h2:¬p->W (b.bind f) Q):W ((if p then a else b).bind f) Q:=by
 grind
theorem loop{T:Type}{f:Nat->T->Option β}(I:Nat->T->Prop)(step:∀aO m y,I m y->(∀m' y',m' < m->I m' y'->W (f aO y') Q)->W (f (aO+1) y) Q):∀m aO y,m < aO->I m y->W (f aO y) Q:=by
 intro m
 induction m using Nat.strongRecOn with
 |_ m ih=>
  intro aO y hm hI;cases aO with
  |zero=>omega
  |succ aO=>grind
end W
theorem wrap_u64(n:Int):0≤IntKind.u64.wrap n/\IntKind.u64.wrap n < 18446744073709551616:=by
 simp_all [Int.emod_nonneg,Int.emod_lt_of_pos,IntKind.wrap,IntKind.signed,IntKind.bits]
theorem yK{n:Int}(h0:0≤n)(h1:n < 18446744073709551616):IntKind.u64.wrap n=n:=by
 simp_all [IntKind.wrap,IntKind.signed,IntKind.bits,Int.emod_eq_of_lt]
def Lo(l:bD)(m:Int):Prop:=0≤l.2.1/\l.2.1≤m
theorem KD{k:Nat}{l:bD}{m:Int}(h:Lo l m)(hm:m≤1000000000):W (ik k l) λr=>0≤r.1/\r.1 < 72057594037927936/\Lo r.2 (m+1):=by
 obtain⟨h0,h1⟩:=h;unfold ik
 have fin:∀x:Int,W ((K.ck (l.2.1+1)).bind λx4=>some (io .u64 (so .u64 (IntKind.u64.wrap ((so .u64 x (io .u64 x (29:Int))) * (2685821657736338717:Int))) (io .u64 (IntKind.u64.wrap ((so .u64 x (io .u64 x (29:Int))) * (2685821657736338717:Int))) (32:Int))) (8:Int),(l.1,x4,x)))
  λr=>0≤r.1/\r.1 < 72057594037927936/\Lo r.2 (m+1):=λx=>by
  refine W.ck (by omega) (by omega) (W.ret ?_)
  generalize IntKind.u64.wrap ((so .u64 x (io .u64 x (29:Int))) * (2685821657736338717:Int))=y
  have hx:0≤so .u64 y (io .u64 y 32)/\so .u64 y (io .u64 y 32) < 18446744073709551616:=wrap_u64 _
  have e:io .u64 (so .u64 y (io .u64 y 32)) 8=(so .u64 y (io .u64 y 32)) / 256:=by
   unfold io;rw [Int.fdiv_eq_ediv_of_nonneg _ (by decide)];rfl
  refine⟨?_,?_,?_,?_⟩
  .
   omega
  .
   omega
  .
   grind
  simp_all
 refine W.iteB (λhlt=>?_) (λ_=>fin _);simp_all [aV,if_pos,List.getElem?_eq_getElem]
theorem ky{k:Nat}{l:bD}{m n:Int}(h:Lo l m)(hm:m≤1000000000)(hn:n≤1000000000):W (bR k l n) λr=>0≤r.1/\(0≤n->r.1≤n)/\Lo r.2 (m+1):=by
 unfold bR;refine W.ite (λh1=>W.ret ⟨Int.le_refl 0,λh=>h,h.1,by show l.2.1≤m+1;have:=h.2;omega⟩) (λh1=>?_);refine W.bind (KD h hm) λr hr=>?_;refine W.ck (by omega) (by omega) ?_;have e:IntKind.u64.wrap (n+1)=n+1:=yK (by omega) (by omega);refine W.chk (by omega) ?_;rw [e];have h2:Int.tmod r.1 (n+1)=r.1 % (n+1):=Int.tmod_eq_emod_of_nonneg hr.1;have h3:=Int.emod_nonneg r.1 (show n+1≠0 by omega);have h4:=Int.emod_lt_of_pos r.1 (show 0 < n+1 by omega);grind [W.ck,W.ret]
theorem Dk{k:Nat}{l:bD}{m a b:Int}(h:Lo l m)(hm:m≤1000000000)(ha:0≤a)(hab:a≤b)(hb:b≤1000000):W (fP k l a b) λr=>a≤r.1/\r.1≤b/\Lo r.2 (m+1):=by
 grind [fP,W.ck,W.bind,ky,W.ret]
theorem tK{k:Nat}{l:bD}{m a:Int}(h:Lo l m)(hm:m≤1000000000)(ha:0≤a)(hb:a≤1000000):W (dS k l a) λr=>Lo r.2 (m+1):=by
 grind [dS,W.ck,W.bind,ky,W.ret]
theorem G2{k:Nat}{l:bD}{m:Int}{some_:List Int}(h:Lo l m)(hm:m≤1000000000)(h0:0 < some_.length)(h1:some_.length≤1000000):W (gR k l some_) λr=>r.1∈some_/\Lo r.2 (m+1):=by
 grind [gR,W.ck,W.bind,ky,W.at_,W.ret,List.mem_of_getElem?]
theorem dY{α:Type}{l:List α}{i:Nat}(h:i < l.length):aV l (i:Int)=some l[i]:=by
 rw [aV,if_pos (by omega)];simp_all
section
variable {α β γ ε σ T:Type}
theorem bs{a:α}{f:α->Option β}:(some a).bind f=f a:=by simp_all
theorem dH{n:Int}(h1: -9223372036854775808≤n)(h2:n≤9223372036854775807):K.ck n=some n:=by simp_all [K.ck,if_pos]
theorem dz{p:Prop}[Decidable p](h:p):cH p=some ():=by rw [cH,if_pos h]
theorem ya{l:List α}{i:Int}(h0:0≤i)(h:i.toNat < l.length):aV l i=some l[i.toNat]:=by rw [aV,if_pos h0];simp_all
theorem me{a:α}{g:ε->Option β}{f:α->Option β}:K.bE (some (.ok a)) g f=f a:=by simp_all [K.bE]
theorem py{e:ε}{g:ε->Option β}{f:α->Option β}:K.bE (some (.error e)) g f=g e:=by simp_all [K.bE]
theorem rf{q:α}{a:β}{b:α->β}:fK (some q) a b=b q:=by simp_all [fK]
theorem tU{a:β}{b:α->β}:fK none a b=a:=by simp_all [fK]
theorem Us{n:Nat}(h:n≤4294967296):bM n:=h
def zT(g:σ->Nat->α->σ):Nat->List α->σ->σ
 |_,[],s=>s
 |j,x::l,s=>zT g (j+1) l (g s j x)
theorem i7(l:List α)(mk:σ->Int->T)(g:σ->Nat->α->σ)(P:Nat->σ->Prop){f:Nat->T->Option β}(fin:σ->Option β)
 (step:∀n s (j:Nat) (h:j < l.length),P j s->f (n+1) (mk s j)=f n (mk (g s j l[j]) ((j:Int)+1))/\P (j+1) (g s j l[j]))
 (stop:∀n s,P l.length s->f (n+1) (mk s l.length)=fin s) {s0:σ} {n:Nat} (hn:l.length < n) (h0:P 0 s0):f n (mk s0 0)=fin (zT g 0 l s0)/\P l.length (zT g 0 l s0):=by
 have key:∀(m:List α) (pre:List α) (n:Nat) (s:σ),l=pre++m->m.length < n->P pre.length s->f n (mk s pre.length)=fin (zT g pre.length m s)/\P l.length (zT g pre.length m s):=by
  intro m
  induction m with
  |nil=>
   intro pre n s e hn hp;obtain⟨n,rfl⟩:∃n',n=n'+1:=⟨n - 1,by omega⟩;have:l.length=pre.length:=by grind
   rw [<-this] at hp⊢;exact⟨stop n s hp,hp⟩
  |cons x m ih=>
   intro pre n s e hn hp;simp only [length_cons] at hn;obtain⟨n,rfl⟩:∃n',n=n'+1:=⟨n - 1,by omega⟩;have hl:pre.length < l.length:=by grind
   have hx:l[pre.length]=x:=by simp [e]
   obtain⟨h1,h2⟩:=step n s pre.length hl hp;rw [hx] at h1 h2;have:=ih (pre++[x]) n (g s pre.length x) (by grind) (by omega) (by simp_all);rw [length_append] at this;simp only [length_cons,length_nil,Nat.zero_add] at this;rw [h1];exact this
 have:=key l [] n s0 rfl hn h0
 exact this
def eG(g:σ->Nat->α->Except ε σ):Nat->List α->σ->Except ε σ
 |_,[],s=>.ok s
 |j,x::l,s=>match g s j x with
  | .error e=>.error e
  | .ok s'=>eG g (j+1) l s'
theorem wO(l:List α)(mk:σ->Int->T)(g:σ->Nat->α->Except ε σ)(P:Nat->σ->Prop){f:Nat->T->Option β}(fin:Except ε σ->Option β)
 (step:∀n s (j:Nat) (h:j < l.length),P j s->(∃e,g s j l[j]= .error e/\f (n+1) (mk s j)=fin (.error e))\/(∃s',g s j l[j]= .ok s'/\f (n+1) (mk s j)=f n (mk s' ((j:Int)+1))/\P (j+1) s'))
 (stop:∀n s,P l.length s->f (n+1) (mk s l.length)=fin (.ok s)) {s0:σ} {n:Nat} (hn:l.length < n) (h0:P 0 s0):f n (mk s0 0)=fin (eG g 0 l s0):=by
 have key:∀(m:List α) (pre:List α) (n:Nat) (s:σ),l=pre++m->m.length < n->P pre.length s->f n (mk s pre.length)=fin (eG g pre.length m s):=by
  intro m
  induction m with
  |nil=>
   intro pre n s e hn hp;obtain⟨n,rfl⟩:∃n',n=n'+1:=⟨n - 1,by omega⟩;have:l.length=pre.length:=by grind
   rw [<-this] at hp⊢;exact stop n s hp
  |cons x m ih=>
   intro pre n s e hn hp;simp only [length_cons] at hn;obtain⟨n,rfl⟩:∃n',n=n'+1:=⟨n - 1,by omega⟩;have hl:pre.length < l.length:=by grind
   have hx:l[pre.length]=x:=by simp [e]
   rcases step n s pre.length hl hp with⟨e',h1,h2⟩ |⟨s',h1,h2,h3⟩
   .grind [eG]
   .rw [hx] at h1;have:=ih (pre++[x]) n s' (by grind) (by omega) (by simp_all);simp_all [length_append,length_cons,length_nil,Nat.zero_add,eG]
 exact key l [] n s0 rfl hn h0
end
section
variable {α β ε σ T:Type}
theorem lz(l:List α)(mk:σ->Int->T)(g:σ->Nat->α->Except ε σ)(P:Nat->σ->Prop){f:Nat->T->Option β}(fin:Except ε σ->Option β)
 (step:∀n s (j:Nat) (h:j < l.length),P j s->(f (n+1) (mk s j)=match g s j l[j] with | .error e=>fin (.error e) | .ok s'=>f n (mk s' ((j:Int)+1)))/\∀s',g s j l[j]= .ok s'->P (j+1) s')
 (stop:∀n s,P l.length s->f (n+1) (mk s l.length)=fin (.ok s)) {s0:σ} {n:Nat} (hn:l.length < n) (h0:P 0 s0):f n (mk s0 0)=fin (eG g 0 l s0):=
 wO l mk g P fin (λn s j h hp=>by
  obtain⟨h1,h2⟩:=step n s j h hp
  grind) stop hn h0
end
theorem uR{α:Type}(p:α->Bool):∀(l:List α) (j:Nat),eG (λ(_:Unit) j x=>if p x then Except.error (j:Int) else .ok ()) j l ()=match l.findIdx? p with |some i=>.error ((i+j:Nat):Int) |none=>.ok ()
 |[],j=>by simp [eG]
 |x::l,j=>by
  rw [eG,findIdx?_cons]
  by_cases h:p x=true
  .
   simp [h]
  .
   simp only [h,if_false,Bool.false_eq_true]
   rw [uR p l (j+1)]
   grind
theorem sV{k:Nat}{a b:List Int}(h:a.length < k)(hk:a.length≤1000000):fg k a b=some (decide (a=b)):=by
 unfold fg;by_cases hl:a.length=b.length
 .rw [if_neg (by simp [hl])]
  have key:=wO (f:=dE k a b) a (λ(_:Unit) j=>j) (λ_ j x=>if x=b[j]?.getD 0 then .ok () else Except.error false) (λ_ _=>True) (λr=>some r)
   (λn s j hj _=>by
    have hjb:j < b.length:=by omega
    have hb:b[j]?.getD 0=b[j]:=by simp_all
    have hck:ck ((j:Int)+1)=some ((j:Int)+1):=dH (by omega) (by omega);rw [hb];simp only [dE,Int.ofNat_lt,hj,if_true,dY hj,dY hjb,bs];by_cases e:a[j]=b[j] <;> simp [e,hck])
   (λn s _=>by simp [dE]) (n:=k) (s0:=()) h trivial
  rw [show dE k a b k 0=_ from key]
  have:∀(a:List Int) (j:Nat),a.length+j=b.length->eG (λ(_:Unit) j x=>if x=b[j]?.getD 0 then .ok () else Except.error false) j a ()=if a=b.drop j then .ok () else .error false:=by
   intro a
   induction a with
   |nil=>
    simp_all [drop_eq_nil_of_le,length_nil,eG]
   |cons x a ih=>
    intro j hj;simp only [length_cons] at hj;have hjb:j < b.length:=by omega
    have hd:b.drop j=b[j]::b.drop (j+1):=drop_eq_getElem_cons hjb;have hb:b[j]?.getD 0=b[j]:=by simp_all
    rw [eG,hb,hd];grind
  rw [this a 0 (by omega),drop_zero];by_cases e:a=b
  .rw [if_pos e,me,decide_eq_true e]
  .rw [if_neg e,py,decide_eq_false e]
 .rw [if_pos (by omega),decide_eq_false (λe=>hl (by rw [e]))]
def jv(s:Int):Prop:=0≤s/\s < 256
def ek(s:Int)(i:Nat):Prop:=s.toNat.testBit i=true
instance (s:Int) (i:Nat):Decidable (ek s i):=by unfold ek;infer_instance
theorem tD{x:Nat}(h:x < 256):IntKind.u8.wrap (x:Int)=x:=by
 grind [IntKind.wrap,IntKind.signed,IntKind.bits]
theorem uH{s:Int}(h:jv s):∃n:Nat,n < 256/\s=n:=⟨s.toNat,by have:=h.1;have:=h.2;omega,by have:=h.1;omega⟩
theorem G3{n:Nat}(h:n < 256):(BitVec.ofInt IntKind.u8.bits (n:Int)).toNat=n:=by
 show(BitVec.ofInt 8 (n:Int)).toNat=n;simp_all
theorem HO{n m:Nat}(hn:n < 256)(hm:m < 256):n |||m < 256:=or_lt_two_pow (n:=8) hn hm
theorem KR{n m:Nat}(hn:n < 256):n &&& m < 256:=Nat.lt_of_le_of_lt and_le_left hn
theorem Oy{a b:Int}(ha:jv a)(hb:jv b):jv (Dj .u8 a b)/\∀i,ek (Dj .u8 a b) i↔ek a i\/ek b i:=by
 obtain⟨n,hn,rfl⟩:=uH ha;obtain⟨m,hm,rfl⟩:=uH hb
 have e:Dj .u8 (n:Int) (m:Int)=((n |||m:Nat):Int):=by
  grind [Dj,BitVec.toNat_or,G3,tD,HO]
 rw [e];refine⟨⟨by omega,by grind [HO]⟩,λi=>?_⟩;simp [ek,testBit_or]
theorem Og{x:Int}(h0:0≤x)(h8:x < 8):jv (ou .u8 1 x)/\∀i:Nat,ek (ou .u8 1 x) i↔(i:Int)=x:=by
 obtain⟨n,rfl⟩:=Int.eq_ofNat_of_zero_le h0;have hn:n < 8:=by omega
 have e:ou .u8 1 (n:Int)=((2 ^ n:Nat):Int):=by
  unfold ou
  have h1:min (Int.toNat (n:Int)) IntKind.u8.bits=n:=by
   show min n 8=n;omega
  rw [h1,Int.one_mul];have h2:2 ^ n < 256:=Nat.pow_lt_pow_right (by decide) hn;grind [tD]
 rw [e];have h9:2 ^ n < 256:=Nat.pow_lt_pow_right (by decide) hn;refine⟨⟨Int.natCast_nonneg _,Int.ofNat_lt.2 h9⟩,λi=>?_⟩;simp only [ek,Int.toNat_natCast,testBit_two_pow,decide_eq_true_eq];omega
theorem xZ{k:Nat}{s:Int}(hs:jv s){i:Nat}(hi:i < 8):eV k s (i:Int)=some (decide (ek s i)):=by
 obtain⟨n,hn,rfl⟩:=uH hs;unfold eV;rw [cH,if_pos (by omega)];show some _=some _;congr 1
 have e1:io .u8 (n:Int) (i:Int)=((n >>> i:Nat):Int):=by
  unfold io
  have h1:min (Int.toNat (i:Int)) IntKind.u8.bits=i:=by
   show min i 8=i;omega
  grind [Int.fdiv_eq_ediv_of_nonneg,Int.natCast_nonneg,Nat.shiftRight_eq_div_pow]
 have hlt:n >>> i < 256:=Nat.lt_of_le_of_lt (by rw [Nat.shiftRight_eq_div_pow];exact div_le_self _ _) hn
 have e2:qi .u8 ((n >>> i:Nat):Int) 1=(((n >>> i) &&& 1:Nat):Int):=by
  grind [qi,BitVec.ofInt,BitVec.toNat_and,G3,tD,KR]
 rw [e1,e2]
 have e3:(((n >>> i) &&& 1:Nat):Int)=1↔ek (n:Int) i:=by
  rw [ek,Int.toNat_natCast,testBit];grind
 simp_all
end Go.Proofs.YtddkbkkogpolaaaGreat
set_option linter.unusedVariables false
set_option linter.unusedSimpArgs false
namespace Go.Proofs.YtddkbkkogpolaaaGreat
open K Go Go.Proofs
abbrev mC(m:ab):Int:=m.1
abbrev mW(m:ab):Int:=m.2.1
abbrev mS(m:ab):Int:=m.2.2.1
abbrev mH(m:ab):Int:=m.2.2.2.1
abbrev mD(m:ab):List (List (List Int)):=m.2.2.2.2.1
abbrev mG(m:ab):List aG:=m.2.2.2.2.2
def Ai(l:List Int)(c:Int):Option (List Int):=(l.findIdx? λy=>decide (c=y)).map λi=>(if 0 < i then [l[i-1]?.getD 0] else [])++(l[i+1]?).toList
def Aj(d:List (List Int))(c:Int):Option (List Int):=d.findSome? λl=>Ai l c
def Ak(m:ab)(d:Nat)(c:Int):Option (List Int):=Aj ((mD m)[d]?.getD []) c
def mO(m:ab)(c:Int):Nat->Nat
 |0=>if(Ak m 0 c).isSome then 0 else 1
 |d+1=>if(Ak m (d+1) c).isSome then 0 else mO m c d+1
def mP(m:ab)(B:Int->Bool):Nat->Int->Int
 |0,c=>if B c then mW m else -1
 |d+1,c=>match Ak m d c with
  |none=>if mH m≤(mO m c d:Int) then -1 else mP m B d c
  |some l=>if 0≤mP m B d c then mP m B d c+1 else if l.any λx=>decide (mW m≤mP m B d x) then 0 else -1
theorem IF{m:ab}{B:Int->Bool}(hw:0≤mW m):∀{d:Nat} {c:Int}, -1≤mP m B d c
 |0,c=>by grind [mP]
 |d+1,c=>by
  have:=IF (B:=B) hw (d:=d) (c:=c)
  grind [mP]
theorem IE{m:ab}{B:Int->Bool}(hw:mW m≤3):∀{d:Nat} {c:Int},mP m B d c≤3+d
 |0,c=>by grind [mP]
 |d+1,c=>by
  have:=IE (B:=B) hw (d:=d) (c:=c)
  grind [mP]
theorem HV{k:Nat}{l:List Int}{x:Int}(hk:l.length < k)(hl:l.length≤1000000):gh k l x=some (match l.findIdx? (λy=>decide (x=y)) with |some i=>(i:Int) |none=> -1):=by
 unfold gh
 have key:=lz (f:=c8 k l x) l (λ(_:Unit) j=>j) (λ_ j y=>if decide (x=y)=true then Except.error (j:Int) else .ok ()) (λ_ _=>True) (λr=>some r)
  (λn s j hj _=>by
   have hck:ck ((j:Int)+1)=some ((j:Int)+1):=dH (by omega) (by omega);refine⟨?_,λ_ _=>trivial⟩;simp only [c8,Int.ofNat_lt,hj,if_true,dY hj,bs,decide_eq_true_eq];grind)
  (λn s _=>by simp [c8]) (n:=k) (s0:=()) hk trivial
 rw [show c8 k l x k 0=_ from key,uR (λy=>decide (x=y)) l 0];grind [decide,me,py]
def nF:List Int->List Int
 |[a,b]=>if b < a then [b,a] else [a,b]
 |l=>l
theorem uc{l:List Int}{x:Int}:x∈nF l↔x∈l:=by
 unfold nF;grind
theorem JW{k:Nat}{l:List Int}(hk:10≤k)(hl:l.length≤2):fU k l=some (nF l):=by
 obtain⟨k,rfl⟩:∃n,k=n+4:=⟨k - 4,by omega⟩;have e0:pm (k+4) (IntKind.u64.wrap (0:Int))=some 0:=by kernel_rfl
 have e1:pm (k+4) (IntKind.u64.wrap (1:Int))=some 1:=by kernel_rfl
 have e2:pm (k+4) (IntKind.u64.wrap (2:Int))=some 2:=by kernel_rfl
 have c0:ck ((0:Int) - 0)=some 0:=rfl;have c1:ck ((1:Int) - 0)=some 1:=rfl;have c2:ck ((2:Int) - 0)=some 2:=rfl;have d1:ck ((0:Int)+1)=some 1:=rfl;have d2:ck ((1:Int)+1)=some 2:=rfl;have d3:ck ((1:Int) - 1)=some 0:=rfl;match l,hl with
 |[],_=>
  simp only [fU,length_nil,Int.ofNat_zero,e0,bs,cP,cz,bV,be,nF,c0,d1];rfl
 |[a],_=>
  simp_all [fU,bs,cP,cz,bV,be,nF]
 |[a,b],_=>
  have:(([a,b]:List Int).length:Int)=2:=rfl;have g0:aV [a,b] (0:Int)=some a:=rfl;have g1:aV [a,b] (1:Int)=some b:=rfl;have hn:∀x:Int,kQ (k+4) x=some false:=λx=>by simp [kQ]
  have hl:∀x y:Int,oz (k+4) x y=some (decide (x < y)):=λx y=>by simp [oz,hn]
  simp only [fU,this,e2,bs,cP,cz,bV,be,bG,c2,d1,d2,d3,g0,g1,hl];grind [nF,bG,bs,aV]
end Go.Proofs.YtddkbkkogpolaaaGreat
set_option linter.unusedVariables false
set_option linter.unusedSimpArgs false
namespace Go.Proofs.YtddkbkkogpolaaaGreat
open K Go Go.Proofs
structure Vd(m:ab):Prop where
 c1:1≤mC m
 c5:mC m≤5
 w0:0≤mW m
 w3:mW m≤3
 s0:0≤mS m
 s3:mS m≤3
 h1:1≤mH m
 h3:mH m≤3
 d1:1≤(mD m).length
 d6:(mD m).length≤6
 r3:∀r∈mD m,r.length≤3
 l5:∀r∈mD m,∀l∈r,l.length≤5
 x5:∀r∈mD m,∀l∈r,∀x∈l,0≤x/\x < mC m
 nd:∀r∈mD m,r.flatten.Nodup
 g8:(mG m).length≤8
 gl:∀g∈mG m,0≤g.1/\g.1 < mC m/\0≤g.2.1/\g.2.1≤(mD m).length
theorem Ah{l:List Int}{c:Int}{s:List Int}(h:Ai l c=some s):s.length≤2/\∀x∈s,x∈l:=by
 unfold Ai at h;cases e:l.findIdx? (λy=>decide (c=y)) with
 |none=>simp_all
 |some i=>
  rw [e] at h;obtain rfl:=Option.some.inj h;have hi:i < l.length:=(List.findIdx?_eq_some_iff_getElem.1 e).1;grind
theorem Iw{d:List (List Int)}{c:Int}{s:List Int}(h:Aj d c=some s):∃l∈d,Ai l c=some s:=by
 simp_all [Aj,List.exists_of_findSome?_eq_some]
theorem uZ{m:ab}(v:Vd m){d:Nat}{c:Int}{s:List Int}(h:Ak m d c=some s):s.length≤2/\∀x∈s,0≤x/\x < mC m:=by
 obtain⟨l,hl,h2⟩:=Iw h;cases e:(mD m)[d]? with
 |none=>simp_all
 |some r=>
  rw [e] at hl;have h3:=Ah h2;exact⟨h3.1,λx hx=>v.x5 r (List.mem_of_getElem? e) l hl x (h3.2 x hx)⟩
def PC(m:ab)(c:Int)(d:Nat):Int ⊕ List Int:=match Ak m d c with
 |some s=>.inr (nF s)
 |none=>.inl (mO m c d)
theorem zk{k:Nat}{c:Int}{r:List (List Int)}(hk:10≤k)(hr:r.length≤3)(hl:∀l∈r,l.length≤5):
 cF k c r k 0=some (match Aj r c with |some s=>.error (.inr (nF s)) |none=>.ok ()):=by
 have key:=lz (f:=cF k c r) r (λ(_:Unit) j=>j) (λ_ _ l=>match Ai l c with |some s=>Except.error (Sum.inr (nF s):Int ⊕ List Int) |none=>.ok ()) (λ_ _=>True) (λx=>some x)
  (λn s j hj _=>by
   refine⟨?_,λ_ _=>trivial⟩;have h5:=hl _ (List.getElem_mem hj);have hck:ck ((j:Int)+1)=some ((j:Int)+1):=dH (by omega) (by omega);simp only [cF,Int.ofNat_lt,hj,if_true,dY hj,bs];rw [HV (by omega) (by omega),bs];generalize r[j]=l at *;have hb:Ai l c=(l.findIdx? λy=>decide (c=y)).map λi=>(if 0 < i then [l[i-1]?.getD 0] else [])++(l[i+1]?).toList:=rfl;cases e:l.findIdx? (λy=>decide (c=y)) with
   |none=>
    simp_all
   |some i=>
    rw [e] at hb;simp only [Option.map_some] at hb;have hi:i < l.length:=(List.findIdx?_eq_some_iff_getElem.1 e).1;rw [hb];have hlen:=(Ah hb).1;have c1:ck ((i:Int) - 1)=some ((i:Int) - 1):=dH (by omega) (by omega);have c2:ck ((i:Int)+1)=some ((i:Int)+1):=dH (by omega) (by omega);have ok0:cH (bM (length ([]:List Int)+length [l[i-1]?.getD 0]))=some ():=dz (by simp [bM]);simp only [show(0:Int)≤(i:Int) from Int.natCast_nonneg _,if_true,c1,c2,bs]
    have e1:(if(0:Int) < (i:Int) then((aV l ((i:Int) - 1)).bind λx11=>(cH (bM (length ([]:List Int)+length [x11]))).bind λ_=>some (([]:List Int)++[x11])) else some ([]:List Int))=some (if 0 < i then [l[i-1]?.getD 0] else []):=by
     by_cases h0:0 < i
     .have g:aV l ((i:Int) - 1)=some (l[i-1]?.getD 0):=by
       grind [dY,List.getElem?_eq_getElem]
      simp_all
     simp_all
    rw [e1,bs];generalize (if 0 < i then [l[i-1]?.getD 0] else [])=p at *
    have e2:(if(i:Int)+1 < (l.length:Int) then((aV l ((i:Int)+1)).bind λx18=>(cH (bM (length p+length [x18]))).bind λ_=>some (p++[x18])) else some p)=some (p++(l[i+1]?).toList):=by
     by_cases h1:i+1 < l.length
     .have g:aV l ((i:Int)+1)=some l[i+1]:=by
       have:((i:Int)+1)=((i+1:Nat):Int):=by omega
       rw [this,dY h1]
      rw [if_pos (by omega),g,bs,List.getElem?_eq_getElem h1];grind [List.getElem?_eq_getElem,dz,length_append,bM,bs]
     grind
    simp_all [bs,JW])
  (λn s _=>by simp [cF]) (n:=k) (s0:=()) (by omega) trivial
 rw [show cF k c r k 0=_ from key]
 congr 1
 have:∀(r:List (List Int)) (j:Nat),eG (λ(_:Unit) _ l=>match Ai l c with |some s=>Except.error (Sum.inr (nF s):Int ⊕ List Int) |none=>.ok ()) j r ()=match Aj r c with |some s=>.error (.inr (nF s)) |none=>.ok ():=by
  intro r
  induction r with
  |nil=>intro j;rfl
  |cons l r ih=>
   intro j;rw [eG];unfold Aj;rw [findSome?_cons];cases Ai l c with
   |none=>exact ih (j+1)
   |some s=>rfl
 simp_all
theorem DD{m:ab}{c:Int}:∀{d:Nat},mO m c d≤d+1
 |0=>by grind [mO]
 |d+1=>by have:=DD (m:=m) (c:=c) (d:=d);grind [mO]
theorem uo{k:Nat}{m:ab}{c:Int}(v:Vd m)(hk:10≤k):∀(d m0:Nat),d < m0->d < (mD m).length->ee k m0 m c (d:Int)=some (PC m c d)
 |d,0,h,_=>absurd h (not_lt_zero _)
 |d,m0+1,h,hd=>by
  have hm:=List.getElem_mem hd
  unfold ee
  rw [dY hd,bs,zk hk (v.r3 _ hm) (v.l5 _ hm)]
  have hbes:Ak m d c=Aj (mD m)[d] c:=by unfold Ak;simp_all
  cases e:Aj (mD m)[d] c with
  |some s=>
   simp_all [py,PC]
  |none=>
   rw [me]
   unfold PC
   rw [hbes,e]
   match d,hd,h with
   |0,hd,h=>
    simp_all [mO]
   |d+1,hd,h=>
    have h6:=v.d6
    have c1:ck (((d+1:Nat):Int) - 1)=some (d:Int):=by grind [dH]
    have ih:=uo v hk d m0 (by omega) (by omega) (c:=c)
    rw [if_pos (by omega),c1,bs,ih,bs]
    rw [hbes.symm] at e
    have hcold:mO m c (d+1)=mO m c d+1:=by grind [mO]
    have hle:=DD (m:=m) (c:=c) (d:=d)
    unfold PC
    cases e2:Ak m d c with
    |some s=>
     simp only [J4]
     have:mO m c d=0:=by cases d <;> simp [mO,e2]
     simp_all
    |none=>
     have c2:ck ((1:Int)+(mO m c d:Int))=some ((1:Int)+(mO m c d:Int)):=dH (by omega) (by omega)
     simp only [J4,P4,c2,bs,if_true,hcold]
     grind
end Go.Proofs.YtddkbkkogpolaaaGreat
set_option linter.unusedVariables false
set_option linter.unusedSimpArgs false
namespace Go.Proofs.YtddkbkkogpolaaaGreat
open K Go Go.Proofs
def kz(f:Int->Int):List Int:=[f 0,f 1,f 2,f 3,f 4]
def upd(f:Int->Int)(c v:Int):Int->Int:=λx=>if x=c then v else f x
theorem Uh{c:Int}(h0:0≤c)(h:c < 5):c=0\/c=1\/c=2\/c=3\/c=4:=by omega
theorem xz{f:Int->Int}{c:Int}(h0:0≤c)(h:c < 5):aV (kz f) c=some (f c):=by
 rcases Uh h0 h with rfl |rfl |rfl |rfl |rfl <;> rfl
theorem CY{f:Int->Int}{c v:Int}(h0:0≤c)(h:c < 5):List.set (kz f) (Int.toNat c) v=kz (upd f c v):=by
 rcases Uh h0 h with rfl |rfl |rfl |rfl |rfl <;> rfl
theorem mz{f g:Int->Int}(h:∀c,0≤c->c < 5->f c=g c):kz f=kz g:=by
 simp_all [kz]
def P1(m:ab)(f:Int->Int)(d:Nat)(c:Int):Int:=match Ak m d c with
 |none=>if mH m≤(mO m c d:Int) then -1 else f c
 |some l=>if 0≤f c then f c+1 else if l.any λx=>decide (mW m≤f x) then 0 else -1
def PD(m:ab)(f:Int->Int)(d:Nat):Int->Int:=λc=>if 0≤c/\c < mC m then P1 m f d c else f c
theorem vE{k:Nat}{m:ab}{f:Int->Int}(hw:0≤mW m){s:List Int}(hs:s.length < k)(hs2:s.length≤1000)(hx:∀x∈s,0≤x/\x < 5):
 bY k m (kz f) s k 0=some (match s.find? (λx=>decide (mW m≤f x)) with |some x=>.error x |none=>.ok ()):=by
 have key:=lz (f:=bY k m (kz f) s) s (λ(_:Unit) j=>j) (λ_ _ x=>if decide (mW m≤f x)=true then Except.error x else .ok ()) (λ_ _=>True) (λx=>some x)
  (λn _ j hj _=>by
   refine⟨?_,λ_ _=>trivial⟩;have h5:=hx _ (List.getElem_mem hj);have hck:ck ((j:Int)+1)=some ((j:Int)+1):=dH (by omega) (by omega);have him:sq (0:Int) m.2.1=mW m:=by show sq 0 (mW m)=mW m;grind [sq]
   simp only [bY,Int.ofNat_lt,hj,if_true,dY hj,bs,dz h5,xz h5.1 h5.2,him,hck,decide_eq_true_eq];grind)
  (λn s _=>by simp [bY]) (n:=k) (s0:=()) hs trivial
 rw [show bY k m (kz f) s k 0=_ from key]
 congr 1
 have:∀(s:List Int) (j:Nat),eG (λ(_:Unit) _ x=>if decide (mW m≤f x)=true then Except.error x else .ok ()) j s ()=match s.find? (λx=>decide (mW m≤f x)) with |some x=>.error x |none=>.ok ():=by
  intro s
  induction s with
  |nil=>intro j;rfl
  |cons x s ih=>
   intro j;rw [eG,find?_cons];grind
 simp_all
theorem zb{s:List Int}:(nF s).length=s.length:=by
 unfold nF;grind
def JI(m:ab)(f:Int->Int)(l:List Int):Int:=((nF l).find? λx=>decide (mW m≤f x)).getD (-1)
theorem A3{k:Nat}{m:ab}{f:Int->Int}{c:Int}{d:Nat}(v:Vd m)(hk:10≤k)(hd:d < (mD m).length){l:List Int}(h:Ak m d c=some l):
 dy k m (kz f) c (d:Int)=some (JI m f l):=by
 have h6:=v.d6
 have c5:=v.c5
 have hb:=uZ v h
 unfold dy
 rw [uo v hk d k (by omega) hd,bs]
 unfold PC
 rw [h]
 have e1:It (Sum.inr (nF l):Int ⊕ List Int) (λn=>ix k n) (λl=>iv k l)=some (nF l):=rfl
 rw [e1,bs,vE v.w0 (by rw [zb];omega) (by rw [zb];omega) λx hx=>by grind [uc]]
 unfold JI
 cases(nF l).find? λx=>decide (mW m≤f x) with
 |none=>rw [me];rfl
 |some x=>rw [py];rfl
theorem JH{m:ab}{f:Int->Int}{l:List Int}(hx:∀x∈l,0≤x):0≤JI m f l↔(l.any λx=>decide (mW m≤f x))=true:=by
 unfold JI;rw [List.any_eq_true];cases e:(nF l).find? λx=>decide (mW m≤f x) with
 |none=>
  simp_all [Option.getD_none,List.find?_eq_none,uc]
 |some x=>
  grind [List.mem_of_find?_eq_some,uc]
theorem HD{k:Nat}{m:ab}{f:Int->Int}{d:Nat}(v:Vd m)(hk:10≤k)(hd:d < (mD m).length)(hf:∀c,0≤c->c < mC m-> -1≤f c/\f c≤1000):
 gK k m (kz f) (d:Int)=some (kz (PD m f d)):=by
 have c5:=v.c5
 have c1:=v.c1
 have h6:=v.d6
 unfold gK
 have key:=i7 (T:=List Int×Int) (f:=cu k m (kz f) (d:Int)) (List.range (mC m).toNat) (λ(g:Int->Int) j=>(kz g,j)) (λg j _=>upd g (j:Int) (P1 m f d (j:Int))) (λj g=>g=λc=>if 0≤c/\c < (j:Int) then P1 m f d c else f c) (λg=>some (kz g))
  (λn g j hj hg=>by
   rw [length_range] at hj;have j0:(0:Int)≤(j:Int):=Int.natCast_nonneg _;have j1:(j:Int) < mC m:=by omega
   have j5:(j:Int) < 5:=by omega
   have hck:ck ((j:Int)+1)=some ((j:Int)+1):=dH (by omega) (by omega);have hp:cH ((0:Int)≤(j:Int)/\(j:Int) < 5)=some ():=dz ⟨j0,j5⟩;have hgj:g (j:Int)=f (j:Int):=by simp_all
   have hfj:=hf _ j0 j1;refine⟨?_,?_⟩
   .have hm1:(m.1:Int)=mC m:=rfl;have hm2:m.2.2.2.1=mH m:=rfl;simp only [cu,hm1,hm2,j1,if_true,uo v hk d k (by omega) hd,bs,hp,xz j0 j5,hck,CY j0 j5];unfold PC P1;cases e:Ak m d (j:Int) with
    |none=>
     simp only [J4,P4,if_true];by_cases hh:mH m≤(mO m (j:Int) d:Int)
     .simp_all
     .simp only [hh,if_false,bs];refine congrArg (λr=>cu k m (kz f) (d:Int) n (r,(j:Int)+1)) (mz λc _ _=>?_);simp_all [upd]
    |some l=>
     have hb:=uZ v e;simp only [J4,Bool.false_eq_true,if_false,not_false_eq_true,if_true];by_cases h0:0≤f (j:Int)
     .have hck2:ck (f (j:Int)+1)=some (f (j:Int)+1):=dH (by omega) (by omega);simp_all
     .simp only [h0,if_false,A3 v hk hd e,bs];have ht:=JH (m:=m) (f:=f) (l:=l) λx hx=>(hb.2 x hx).1;by_cases hany:(l.any λx=>decide (mW m≤f x))=true
      .simp_all
      .rw [if_neg λh=>hany (ht.1 h),bs,if_neg hany];refine congrArg (λr=>cu k m (kz f) (d:Int) n (r,(j:Int)+1)) (mz λc _ _=>?_);grind [upd]
   .rw [hg];funext c;unfold upd;grind)
  (λn g hg=>by
   rw [length_range];have:((mC m).toNat:Int)=mC m:=by omega
   simp_all [cu,if_neg,mC]) (n:=k) (s0:=f) (by grind) (by grind)
 rw [show cu k m (kz f) (d:Int) k (kz f,0)=_ from key.1,bs]
 congr 1
 refine mz λc _ _=>?_
 rw [key.2,length_range]
 unfold PD
 grind
end Go.Proofs.YtddkbkkogpolaaaGreat
set_option linter.unusedVariables false
set_option linter.unusedSimpArgs false
namespace Go.Proofs.YtddkbkkogpolaaaGreat
open K Go Go.Proofs
def cr(F:Nat->Int->Int):List (List Int):=[kz (F 0),kz (F 1),kz (F 2),kz (F 3),kz (F 4),kz (F 5),kz (F 6)]
def AY(F:Nat->Int->Int)(n:Nat)(f:Int->Int):Nat->Int->Int:=λi=>if i=n then f else F i
theorem Ug{n:Nat}(h:n < 7):n=0\/n=1\/n=2\/n=3\/n=4\/n=5\/n=6:=by omega
theorem BV{F:Nat->Int->Int}{n:Nat}(h:n < 7):aV (cr F) (n:Int)=some (kz (F n)):=by
 rcases Ug h with rfl |rfl |rfl |rfl |rfl |rfl |rfl <;> rfl
theorem OS{F:Nat->Int->Int}{n:Nat}{f:Int->Int}(h:n < 7):List.set (cr F) n (kz f)=cr (AY F n f):=by
 rcases Ug h with rfl |rfl |rfl |rfl |rfl |rfl |rfl <;> rfl
def PK(m:ab)(B:Int->Bool):Nat->Int->Int
 |0=>λc=>if B c then mW m else -1
 |n+1=>PD m (PK m B n) n
theorem yt{m:ab}(v:Vd m){B:Int->Bool}:∀(n:Nat) (c:Int),0≤c->c < mC m->PK m B n c=mP m B n c
 |0,c,_,_=>rfl
 |n+1,c,h0,h1=>by
  have ih:=yt v (B:=B) n
  show PD m (PK m B n) n c=mP m B (n+1) c
  unfold PD
  rw [if_pos ⟨h0,h1⟩]
  unfold P1 mP
  cases e:Ak m n c with
  |none=>simp_all
  |some l=>
   have hb:=(uZ v e).2
   grind
def FB(m:ab)(B:Int->Bool):Nat->Int->Int:=λn=>if n≤(mD m).length then PK m B n else λ_=>0
def mU(S:Int):Int->Bool:=λc=>decide (ek S c.toNat)
theorem Gu{k:Nat}{m:ab}{S:Int}(hk:10≤k)(hS:jv S):eQ k m S=some (kz λc=>if mU S c then mW m else -1):=by
 unfold eQ
 have key:=i7 (T:=List Int×Int) (f:=cE k m S) (List.range 5) (λ(g:Int->Int) j=>(kz g,j)) (λg j _=>upd g (j:Int) (if mU S (j:Int) then mW m else -1)) (λj g=>∀c,0≤c->c < (j:Int)->g c=if mU S c then mW m else -1) (λg=>some (kz g))
  (λn g j hj hg=>by
   rw [length_range] at hj;have j0:(0:Int)≤(j:Int):=Int.natCast_nonneg _;have j5:(j:Int) < 5:=by omega
   have hck:ck ((j:Int)+1)=some ((j:Int)+1):=dH (by omega) (by omega);have hp:cH ((0:Int)≤(j:Int)/\(j:Int) < 5)=some ():=dz ⟨j0,j5⟩;have hp':cH ((0:Int)≤(j:Int)/\True)=some ():=dz ⟨j0,trivial⟩;refine⟨?_,?_⟩
   .simp only [cE,j5,if_true,hp,hp',bs,xZ (k:=k) hS (by omega:j < 8),hck,CY j0 j5];have hin:mU S (j:Int)=decide (ek S j):=by unfold mU;simp_all
    rw [hin];cases hh:decide (ek S j) with
    |true=>
     simp only [if_true,bs];refine congrArg (λr=>cE k m S n (r,(j:Int)+1)) (mz λc _ _=>?_);simp_all [upd]
    |false=>simp_all
   .intro c hc0 hc1;unfold upd;grind)
  (λn g hg=>by
   simp_all [length_range,cE,if_neg]) (n:=k) (s0:=λ_=>0) (by grind) (λc h0 h1=>by omega)
 have e0:([(0:Int),(0:Int),(0:Int),(0:Int),(0:Int)]:List Int)=kz λ_=>0:=rfl;rw [e0,show cE k m S k (kz λ_=>0,0)=_ from key.1,bs];refine congrArg some (mz λc h0 h5=>?_);simp_all
theorem sK{k:Nat}{m:ab}{S:Int}(v:Vd m)(hk:10≤k)(hS:jv S):lM k m S=some (cr (FB m (mU S))):=by
 have d6:=v.d6;have d1:=v.d1;have w0:=v.w0;have w3:=v.w3;unfold lM jk;have hm:cH (0≤S/\S < 256)=some ():=dz hS;have hp0:cH ((0:Int)≤0/\(0:Int) < 7)=some ():=dz ⟨by omega,by omega⟩;rw [hm,bs,Gu hk hS,bs,hp0,bs]
 have key:=i7 (T:=List (List Int)×Int) (f:=bQ k m) (mD m) (λ(F:Nat->Int->Int) j=>(cr F,j)) (λF j _=>AY F (j+1) (PD m (F j) j)) (λj F=>F=λn=>if n≤j then PK m (mU S) n else λ_=>0) (λF=>some (cr F))
  (λn F j hj hF=>by
   have j0:(0:Int)≤(j:Int):=Int.natCast_nonneg _;have hck:ck ((j:Int)+1)=some ((j:Int)+1):=dH (by omega) (by omega);have hp:cH ((0:Int)≤(j:Int)/\(j:Int) < 7)=some ():=dz ⟨j0,by omega⟩;have hp2:cH ((0:Int)≤(j:Int)+1/\(j:Int)+1 < 7)=some ():=dz ⟨by omega,by omega⟩;have hFj:F j=PK m (mU S) j:=by simp_all
   have hj':(j:Int) < (m.2.2.2.2.1.length:Int):=Int.ofNat_lt.2 hj
   have hnx:=HD (k:=k) (f:=F j) v hk hj (λc h0 h1=>by
    rw [hFj,yt v j c h0 h1];have:=IF (B:=mU S) w0 (d:=j) (c:=c);have:=IE (B:=mU S) w3 (d:=j) (c:=c);omega)
   refine⟨?_,?_⟩
   .simp only [bQ,hj',if_true,hck,hp,bs,BV (F:=F) (show j < 7 by omega),hnx,hp2];grind [Int.toNat,OS]
   .rw [hF];funext i;unfold AY;by_cases e:i=j+1
    .subst e;simp only [if_true,Nat.le_refl];rfl
    grind)
  (λn F hF=>by
   unfold bQ;simp_all) (n:=k) (s0:=AY (λ_ _=>0) 0 (λc=>if mU S c then mW m else -1)) (by omega) (by
   funext n;unfold AY;by_cases e:n=0
   .subst e;rfl
   simp_all)
 have e0:List.set sH (Int.toNat 0) (kz λc=>if mU S c then mW m else -1)=cr (AY (λ_ _=>0) 0 (λc=>if mU S c then mW m else -1)):=rfl;rw [e0,show bQ k m k (cr (AY (λ_ _=>0) 0 (λc=>if mU S c then mW m else -1)),0)=_ from key.1,bs];rw [key.2];rfl
theorem DC{m:ab}(v:Vd m){B:Int->Bool}{n:Nat}{c:Int}(hn:n≤(mD m).length)(h0:0≤c)(h1:c < mC m):FB m B n c=mP m B n c:=by
 simp_all [FB,if_pos,yt]
end Go.Proofs.YtddkbkkogpolaaaGreat
set_option linter.unusedVariables false
set_option linter.unusedSimpArgs false
namespace Go.Proofs.YtddkbkkogpolaaaGreat
open K Go Go.Proofs
def wk{σ:Type}(bad:σ->Int->Option Int)(add:σ->Int->σ):List Int->σ->Except Int σ
 |[],s=>.ok s
 |x::l,s=>match bad s x with
  |some e=>.error e
  |none=>wk bad add l (add s x)
theorem xn{σ:Type}{bad:σ->Int->Option Int}{add:σ->Int->σ}:∀(l:List Int) (j:Nat) (s:σ),eG (λs _ x=>match bad s x with |some e=>Except.error e |none=>.ok (add s x)) j l s=wk bad add l s
 |[],j,s=>rfl
 |x::l,j,s=>by
  rw [eG,wk]
  cases bad s x with
  |some e=>rfl
  |none=>exact xn l (j+1) (add s x)
theorem wb{σ:Type}{bad:σ->Int->Option Int}{add:σ->Int->σ}:∀(a b:List Int) (s:σ),wk bad add (a++b) s=match wk bad add a s with | .error e=>.error e | .ok s'=>wk bad add b s'
 |[],b,s=>rfl
 |x::a,b,s=>by
  rw [cons_append,wk,wk]
  cases bad s x with
  |some e=>rfl
  |none=>exact wb a b (add s x)
theorem CP{σ:Type}{bad:σ->Int->Option Int}{add:σ->Int->σ}:∀(r:List (List Int)) (j:Nat) (s:σ),eG (λs _ l=>wk bad add l s) j r s=wk bad add r.flatten s
 |[],j,s=>rfl
 |l::r,j,s=>by
  rw [eG,flatten_cons,wb]
  cases wk bad add l s with
  |error e=>rfl
  |ok s'=>exact CP r (j+1) s'
theorem FX{σ τ:Type}{b1:σ->Int->Option Int}{a1:σ->Int->σ}{b2:τ->Int->Option Int}{a2:τ->Int->τ}(R:σ->τ->Prop)(hb:∀s t x,R s t->b1 s x=b2 t x)(ha:∀s t x,R s t->b1 s x=none->R (a1 s x) (a2 t x)):
 ∀(l:List Int) (s:σ) (t:τ),R s t->(∃e,wk b1 a1 l s= .error e/\wk b2 a2 l t= .error e)\/∃s' t',wk b1 a1 l s= .ok s'/\wk b2 a2 l t= .ok t'/\R s' t'
 |[],s,t,h=>.inr ⟨s,t,rfl,rfl,h⟩
 |x::l,s,t,h=>by
  rw [wk,wk,<-hb s t x h]
  cases e:b1 s x with
  |some c=>simp_all
  |none=>exact FX R hb ha l _ _ (ha s t x h e)
theorem AU{σ:Type}{bad:σ->Int->Option Int}{add:σ->Int->σ}(P:σ->Prop)(hs:∀s x,P s->bad s x=none->P (add s x)):∀(l:List Int) (s s':σ),P s->wk bad add l s= .ok s'->P s'
 |[],s,s',h,e=>by cases e;exact h
 |x::l,s,s',h,e=>by
  rw [wk] at e
  cases hb:bad s x with
  |some c=>simp_all
  |none=>rw [hb] at e;exact AU P hs l _ s' (hs s x h hb) e
theorem kM{k:Nat}{a b c:Int}:dK k a b c=some (decide (b≤a/\a≤c)):=by
 grind [dK]
theorem RG{n:Int}(h:1≤n/\n≤5):ck (n - 1)=some (n - 1):=by grind [dH]
def AS(C:Int)(s x:Int):Option Int:=if¬(0≤x/\x < C) then some 3 else if ek s x.toNat then some 4 else none
def xc(s x:Int):Int:=Dj .u8 s (ou .u8 1 x)
def Cb(C:Int)(s:List Int)(x:Int):Option Int:=if¬(0≤x/\x < C) then some 3 else if x∈s then some 4 else none
def DU(s:List Int)(x:Int):List Int:=s++[x]
theorem sY:jv 0:=⟨by decide,by decide⟩
theorem Nk{C s x:Int}(h:AS C s x=none):0≤x/\x < C:=by
 unfold AS at h;grind
theorem mY{k:Nat}{s x:Int}(hs:jv s)(h0:0≤x)(h8:x < 8):fZ k s x=some (xc s x)/\jv (xc s x)/\∀i:Nat,ek (xc s x) i↔ek s i\/(i:Int)=x:=by
 have h1:=Og h0 h8;have h2:=Oy hs h1.1;refine⟨?_,h2.1,λi=>?_⟩
 .unfold fZ;rw [dz h0,bs];rfl
 .show ek (Dj .u8 s (ou .u8 1 x)) i↔_;simp_all
theorem Am{C s x:Int}(hC:C≤5)(hs:jv s)(h:AS C s x=none):jv (xc s x):=by
 have:=Nk h;exact(mY (k:=0) hs this.1 (by omega)).2.1
def sG(C:Int)(r:List (List Int)):Int:=if 3 < r.length then 6 else match wk (Cb C) DU r.flatten [] with | .error e=>e | .ok _=>0
theorem EU{k:Nat}{m:ab}(hC:1≤mC m/\mC m≤5){l:List Int}(hk:l.length < k)(hl:l.length≤1000){s:Int}(hs:jv s):
 cX k m l k (s,0)=some (wk (AS (mC m)) xc l s):=by
 have key:=lz (T:=Int×Int) (f:=cX k m l) l (λ(s:Int) j=>(s,j)) (λs _ x=>match AS (mC m) s x with |some e=>Except.error e |none=>.ok (xc s x)) (λ_ s=>jv s) (λr=>some r)
  (λn s j hj hs=>by
   have hck:ck ((j:Int)+1)=some ((j:Int)+1):=dH (by omega) (by omega);have hc:ck (m.1 - 1)=some (m.1 - 1):=RG hC;refine⟨?_,λs' e=>?_⟩
   .simp only [cX,Int.ofNat_lt,hj,if_true,dY hj,bs,hc,kM];generalize l[j]=x;by_cases h:0≤x/\x < mC m
    .have h':0≤x/\x≤m.1 - 1:=⟨h.1,by grind⟩;have hh:=xZ (k:=k) hs (i:=x.toNat) (by omega);have ex:((x.toNat:Nat):Int)=x:=by omega
     rw [ex] at hh;simp only [h',and_self,decide_true,not_true_eq_false,if_false,hh,bs];have eb:AS (mC m) s x=if ek s x.toNat then some 4 else none:=by unfold AS;simp_all
     rw [eb];by_cases h2:ek s x.toNat
     .simp_all
     .simp only [h2,decide_false,Bool.false_eq_true,if_false,(mY (k:=k) hs h.1 (by omega)).1,bs,hck]
    .have h':¬(0≤x/\x≤m.1 - 1):=λhh=>h ⟨hh.1,by grind⟩;have eb:AS (mC m) s x=some 3:=by unfold AS;simp_all
     simp_all
   .cases e2:AS (mC m) s l[j] with
    |some c=>simp_all
    |none=>grind [Am])
  (λn s _=>by simp [cX]) (n:=k) (s0:=s) hk hs
 simp_all [cX,xn]
theorem EV{k:Nat}{m:ab}(hC:1≤mC m/\mC m≤5){r:List (List Int)}(hk:r.length < k)(hr:r.length≤1000)(hl:∀l∈r,l.length < k/\l.length≤1000):
 cY k m r k (0,0)=some (match wk (AS (mC m)) xc r.flatten 0 with | .error e=>.error e | .ok _=>.ok ()):=by
 have key:=lz (T:=Int×Int) (f:=cY k m r) r (λ(s:Int) j=>(s,j)) (λs _ l=>wk (AS (mC m)) xc l s) (λ_ s=>jv s) (λx=>some (match x with | .error e=>Except.error e | .ok _=>.ok ()))
  (λn s j hj hs=>by
   have hck:ck ((j:Int)+1)=some ((j:Int)+1):=dH (by omega) (by omega);have hlj:=hl _ (List.getElem_mem hj);refine⟨?_,λs' e=>AU jv (λs x=>Am hC.2) _ _ _ hs e⟩;simp only [cY,Int.ofNat_lt,hj,if_true,dY hj,bs,EU hC hlj.1 hlj.2 hs];cases wk (AS (mC m)) xc r[j] s with
   |error e=>rw [py]
   |ok s'=>rw [me,hck,bs])
  (λn s _=>by simp [cY]) (n:=k) (s0:=0) hk sY
 simp_all [cY,CP]
theorem Lq{C:Int}(hC:C≤5)(l:List Int):(∃e,wk (AS C) xc l 0= .error e/\wk (Cb C) DU l []= .error e)\/∃s t,wk (AS C) xc l 0= .ok s/\wk (Cb C) DU l []= .ok t/\(jv s/\∀i:Nat,ek s i↔(i:Int)∈t):=by
 refine FX (λs t=>jv s/\∀i:Nat,ek s i↔(i:Int)∈t) (λs t x h=>?_) (λs t x h hb=>?_) l 0 [] ⟨sY,λi=>by simp [ek]⟩
 .unfold AS Cb;grind
 .have hx:=Nk hb;have hw:=mY (k:=0) h.1 hx.1 (by omega);simp_all [DU]
theorem KL{k:Nat}{m:ab}(hC:1≤mC m/\mC m≤5){r:List (List Int)}(hk:1000 < k)(hr:r.length≤1000)(hl:∀l∈r,l.length≤1000):iV k m r=some (sG (mC m) r):=by
 unfold iV sG;by_cases h3:3 < r.length
 .grind
 .rw [if_neg (by omega),if_neg h3,EV hC (by omega) hr λl hh=>⟨by grind,hl l hh⟩];rcases Lq hC.2 r.flatten with⟨e,h1,h2⟩ |⟨s,t,h1,h2,_⟩
  .simp_all [py]
  simp_all [me]
end Go.Proofs.YtddkbkkogpolaaaGreat
set_option linter.unusedVariables false
set_option linter.unusedSimpArgs false
namespace Go.Proofs.YtddkbkkogpolaaaGreat
open K Go Go.Proofs
theorem rM:∀(n:Nat) (l:List Int),l.Nodup->(∀x∈l,0≤x/\x < (n:Int))->l.length≤n
 |0,l,_,h=>by
  cases l with
  |nil=>simp
  |cons x l=>have:=h x (by simp);omega
 |n+1,l,hn,h=>by
  have h1:=rM n (l.erase (n:Int)) (hn.erase _) (λx hx=>by
   grind)
  grind
theorem Q5{C:Int}{s:List Int}{x:Int}(h:Cb C s x=none):(0≤x/\x < C)/\x∉s:=by
 unfold Cb at h;grind
def Mt(C:Int)(s:List Int):Prop:=s.Nodup/\∀x∈s,0≤x/\x < C
theorem Mt.add{C:Int}{s:List Int}{x:Int}(h:Mt C s)(hb:Cb C s x=none):Mt C (DU s x):=by
 have:=Q5 hb;refine⟨?_,λy hy=>?_⟩
 .unfold DU;rw [nodup_append];exact⟨h.1,by simp,λa ha b hb e=>by simp_all⟩
 .rcases List.mem_append.1 hy with hy |hy
  .exact h.2 y hy
  simp_all
theorem Mt.len{C:Int}{s:List Int}(hC:0≤C/\C≤5)(h:Mt C s):s.length≤5:=by
 have:=rM C.toNat s h.1 λx hx=>⟨(h.2 x hx).1,by have:=(h.2 x hx).2;omega⟩;omega
theorem FY{C:Int}:∀{l s t:List Int},wk (Cb C) DU l s= .ok t->t=s++l
 |[],s,t,e=>by cases e;simp
 |x::l,s,t,e=>by
  rw [wk] at e
  cases hb:Cb C s x with
  |some c=>simp_all
  |none=>
   rw [hb] at e
   have:=FY e
   simp_all [DU]
theorem CQ{C:Int}:∀{l s:List Int},(s++l).Nodup->(∀x∈l,0≤x/\x < C)->wk (Cb C) DU l s= .ok (s++l)
 |[],s,_,_=>by simp [wk]
 |x::l,s,hn,hr=>by
  have hx:x∉s:=by
   grind
  have hb:Cb C s x=none:=by
   unfold Cb;simp_all
  rw [wk,hb];simp only [];rw [CQ (s:=DU s x) (by simp_all [DU]) λy hy=>hr y (mem_cons_of_mem _ hy)];simp_all [DU]
theorem wU{C:Int}{r:List (List Int)}:sG C r=0↔r.length≤3/\r.flatten.Nodup/\∀x∈r.flatten,0≤x/\x < C:=by
 unfold sG;constructor
 .intro h;split at h
  .cases h
  .cases e:wk (Cb C) DU r.flatten [] with
   |ok t=>
    have h1:=AU (Mt C) (λs x=>Mt.add) _ _ _ ⟨nodup_nil,λx hx=>by cases hx⟩ e;have h2:=FY e;rw [nil_append] at h2;subst h2;exact⟨by omega,h1.1,h1.2⟩
   |error c=>
    rw [e] at h;exfalso
    have:∀(l s:List Int),wk (Cb C) DU l s≠.error 0:=by
     intro l
     induction l with
     |nil=>intro s h;cases h
     |cons x l ih=>
      grind [wk,Cb]
    simp_all
 .rintro⟨h1,h2,h3⟩;rw [if_neg (by omega),CQ (by simp_all) h3]
def vt(m:ab)(g:aG):Int:=if(0≤g.1/\g.1 < mC m)/\0≤g.2.1/\g.2.1≤(mD m).length then 0 else 3
theorem HK{k:Nat}{m:ab}(hC:1≤mC m/\mC m≤5){g:aG}:eR k m g=some (vt m g):=by
 have hc:ck (m.1 - 1)=some (m.1 - 1):=RG hC;unfold eR vt;have e:decide (0≤g.1/\g.1≤m.1 - 1)=decide (0≤g.1/\g.1 < mC m):=decide_eq_decide.2 ⟨λh=>⟨h.1,by grind⟩,λh=>⟨h.1,by grind⟩⟩;rw [hc,bs,kM,bs,e];by_cases h1:0≤g.1/\g.1 < mC m
 .by_cases h2:0≤g.2.1/\g.2.1≤(mD m).length <;> simp [h1,h2,kM]
 grind
def lL{α:Type}(f:α->Int)(l:List α):Int:=((l.map f).find? λe=>decide (e≠0)).getD 0
theorem sx{α:Type}(f:α->Int):∀(l:List α) (j:Nat),eG (λ(_:Unit) _ x=>if¬(f x=0) then Except.error (f x) else .ok ()) j l ()=if lL f l=0 then .ok () else .error (lL f l)
 |[],j=>by simp [eG,lL]
 |x::l,j=>by
  rw [eG]
  by_cases h:f x=0
  .
   have:lL f (x::l)=lL f l:=by simp [lL,h]
   rw [this]
   simp only [h,not_true_eq_false,if_false]
   exact sx f l (j+1)
  simp_all [lL]
theorem o5{α:Type}{f:α->Int}{l:List α}:lL f l=0↔∀x∈l,f x=0:=by
 induction l with
 |nil=>simp [lL]
 |cons x l ih=>
  grind [lL]
structure Sm(m:ab):Prop where
 d:(mD m).length≤1000
 r:∀r∈mD m,r.length≤1000/\∀l∈r,l.length≤1000
 g:(mG m).length≤1000
def kG(m:ab):Int:=
 if¬((1≤mC m/\mC m≤5)/\(0≤mW m/\mW m≤3)/\(0≤mS m/\mS m≤3)/\1≤mH m/\mH m≤3) then 1
 else if(mD m).length=0 then 7 else if 6 < (mD m).length then 6 else if¬(lL (sG (mC m)) (mD m)=0) then lL (sG (mC m)) (mD m)
 else if 8 < (mG m).length then 6 else lL (vt m) (mG m)
theorem KN{k:Nat}{m:ab}(hs:Sm m)(hk:1000 < k):mI k m=some (kG m):=by
 unfold mI kG;simp only [kM,bs];by_cases h1:1≤mC m/\mC m≤5
 .by_cases h2:0≤mW m/\mW m≤3
  .by_cases h3:0≤mS m/\mS m≤3
   .by_cases h4:1≤mH m/\mH m≤3
    .have e1:(1≤m.1/\m.1≤5)=True:=eq_true h1;have e2:(0≤m.2.1/\m.2.1≤3)=True:=eq_true h2;have e3:(0≤m.2.2.1/\m.2.2.1≤3)=True:=eq_true h3;have e4:(1≤m.2.2.2.1/\m.2.2.2.1≤3)=True:=eq_true h4;simp only [e1,e2,e3,e4,decide_true,not_true_eq_false,if_false,Bool.not_true,Bool.false_eq_true,bs,and_self,h1,h2,h3,h4];by_cases h5:(mD m).length=0
     .simp_all
     .rw [if_neg (show¬((m.2.2.2.2.1.length:Int) < 1) by grind),if_neg h5];by_cases h6:6 < (mD m).length
      .grind
      .rw [if_neg (show¬((6:Int) < (m.2.2.2.2.1.length:Int)) by grind),if_neg h6]
       have key:=lz (f:=fa k m) (mD m) (λ(_:Unit) j=>j) (λ_ _ x=>if¬(sG (mC m) x=0) then Except.error (sG (mC m) x) else .ok ()) (λ_ _=>True) (λr=>some r)
        (λn s j hj _=>by
         have hck:ck ((j:Int)+1)=some ((j:Int)+1):=dH (by omega) (by omega);have hr:=hs.r _ (List.getElem_mem hj);refine⟨?_,λ_ _=>trivial⟩;have hj':(j:Int) < (m.2.2.2.2.1.length:Int):=Int.ofNat_lt.2 hj;have hg:aV m.2.2.2.2.1 (j:Int)=some (mD m)[j]:=dY hj;simp only [fa,hj',if_true,hg,bs,KL h1 hk hr.1 hr.2];grind)
        (λn s _=>by
         unfold fa;simp_all) (n:=k) (s0:=()) (by omega) trivial
       rw [show fa k m k 0=_ from key,sx];by_cases h7:lL (sG (mC m)) (mD m)=0
       .rw [if_pos h7,me,show(if¬(lL (sG (mC m)) (mD m)=0) then lL (sG (mC m)) (mD m) else if 8 < (mG m).length then 6 else lL (vt m) (mG m))=(if 8 < (mG m).length then 6 else lL (vt m) (mG m)) from if_neg (λhn=>hn h7)];by_cases h8:8 < (mG m).length
        .grind
        .rw [if_neg (show¬((8:Int) < (m.2.2.2.2.2.length:Int)) by grind),if_neg h8]
         have key:=lz (f:=eZ k m) (mG m) (λ(_:Unit) j=>j) (λ_ _ x=>if¬(vt m x=0) then Except.error (vt m x) else .ok ()) (λ_ _=>True) (λr=>some r)
          (λn s j hj _=>by
           have hck:ck ((j:Int)+1)=some ((j:Int)+1):=dH (by omega) (by omega);refine⟨?_,λ_ _=>trivial⟩;have hj':(j:Int) < (m.2.2.2.2.2.length:Int):=Int.ofNat_lt.2 hj;have hg:aV m.2.2.2.2.2 (j:Int)=some (mG m)[j]:=dY hj;simp only [eZ,hj',if_true,hg,bs,HK h1];grind)
          (λn s _=>by
           simp_all [eZ,if_neg,Int.lt_irrefl]) (n:=k) (s0:=()) (by omega) trivial
         rw [show eZ k m k 0=_ from key,sx];by_cases h9:lL (vt m) (mG m)=0
         .rw [if_pos h9,me,h9]
         .rw [if_neg h9,py]
       .rw [if_neg h7,py,if_pos h7]
    grind
   grind
  grind
 grind
end Go.Proofs.YtddkbkkogpolaaaGreat
set_option linter.unusedVariables false
set_option linter.unusedSimpArgs false
namespace Go.Proofs.YtddkbkkogpolaaaGreat
open K Go Go.Proofs
theorem uD{r:List (List Int)}{l:List Int}(h:r.flatten.Nodup)(hl:l∈r):l.Nodup:=by
 grind
theorem Jw{σ:Type}{bad:σ->Int->Option Int}{add:σ->Int->σ}{x:Int}{l:List Int}{s:σ}{e:Int}(h:bad s x=some e):wk bad add (x::l) s= .error e:=by rw [wk,h]
theorem Jt{σ:Type}{bad:σ->Int->Option Int}{add:σ->Int->σ}{x:Int}{l:List Int}{s:σ}(h:bad s x=none):wk bad add (x::l) s=wk bad add l (add s x):=by rw [wk,h]
theorem Vd.of{m:ab}(h:kG m=0):Vd m:=by
 unfold kG at h;by_cases h1:(1≤mC m/\mC m≤5)/\(0≤mW m/\mW m≤3)/\(0≤mS m/\mS m≤3)/\1≤mH m/\mH m≤3
 .rw [if_neg (λhn=>hn h1)] at h;by_cases h2:(mD m).length=0
  .omega
  .rw [if_neg h2] at h;by_cases h3:6 < (mD m).length
   .omega
   .rw [if_neg h3] at h;by_cases h4:lL (sG (mC m)) (mD m)=0
    .rw [if_neg (λhn=>hn h4)] at h;by_cases h5:8 < (mG m).length
     .omega
     .rw [if_neg h5] at h;have hd:=λr hr=>wU.1 (o5.1 h4 r hr);have hx:∀r∈mD m,∀l∈r,∀x∈l,0≤x/\x < mC m:=λr hr l hl x hx=>(hd r hr).2.2 x (List.mem_flatten.2 ⟨l,hl,hx⟩)
      exact⟨h1.1.1,h1.1.2,h1.2.1.1,h1.2.1.2,h1.2.2.1.1,h1.2.2.1.2,h1.2.2.2.1,h1.2.2.2.2,by omega,by omega,λr hr=>(hd r hr).1,λr hr l hl=>by
       have hn:l.Nodup:=uD (hd r hr).2.1 hl;have:=rM (mC m).toNat l hn λx hxx=>by grind
       omega,hx,λr hr=>(hd r hr).2.1,by omega,λg hg=>by
        grind [o5,vt]⟩
    omega
 omega
theorem Vd.chk{m:ab}(v:Vd m):kG m=0:=by
 unfold kG;have h1:(1≤mC m/\mC m≤5)/\(0≤mW m/\mW m≤3)/\(0≤mS m/\mS m≤3)/\1≤mH m/\mH m≤3:=⟨⟨v.c1,v.c5⟩,⟨v.w0,v.w3⟩,⟨v.s0,v.s3⟩,v.h1,v.h3⟩
 have h4:lL (sG (mC m)) (mD m)=0:=o5.2 λr hr=>wU.2 ⟨v.r3 r hr,v.nd r hr,λx hx=>by
  obtain⟨l,hl,hx⟩:=List.mem_flatten.1 hx;exact v.x5 r hr l hl x hx⟩
 have h9:lL (vt m) (mG m)=0:=o5.2 λg hg=>by
  have:=v.gl g hg;unfold vt;omega
 have d1:=v.d1;have d6:=v.d6;have g8:=v.g8;omega
theorem Vd.sm{m:ab}(v:Vd m):Sm m:=⟨by have:=v.d6;omega,λr hr=>⟨by have:=v.r3 r hr;omega,λl hl=>by have:=v.l5 r hr l hl;omega⟩,by have:=v.g8;omega⟩
def vu(C:Int)(p:Option Int)(x:Int):Option Int:=if¬(0≤x/\x < C) then some 3 else if p.any (λy=>decide (x≤y)) then some 5 else none
def LJ(C:Int)(p:Option Int×Int)(x:Int):Option Int:=vu C p.1 x
def PL(p:Option Int×Int)(x:Int):Option Int×Int:=(some x,xc p.2 x)
def LQ(p:Option Int)(x:Int):Option Int:=some x
def sM(C:Int)(b:List Int):Int:=match wk (vu C) LQ b none with | .error e=>e | .ok _=>0
def c9(b:List Int):Int:=b.foldl xc 0
theorem Nl{C:Int}{p:Option Int}{x:Int}(h:vu C p x=none):(0≤x/\x < C)/\p.any (λy=>decide (x≤y))=false:=by
 unfold vu at h;grind
theorem DJ{C:Int}:∀(b:List Int) (p:Option Int) (s:Int),(∃e,wk (LJ C) PL b (p,s)= .error e/\wk (vu C) LQ b p= .error e)\/∃q,wk (LJ C) PL b (p,s)= .ok (q,b.foldl xc s)/\wk (vu C) LQ b p= .ok q
 |[],p,s=>.inr ⟨p,rfl,rfl⟩
 |x::b,p,s=>by
  cases e:vu C p x with
  |some c=>exact .inl ⟨c,Jw e,Jw e⟩
  |none=>
   rw [Jt (bad:=LJ C) (s:=(p,s)) (x:=x) e,Jt e]
   exact DJ (C:=C) b (some x) (xc s x)
theorem zB{k:Nat}{m:ab}(hC:1≤mC m/\mC m≤5){b:List Int}(hk:b.length < k)(hb:b.length≤1000):
 eW k m b k (0,0)=some (if sM (mC m) b=0 then .ok (c9 b) else .error (none,0,sM (mC m) b)):=by
 have key:=lz (T:=Int×Int) (f:=eW k m b) b (λ(s:Option Int×Int) j=>(s.2,j)) (λs _ x=>match LJ (mC m) s x with |some e=>Except.error e |none=>.ok (PL s x)) (λj s=>jv s.2/\s.1=if j=0 then none else b[j-1]?) (λr=>some (match r with | .error e=>Except.error (none,0,e) | .ok s=>.ok s.2))
  (λn s j hj hs=>by
   have hck:ck ((j:Int)+1)=some ((j:Int)+1):=dH (by omega) (by omega);have hc:ck (m.1 - 1)=some (m.1 - 1):=RG hC;refine⟨?_,λs' e=>?_⟩
   .simp only [eW,Int.ofNat_lt,hj,if_true,dY hj,bs,hc,kM];generalize b[j]=x;rw [show LJ (mC m) s x=vu (mC m) s.1 x from rfl];by_cases h:0≤x/\x < mC m
    .have h':0≤x/\x≤m.1 - 1:=⟨h.1,by grind⟩;have eb:vu (mC m) s.1 x=if s.1.any (λy=>decide (x≤y)) then some 5 else none:=by unfold vu;simp_all
     have ep:(if(0:Int) < (j:Int) then((ck ((j:Int) - 1)).bind λx12=>(aV b x12).bind λx13=>some (decide (x≤x13))) else some false)=some (s.1.any λy=>decide (x≤y)):=by
      rw [hs.2];by_cases h0:j=0
      .simp_all
      .have c1:ck ((j:Int) - 1)=some ((j - 1:Nat):Int):=by grind [dH]
       rw [if_pos (by omega),c1,bs,dY (by omega),bs,if_neg h0,List.getElem?_eq_getElem (by omega)];rfl
     rw [eb];simp only [h',and_self,decide_true,not_true_eq_false,if_false,bs];rw [ep,bs];cases s.1.any λy=>decide (x≤y) with
     |true=>simp_all
     |false=>
      simp only [Bool.false_eq_true,if_false,(mY (k:=k) hs.1 h.1 (by omega)).1,bs,hck];rfl
    .have h':¬(0≤x/\x≤m.1 - 1):=λhh=>h ⟨hh.1,by grind⟩;have eb:vu (mC m) s.1 x=some 3:=by unfold vu;simp_all
     simp_all
   .cases e2:LJ (mC m) s b[j] with
    |some c=>simp_all
    |none=>
     rw [e2] at e;cases e;have hx:=Nl e2;exact⟨(mY (k:=0) hs.1 hx.1.1 (by omega)).2.1,by show some b[j]=if j+1=0 then none else b[j+1 - 1]?;simp_all⟩)
  (λn s _=>by simp [eW]) (n:=k) (s0:=(none,0)) hk ⟨sY,rfl⟩
 rw [show eW k m b k (0,0)=_ from key]
 have e1:eG (λ(s:Option Int×Int) _ x=>match LJ (mC m) s x with |some e=>Except.error e |none=>.ok (PL s x)) 0 b (none,0)=wk (LJ (mC m)) PL b (none,0):=xn (bad:=LJ (mC m)) (add:=PL) b 0 (none,0)
 rw [e1]
 unfold sM
 have z:∀(l:List Int) (p:Option Int),wk (vu (mC m)) LQ l p≠.error 0:=by
  intro l
  induction l with
  |nil=>intro p h;cases h
  |cons x l ih=>
   intro p h;rw [wk] at h;cases hb:vu (mC m) p x with
   |some c=>
    grind [vu]
   |none=>grind
 rcases DJ (C:=mC m) b none 0 with⟨e,h1,h2⟩ |⟨q,h1,h2⟩
 .
  grind
 .
  rw [h1,h2];rfl
end Go.Proofs.YtddkbkkogpolaaaGreat
set_option linter.unusedVariables false
set_option linter.unusedSimpArgs false
namespace Go.Proofs.YtddkbkkogpolaaaGreat
open K Go Go.Proofs
theorem zd{C:Int}(hC:C≤5):∀(b:List Int) (s:Int),jv s->(∀x∈b,0≤x/\x < C)->jv (b.foldl xc s)/\∀i:Nat,ek (b.foldl xc s) i↔ek s i\/(i:Int)∈b
 |[],s,hs,_=>⟨hs,λi=>by simp⟩
 |x::b,s,hs,hb=>by
  have hx:=hb x mem_cons_self
  have hw:=mY (k:=0) hs hx.1 (by omega)
  have:=zd hC b (xc s x) hw.2.1 λy hy=>hb y (mem_cons_of_mem _ hy)
  grind
structure Bg(C:Int)(b:List Int):Prop where
 rng:∀x∈b,0≤x/\x < C
 asc:b.Pairwise (· < ·)
theorem AV{C:Int}:∀{b:List Int} {p:Option Int},(∃q,wk (vu C) LQ b p= .ok q)↔(∀x∈b,0≤x/\x < C)/\b.Pairwise (· < ·)/\∀y,p=some y->∀x∈b.head?,y < x
 |[],p=>by simp [wk]
 |x::b,p=>by
  cases e:vu C p x with
  |some c=>
   rw [Jw e]
   constructor
   .
    simp_all
   .
    rintro⟨h1,h2,h3⟩
    exfalso
    unfold vu at e
    rw [if_neg (λhn=>hn (h1 x mem_cons_self))] at e
    cases p with
    |none=>cases e
    |some y=>
     have:=h3 y rfl x (by simp)
     grind
  |none=>
   have hx:=Nl e
   rw [Jt e,AV (b:=b) (p:=LQ p x)]
   constructor
   .
    rintro⟨h1,h2,h3⟩
    refine⟨λy hy=>?_,?_,λy hy z hz=>?_⟩
    .
     grind
    .
     rw [pairwise_cons]
     refine⟨λy hy=>?_,h2⟩
     cases b with
     |nil=>cases hy
     |cons z b=>
      have hz:=h3 x rfl z (by simp)
      grind [pairwise_cons]
    simp_all
   simp_all [pairwise_cons,mem_cons_of_mem,LQ,mem_of_mem_head?]
theorem DK{C:Int}:∀{l:List Int} {p:Option Int},wk (vu C) LQ l p≠.error 0
 |[],p,h=>by cases h
 |x::l,p,h=>by
  cases hb:vu C p x with
  |some c=>
   rw [Jw hb] at h
   grind [vu]
  |none=>rw [Jt hb] at h;exact DK h
theorem pn{C:Int}{b:List Int}:sM C b=0↔Bg C b:=by
 unfold sM;constructor
 .intro h;cases e:wk (vu C) LQ b none with
  |error c=>simp_all [DK]
  |ok q=>have:=AV.1 ⟨q,e⟩;exact⟨this.1,this.2.1⟩
 .rintro⟨h1,h2⟩;obtain⟨q,e⟩:=(AV (p:=none)).2 ⟨h1,h2,λy hy=>by cases hy⟩;rw [e]
theorem Bg.set{C:Int}(hC:C≤5){b:List Int}(h:Bg C b):jv (c9 b)/\∀c:Int,0≤c->mU (c9 b) c=decide (c∈b):=by
 have:=zd hC b 0 sY h.rng;refine⟨this.1,λc hc=>?_⟩;unfold mU;have e:((c.toNat:Nat):Int)=c:=by omega
 have h2:=this.2 c.toNat;rw [e] at h2;refine decide_eq_decide.2 ?_;show ek (b.foldl xc 0) c.toNat↔_;simp_all [ek]
def vV(m:ab)(i:Nat):Int:=match i with |0=>mC m - 1 |1=>((mD m).length:Int) - 1 |_=>(mD m).length
def zN(n:Int)(l:List Int):Bool:=l.all λx=>decide (0≤x/\x≤n)
theorem pR{k:Nat}{m:ab}(v:Vd m){i:Nat}(hi:i < 3){l:List Int}(hk:l.length < k)(hl:l.length≤1000):
 dC k m (i:Int) l k 0=some (if zN (vV m i) l then .ok () else .error (none,0,3)):=by
 have c1:=v.c1
 have c5:=v.c5
 have d6:=v.d6
 have d1:=v.d1
 have key:=lz (T:=Int) (f:=dC k m (i:Int) l) l (λ(_:Unit) j=>j) (λ_ _ x=>if 0≤x/\x≤vV m i then .ok () else Except.error ((none,0,3):Option ab×Int×Int)) (λ_ _=>True) (λr=>some r)
  (λn s j hj _=>by
   have hck:ck ((j:Int)+1)=some ((j:Int)+1):=dH (by omega) (by omega);have hc:ck (m.1 - 1)=some (mC m - 1):=RG ⟨c1,c5⟩;have hd:ck ((m.2.2.2.2.1.length:Int) - 1)=some (((mD m).length:Int) - 1):=dH (by omega) (by grind)
   have hg:aV [mC m - 1,((mD m).length:Int) - 1,((mD m).length:Int)] (i:Int)=some (vV m i):=by
    have:i=0\/i=1\/i=2:=by omega
    rcases this with rfl |rfl |rfl <;> rfl
   refine⟨?_,λ_ _=>trivial⟩;simp only [dC,Int.ofNat_lt,hj,if_true,dY hj,bs,hc,hd];rw [show aV [mC m - 1,((mD m).length:Int) - 1,(m.2.2.2.2.1.length:Int)] (i:Int)=some (vV m i) from hg,bs,kM,bs];grind)
  (λn s _=>by simp [dC]) (n:=k) (s0:=()) hk trivial
 rw [show dC k m (i:Int) l k 0=_ from key]
 congr 1
 have:∀(l:List Int) (j:Nat),eG (λ(_:Unit) _ x=>if 0≤x/\x≤vV m i then .ok () else Except.error ((none,0,3):Option ab×Int×Int)) j l ()=if zN (vV m i) l then .ok () else .error (none,0,3):=by
  intro l
  induction l with
  |nil=>intro j;rfl
  |cons x l ih=>
   intro j;rw [eG];by_cases h:0≤x/\x≤vV m i
   .simp_all [if_pos,zN,vV,all_cons,and_self,decide_true,Bool.true_and]
   .rw [if_neg h];have:zN (vV m i) (x::l)=false:=by simp only [zN,all_cons,h,decide_false,Bool.false_and]
    simp_all
 simp_all
theorem yS{k:Nat}{m:ab}(v:Vd m)(hk:10≤k):∀n:Nat,n≤32->wa k m n=some ()
 |0,_=>rfl
 |n+1,h=>by
  have e:IntKind.u8.wrap (n:Int)=(n:Int):=tD (by omega)
  unfold wa
  rw [yS v hk n (by omega),bs,e,sK v hk ⟨by omega,by omega⟩,bs]
theorem JA{k:Nat}{m:ab}(v:Vd m)(hk:10≤k):eF k m=some ():=by
 have c1:=v.c1;have c5:=v.c5;unfold eF
 have hc:m.1=1\/m.1=2\/m.1=3\/m.1=4\/m.1=5:=by
  grind
 have e:0≤ou .i64 1 m.1/\ou .i64 1 m.1≤32:=by
  rcases hc with h |h |h |h |h <;> rw [h] <;> decide
 rw [if_pos ⟨by omega,by omega⟩];simp_all [yS]
def P9(m:ab)(cs ds ns:List Int):Bool:=zN (vV m 0) cs && zN (vV m 1) ds && zN (vV m 2) ns
theorem uF{k:Nat}{m:ab}{b cs ds ns:List Int}(hs:Sm m)(hk:1010≤k)(hb:b.length≤1000)(h1:cs.length≤1000)(h2:ds.length≤1000)(h3:ns.length≤1000):
 iT k m b cs ds ns=some (if¬(kG m=0) then(none,0,kG m) else if¬(sM (mC m) b=0) then(none,0,sM (mC m) b) else if P9 m cs ds ns then(some m,c9 b,0) else(none,0,3)):=by
 unfold iT
 rw [KN hs (by omega),bs]
 by_cases hc:kG m=0
 .
  have v:=Vd.of hc;rw [if_neg (λhn=>hn hc),if_neg (λhn=>hn hc),zB ⟨v.c1,v.c5⟩ (by omega) hb];by_cases hg:sM (mC m) b=0
  .rw [if_pos hg,me,if_neg (λhn=>hn hg)];obtain⟨n,rfl⟩:∃n,k=n+4:=⟨k - 4,by omega⟩;have e0:=pR v (k:=n+4) (i:=0) (by omega) (l:=cs) (by omega) h1;have e1:=pR v (k:=n+4) (i:=1) (by omega) (l:=ds) (by omega) h2;have e2:=pR v (k:=n+4) (i:=2) (by omega) (l:=ns) (by omega) h3;have g0:aV [cs,ds,ns] (0:Int)=some cs:=rfl;have g1:aV [cs,ds,ns] (1:Int)=some ds:=rfl;have g2:aV [cs,ds,ns] (2:Int)=some ns:=rfl;have k0:ck ((0:Int)+1)=some 1:=rfl;have k1:ck ((1:Int)+1)=some 2:=rfl;have k2:ck ((2:Int)+1)=some 3:=rfl;have ln:(([cs,ds,ns]:List (List Int)).length:Int)=3:=rfl
   have s0:cN (n+4) m cs ds ns (n+4) 0=if zN (vV m 0) cs then cN (n+4) m cs ds ns (n+3) 1 else some (.error (none,0,3)):=by
    rw [cN,ln,if_pos (by decide),g0,bs,show dC (n+4) m 0 cs (n+4) 0=_ from e0];cases zN (vV m 0) cs with
    |true=>simp_all [if_true,me,bs]
    |false=>simp_all [Bool.false_eq_true,if_false,py]
   have s1:cN (n+4) m cs ds ns (n+3) 1=if zN (vV m 1) ds then cN (n+4) m cs ds ns (n+2) 2 else some (.error (none,0,3)):=by
    rw [cN,ln,if_pos (by decide),g1,bs,show dC (n+4) m 1 ds (n+4) 0=_ from e1];cases zN (vV m 1) ds with
    |true=>simp_all [if_true,me,bs]
    |false=>simp_all [Bool.false_eq_true,if_false,py]
   have s2:cN (n+4) m cs ds ns (n+2) 2=if zN (vV m 2) ns then cN (n+4) m cs ds ns (n+1) 3 else some (.error (none,0,3)):=by
    rw [cN,ln,if_pos (by decide),g2,bs,show dC (n+4) m 2 ns (n+4) 0=_ from e2];cases zN (vV m 2) ns with
    |true=>simp_all [if_true,me,bs]
    |false=>simp_all [Bool.false_eq_true,if_false,py]
   have s3:cN (n+4) m cs ds ns (n+1) 3=some (.ok ()):=by
    rw [cN,ln,if_neg (by decide)]
   rw [s0,s1,s2,s3];unfold P9
   have fin:((f6 (n+4) m).bind λr32=>fK r32 none (λq33=>(eF (n+4) q33).bind λr35=>some (some q33,c9 b,(0:Int))))=some (some m,c9 b,0):=by
    grind [f6,bs,rf,JA]
   cases zN (vV m 0) cs with
   |false=>simp_all [Bool.false_eq_true,if_false,Bool.false_and,py]
   |true=>
    cases zN (vV m 1) ds with
    |false=>simp_all [if_true,Bool.false_eq_true,if_false,Bool.true_and,Bool.false_and,py]
    |true=>
     cases zN (vV m 2) ns with
     |false=>simp_all [if_true,Bool.false_eq_true,if_false,Bool.true_and,Bool.and_false,py]
     |true=>simp_all [if_true,Bool.true_and,me]
  .rw [if_neg hg,py,if_pos hg]
 simp_all
end Go.Proofs.YtddkbkkogpolaaaGreat
set_option linter.unusedVariables false
set_option linter.unusedSimpArgs false
namespace Go.Proofs.YtddkbkkogpolaaaGreat
open K Go Go.Proofs
def nX(m:ab)(B:Int->Bool)(n:Nat):List Int:=(List.range (mC m).toNat).map λ(c:Nat)=>mP m B n (c:Int)
def kw(m:ab)(B:Int->Bool):List (List Int):=(List.range ((mD m).length+1)).map (nX m B)
theorem GH{m:ab}{B:Int->Bool}{n:Nat}{c:Int}(h0:0≤c)(h1:c < mC m):aV (nX m B n) c=some (mP m B n c):=by
 unfold nX;rw [aV,if_pos h0,List.getElem?_map,List.getElem?_range (by omega)];grind
theorem wV{m:ab}{B:Int->Bool}{n:Nat}(h:n≤(mD m).length):aV (kw m B) (n:Int)=some (nX m B n):=by
 unfold kw;rw [aV,if_pos (by omega),List.getElem?_map,Int.toNat_natCast,List.getElem?_range (by omega)];rfl
theorem Gk{f:Int->Int}{C:Int}(h0:0≤C)(h5:C≤5):List.take C.toNat (kz f)=(List.range C.toNat).map λ(c:Nat)=>f (c:Int):=by
 have:C=0\/C=1\/C=2\/C=3\/C=4\/C=5:=by omega
 rcases this with rfl |rfl |rfl |rfl |rfl |rfl <;> rfl
theorem BF{k:Nat}{m:ab}{b:List Int}(hs:Sm m)(hk:1010≤k)(hb:b.length≤1000):
 jl k m b=some (if¬(kG m=0) then([],kG m) else if¬(sM (mC m) b=0) then([],sM (mC m) b) else(kw m λc=>decide (c∈b),0)):=by
 unfold jl
 rw [uF hs hk hb (by simp) (by simp) (by simp),bs]
 by_cases hc:kG m=0
 .
  have v:=Vd.of hc;by_cases hg:sM (mC m) b=0
  .have hB:=(pn.1 hg).set v.c5;have ho:P9 m [] [] []=true:=rfl;have c1:=v.c1;have c5:=v.c5;have d6:=v.d6;simp only [hc,hg,ho,not_true_eq_false,if_false,if_true,rf];rw [sK v (by omega) hB.1,bs]
   have hd:ck ((m.2.2.2.2.1.length:Int)+1)=some (((mD m).length+1:Nat):Int):=by
    rw [dH (by omega) (by grind)];rfl
   rw [hd,bs]
   have key:=i7 (T:=List (List Int)×Int) (f:=eA k m (cr (FB m (mU (c9 b)))) (((mD m).length+1:Nat):Int)) (List.range ((mD m).length+1)) (λ(s:List (List Int)) j=>(s,j)) (λs j _=>s++[nX m (mU (c9 b)) j]) (λj s=>s=(List.range j).map (nX m (mU (c9 b)))) (λs=>some s)
    (λn s j hj hs=>by
     rw [length_range] at hj;have hck:ck ((j:Int)+1)=some ((j:Int)+1):=dH (by omega) (by omega);have hjlt:(j:Int) < (((mD m).length+1:Nat):Int):=by omega
     have hp:cH (0≤m.1/\m.1≤5)=some ():=dz ⟨by grind,c5⟩
     have ht:List.take (Int.toNat m.1) (kz (FB m (mU (c9 b)) j))=nX m (mU (c9 b)) j:=by
      rw [Gk (by omega) c5];unfold nX;refine List.map_congr_left λc hc=>?_;have:=List.mem_range.1 hc;exact DC v (by omega) (by omega) (by omega)
     have hl:(nX m (mU (c9 b)) j).length≤5:=by grind
     have hsl:s.length=j:=by simp_all
     have hcl:ie k (nX m (mU (c9 b)) j)=some (nX m (mU (c9 b)) j):=by
      unfold ie;rw [dz (by show _≤_;omega),bs]
     have hok:cH (bM (length s+length [nX m (mU (c9 b)) j]))=some ():=dz (by grind [bM]);refine⟨?_,?_⟩
     .simp only [eA,hjlt,if_true,BV (F:=FB m (mU (c9 b))) (show j < 7 by omega),bs,hp,ht,hcl,hok,hck]
     simp_all [List.range_succ,List.map_append])
    (λn s hs=>by
     simp_all [length_range,eA,if_neg,Int.lt_irrefl]) (n:=k) (s0:=[]) (by grind) rfl
   rw [show eA k m (cr (FB m (mU (c9 b)))) (((mD m).length+1:Nat):Int) k ([],0)=_ from key.1,bs,key.2,length_range]
   have hcs:(List.range ((mD m).length+1)).map (nX m (mU (c9 b)))=kw m λc=>decide (c∈b):=by
    unfold kw;refine List.map_congr_left λn hn=>?_;unfold nX;refine List.map_congr_left λc hc=>?_
    have hage:∀(n:Nat) (c:Int),0≤c->c < mC m->mP m (mU (c9 b)) n c=mP m (λc=>decide (c∈b)) n c:=by
     intro n
     induction n with
     |zero=>simp_all [mP]
     |succ n ih=>
      intro c h0 h1;unfold mP;cases e:Ak m n c with
      |none=>simp_all
      |some l=>
       have hb:=(uZ v e).2;grind
    simp_all
   rw [hcs]
  simp_all [not_true_eq_false,not_false_eq_true,if_false,if_true,tU]
 simp_all [not_false_eq_true,if_true,tU]
end Go.Proofs.YtddkbkkogpolaaaGreat
set_option linter.unusedVariables false
set_option linter.unusedSimpArgs false
namespace Go.Proofs.YtddkbkkogpolaaaGreat
open K Go Go.Proofs
theorem Lo.mono{l:bD}{m n:Int}(h:Lo l m)(hn:m≤n):Lo l n:=⟨h.1,Int.le_trans h.2 hn⟩
theorem R9{α:Type}{l:List α}{x:α}{n:Nat}(h:l.length≤n)(hn:n≤1000000):bM (length l+length [x]):=by
 show length l+length [x]≤4294967296;grind
theorem BE{k:Nat}(hk:50≤k){l:bD}{m:Int}{n:Nat}(hl:Lo l m)(hm:0≤m/\m≤1000)(hn:n≤8):W (gU k l (n:Int)) λr=>Lo r.2 (m+10)/\r.1.length=n/\(∀x∈r.1,0≤x/\x < (n:Int))/\r.1.Nodup:=by
 unfold gU;refine W.bind (R:=λr=>Lo (r.2.1,r.2.2.1,r.2.2.2) (m+10)/\r.1.length=n/\(∀x∈r.1,0≤x/\x < (n:Int))/\r.1.Nodup) ?_ λr h=>W.ret h
 refine W.loop (f:=d4 k (n:Int)) (λq y=>∃j:Nat,y.2.2.2.2=(j:Int)/\j≤n/\q=n - j/\Lo (y.1,y.2.1,y.2.2.1) (m+j)/\y.2.2.2.1.length=j/\(∀x∈y.2.2.2.1,0≤x/\x < (j:Int))/\y.2.2.2.1.Nodup) ?_ n k _ (by omega)
  ⟨0,rfl,by omega,by omega,by simp_all,rfl,by simp,by simp⟩
 rintro aO q ⟨nums,d,s,o,y⟩ ⟨j,hj,hle,hq,hlo,hlen,hx,hnd⟩ ih;simp only at hj hlo hlen hx hnd;subst hj;unfold d4;dsimp only;refine W.ite (λhlt=>?_) (λhge=>W.ret ⟨hlo.mono (by omega),by grind,λx hx'=>by grind,hnd⟩);obtain⟨r5,e5,a5,b5,c5⟩:=ky (k:=k) (n:=(j:Int)) hlo (by omega) (by omega);have b5:=b5 (by omega);have ho:(o++[(j:Int)]).length=j+1:=by simp [hlen]
 have hr5:r5.1.toNat < (o++[(j:Int)]).length:=by omega
 have hjl:j < (o++[(j:Int)]).length:=by omega
 have hgj:(o++[(j:Int)])[j]=(j:Int):=by
  grind
 rw [e5,bs,dz (R9 (n:=8) (by omega) (by omega)),bs,ya a5 hr5,bs,dY (by omega),bs];have hgs:aV (List.set (o++[(j:Int)]) (Int.toNat (j:Int)) (o++[(j:Int)])[r5.1.toNat]) r5.1=some ((List.set (o++[(j:Int)]) (Int.toNat (j:Int)) (o++[(j:Int)])[r5.1.toNat])[r5.1.toNat]'(by grind)):=ya a5 (by grind);rw [hgs,bs,dH (by omega) (by omega),bs]
 have hp:(List.set (List.set (o++[(j:Int)]) (Int.toNat (j:Int)) (o++[(j:Int)])[r5.1.toNat]) (Int.toNat r5.1) (j:Int)).Perm (o++[(j:Int)]):=by
  have:= @set_set_perm Int (o++[(j:Int)]) j r5.1.toNat hjl hr5;rw [hgj] at this;exact this
 refine ih (q - 1) (_,_,_,_,(j:Int)+1) (by omega) ⟨j+1,by grind,by omega,by omega,c5.mono (by omega),by simp [hlen],λx hx'=>?_,hp.nodup_iff.2 ?_⟩
 .grind
 grind
theorem Ic{out:List (List Int)}{i:Nat}{x:Int}(h:i < out.length):(out.set i (out[i]++[x])).flatten.Perm (out.flatten++[x]):=by
 have e1:out=out.take i++out[i]::out.drop (i+1):=by simp_all
 grind
structure Rl(C:Int)(r:List (List Int)):Prop where
 r3:r.length≤3
 x5:∀l∈r,∀x∈l,0≤x/\x < C
 nd:r.flatten.Nodup
theorem Rl.l5{C:Int}(hC:0≤C/\C≤5){r:List (List Int)}(h:Rl C r):∀l∈r,l.length≤5:=λl hl=>by
 have:=rM C.toNat l (uD h.nd hl) λx hx=>by have:=h.x5 l hl x hx;omega
 omega
theorem GO{k:Nat}(hk:50≤k){l:bD}{m:Int}{n:Nat}(hl:Lo l m)(hm:0≤m/\m≤900)(hn:n≤5):
 W (jL k l (n:Int)) λr=>Lo r.2 (m+30)/\Rl (n:Int) r.1:=by
 unfold jL
 refine W.bind (Dk (l:=(l.1,l.2.1,l.2.2)) hl (by omega) (by omega) (by omega) (by omega)) λr1 h1=>?_
 refine W.chk ⟨by omega,by show _≤_;omega⟩ ?_
 refine W.bind (BE hk (l:=(r1.2.1,r1.2.2.1,r1.2.2.2)) (m:=m+1) (n:=n) h1.2.2 (by omega) (by omega)) λr4 h4=>?_
 obtain⟨lo4,len4,rng4,nd4⟩:=h4
 refine W.bind (R:=λx=>Lo (x.1,x.2.1,x.2.2.1) (m+30)/\Rl (n:Int) x.2.2.2) ?_ λx hx=>W.ret hx
 refine W.loop (f:=fB k r4) (λq y=>∃j:Nat,y.2.2.2.1=(j:Int)/\j≤n/\q=n - j/\Lo (y.1,y.2.1,y.2.2.1) (m+11+2 * j)/\y.2.2.2.2.length=r1.1.toNat/\(∀x∈y.2.2.2.2.flatten,x∈r4.1.take j)/\y.2.2.2.2.flatten.Nodup) ?_ n k _ (by omega)
  ⟨0,rfl,by omega,by omega,lo4.mono (by omega),by simp,by simp,by simp⟩
 rintro aO q ⟨nums,d,s,y,out⟩ ⟨j,hj,hle,hq,hlo,hlen,hx,hnd⟩ ih
 simp only at hj hlo hlen hx hnd
 subst hj
 unfold fB
 dsimp only
 refine W.ite (λhlt=>?_) (λhge=>W.ret ⟨hlo.mono (by omega),by grind,λl hl x hxx=>rng4 x (mem_of_mem_take (hx x (List.mem_flatten.2 ⟨l,hl,hxx⟩))),hnd⟩)
 have hj:j < r4.1.length:=by omega
 have hsub:∀x∈r4.1.take j,x∈r4.1.take (j+1):=λx hh=>by grind
 refine W.bind (R:=λx=>Lo (x.1,x.2.1,x.2.2.1) (m+11+2 * j+2)/\x.2.2.2.length=r1.1.toNat/\(∀z∈x.2.2.2.flatten,z∈r4.1.take (j+1))/\x.2.2.2.flatten.Nodup) ?_ λx9 h9=>?_
 .
  refine W.bind (tK (l:=(nums,d,s)) hlo (by omega) (by omega) (by omega)) λr11 h11=>?_;refine W.ite (λ_=>W.ret ⟨h11.mono (by omega),hlen,λz hz=>hsub z (hx z hz),hnd⟩) (λ_=>?_);refine W.ck (by omega) (by omega) ?_;refine W.bind (ky (l:=(r11.2.1,r11.2.2.1,r11.2.2.2)) h11 (by omega) (by omega)) λr13 h13=>?_;have b13:=h13.2.1 (by omega);have hi:r13.1.toNat < out.length:=by omega
  rw [ya h13.1 hi,bs,dY hj,bs]
  have hxj:r4.1[j]∉out.flatten:=λhin=>by
   grind [List.getElem_of_mem,length_take,getElem_inj]
  have hlen2:(out[r13.1.toNat]).length≤5:=by
   have:=rM n _ (uD hnd (List.getElem_mem hi)) λx hxx=>rng4 x (mem_of_mem_take (hx x (List.mem_flatten.2 ⟨_,List.getElem_mem hi,hxx⟩)));omega
  rw [dz (by grind [bM]),bs];have hp:=Ic (x:=r4.1[j]) hi;refine W.ret ⟨h13.2.2.mono (by omega),by grind,λz hz=>?_,hp.nodup_iff.2 ?_⟩
  .grind [List.mem_singleton,take_add_one,List.getElem?_eq_getElem,List.mem_append_right]
  grind
 .
  refine W.ck (by omega) (by omega) ?_;exact ih (q - 1) (_,_,_,(j:Int)+1,_) (by omega) ⟨j+1,by grind,by omega,by omega,h9.1.mono (by omega),h9.2⟩
end Go.Proofs.YtddkbkkogpolaaaGreat
set_option linter.unusedVariables false
set_option linter.unusedSimpArgs false
namespace Go.Proofs.YtddkbkkogpolaaaGreat
open K Go Go.Proofs
theorem LY{c w s h:Int}{ds:List (List (List Int))}(hc:1≤c/\c≤5)(hw:0≤w/\w≤3)(hs:0≤s/\s≤3)(hh:1≤h/\h≤3)(d1:1≤ds.length)(d6:ds.length≤6)(hr:∀r∈ds,Rl c r):Vd (c,w,s,h,ds,[]):=
 ⟨hc.1,hc.2,hw.1,hw.2,hs.1,hs.2,hh.1,hh.2,d1,d6,λr h=>(hr r h).r3,λr h=>(hr r h).l5 ⟨by omega,hc.2⟩,λr h=>(hr r h).x5,λr h=>(hr r h).nd,by simp [mG],λg hg=>by cases hg⟩
theorem BX{k:Nat}{l:List Int}(h:l.length≤1000000):iZ k l=some l:=by
 grind [iZ,dz,Us,length_nil,bs]
theorem s7{k:Nat}{l:List (List Int)}(hk:l.length < k)(h1:l.length≤1000000)(h2:∀x∈l,x.length≤1000000):gi k l=some l:=by
 unfold gi
 have key:=i7 (T:=List (List Int)×Int) (f:=dM k l) l (λ(s:List (List Int)) j=>(s,j)) (λs j x=>s++[x]) (λj s=>s=l.take j) (λs=>some s)
  (λn s j hj hs=>by
   have hck:ck ((j:Int)+1)=some ((j:Int)+1):=dH (by omega) (by omega);have hl:s.length=j:=by grind
   have hok:cH (bM (length s+length [l[j]]))=some ():=dz (by grind [bM]);refine⟨?_,?_⟩
   .simp_all [dM,Int.ofNat_lt,if_true,dY,bs,BX,List.getElem_mem]
   simp_all)
  (λn s hs=>by
   unfold dM;simp_all) (n:=k) (s0:=[]) hk (by simp)
 simp_all
theorem BB{k:Nat}(hk:50≤k){l:bD}{m:Int}{cs ds:Int}(hl:Lo l m)(hm:0≤m/\m≤400)(hc:1≤cs/\cs≤5)(hd:1≤ds/\ds≤6):
 W (jM k l cs ds) λr=>Lo r.2 (m+250)/\Vd r.1/\mG r.1=[]/\mC r.1≤cs/\((mD r.1).length:Int)≤ds:=by
 unfold jM
 refine W.bind (Dk (l:=(l.1,l.2.1,l.2.2)) hl (by omega) (by omega) (by omega) (by omega)) λr2 h2=>?_
 refine W.bind (ky (l:=(r2.2.1,r2.2.2.1,r2.2.2.2)) h2.2.2 (by omega) (by omega)) λr3 h3=>?_
 have b3:=h3.2.1 (by omega)
 refine W.bind (G2 (l:=(r3.2.1,r3.2.2.1,r3.2.2.2)) h3.2.2 (by omega) (by simp) (by simp)) λr4 h4=>?_
 refine W.bind (ky (l:=(r4.2.1,r4.2.2.1,r4.2.2.2)) h4.2 (by omega) (by omega)) λr5 h5=>?_
 have b5:=h5.2.1 (by omega)
 refine W.bind (G2 (l:=(r5.2.1,r5.2.2.1,r5.2.2.2)) h5.2.2 (by omega) (by simp) (by simp)) λr6 h6=>?_
 refine W.bind (Dk (l:=(r6.2.1,r6.2.2.1,r6.2.2.2)) h6.2 (by omega) (by omega) (by omega) (by omega)) λr7 h7=>?_
 refine W.bind (G2 (l:=(r7.2.1,r7.2.2.1,r7.2.2.2)) h7.2.2 (by omega) (by simp) (by simp)) λr8 h8=>?_
 have w4:0≤r4.1/\r4.1≤3:=by
  grind
 have w6:0≤r6.1/\r6.1≤3:=by
  grind
 have w8:1≤r8.1/\r8.1≤3:=by
  grind
 have lo8:=h8.2
 refine W.bind (R:=λx=>Lo (x.2.1,x.2.2.1,x.2.2.2) (m+250)/\(1≤x.1.length/\(x.1.length:Int)≤ds)/\∀r∈x.1,Rl r2.1 r) ?_ λx hx=>W.ret ⟨hx.1,LY (by omega) w4 w6 w8 (by omega) (by omega) hx.2.2,rfl,h2.2.1,hx.2.1.2⟩
 refine W.bind (Dk (l:=(r8.2.1,r8.2.2.1,r8.2.2.2)) lo8 (by omega) (by omega) (by omega) (by omega)) λr12 h12=>?_
 refine W.loop (f:=fC k r2) (λq y=>∃j:Nat,y.2.2.2.1.length=j/\y.2.2.2.2=r12.1 - j/\(j:Int)≤r12.1/\q=r12.1.toNat - j/\Lo (y.1,y.2.1,y.2.2.1) (m+10+33 * j)/\∀r∈y.2.2.2.1,Rl r2.1 r) ?_ r12.1.toNat k _ (by omega)
  ⟨0,rfl,by simp,by omega,by omega,h12.2.2.mono (by omega),by simp⟩
 rintro aO q ⟨nums,d,s,out,y⟩ ⟨j,hj,hy,hle,hq,hlo,hr⟩ ih
 simp only at hj hy hlo hr
 subst hy
 unfold fC
 dsimp only
 refine W.ite (λhlt=>?_) (λhge=>W.ret ⟨hlo.mono (by omega),⟨by grind,by grind⟩,hr⟩)
 refine W.bind (R:=λx=>Lo (x.1,x.2.1,x.2.2.1) (m+10+33 * j+33)/\x.2.2.2.length=j+1/\∀r∈x.2.2.2,Rl r2.1 r) ?_ λx15 h15=>?_
 .
  refine W.bind (R:=λx=>Lo (x.1,x.2.1,x.2.2.1) (m+10+33 * j+1)/\(x.2.2.2=true->0 < out.length)) ?_ λx17 h17=>?_
  .refine W.ite (λh0=>?_) (λh0=>W.ret ⟨hlo.mono (by omega),λh=>by cases h⟩);grind [W.bind,tK,W.ret]
  .refine W.ite (λht=>?_) (λht=>?_)
   .have h0:=h17.2 ht;refine W.ck (by omega) (by omega) ?_;have hi:((out.length:Int) - 1)=((out.length - 1:Nat):Int):=by omega
    have hlt':out.length - 1 < out.length:=by omega
    rw [hi,dY hlt',bs];have hrl:=hr _ (List.getElem_mem hlt');have hl5:=hrl.l5 (by omega);have hr3:=hrl.r3;rw [s7 (by omega) (by omega) (λx hx=>by grind),bs,dz (by grind [bM]),bs];refine W.ret ⟨h17.1.mono (by omega),by simp [hj],λr hrr=>?_⟩;grind
   .have hc2:((r2.1.toNat:Nat):Int)=r2.1:=by omega
    have:=GO hk (l:=(x17.1,x17.2.1,x17.2.2.1)) (m:=m+10+33 * j+1) (n:=r2.1.toNat) h17.1 (by omega) (by omega);rw [hc2] at this;refine W.bind this λr26 h26=>?_;rw [dz (by grind [bM]),bs];refine W.ret ⟨h26.1.mono (by omega),by simp [hj],λr hrr=>?_⟩;grind
 .
  refine W.ck (by omega) (by omega) ?_;exact ih (q - 1) (_,_,_,_,_) (by omega) ⟨j+1,h15.2.1,by grind,by omega,by omega,h15.1.mono (by omega),h15.2.2⟩
theorem B0{k:Nat}(hk:50≤k){l:bD}{m:Int}{c:Int}(hl:Lo l m)(hm:0≤m/\m≤900)(hc:1≤c/\c≤5):
 W (jN k l c) λr=>Lo r.2 (m+10)/\Bg c r.1:=by
 unfold jN
 refine W.bind (R:=λx=>Lo (x.2.1,x.2.2.1,x.2.2.2) (m+10)/\Bg c x.1) ?_ λx hx=>W.ret hx
 refine W.loop (f:=fE k c) (λq y=>∃j:Nat,y.2.2.2.2=(j:Int)/\(j:Int)≤c/\q=c.toNat - j/\Lo (y.1,y.2.1,y.2.2.1) (m+j)/\y.2.2.2.1.length≤j/\(∀x∈y.2.2.2.1,0≤x/\x < (j:Int))/\y.2.2.2.1.Pairwise (· < ·)) ?_ c.toNat k _ (by omega)
  ⟨0,rfl,by omega,by omega,by simp_all,by simp,by simp,by simp⟩
 rintro aO q ⟨nums,d,s,o,y⟩ ⟨j,hj,hle,hq,hlo,hlen,hx,hp⟩ ih
 simp only at hj hlo hlen hx hp
 subst hj
 unfold fE
 dsimp only
 refine W.ite (λhlt=>?_) (λhge=>W.ret ⟨hlo.mono (by omega),λx hxx=>by grind,hp⟩)
 refine W.bind (R:=λx=>Lo (x.1,x.2.1,x.2.2.1) (m+j+1)/\x.2.2.2.length≤j+1/\(∀z∈x.2.2.2,0≤z/\z < ((j+1:Nat):Int))/\x.2.2.2.Pairwise (· < ·)) ?_ λx5 h5=>?_
 .
  refine W.bind (tK (l:=(nums,d,s)) hlo (by omega) (by omega) (by omega)) λr7 h7=>?_;refine W.ite (λht=>?_) (λht=>W.ret ⟨h7,by grind,λz hz=>by grind,hp⟩);grind [dz,bM,bs,W.ret,List.mem_singleton]
 .
  refine W.ck (by omega) (by omega) ?_;exact ih (q - 1) (_,_,_,_,_) (by omega) ⟨j+1,by grind,by omega,by omega,h5.1.mono (by omega),h5.2⟩
theorem Bg.len{C:Int}(hC:0≤C/\C≤5){b:List Int}(h:Bg C b):b.length≤5:=by
 have:=rM C.toNat b (h.asc.imp λhab e=>by omega) λx hx=>by have:=h.rng x hx;omega
 omega
theorem GG{m:ab}{B:Int->Bool}{n:Nat}(h:0≤mC m):((nX m B n).length:Int)=mC m:=by
 unfold nX;grind
theorem o9{m:ab}{B:Int->Bool}:(kw m B).length=(mD m).length+1:=by
 unfold kw;simp_all
theorem u5{α ε:Type}:∀(l:List α) (j:Nat),eG (λ(_:Unit) _ _=>(.ok ():Except ε Unit)) j l ()= .ok ()
 |[],_=>rfl
 |_::l,j=>u5 l (j+1)
theorem F5{k:Nat}{m:ab}{B:Int->Bool}(v:Vd m)(hk:10≤k):mJ k m (kw m B)=some true:=by
 have c1:=v.c1;have d6:=v.d6;unfold mJ;have hd:ck ((m.2.2.2.2.1.length:Int)+1)=some (((mD m).length:Int)+1):=dH (by omega) (by grind);rw [hd,bs,if_neg (λhn=>hn (by rw [o9];omega))]
 have key:=lz (T:=Int) (f:=fe k m (kw m B)) (kw m B) (λ(_:Unit) j=>j) (λ_ _ _=>(.ok ():Except Bool Unit)) (λ_ _=>True) (λr=>some r)
  (λn s j hj _=>by
   have hck:ck ((j:Int)+1)=some ((j:Int)+1):=dH (by omega) (by grind [o9]);refine⟨?_,λ_ _=>trivial⟩;have hj2:j≤(mD m).length:=by grind [o9]
   simp only [fe,Int.ofNat_lt,hj,if_true,wV hj2,bs,hck];rw [if_neg (λhn=>hn (GG (by omega)))])
  (λn s _=>by simp [fe]) (n:=k) (s0:=()) (by rw [o9];omega) trivial
 simp_all [fe,kw,u5,me]
end Go.Proofs.YtddkbkkogpolaaaGreat
set_option linter.unusedVariables false
set_option linter.unusedSimpArgs false
namespace Go.Proofs.YtddkbkkogpolaaaGreat
open K Go Go.Proofs
end Go.Proofs.YtddkbkkogpolaaaGreat
set_option linter.unusedVariables false
set_option linter.unusedSimpArgs false
namespace Go.Proofs.YtddkbkkogpolaaaGreat
open K Go Go.Proofs
theorem ug{k:Nat}{l:List (List Int)}(hk:l.length < k)(hl:l.length≤1000000)(hx:∀x∈l,x.length < k/\x.length≤1000000):fj k l l=some true:=by
 unfold fj;rw [if_neg (λhn=>hn rfl)]
 have key:=lz (T:=Int) (f:=dq k l l) l (λ(_:Unit) j=>j) (λ_ _ _=>(.ok ():Except Bool Unit)) (λ_ _=>True) (λr=>some r)
  (λn s j hj _=>by
   have hck:ck ((j:Int)+1)=some ((j:Int)+1):=dH (by omega) (by omega);have h5:=hx _ (List.getElem_mem hj);refine⟨?_,λ_ _=>trivial⟩;simp only [dq,Int.ofNat_lt,hj,if_true,dY hj,bs,sV h5.1 h5.2,decide_true,not_true_eq_false,if_false,hck])
  (λn s _=>by simp [dq]) (n:=k) (s0:=()) hk trivial
 simp_all [dq,u5,me]
theorem uf{k:Nat}{m:ab}(hk:1010≤k)(hs:Sm m):ij k m m=some true:=by
 have hd:=hs.d;have hg:=hs.g;unfold ij;have e0:((if¬(m.1=m.1) then(some true) else(if¬(m.2.1=m.2.1) then(some true) else(if¬(m.2.2.1=m.2.2.1) then(some true) else(if¬(m.2.2.2.1=m.2.2.2.1) then(some true) else(if¬((m.2.2.2.2.1.length:Int)=(m.2.2.2.2.1.length:Int)) then(some true) else(some (!decide ((m.2.2.2.2.2.length:Int)=(m.2.2.2.2.2.length:Int))))))))):Option Bool)=some false:=by simp
 rw [e0,bs,if_neg (by decide)]
 have key:=lz (T:=Int) (f:=dp k m m) (mD m) (λ(_:Unit) j=>j) (λ_ _ _=>(.ok ():Except Bool Unit)) (λ_ _=>True) (λr=>some r)
  (λn s j hj _=>by
   have hck:ck ((j:Int)+1)=some ((j:Int)+1):=dH (by omega) (by omega);have hr:=hs.r _ (List.getElem_mem hj);have hj':(j:Int) < (m.2.2.2.2.1.length:Int):=Int.ofNat_lt.2 hj;have hg:aV m.2.2.2.2.1 (j:Int)=some (mD m)[j]:=dY hj;refine⟨?_,λ_ _=>trivial⟩;simp only [dp,hj',if_true,hg,bs,ug (k:=k) (l:=(mD m)[j]) (by omega) (by omega) (λx hx=>by grind),not_true_eq_false,if_false,hck])
  (λn s _=>by
   unfold dp;simp_all) (n:=k) (s0:=()) (by omega) trivial
 rw [show dp k m m k 0=_ from key,u5,me]
 have key:=lz (T:=Int) (f:=dn k m m) (mG m) (λ(_:Unit) j=>j) (λ_ _ _=>(.ok ():Except Bool Unit)) (λ_ _=>True) (λr=>some r)
  (λn s j hj _=>by
   have hck:ck ((j:Int)+1)=some ((j:Int)+1):=dH (by omega) (by omega);have hj':(j:Int) < (m.2.2.2.2.2.length:Int):=Int.ofNat_lt.2 hj;have hg:aV m.2.2.2.2.2 (j:Int)=some (mG m)[j]:=dY hj;simp_all [dn,if_true,bs,not_true_eq_false,if_false])
  (λn s _=>by
   unfold dn;simp_all) (n:=k) (s0:=()) (by omega) trivial
 simp_all [dn,u5,me]
theorem Ab{k:Nat}{m:ab}(hk:1010≤k)(hs:Sm m):im k m=some m:=by
 have hd:=hs.d;have hg:=hs.g;unfold im;rw [dz (by show _≤_;grind),bs]
 have key:=i7 (T:=List (List (List Int))×Int) (f:=dL k m) (mD m) (λ(s:List (List (List Int))) j=>(s,j)) (λs j x=>s++[x]) (λj s=>s=(mD m).take j) (λs=>some s)
  (λn s j hj hs'=>by
   have hck:ck ((j:Int)+1)=some ((j:Int)+1):=dH (by omega) (by omega);have hl:s.length=j:=by grind
   have hok:cH (bM (length s+length [(mD m)[j]]))=some ():=dz (by grind [bM]);have hj':(j:Int) < (m.2.2.2.2.1.length:Int):=Int.ofNat_lt.2 hj;have hg:aV m.2.2.2.2.1 (j:Int)=some (mD m)[j]:=dY hj;have hr:=hs.r _ (List.getElem_mem hj);refine⟨?_,?_⟩
   .simp only [dL,hj',if_true,hg,bs,s7 (k:=k) (l:=(mD m)[j]) (by omega) (by omega) (λx hx=>by grind),hok,hck]
   simp_all)
  (λn s hs=>by
   unfold dL;simp_all) (n:=k) (s0:=[]) (by omega) (by simp)
 simp_all
theorem s6{k:Nat}{l:bD}{m:Int}{x:yl}(hl:Lo l m)(hm:0≤m/\m≤900)(hc:1≤x.1/\x.1≤5)(hd:x.2.2.2.2.1.length≤6):
 W (il k l x) λr=>Lo r.2 (m+3)/\(0≤r.1.1/\r.1.1 < x.1)/\0≤r.1.2.1/\r.1.2.1≤(x.2.2.2.2.1.length:Int):=by
 unfold il
 grind [W.ck,W.bind,ky,tK,W.ret]
theorem Vd.with{m:ab}(v:Vd m){gs:List aG}(h8:gs.length≤8)(hg:∀g∈gs,0≤g.1/\g.1 < mC m/\0≤g.2.1/\g.2.1≤(mD m).length):Vd (m.1,m.2.1,m.2.2.1,m.2.2.2.1,m.2.2.2.2.1,gs):=
 ⟨v.c1,v.c5,v.w0,v.w3,v.s0,v.s3,v.h1,v.h3,v.d1,v.d6,v.r3,v.l5,v.x5,v.nd,h8,hg⟩
theorem Sm.with{m:ab}(h:Sm m){gs:List aG}(hg:gs.length≤1000):Sm (m.1,m.2.1,m.2.2.1,m.2.2.2.1,m.2.2.2.2.1,gs):=⟨h.d,h.r,hg⟩
end Go.Proofs.YtddkbkkogpolaaaGreat
set_option linter.unusedVariables false
set_option linter.unusedSimpArgs false
namespace Go.Proofs.YtddkbkkogpolaaaGreat
open K Go Go.Proofs
def lD(C:Nat):Nat->List Int->Nat->List (List Int)
 |0,b,_=>[b]
 |n+1,b,f=>b::(List.range' f (C - f)).flatMap λ(c:Nat)=>lD C n (b++[(c:Int)]) (c+1)
theorem ue{b:List Int}{c:Int}:c9 (b++[c])=xc (c9 b) c:=by
 unfold c9;simp_all
theorem zK{σ:Type}{k:Nat}{Y:σ->Int->Option (σ×Bool)}{C:Nat}(hC:C≤5)(hk:10≤k)(g:σ->List Int->σ)(vz:Nat->σ->Prop):
 ∀(n m0:Nat) (b:List Int) (f:Nat) (s:σ) (r:Nat),C - f≤n->f≤C->n < m0->jv (c9 b)->(∀r s,∀b'∈lD C n b f,vz (r+1) s->Y s (c9 b')=some (g s b',true)/\vz r (g s b'))->vz ((lD C n b f).length+r) s->
  dw k Y (C:Int) m0 (c9 b) (f:Int) s=some (true,(lD C n b f).foldl g s)/\vz r ((lD C n b f).foldl g s)
 |n,0,b,f,s,r,_,_,h,_,_,_=>absurd h (not_lt_zero _)
 |0,m0+1,b,f,s,r,h1,h2,_,hm,hY,hI=>by
  have hf:f=C:=by omega
  subst hf
  unfold dw
  obtain⟨k,rfl⟩:∃n,k=n+1:=⟨k - 1,by omega⟩
  have hI:vz (r+1) s:=by rw [Nat.add_comm];exact hI
  have:=hY r s b (by simp [lD]) hI
  rw [this.1,bs,if_neg (by simp)]
  rw [dk,if_neg (Int.lt_irrefl _),me]
  exact⟨rfl,this.2⟩
 |n+1,m0+1,b,f,s,r,h1,h2,h3,hm,hY,hI=>by
  unfold dw
  have hlen:(lD C (n+1) b f).length=((List.range' f (C - f)).flatMap λ(c:Nat)=>lD C n (b++[(c:Int)]) (c+1)).length+1:=by rw [lD,length_cons]
  rw [hlen] at hI
  have h0:=hY (((List.range' f (C - f)).flatMap λ(c:Nat)=>lD C n (b++[(c:Int)]) (c+1)).length+r) s b (by simp [lD]) (by grind)
  rw [h0.1,bs,if_neg (by simp)]
  have loop:∀(d x:Nat) (s:σ) (aO:Nat) (r:Nat),C - x=d->f≤x->x≤C->d < aO->vz (((List.range' x (C - x)).flatMap λ(c:Nat)=>lD C n (b++[(c:Int)]) (c+1)).length+r) s->
   dk k (c9 b) (C:Int) (dw k Y (C:Int) m0) aO ((x:Int),s)=some (.ok (((List.range' x (C - x)).flatMap λ(c:Nat)=>lD C n (b++[(c:Int)]) (c+1)).foldl g s))/\vz r (((List.range' x (C - x)).flatMap λ(c:Nat)=>lD C n (b++[(c:Int)]) (c+1)).foldl g s):=by
   intro d
   induction d with
   |zero=>
    intro x s aO r hd hx hx2 hfu hI;obtain⟨aO,rfl⟩:∃n,aO=n+1:=⟨aO - 1,by omega⟩;have:x=C:=by omega
    simp_all [Nat.sub_self,dk,if_neg,Int.lt_irrefl]
   |succ d ih=>
    intro x s aO r hd hx hx2 hfu hI;obtain⟨aO,rfl⟩:∃n,aO=n+1:=⟨aO - 1,by omega⟩;have hw:=mY (k:=k) hm (show(0:Int)≤(x:Int) by omega) (show(x:Int) < 8 by omega);have hck:ck ((x:Int)+1)=some (((x+1:Nat):Int)):=by grind [dH]
    have e:C - x=(C - (x+1))+1:=by omega
    rw [e,List.range'_succ,List.flatMap_cons,length_append,Nat.add_assoc] at hI
    have hsub:=zK hC hk g vz n m0 (b++[(x:Int)]) (x+1) s _ (by omega) (by omega) (by omega) (by simp_all [ue]) (λr s b' hb'=>hY r s b' (by
     rw [lD];grind)) hI
    rw [ue] at hsub;have hih:=ih (x+1) _ aO r (by omega) (by omega) (by omega) (by omega) hsub.2;rw [dk,if_pos (show(x:Int) < (C:Int) by omega),hw.1,bs,hck,bs,hsub.1,bs,if_neg (by simp),bs,hih.1];simp_all [List.range'_succ,List.flatMap_cons,List.foldl_append]
  have hl:=loop (C - f) f _ k r rfl (Nat.le_refl _) h2 (by omega) h0.2;rw [hl.1,me];exact⟨rfl,hl.2⟩
def AP(m:ab)(but:Nat->Bool)(B:Int->Bool):Bool:=(mG m).zipIdx.all λg=>but g.2 || decide (g.1.2.2=decide (mS m≤mP m B g.1.2.1.toNat g.1.1))
theorem wQ{α ε:Type}{p:Nat->α->Bool}{e:ε}:∀(l:List α) (j:Nat),eG (λ(_:Unit) j x=>if p j x=true then .ok () else Except.error e) j l ()=if((l.zipIdx j).all λg=>p g.2 g.1)=true then .ok () else .error e
 |[],j=>rfl
 |x::l,j=>by
  rw [eG,zipIdx_cons,all_cons]
  cases h:p j x with
  |true=>simp only [if_true,Bool.true_and];exact wQ l (j+1)
  |false=>simp
theorem zU{k:Nat}{m:ab}{S a2:Int}(v:Vd m)(hk:10≤k)(hS:jv S)(ha:jv a2):c6 k m S a2=some (AP m (λi=>decide (ek a2 i)) (mU S)):=by
 have g8:=v.g8;have d6:=v.d6;unfold c6 gr;rw [sK v hk hS,bs]
 have key:=lz (T:=Int) (f:=cy k m a2 (cr (FB m (mU S)))) (mG m) (λ(_:Unit) j=>j) (λ_ j x=>if(decide (ek a2 j) || decide (x.2.2=decide (mS m≤mP m (mU S) x.2.1.toNat x.1)))=true then .ok () else Except.error ()) (λ_ _=>True) (λr=>some (match r with | .error _=>false | .ok _=>true))
  (λn s j hj _=>by
   have hck:ck ((j:Int)+1)=some ((j:Int)+1):=dH (by omega) (by omega);have hg:=v.gl _ (List.getElem_mem hj);have hj':(j:Int) < (m.2.2.2.2.2.length:Int):=Int.ofNat_lt.2 hj;have hget:aV m.2.2.2.2.2 (j:Int)=some (mG m)[j]:=dY hj;generalize (mG m)[j]=x at *;have c5:=v.c5;have e2:x.2.1=((x.2.1.toNat:Nat):Int):=by omega
   have hrow:aV (cr (FB m (mU S))) x.2.1=some (kz (FB m (mU S) x.2.1.toNat)):=by
    grind [BV,Int.toNat_natCast]
   have hval:aV (kz (FB m (mU S) x.2.1.toNat)) x.1=some (mP m (mU S) x.2.1.toNat x.1):=by
    grind [xz,DC]
   refine⟨?_,λ_ _=>trivial⟩;have hm1:m.2.2.1=mS m:=rfl;simp only [cy,hj',if_true,hget,bs,xZ (k:=k) ha (i:=j) (by omega),hrow,hval,hm1];grind)
  (λn s _=>by
   unfold cy;simp_all) (n:=k) (s0:=()) (by omega) trivial
 rw [show cy k m a2 (cr (FB m (mU S))) k 0=_ from key,wQ (p:=λj (x:aG)=>decide (ek a2 j) || decide (x.2.2=decide (mS m≤mP m (mU S) x.2.1.toNat x.1)))];unfold AP;grind
end Go.Proofs.YtddkbkkogpolaaaGreat
set_option linter.unusedVariables false
set_option linter.unusedSimpArgs false
namespace Go.Proofs.YtddkbkkogpolaaaGreat
open K Go Go.Proofs
theorem xb{m:ab}(v:Vd m){A B:Int->Bool}(h:∀c,0≤c->c < mC m->A c=B c):∀(n:Nat) (c:Int),0≤c->c < mC m->mP m A n c=mP m B n c
 |0,c,h0,h1=>by simp_all [mP]
 |n+1,c,h0,h1=>by
  have ih:=xb v h n
  unfold mP
  cases e:Ak m n c with
  |none=>simp_all
  |some l=>
   have hb:=(uZ v e).2
   grind
theorem Cc{α:Type}{l:List α}{p q:α->Bool}(h:∀x∈l,p x=q x):l.all p=l.all q:=by
 grind
theorem EN{m:ab}(v:Vd m){but:Nat->Bool}{A B:Int->Bool}(h:∀c,0≤c->c < mC m->A c=B c):AP m but A=AP m but B:=by
 unfold AP;refine Cc λg hg=>?_;obtain⟨x,i⟩:=g;have hx:=v.gl x (List.fst_mem_of_mem_zipIdx hg);show(but i || decide (x.2.2=decide (mS m≤mP m A x.2.1.toNat x.1)))=(but i || decide (x.2.2=decide (mS m≤mP m B x.2.1.toNat x.1)));grind [xb]
def Ap(m:ab):List (List Int):=lD (mC m).toNat (mC m).toNat [] 0
theorem DL{C:Nat}:∀(n:Nat) (b:List Int) (f:Nat),Bg (C:Int) b->(∀x∈b,x < (f:Int))->∀b'∈lD C n b f,Bg (C:Int) b'
 |0,b,f,h,_,b',hb=>by
  simp_all [lD,List.mem_singleton]
 |n+1,b,f,h,hf,b',hb=>by
  rw [lD,mem_cons] at hb
  rcases hb with rfl |hb
  .
   exact h
  .
   obtain⟨c,hc,hb⟩:=List.mem_flatMap.1 hb
   rw [List.mem_range'_1] at hc
   refine DL n (b++[(c:Int)]) (c+1) ⟨λx hx=>?_,?_⟩ (λx hx=>?_) b' hb
   .
    rcases List.mem_append.1 hx with hx |hx
    .
     exact h.rng x hx
    grind
   .
    rw [pairwise_append]
    exact⟨h.asc,by simp,λa ha x hx=>by grind⟩
   grind
theorem DO{m:ab}(v:Vd m){b:List Int}(h:b∈Ap m):Bg (mC m) b:=by
 have c1:=v.c1;have:=DL (C:=(mC m).toNat) (mC m).toNat [] 0 ⟨by simp,by simp⟩ (by simp) b h;grind
theorem Ao{m:ab}(v:Vd m):(Ap m).length≤32:=by
 have c1:=v.c1;have c5:=v.c5;have:(mC m).toNat=1\/(mC m).toNat=2\/(mC m).toNat=3\/(mC m).toNat=4\/(mC m).toNat=5:=by omega
 unfold Ap;rcases this with h |h |h |h |h <;> rw [h] <;> decide
def ia(m:ab)(but:Nat->Bool):List (List Int):=(Ap m).filter λb=>AP m but λc=>decide (c∈b)
theorem pE{α β:Type}{p:α->Bool}{h:α->β}:∀(l:List α) (s:List β),l.foldl (λ(s:List β×Bool) b=>(if p b then s.1++[h b] else s.1,false)) (s,false)=(s++(l.filter p).map h,false)
 |[],s=>by simp
 |x::l,s=>by
  rw [foldl_cons,pE l]
  grind
theorem qg{k:Nat}{m:ab}{a2:Int}(v:Vd m)(hk:50≤k)(ha:jv a2):dj k m a2=some ((ia m λi=>decide (ek a2 i)).map c9):=by
 have c1:=v.c1;have c5:=v.c5;unfold dj jK;have hC:m.1=(((mC m).toNat:Nat):Int):=by grind
 have h:=zK (σ:=List Int×Bool) (k:=k) (Y:=qF (λ(y5:(List Int)) (p7:Int)=>(c6 k m p7 a2).bind λr9=>if r9=true then((cH (bM (length y5+length [p7]))).bind λ_=>some (y5++[p7],true)) else(some (y5,true)))) (C:=(mC m).toNat) (by omega) (by omega)
  (λs b=>(if AP m (λi=>decide (ek a2 i)) (λc=>decide (c∈b)) then s.1++[c9 b] else s.1,false)) (λr s=>s.2=false/\s.1.length+r≤1000) (mC m).toNat k [] 0 ([],false) 0 (by omega) (by omega) (by omega) sY (λr s b' hb' hI=>by
   obtain⟨y,q⟩:=s;obtain⟨rfl,hI⟩:q=false/\y.length+(r+1)≤1000:=hI;have hbg:=DO v hb';have hset:=hbg.set c5;have hex:AP m (λi=>decide (ek a2 i)) (mU (c9 b'))=AP m (λi=>decide (ek a2 i)) (λc=>decide (c∈b')):=EN v λc h0 _=>hset.2 c h0;unfold qF;simp only [];rw [zU v (by omega) hset.1 ha,hex,bs];cases AP m (λi=>decide (ek a2 i)) (λc=>decide (c∈b')) with
   |true=>
    simp only [if_true];grind [dz,bM,bs,c9]
   |false=>
    grind) ⟨rfl,by have:=Ao v;grind [Ap]⟩
 rw [hC,show dw k (qF (λ(y5:(List Int)) (p7:Int)=>(c6 k m p7 a2).bind λr9=>if r9=true then((cH (bM (length y5+length [p7]))).bind λ_=>some (y5++[p7],true)) else(some (y5,true)))) (((mC m).toNat:Nat):Int) k 0 0 ([],false)=_ from h.1,bs,bs];rw [pE (p:=λb=>AP m (λi=>decide (ek a2 i)) λc=>decide (c∈b)) (h:=c9)];simp only [Bool.false_eq_true,if_false,nil_append];rfl
theorem Ix:∀{a b:List Int},a.Pairwise (· < ·)->b.Pairwise (· < ·)->(∀x,x∈a↔x∈b)->a=b
 |[],[],_,_,_=>rfl
 |[],y::b,_,_,h=>absurd ((h y).2 mem_cons_self) (by simp)
 |x::a,[],_,_,h=>absurd ((h x).1 mem_cons_self) (by simp)
 |x::a,y::b,ha,hb,h=>by
  rw [pairwise_cons] at ha hb
  have e:x=y:=by
   grind [mem_cons_self]
  subst e;rw [Ix ha.2 hb.2 λz=>?_];grind
theorem A8{k:Nat}{C:Int}{b:List Int}(hk:10≤k)(hC:C≤5)(h:Bg C b):f5 k (c9 b)=some b:=by
 have hset:=h.set hC;unfold f5
 have key:=i7 (T:=List Int×Int) (f:=dB k (c9 b)) (List.range 5) (λ(s:List Int) j=>(s,j)) (λs j _=>if decide (ek (c9 b) j) then s++[(j:Int)] else s) (λj s=>s.length≤j/\s.Pairwise (· < ·)/\∀x,x∈s↔x∈b/\x < (j:Int)) (λs=>some s)
  (λn s j hj hs=>by
   rw [length_range] at hj;have hck:ck ((j:Int)+1)=some ((j:Int)+1):=dH (by omega) (by omega);have hj5:(j:Int) < 5:=by omega
   have hin:=hset.2 (j:Int) (by omega);unfold mU at hin;rw [Int.toNat_natCast] at hin;refine⟨?_,?_⟩
   .simp only [dB,hj5,if_true,xZ (k:=k) hset.1 (by omega:j < 8),bs];cases decide (ek (c9 b) j) with
    |true=>
     simp only [if_true];rw [dz (by grind [bM]),bs,bs,hck,bs]
    |false=>simp_all
   grind)
  (λn s hs=>by
   simp_all [length_range,dB,if_neg]) (n:=k) (s0:=[]) (by grind) ⟨by simp,by simp,λx=>by simp;intro hx;exact(h.rng x hx).1⟩
 rw [show dB k (c9 b) k ([],0)=_ from key.1,bs];have:=key.2;rw [length_range] at this;exact congrArg some (Ix this.2.1 h.asc λx=>by rw [this.2.2 x];exact⟨λhh=>hh.1,λhh=>⟨hh,by have:=h.rng x hh;omega⟩⟩)
end Go.Proofs.YtddkbkkogpolaaaGreat
set_option linter.unusedVariables false
set_option linter.unusedSimpArgs false
namespace Go.Proofs.YtddkbkkogpolaaaGreat
open K Go Go.Proofs
end Go.Proofs.YtddkbkkogpolaaaGreat
set_option linter.unusedVariables false
set_option linter.unusedSimpArgs false
namespace Go.Proofs.YtddkbkkogpolaaaGreat
open K Go Go.Proofs
def dr:Nat->Bool:=λ_=>false
theorem Oz:(λi=>decide (ek 0 i))=dr:=by
 grind [dr,ek]
theorem Dw{m:ab}(v:Vd m){but:Nat->Bool}{b:List Int}(h:b∈ia m but):Bg (mC m) b:=DO v (List.mem_filter.1 h).1
theorem uT{m:ab}(v:Vd m){but:Nat->Bool}:(ia m but).length≤32:=Nat.le_trans (List.length_filter_le _ _) (Ao v)
theorem HU{k:Nat}{C:Int}(hC:C≤5)(hk:50≤k){L:List (List Int)}(hL:∀b∈L,Bg C b)(hl:L.length≤40):eB k (L.map c9) k ([],0)=some L:=by
 have key:=i7 (T:=List (List Int)×Int) (f:=eB k (L.map c9)) L (λ(s:List (List Int)) j=>(s,j)) (λs _ b=>s++[b]) (λj s=>s=L.take j) (λs=>some s)
  (λn s j hj hs=>by
   have hck:ck ((j:Int)+1)=some ((j:Int)+1):=dH (by omega) (by omega);have hls:s.length=j:=by grind
   have hg:aV (L.map c9) (j:Int)=some (c9 L[j]):=by simp_all [aV,if_pos,Int.toNat_natCast,List.getElem?_map,List.getElem?_eq_getElem]
   have hj':(j:Int) < ((L.map c9).length:Int):=by simp_all
   have hok:cH (bM (length s+length [L[j]]))=some ():=dz (by grind [bM]);refine⟨?_,?_⟩
   .simp only [eB,hj',if_true,hg,bs,A8 (k:=k) (by omega) hC (hL _ (List.getElem_mem hj)),hok,hck]
   simp_all)
  (λn s hs=>by
   unfold eB;simp_all) (n:=k) (s0:=[]) (by omega) (by simp)
 simp_all
theorem BG{k:Nat}{m:ab}(hs:Sm m)(hk:1010≤k):gP k m=some (if¬(kG m=0) then([],kG m) else(ia m dr,0)):=by
 unfold gP;rw [uF hs hk (by simp) (by simp) (by simp) (by simp),bs];by_cases hc:kG m=0
 .have v:=Vd.of hc;have hb:sM (mC m) []=0:=pn.2 ⟨by simp,by simp⟩;have ho:P9 m [] [] []=true:=rfl;simp only [hc,hb,ho,not_true_eq_false,if_false,if_true,rf];rw [qg v (by omega) sY,bs,Oz,HU v.c5 (by omega) (λb h=>Dw v h) (by grind [uT,dr]),bs]
 simp_all [not_false_eq_true,if_true,tU]
end Go.Proofs.YtddkbkkogpolaaaGreat
set_option linter.unusedVariables false
set_option linter.unusedSimpArgs false
namespace Go.Proofs.YtddkbkkogpolaaaGreat
open K Go Go.Proofs
end Go.Proofs.YtddkbkkogpolaaaGreat
set_option linter.unusedVariables false
set_option linter.unusedSimpArgs false
namespace Go.Proofs.YtddkbkkogpolaaaGreat
open K Go Go.Proofs
end Go.Proofs.YtddkbkkogpolaaaGreat
set_option linter.unusedVariables false
set_option linter.unusedSimpArgs false
namespace Go.Proofs.YtddkbkkogpolaaaGreat
open K Go Go.Proofs
def px(m:ab)(gs:List aG):ab:=(m.1,m.2.1,m.2.2.1,m.2.2.2.1,m.2.2.2.2.1,gs)
theorem DF{m:ab}{gs:List aG}{c:Int}:∀d:Nat,mO (px m gs) c d=mO m c d
 |0=>rfl
 |d+1=>by rw [mO,mO,DF d];rfl
theorem va{m:ab}{gs:List aG}{B:Int->Bool}:∀(n:Nat) (c:Int),mP (px m gs) B n c=mP m B n c
 |0,c=>rfl
 |n+1,c=>by
  rw [mP,mP,show Ak (px m gs) n c=Ak m n c from rfl,DF,va n c]
  cases Ak m n c with
  |none=>rfl
  |some l=>
   have:(λx=>decide (mW (px m gs)≤mP (px m gs) B n x))=λx=>decide (mW m≤mP m B n x):=by
    funext x;rw [va n x];rfl
   simp_all
theorem An{C:Nat}:∀(t:List Int) (n:Nat) (b:List Int) (f:Nat),C - f≤n->(∀x∈t,(f:Int)≤x/\x < C)->t.Pairwise (· < ·)->b++t∈lD C n b f
 |[],0,b,f,_,_,_=>by simp [lD]
 |[],n+1,b,f,_,_,_=>by simp [lD]
 |x::t,0,b,f,h,hx,_=>by grind [mem_cons_self]
 |x::t,n+1,b,f,h,hx,hp=>by
  have h0:=hx x (mem_cons_self ..)
  rw [pairwise_cons] at hp
  rw [lD]
  refine mem_cons_of_mem _ (List.mem_flatMap.2 ⟨x.toNat,by grind,?_⟩)
  have:=An t n (b++[((x.toNat:Nat):Int)]) (x.toNat+1) (by omega) (λy hy=>⟨by grind,(hx y (mem_cons_of_mem _ hy)).2⟩) hp.2
  grind
theorem IA{m:ab}{b:List Int}(h:Bg (mC m) b):b∈Ap m:=by
 have:=An (C:=(mC m).toNat) b (mC m).toNat [] 0 (by omega) (λx hx=>by have:=h.rng x hx;omega) h.asc;exact this
def RB(m:ab)(B:Int->Bool)(g:aG):Prop:=g.2.2=decide (mS m≤mP m B g.2.1.toNat g.1)
theorem EM{m:ab}{B:Int->Bool}(h:∀g∈mG m,RB m B g):AP m dr B=true:=by
 unfold AP;rw [List.all_eq_true];intro g hg;have:g.1∈mG m:=List.fst_mem_of_mem_zipIdx hg;simp only [dr,Bool.false_or];exact decide_eq_true (h _ this)
theorem J0{k:Nat}(hk:1010≤k){l:bD}{m0:Int}(hl:Lo l m0)(hm:0≤m0/\m0≤400):
 W (mK k l) λr=>∃(m:ab) (b:List Int) (l':bD),r=(m,b,kw m λc=>decide (c∈b),true,l')/\Vd m/\Bg (mC m) b/\Lo l' (m0+300)/\mC m≤4/\((mD m).length:Int)≤4/\(mG m).length≤4/\b∈ia m dr:=by
 unfold mK
 refine W.bind (BB (by omega) (l:=(l.1,l.2.1,l.2.2)) hl hm (by omega) (by omega)) λr2 h2=>?_
 obtain⟨lo2,v,hg,hcs,hds⟩:=h2
 have c1:=v.c1
 have c5:=v.c5
 have d6:=v.d6
 refine W.bind (B0 (by omega) (l:=(r2.2.1,r2.2.2.1,r2.2.2.2)) (c:=r2.1.1) lo2 (by omega) ⟨c1,c5⟩) λr4 h4=>?_
 obtain⟨lo4,hb⟩:=h4
 have l4:=hb.len ⟨by omega,c5⟩
 have eta:(r2.1.1,r2.1.2.1,r2.1.2.2.1,r2.1.2.2.2.1,r2.1.2.2.2.2.1,([]:List aG))=r2.1:=by
  grind
 rw [eta,BF v.sm hk (by omega),bs,v.chk,pn.2 hb]
 simp only [not_true_eq_false,if_false]
 rw [F5 v (by omega),bs]
 simp only [Bool.not_true,bs,Bool.false_eq_true,if_false]
 let B:Int->Bool:=λc=>decide (c∈r4.1)
 refine W.bind (R:=λx=>Lo (x.2.1,x.2.2.1,x.2.2.2) (m0+300)/\x.1.length≤4/\∀g∈x.1,(0≤g.1/\g.1 < mC r2.1/\0≤g.2.1/\g.2.1≤(mD r2.1).length)/\RB r2.1 B g) ?_ λx hx=>?_
 .
  refine W.bind (ky (l:=(r4.2.1,r4.2.2.1,r4.2.2.2)) lo4 (by omega) (by omega)) λr6 h6=>?_;have b6:=h6.2.1 (by omega)
  refine W.loop (f:=iH k r2 (kw r2.1 B,0)) (λq y=>∃j:Nat,y.2.2.2.1.length=j/\y.2.2.2.2=r6.1 - j/\(j:Int)≤r6.1/\q=r6.1.toNat - j/\Lo (y.1,y.2.1,y.2.2.1) (m0+261+3 * j)/\∀g∈y.2.2.2.1,(0≤g.1/\g.1 < mC r2.1/\0≤g.2.1/\g.2.1≤(mD r2.1).length)/\RB r2.1 B g) ?_ r6.1.toNat k _ (by omega)
   ⟨0,rfl,by simp,by omega,by omega,h6.2.2.mono (by omega),by simp⟩
  rintro aO q ⟨nums,d,s,out,y⟩ ⟨j,hj,hy,hle,hq,hlo,hr⟩ ih;simp only at hj hy hlo hr;subst hy;unfold iH;dsimp only;refine W.ite (λhlt=>?_) (λhge=>W.ret ⟨hlo.mono (by omega),by grind,hr⟩);refine W.bind (s6 (l:=(nums,d,s)) (x:=(r2.1.1,r2.1.2.1,r2.1.2.2.1,r2.1.2.2.2.1,r2.1.2.2.2.2.1,())) hlo (by omega) ⟨c1,c5⟩ d6) λr9 h9=>?_;obtain⟨n9,e9⟩:∃n9:Nat,r9.1.2.1=n9:=⟨r9.1.2.1.toNat,by omega⟩;have hn9:n9≤(mD r2.1).length:=by grind
  rw [e9,wV hn9,bs,GH h9.2.1.1 h9.2.1.2,bs,dz (by grind [bM]),bs];refine W.ck (by omega) (by omega) ?_;refine ih (q - 1) (_,_,_,_,_) (by omega) ⟨j+1,by simp [hj],by grind,by omega,by omega,h9.1.mono (by omega),λg hgg=>?_⟩;rcases List.mem_append.1 hgg with h |h
  .grind
  .rw [List.mem_singleton.1 h];exact⟨⟨h9.2.1.1,h9.2.1.2,by grind,by grind⟩,rfl⟩
 .
  have vm:Vd (px r2.1 x.1):=v.with (by omega) λg h=>(hx.2.2 g h).1
  have hcr:kw r2.1 B=kw (px r2.1 x.1) B:=by
   unfold kw nX;refine List.map_congr_left λn _=>List.map_congr_left λc _=>?_;simp_all [va]
  refine W.ret ⟨px r2.1 x.1,r4.1,(x.2.1,x.2.2.1,x.2.2.2),?_,vm,hb,hx.1,hcs,hds,hx.2.1,?_⟩
  .rw [<-hcr];rfl
  .unfold ia;rw [List.mem_filter];refine⟨IA hb,EM λg h=>?_⟩;unfold RB;rw [va];exact(hx.2.2 g h).2
end Go.Proofs.YtddkbkkogpolaaaGreat
set_option linter.unusedVariables false
set_option linter.unusedSimpArgs false
namespace Go.Proofs.YtddkbkkogpolaaaGreat
open K Go Go.Proofs
theorem zO:oq 1200=some true:=by decide+kernel
theorem W.get{α:Type}{x:Option α}{a:α}(h:W x λy=>y=a):x=some a:=by
 obtain⟨b,e,rfl⟩:=h;exact e
end Go.Proofs.YtddkbkkogpolaaaGreat
set_option linter.unusedVariables false
set_option linter.unusedSimpArgs false
namespace Go.Proofs.YtddkbkkogpolaaaGreat
open K Go Go.Proofs
theorem Ie{m:ab}{g:aG}{B:Int->Bool}:AP (px m (mG m++[g])) dr B=(AP m dr B && decide (g.2.2=decide (mS m≤mP m B g.2.1.toNat g.1))):=by
 unfold AP;have e:∀x:aG×Nat,(dr x.2 || decide (x.1.2.2=decide (mS (px m (mG m++[g]))≤mP (px m (mG m++[g])) B x.1.2.1.toNat x.1.1)))=(dr x.2 || decide (x.1.2.2=decide (mS m≤mP m B x.1.2.1.toNat x.1.1))):=λx=>by rw [va];rfl
 simp only [e];simp_all [mG,px,List.zipIdx_append,List.all_append,dr]
theorem wT{m:ab}{g:aG}:ia (px m (mG m++[g])) dr=(ia m dr).filter λb=>decide (g.2.2=decide (mS m≤mP m (λc=>decide (c∈b)) g.2.1.toNat g.1)):=by
 unfold ia;rw [List.filter_filter,show Ap (px m (mG m++[g]))=Ap m from rfl];simp_all [List.filter_congr,Ie,Bool.and_comm]
theorem wH{k:Nat}{m:ab}(v:Vd m)(hk:1010≤k):gP k m=some (ia m dr,0):=by
 rw [BG v.sm hk,v.chk];rfl
end Go.Proofs.YtddkbkkogpolaaaGreat
set_option linter.unusedVariables false
set_option linter.unusedSimpArgs false
namespace Go.Proofs.YtddkbkkogpolaaaGreat
open K Go Go.Proofs
def rp(m:ab)(g:aG):Int:=if¬(kG m=0) then kG m else if(mG m).length=8 then 6 else if¬(vt m g=0) then vt m g else if 0 < (ia m dr).length/\(ia (px m (mG m++[g])) dr).length=0 then 9 else 0
def IG(m:ab)(g:aG):ab×Int:=if rp m g=0 then(px m (mG m++[g]),0) else((0,0,0,0,[],[]),rp m g)
theorem Vd.more{m:ab}(v:Vd m){g:aG}(h8:(mG m).length < 8)(hg:vt m g=0):Vd (px m (mG m++[g])):=by
 refine v.with (by rw [length_append];exact h8) λx hx=>?_;rcases List.mem_append.1 hx with h |h
 .exact v.gl x h
 .rw [List.mem_singleton.1 h];unfold vt at hg;split at hg
  .rename_i q;exact⟨q.1.1,q.1.2,q.2.1,q.2.2⟩
  .cases hg
theorem rm{m:ab}{g:aG}{e:Int}(h:rp m g=e)(he:e≠0):IG m g=((0,0,0,0,[],[]),e):=by
 unfold IG;rw [h,if_neg he]
theorem Cf{m:ab}{g:aG}(h:rp m g=0):IG m g=(px m (mG m++[g]),0):=by
 unfold IG;rw [if_pos h]
theorem OZ{m:ab}{g:aG}(h:¬kG m=0):rp m g=kG m:=by
 unfold rp;rw [if_pos h]
theorem O0{m:ab}{g:aG}(h:kG m=0)(h8:(mG m).length=8):rp m g=6:=by
 unfold rp;rw [if_neg (λq=>q h),if_pos h8]
theorem OY{m:ab}{g:aG}(h:kG m=0)(h8:¬(mG m).length=8)(hg:¬vt m g=0):rp m g=vt m g:=by
 unfold rp;rw [if_neg (λq=>q h),if_neg h8,if_pos hg]
theorem IH{m:ab}{g:aG}(h:kG m=0)(h8:¬(mG m).length=8)(hg:vt m g=0)(h0:0 < (ia m dr).length)(h1:(ia (px m (mG m++[g])) dr).length=0):rp m g=9:=by
 unfold rp;rw [if_neg (λq=>q h),if_neg h8,if_neg (λq=>q hg),if_pos ⟨h0,h1⟩]
theorem Ci{m:ab}{g:aG}(h:kG m=0)(h8:¬(mG m).length=8)(hg:vt m g=0)(h1:¬(0 < (ia m dr).length/\(ia (px m (mG m++[g])) dr).length=0)):rp m g=0:=by
 unfold rp;rw [if_neg (λq=>q h),if_neg h8,if_neg (λq=>q hg),if_neg h1]
theorem KP{k:Nat}{m:ab}{g:aG}(hs:Sm m)(hk:1010≤k):qU k m g=some (IG m g):=by
 unfold qU;rw [uF hs hk (by simp) (by simp) (by simp) (by simp),bs];by_cases hc:kG m=0
 .have v:=Vd.of hc;have c1:=v.c1;have c5:=v.c5;have hb:sM (mC m) []=0:=pn.2 ⟨by simp,by simp⟩;have ho:P9 m [] [] []=true:=rfl;simp only [hc,hb,ho,not_true_eq_false,if_false,if_true,rf];by_cases h8:(mG m).length=8
  .rw [if_pos (by show((mG m).length:Int)=8;omega),rm (O0 hc h8) (by omega)]
  .rw [if_neg (by show¬((mG m).length:Int)=8;omega),HK ⟨c1,c5⟩,bs];by_cases hg:vt m g=0
   .have g8:=v.g8;have v':=v.more (g:=g) (by omega) hg;have hok:bM (length m.2.2.2.2.2+length [g]):=R9 (n:=10) (by show(mG m).length≤10;omega) (by omega);rw [if_neg (λq=>q hg)];rw [show lr k m g=some (px m (mG m++[g])) by unfold lr;rw [dz hok,bs];rfl,bs,qg v (by omega) sY,bs,Oz];by_cases h0:0 < (ia m dr).length
    .rw [if_pos (by rw [length_map];omega),show f6 k (px m (mG m++[g]))=some (some (px m (mG m++[g]))) from rfl,bs,rf,qg v' (by omega) sY,bs,Oz,bs,length_map];by_cases h1:(ia (px m (mG m++[g])) dr).length=0
     .rw [if_pos (by simp [h1]),rm (IH hc h8 hg h0 h1) (by omega)]
     .rw [if_neg (by simp [h1]),Cf (Ci hc h8 hg λh=>h1 h.2)]
    .rw [if_neg (by rw [length_map];omega),bs,if_neg (by simp),Cf (Ci hc h8 hg λh=>h0 h.1)]
   .rw [if_pos hg,rm (OY hc h8 hg) hg]
 .rw [rm (OZ hc) hc];simp only [hc,not_false_eq_true,if_true,tU,if_false]
end Go.Proofs.YtddkbkkogpolaaaGreat
set_option linter.unusedVariables false
set_option linter.unusedSimpArgs false
namespace Go.Proofs.YtddkbkkogpolaaaGreat
open K Go Go.Proofs
theorem Iz{k:Nat}{L:List (List Int)}{b:List Int}(hk:L.length < k)(hl:L.length≤1000)(hL:∀x∈L,x.length < k/\x.length≤1000):mL k L b=some (decide (b∈L)):=by
 unfold mL
 have key:=lz (T:=Int) (f:=ff k L b) L (λ(_:Unit) j=>j) (λ_ _ x=>if decide (x=b)=true then Except.error true else .ok ()) (λ_ _=>True) (λr=>some r)
  (λn s j hj _=>by
   have hck:ck ((j:Int)+1)=some ((j:Int)+1):=dH (by omega) (by omega);have hx:=hL _ (List.getElem_mem hj);refine⟨?_,λ_ _=>trivial⟩;rw [ff,if_pos (by omega),dY hj,bs,sV hx.1 (by omega),bs];grind)
  (λn s _=>by rw [ff,if_neg (Int.lt_irrefl _)]) (n:=k) (s0:=()) (by omega) trivial
 rw [show ff k L b k 0=_ from key]
 have gen:∀(l:List (List Int)) (j:Nat),eG (λ(_:Unit) _ x=>if decide (x=b)=true then Except.error true else .ok ()) j l ()=if b∈l then .error true else .ok ():=by
  intro l
  induction l with
  |nil=>intro j;rw [if_neg (by simp)];rfl
  |cons x l ih=>
   intro j;rw [eG];grind
 rw [gen];by_cases h:b∈L
 .rw [if_pos h,py,decide_eq_true h]
 .rw [if_neg h,me,decide_eq_false h]
