import Derived.Test.YtddkbkkogpolaaaGreatVDF2
open Nat
open List hiding mem_of_getElem?
open Array hiding mem_of_getElem? mk
set_option linter.unusedVariables false
set_option linter.unusedSimpArgs false
namespace Go.Proofs.YtddkbkkogpolaaaGreat
open K Go Go.Proofs
def W{α:Type}(x:Option α)(Q:α->Prop):Prop:=∃a,x=some a/\Q a
namespace W
variable {α β ε:Type}{Q:β->Prop}
theorem ret{a:β}(h:Q a):W (some a) Q:=⟨a,rfl,h⟩
theorem mono{x:Option β}{R:β->Prop}(h:W x R)(hq:∀a,R a->Q a):W x Q:=let ⟨a,e,r⟩:=h;⟨a,e,hq a r⟩
theorem bind{x:Option α}{f:α->Option β}{R:α->Prop}(h:W x R)(hf:∀a,R a->W (f a) Q):W (x.bind f) Q:=by
 obtain⟨a,rfl,r⟩:=h;grind
theorem ck{n:Int}{f:Int->Option β}(h1: -9223372036854775808≤n)(h2:n≤9223372036854775807)(hf:W (f n) Q):W ((K.ck n).bind f) Q:=by
 simp_all [K.ck,if_pos]
theorem chk{p:Prop}[Decidable p]{f:Unit->Option β}(h:p)(hf:W (f ()) Q):W ((cN p).bind f) Q:=by
 simp_all [cN,if_pos]
theorem at_{l:List α}{i:Int}{f:α->Option β}(h0:0≤i)(h1:i < l.length)(hf:∀x,l[i.toNat]? =some x->W (f x) Q):W ((aJ l i).bind f) Q:=by
 simp_all [aJ,if_pos,List.getElem?_eq_getElem]
theorem ite{p:Prop}[Decidable p]{a b:Option β}(h1:p->W a Q)(h2:¬p->W b Q):W (if p then a else b) Q:=by
 grind
theorem iteB{p:Prop}[Decidable p]{a b:Option α}{f:α->Option β}(h1:p->W (a.bind f) Q)(h2:¬p->W (b.bind f) Q):W ((if p then a else b).bind f) Q:=by
 grind
theorem loop{T:Type}{f:Nat->T->Option β}(I:Nat->T->Prop)(step:∀aK m y,I m y->(∀m' y',m' < m->I m' y'->W (f aK y') Q)->W (f (aK+1) y) Q):∀m aK y,m < aK->I m y->W (f aK y) Q:=by
 intro m
 induction m using Nat.strongRecOn with
 |_ m ih=>
  intro aK y hm hI;cases aK with
  |zero=>omega
  |succ aK=>grind
end W
theorem wrap_u64(n:Int):0≤IntKind.u64.wrap n/\IntKind.u64.wrap n < 18446744073709551616:=by
 simp_all [Int.emod_nonneg,Int.emod_lt_of_pos,IntKind.wrap,IntKind.signed,IntKind.bits]
theorem yF{n:Int}(h0:0≤n)(h1:n < 18446744073709551616):IntKind.u64.wrap n=n:=by
 simp_all [IntKind.wrap,IntKind.signed,IntKind.bits,Int.emod_eq_of_lt]
def Lo(l:bM)(m:Int):Prop:=0≤l.2.1/\l.2.1≤m
theorem KC{k:Nat}{l:bM}{m:Int}(h:Lo l m)(hm:m≤1000000000):W (ic k l) λr=>0≤r.1/\r.1 < 72057594037927936/\Lo r.2 (m+1):=by
 obtain⟨h0,h1⟩:=h;unfold ic
 have fin:∀x:Int,W ((K.ck (l.2.1+1)).bind λx4=>some (ii .u64 (sF .u64 (IntKind.u64.wrap ((sF .u64 x (ii .u64 x (29:Int))) * (2685821657736338717:Int))) (ii .u64 (IntKind.u64.wrap ((sF .u64 x (ii .u64 x (29:Int))) * (2685821657736338717:Int))) (32:Int))) (8:Int),(l.1,x4,x)))
  λr=>0≤r.1/\r.1 < 72057594037927936/\Lo r.2 (m+1):=λx=>by
  refine W.ck (by omega) (by omega) (W.ret ?_)
  generalize IntKind.u64.wrap ((sF .u64 x (ii .u64 x (29:Int))) * (2685821657736338717:Int))=y
  have hx:0≤sF .u64 y (ii .u64 y 32)/\sF .u64 y (ii .u64 y 32) < 18446744073709551616:=wrap_u64 _
  have e:ii .u64 (sF .u64 y (ii .u64 y 32)) 8=(sF .u64 y (ii .u64 y 32)) / 256:=by
   unfold ii;rw [Int.fdiv_eq_ediv_of_nonneg _ (by decide)];rfl
  refine⟨?_,?_,?_,?_⟩
  .
   omega
  .
   omega
  .
   grind
  simp_all
 refine W.iteB (λhlt=>?_) (λ_=>fin _);simp_all [aJ,if_pos,List.getElem?_eq_getElem]
theorem kC{k:Nat}{l:bM}{m n:Int}(h:Lo l m)(hm:m≤1000000000)(hn:n≤1000000000):W (cy k l n) λr=>0≤r.1/\(0≤n->r.1≤n)/\Lo r.2 (m+1):=by
 unfold cy;refine W.ite (λh1=>W.ret ⟨Int.le_refl 0,λh=>h,h.1,by show l.2.1≤m+1;have:=h.2;omega⟩) (λh1=>?_);refine W.bind (KC h hm) λr hr=>?_;refine W.ck (by omega) (by omega) ?_;have e:IntKind.u64.wrap (n+1)=n+1:=yF (by omega) (by omega);refine W.chk (by omega) ?_;rw [e];have h2:Int.tmod r.1 (n+1)=r.1 % (n+1):=Int.tmod_eq_emod_of_nonneg hr.1;have h3:=Int.emod_nonneg r.1 (show n+1≠0 by omega);have h4:=Int.emod_lt_of_pos r.1 (show 0 < n+1 by omega);grind [W.ck,W.ret]
theorem C7{k:Nat}{l:bM}{m a b:Int}(h:Lo l m)(hm:m≤1000000000)(ha:0≤a)(hab:a≤b)(hb:b≤1000000):W (fK k l a b) λr=>a≤r.1/\r.1≤b/\Lo r.2 (m+1):=by
 grind [fK,W.ck,W.bind,kC,W.ret]
theorem xp{k:Nat}{l:bM}{m a:Int}(h:Lo l m)(hm:m≤1000000000)(ha:0≤a)(hb:a≤1000000):W (fo k l a) λr=>Lo r.2 (m+1):=by
 grind [fo,W.ck,W.bind,kC,W.ret]
theorem G6{k:Nat}{l:bM}{m:Int}{some_:List Int}(h:Lo l m)(hm:m≤1000000000)(h0:0 < some_.length)(h1:some_.length≤1000000):W (gQ k l some_) λr=>r.1∈some_/\Lo r.2 (m+1):=by
 grind [gQ,W.ck,W.bind,kC,W.at_,W.ret,List.mem_of_getElem?]
theorem fZ{α:Type}{l:List α}{i:Nat}(h:i < l.length):aJ l (i:Int)=some l[i]:=by
 rw [aJ,if_pos (by omega)];simp_all
section
variable {α β γ ε σ T:Type}
theorem bs{a:α}{f:α->Option β}:(some a).bind f=f a:=by simp_all
theorem cR{n:Int}(h1: -9223372036854775808≤n)(h2:n≤9223372036854775807):K.ck n=some n:=by simp_all [K.ck,if_pos]
theorem dB{p:Prop}[Decidable p](h:p):cN p=some ():=by rw [cN,if_pos h]
theorem xT{l:List α}{i:Int}(h0:0≤i)(h:i.toNat < l.length):aJ l i=some l[i.toNat]:=by rw [aJ,if_pos h0];simp_all
theorem ov{l:List α}{i:Int}{x:α}(h0:0≤i)(h:l[i.toNat]? =some x):aJ l i=some x:=by simp_all [aJ,if_pos]
theorem kN{a:α}{g:ε->Option β}{f:α->Option β}:K.bE (some (.ok a)) g f=f a:=by simp_all [K.bE]
theorem rz{e:ε}{g:ε->Option β}{f:α->Option β}:K.bE (some (.error e)) g f=g e:=by simp_all [K.bE]
theorem o6{q:α}{a:β}{b:α->β}:f5 (some q) a b=b q:=by simp_all [f5]
theorem jd{a:β}{b:α->β}:f5 none a b=a:=by simp_all [f5]
theorem Ul{n:Nat}(h:n≤4294967296):bP n:=h
def fC(g:σ->Nat->α->σ):Nat->List α->σ->σ
 |_,[],s=>s
 |j,x::l,s=>fC g (j+1) l (g s j x)
theorem dA(l:List α)(mk:σ->Int->T)(g:σ->Nat->α->σ)(P:Nat->σ->Prop){f:Nat->T->Option β}(fin:σ->Option β)
 (step:∀n s (j:Nat) (h:j < l.length),P j s->f (n+1) (mk s j)=f n (mk (g s j l[j]) ((j:Int)+1))/\P (j+1) (g s j l[j]))
 (stop:∀n s,P l.length s->f (n+1) (mk s l.length)=fin s) {s0:σ} {n:Nat} (hn:l.length < n) (h0:P 0 s0):f n (mk s0 0)=fin (fC g 0 l s0)/\P l.length (fC g 0 l s0):=by
 have key:∀(m:List α) (pre:List α) (n:Nat) (s:σ),l=pre++m->m.length < n->P pre.length s->f n (mk s pre.length)=fin (fC g pre.length m s)/\P l.length (fC g pre.length m s):=by
  intro m
  induction m with
  |nil=>
   intro pre n s e hn hp;obtain⟨n,rfl⟩:∃n',n=n'+1:=⟨n - 1,by omega⟩;have:l.length=pre.length:=by grind
   rw [<-this] at hp⊢;exact⟨stop n s hp,hp⟩
  |cons x m ih=>
   intro pre n s e hn hp;simp only [length_cons] at hn;obtain⟨n,rfl⟩:∃n',n=n'+1:=⟨n - 1,by omega⟩;have hl:pre.length < l.length:=by grind
   have hx:l[pre.length]=x:=by simp [e]
   obtain⟨h1,h2⟩:=step n s pre.length hl hp;rw [hx] at h1 h2;have:=ih (pre++[x]) n (g s pre.length x) (by grind) (by omega) (by simp_all);rw [length_append] at this;simp only [length_cons,length_nil,Nat.zero_add] at this;rw [h1];exact this
 have:=key l [] n s0 rfl hn h0
 exact this
def fL(g:σ->Nat->α->Except ε σ):Nat->List α->σ->Except ε σ
 |_,[],s=>.ok s
 |j,x::l,s=>match g s j x with
  | .error e=>.error e
  | .ok s'=>fL g (j+1) l s'
theorem EM(l:List α)(mk:σ->Int->T)(g:σ->Nat->α->Except ε σ)(P:Nat->σ->Prop){f:Nat->T->Option β}(fin:Except ε σ->Option β)
 (step:∀n s (j:Nat) (h:j < l.length),P j s->(∃e,g s j l[j]= .error e/\f (n+1) (mk s j)=fin (.error e))\/(∃s',g s j l[j]= .ok s'/\f (n+1) (mk s j)=f n (mk s' ((j:Int)+1))/\P (j+1) s'))
 (stop:∀n s,P l.length s->f (n+1) (mk s l.length)=fin (.ok s)) {s0:σ} {n:Nat} (hn:l.length < n) (h0:P 0 s0):f n (mk s0 0)=fin (fL g 0 l s0):=by
 have key:∀(m:List α) (pre:List α) (n:Nat) (s:σ),l=pre++m->m.length < n->P pre.length s->f n (mk s pre.length)=fin (fL g pre.length m s):=by
  intro m
  induction m with
  |nil=>
   intro pre n s e hn hp;obtain⟨n,rfl⟩:∃n',n=n'+1:=⟨n - 1,by omega⟩;have:l.length=pre.length:=by grind
   rw [<-this] at hp⊢;exact stop n s hp
  |cons x m ih=>
   intro pre n s e hn hp;simp only [length_cons] at hn;obtain⟨n,rfl⟩:∃n',n=n'+1:=⟨n - 1,by omega⟩;have hl:pre.length < l.length:=by grind
   have hx:l[pre.length]=x:=by simp [e]
   rcases step n s pre.length hl hp with⟨e',h1,h2⟩ |⟨s',h1,h2,h3⟩
   .grind [fL]
   .rw [hx] at h1;have:=ih (pre++[x]) n s' (by grind) (by omega) (by simp_all);simp_all [length_append,length_cons,length_nil,Nat.zero_add,fL]
 exact key l [] n s0 rfl hn h0
end
section
variable {α β ε σ T:Type}
theorem nA(l:List α)(mk:σ->Int->T)(g:σ->Nat->α->Except ε σ)(P:Nat->σ->Prop){f:Nat->T->Option β}(fin:Except ε σ->Option β)
 (step:∀n s (j:Nat) (h:j < l.length),P j s->(f (n+1) (mk s j)=match g s j l[j] with | .error e=>fin (.error e) | .ok s'=>f n (mk s' ((j:Int)+1)))/\∀s',g s j l[j]= .ok s'->P (j+1) s')
 (stop:∀n s,P l.length s->f (n+1) (mk s l.length)=fin (.ok s)) {s0:σ} {n:Nat} (hn:l.length < n) (h0:P 0 s0):f n (mk s0 0)=fin (fL g 0 l s0):=
 EM l mk g P fin (λn s j h hp=>by
  obtain⟨h1,h2⟩:=step n s j h hp
  grind) stop hn h0
end
theorem qm{α:Type}(p:α->Bool):∀(l:List α) (j:Nat),fL (λ(_:Unit) j x=>if p x then Except.error (j:Int) else .ok ()) j l ()=match l.findIdx? p with |some i=>.error ((i+j:Nat):Int) |none=>.ok ()
 |[],j=>by simp [fL]
 |x::l,j=>by
  rw [fL,findIdx?_cons]
  by_cases h:p x=true
  .
   simp [h]
  .
   simp only [h,if_false,Bool.false_eq_true]
   rw [qm p l (j+1)]
   grind
def ju(s:Int):Prop:=0≤s/\s < 256
def eg(s:Int)(i:Nat):Prop:=s.toNat.testBit i=true
instance (s:Int) (i:Nat):Decidable (eg s i):=by unfold eg;infer_instance
theorem tu{x:Nat}(h:x < 256):IntKind.u8.wrap (x:Int)=x:=by
 grind [IntKind.wrap,IntKind.signed,IntKind.bits]
theorem uv{s:Int}(h:ju s):∃n:Nat,n < 256/\s=n:=⟨s.toNat,by have:=h.1;have:=h.2;omega,by have:=h.1;omega⟩
theorem G7{n:Nat}(h:n < 256):(BitVec.ofInt IntKind.u8.bits (n:Int)).toNat=n:=by
 show(BitVec.ofInt 8 (n:Int)).toNat=n;simp_all
theorem HN{n m:Nat}(hn:n < 256)(hm:m < 256):n |||m < 256:=or_lt_two_pow (n:=8) hn hm
theorem KR{n m:Nat}(hn:n < 256):n &&& m < 256:=Nat.lt_of_le_of_lt and_le_left hn
theorem OJ{a b:Int}(ha:ju a)(hb:ju b):ju (C6 .u8 a b)/\∀i,eg (C6 .u8 a b) i↔eg a i\/eg b i:=by
 obtain⟨n,hn,rfl⟩:=uv ha;obtain⟨m,hm,rfl⟩:=uv hb
 have e:C6 .u8 (n:Int) (m:Int)=((n |||m:Nat):Int):=by
  grind [C6,BitVec.toNat_or,G7,tu,HN]
 rw [e];refine⟨⟨by omega,by grind [HN]⟩,λi=>?_⟩;simp [eg,testBit_or]
theorem Ou{x:Int}(h0:0≤x)(h8:x < 8):ju (ou .u8 1 x)/\∀i:Nat,eg (ou .u8 1 x) i↔(i:Int)=x:=by
 obtain⟨n,rfl⟩:=Int.eq_ofNat_of_zero_le h0;have hn:n < 8:=by omega
 have e:ou .u8 1 (n:Int)=((2 ^ n:Nat):Int):=by
  unfold ou
  have h1:min (Int.toNat (n:Int)) IntKind.u8.bits=n:=by
   show min n 8=n;omega
  rw [h1,Int.one_mul];have h2:2 ^ n < 256:=Nat.pow_lt_pow_right (by decide) hn;grind [tu]
 rw [e];have h9:2 ^ n < 256:=Nat.pow_lt_pow_right (by decide) hn;refine⟨⟨Int.natCast_nonneg _,Int.ofNat_lt.2 h9⟩,λi=>?_⟩;simp only [eg,Int.toNat_natCast,testBit_two_pow,decide_eq_true_eq];omega
theorem xQ{k:Nat}{s:Int}(hs:ju s){i:Nat}(hi:i < 8):eX k s (i:Int)=some (decide (eg s i)):=by
 obtain⟨n,hn,rfl⟩:=uv hs;unfold eX;rw [cN,if_pos (by omega)];show some _=some _;congr 1
 have e1:ii .u8 (n:Int) (i:Int)=((n >>> i:Nat):Int):=by
  unfold ii
  have h1:min (Int.toNat (i:Int)) IntKind.u8.bits=i:=by
   show min i 8=i;omega
  grind [Int.fdiv_eq_ediv_of_nonneg,Int.natCast_nonneg,Nat.shiftRight_eq_div_pow]
 have hlt:n >>> i < 256:=Nat.lt_of_le_of_lt (by rw [Nat.shiftRight_eq_div_pow];exact div_le_self _ _) hn
 have e2:qj .u8 ((n >>> i:Nat):Int) 1=(((n >>> i) &&& 1:Nat):Int):=by
  grind [qj,BitVec.ofInt,BitVec.toNat_and,G7,tu,KR]
 rw [e1,e2]
 have e3:(((n >>> i) &&& 1:Nat):Int)=1↔eg (n:Int) i:=by
  rw [eg,Int.toNat_natCast,testBit];grind
 simp_all
end Go.Proofs.YtddkbkkogpolaaaGreat
set_option linter.unusedVariables false
set_option linter.unusedSimpArgs false
namespace Go.Proofs.YtddkbkkogpolaaaGreat
open K Go Go.Proofs
abbrev mC(m:ae):Int:=m.1
abbrev mW(m:ae):Int:=m.2.1
abbrev mS(m:ae):Int:=m.2.2.1
abbrev mH(m:ae):Int:=m.2.2.2.1
abbrev mD(m:ae):List (List (List Int)):=m.2.2.2.2.1
abbrev mG(m:ae):List bI:=m.2.2.2.2.2
def Ah(l:List Int)(c:Int):Option (List Int):=(l.findIdx? λy=>decide (c=y)).map λi=>(if 0 < i then [l[i-1]?.getD 0] else [])++(l[i+1]?).toList
def Ai(d:List (List Int))(c:Int):Option (List Int):=d.findSome? λl=>Ah l c
def Du(m:ae)(d:Nat)(c:Int):Option (List Int):=Ai ((mD m)[d]?.getD []) c
def pw(m:ae)(c:Int):Nat->Nat
 |0=>if(Du m 0 c).isSome then 0 else 1
 |d+1=>if(Du m (d+1) c).isSome then 0 else pw m c d+1
def lP(m:ae)(B:Int->Bool):Nat->Int->Int
 |0,c=>if B c then mW m else -1
 |d+1,c=>match Du m d c with
  |none=>if mH m≤(pw m c d:Int) then -1 else lP m B d c
  |some l=>if 0≤lP m B d c then lP m B d c+1 else if l.any λx=>decide (mW m≤lP m B d x) then 0 else -1
theorem IG{m:ae}{B:Int->Bool}(hw:0≤mW m):∀{d:Nat} {c:Int}, -1≤lP m B d c
 |0,c=>by grind [lP]
 |d+1,c=>by
  have:=IG (B:=B) hw (d:=d) (c:=c)
  grind [lP]
theorem IF{m:ae}{B:Int->Bool}(hw:mW m≤3):∀{d:Nat} {c:Int},lP m B d c≤3+d
 |0,c=>by grind [lP]
 |d+1,c=>by
  have:=IF (B:=B) hw (d:=d) (c:=c)
  grind [lP]
theorem HU{k:Nat}{l:List Int}{x:Int}(hk:l.length < k)(hl:l.length≤1000000):gh k l x=some (match l.findIdx? (λy=>decide (x=y)) with |some i=>(i:Int) |none=> -1):=by
 unfold gh
 have key:=nA (f:=dn k l x) l (λ(_:Unit) j=>j) (λ_ j y=>if decide (x=y)=true then Except.error (j:Int) else .ok ()) (λ_ _=>True) (λr=>some r)
  (λn s j hj _=>by
   have hck:ck ((j:Int)+1)=some ((j:Int)+1):=cR (by omega) (by omega);refine⟨?_,λ_ _=>trivial⟩;simp only [dn,Int.ofNat_lt,hj,if_true,fZ hj,bs,decide_eq_true_eq];grind)
  (λn s _=>by simp [dn]) (n:=k) (s0:=()) hk trivial
 rw [show dn k l x k 0=_ from key,qm (λy=>decide (x=y)) l 0];grind [decide,kN,rz]
def nD:List Int->List Int
 |[a,b]=>if b < a then [b,a] else [a,b]
 |l=>l
theorem t3{l:List Int}{x:Int}:x∈nD l↔x∈l:=by
 unfold nD;grind
theorem JU{k:Nat}{l:List Int}(hk:10≤k)(hl:l.length≤2):fP k l=some (nD l):=by
 obtain⟨k,rfl⟩:∃n,k=n+4:=⟨k - 4,by omega⟩;have e0:pg (k+4) (IntKind.u64.wrap (0:Int))=some 0:=by kernel_rfl
 have e1:pg (k+4) (IntKind.u64.wrap (1:Int))=some 1:=by kernel_rfl
 have e2:pg (k+4) (IntKind.u64.wrap (2:Int))=some 2:=by kernel_rfl
 have c0:ck ((0:Int) - 0)=some 0:=rfl;have c1:ck ((1:Int) - 0)=some 1:=rfl;have c2:ck ((2:Int) - 0)=some 2:=rfl;have d1:ck ((0:Int)+1)=some 1:=rfl;have d2:ck ((1:Int)+1)=some 2:=rfl;have d3:ck ((1:Int) - 1)=some 0:=rfl;match l,hl with
 |[],_=>
  simp only [fP,length_nil,Int.ofNat_zero,e0,bs,cX,cC,bU,ba,nD,c0,d1];rfl
 |[a],_=>
  simp_all [fP,bs,cX,cC,bU,ba,nD]
 |[a,b],_=>
  have:(([a,b]:List Int).length:Int)=2:=rfl;have g0:aJ [a,b] (0:Int)=some a:=rfl;have g1:aJ [a,b] (1:Int)=some b:=rfl;have hn:∀x:Int,kX (k+4) x=some false:=λx=>by simp [kX]
  have hl:∀x y:Int,oC (k+4) x y=some (decide (x < y)):=λx y=>by simp [oC,hn]
  simp only [fP,this,e2,bs,cX,cC,bU,ba,bF,c2,d1,d2,d3,g0,g1,hl];grind [nD,bF,bs,aJ]
end Go.Proofs.YtddkbkkogpolaaaGreat
set_option linter.unusedVariables false
set_option linter.unusedSimpArgs false
namespace Go.Proofs.YtddkbkkogpolaaaGreat
open K Go Go.Proofs
structure Vd(m:ae):Prop where
 c1:1≤mC m
 c5:mC m≤5
 w0:0≤mW m
 w3:mW m≤3
 s0:0≤mS m
 s3:mS m≤3
 h1:1≤mH m
 h3:mH m≤3
 d1:1≤(mD m).length
 d6:(mD m).length≤6
 r3:∀r∈mD m,r.length≤3
 l5:∀r∈mD m,∀l∈r,l.length≤5
 x5:∀r∈mD m,∀l∈r,∀x∈l,0≤x/\x < mC m
 nd:∀r∈mD m,r.flatten.Nodup
 g8:(mG m).length≤8
 gl:∀g∈mG m,0≤g.1/\g.1 < mC m/\0≤g.2.1/\g.2.1≤(mD m).length
theorem Ag{l:List Int}{c:Int}{s:List Int}(h:Ah l c=some s):s.length≤2/\∀x∈s,x∈l:=by
 unfold Ah at h;cases e:l.findIdx? (λy=>decide (c=y)) with
 |none=>simp_all
 |some i=>
  rw [e] at h;obtain rfl:=Option.some.inj h;have hi:i < l.length:=(List.findIdx?_eq_some_iff_getElem.1 e).1;grind
theorem Iy{d:List (List Int)}{c:Int}{s:List Int}(h:Ai d c=some s):∃l∈d,Ah l c=some s:=by
 simp_all [Ai,List.exists_of_findSome?_eq_some]
theorem uU{m:ae}(v:Vd m){d:Nat}{c:Int}{s:List Int}(h:Du m d c=some s):s.length≤2/\∀x∈s,0≤x/\x < mC m:=by
 obtain⟨l,hl,h2⟩:=Iy h;cases e:(mD m)[d]? with
 |none=>simp_all
 |some r=>
  rw [e] at hl;have h3:=Ag h2;exact⟨h3.1,λx hx=>v.x5 r (List.mem_of_getElem? e) l hl x (h3.2 x hx)⟩
def PP(m:ae)(c:Int)(d:Nat):Int ⊕ List Int:=match Du m d c with
 |some s=>.inr (nD s)
 |none=>.inl (pw m c d)
theorem zf{k:Nat}{c:Int}{r:List (List Int)}(hk:10≤k)(hr:r.length≤3)(hl:∀l∈r,l.length≤5):
 cG k c r k 0=some (match Ai r c with |some s=>.error (.inr (nD s)) |none=>.ok ()):=by
 have key:=nA (f:=cG k c r) r (λ(_:Unit) j=>j) (λ_ _ l=>match Ah l c with |some s=>Except.error (Sum.inr (nD s):Int ⊕ List Int) |none=>.ok ()) (λ_ _=>True) (λx=>some x)
  (λn s j hj _=>by
   refine⟨?_,λ_ _=>trivial⟩;have h5:=hl _ (List.getElem_mem hj);have hck:ck ((j:Int)+1)=some ((j:Int)+1):=cR (by omega) (by omega);simp only [cG,Int.ofNat_lt,hj,if_true,fZ hj,bs];rw [HU (by omega) (by omega),bs];generalize r[j]=l at *;have hb:Ah l c=(l.findIdx? λy=>decide (c=y)).map λi=>(if 0 < i then [l[i-1]?.getD 0] else [])++(l[i+1]?).toList:=rfl;cases e:l.findIdx? (λy=>decide (c=y)) with
   |none=>
    simp_all
   |some i=>
    rw [e] at hb;simp only [Option.map_some] at hb;have hi:i < l.length:=(List.findIdx?_eq_some_iff_getElem.1 e).1;rw [hb];have hlen:=(Ag hb).1;have c1:ck ((i:Int) - 1)=some ((i:Int) - 1):=cR (by omega) (by omega);have c2:ck ((i:Int)+1)=some ((i:Int)+1):=cR (by omega) (by omega);have ok0:cN (bP (length ([]:List Int)+length [l[i-1]?.getD 0]))=some ():=dB (by simp [bP]);simp only [show(0:Int)≤(i:Int) from Int.natCast_nonneg _,if_true,c1,c2,bs]
    have e1:(if(0:Int) < (i:Int) then((aJ l ((i:Int) - 1)).bind λx11=>(cN (bP (length ([]:List Int)+length [x11]))).bind λ_=>some (([]:List Int)++[x11])) else some ([]:List Int))=some (if 0 < i then [l[i-1]?.getD 0] else []):=by
     by_cases h0:0 < i
     .have g:aJ l ((i:Int) - 1)=some (l[i-1]?.getD 0):=by
       grind [fZ,List.getElem?_eq_getElem]
      simp_all
     simp_all
    rw [e1,bs];generalize (if 0 < i then [l[i-1]?.getD 0] else [])=p at *
    have e2:(if(i:Int)+1 < (l.length:Int) then((aJ l ((i:Int)+1)).bind λx18=>(cN (bP (length p+length [x18]))).bind λ_=>some (p++[x18])) else some p)=some (p++(l[i+1]?).toList):=by
     by_cases h1:i+1 < l.length
     .have g:aJ l ((i:Int)+1)=some l[i+1]:=by
       have:((i:Int)+1)=((i+1:Nat):Int):=by omega
       rw [this,fZ h1]
      rw [if_pos (by omega),g,bs,List.getElem?_eq_getElem h1];grind [List.getElem?_eq_getElem,dB,length_append,bP,bs]
     grind
    simp_all [bs,JU])
  (λn s _=>by simp [cG]) (n:=k) (s0:=()) (by omega) trivial
 rw [show cG k c r k 0=_ from key]
 congr 1
 have:∀(r:List (List Int)) (j:Nat),fL (λ(_:Unit) _ l=>match Ah l c with |some s=>Except.error (Sum.inr (nD s):Int ⊕ List Int) |none=>.ok ()) j r ()=match Ai r c with |some s=>.error (.inr (nD s)) |none=>.ok ():=by
  intro r
  induction r with
  |nil=>intro j;rfl
  |cons l r ih=>
   intro j;rw [fL];unfold Ai;rw [findSome?_cons];cases Ah l c with
   |none=>exact ih (j+1)
   |some s=>rfl
 simp_all
theorem Dq{m:ae}{c:Int}:∀{d:Nat},pw m c d≤d+1
 |0=>by grind [pw]
 |d+1=>by have:=Dq (m:=m) (c:=c) (d:=d);grind [pw]
theorem uc{k:Nat}{m:ae}{c:Int}(v:Vd m)(hk:10≤k):∀(d m0:Nat),d < m0->d < (mD m).length->ec k m0 m c (d:Int)=some (PP m c d)
 |d,0,h,_=>absurd h (not_lt_zero _)
 |d,m0+1,h,hd=>by
  have hm:=List.getElem_mem hd
  unfold ec
  rw [fZ hd,bs,zf hk (v.r3 _ hm) (v.l5 _ hm)]
  have hbes:Du m d c=Ai (mD m)[d] c:=by unfold Du;simp_all
  cases e:Ai (mD m)[d] c with
  |some s=>
   simp_all [rz,PP]
  |none=>
   rw [kN]
   unfold PP
   rw [hbes,e]
   match d,hd,h with
   |0,hd,h=>
    simp_all [pw]
   |d+1,hd,h=>
    have h6:=v.d6
    have c1:ck (((d+1:Nat):Int) - 1)=some (d:Int):=by grind [cR]
    have ih:=uc v hk d m0 (by omega) (by omega) (c:=c)
    rw [if_pos (by omega),c1,bs,ih,bs]
    rw [hbes.symm] at e
    have hcold:pw m c (d+1)=pw m c d+1:=by grind [pw]
    have hle:=Dq (m:=m) (c:=c) (d:=d)
    unfold PP
    cases e2:Du m d c with
    |some s=>
     simp only [J3]
     have:pw m c d=0:=by cases d <;> simp [pw,e2]
     simp_all
    |none=>
     have c2:ck ((1:Int)+(pw m c d:Int))=some ((1:Int)+(pw m c d:Int)):=cR (by omega) (by omega)
     simp only [J3,Qf,c2,bs,if_true,hcold]
     grind
end Go.Proofs.YtddkbkkogpolaaaGreat
set_option linter.unusedVariables false
set_option linter.unusedSimpArgs false
namespace Go.Proofs.YtddkbkkogpolaaaGreat
open K Go Go.Proofs
def kE(f:Int->Int):List Int:=[f 0,f 1,f 2,f 3,f 4]
def upd(f:Int->Int)(c v:Int):Int->Int:=λx=>if x=c then v else f x
theorem Uo{c:Int}(h0:0≤c)(h:c < 5):c=0\/c=1\/c=2\/c=3\/c=4:=by omega
theorem qH{f:Int->Int}{c:Int}(h0:0≤c)(h:c < 5):aJ (kE f) c=some (f c):=by
 rcases Uo h0 h with rfl |rfl |rfl |rfl |rfl <;> rfl
theorem CH{f:Int->Int}{c v:Int}(h0:0≤c)(h:c < 5):List.set (kE f) (Int.toNat c) v=kE (upd f c v):=by
 rcases Uo h0 h with rfl |rfl |rfl |rfl |rfl <;> rfl
theorem mA{f g:Int->Int}(h:∀c,0≤c->c < 5->f c=g c):kE f=kE g:=by
 simp_all [kE]
def Qc(m:ae)(f:Int->Int)(d:Nat)(c:Int):Int:=match Du m d c with
 |none=>if mH m≤(pw m c d:Int) then -1 else f c
 |some l=>if 0≤f c then f c+1 else if l.any λx=>decide (mW m≤f x) then 0 else -1
def PQ(m:ae)(f:Int->Int)(d:Nat):Int->Int:=λc=>if 0≤c/\c < mC m then Qc m f d c else f c
theorem vu{k:Nat}{m:ae}{f:Int->Int}(hw:0≤mW m){s:List Int}(hs:s.length < k)(hs2:s.length≤1000)(hx:∀x∈s,0≤x/\x < 5):
 bW k m (kE f) s k 0=some (match s.find? (λx=>decide (mW m≤f x)) with |some x=>.error x |none=>.ok ()):=by
 have key:=nA (f:=bW k m (kE f) s) s (λ(_:Unit) j=>j) (λ_ _ x=>if decide (mW m≤f x)=true then Except.error x else .ok ()) (λ_ _=>True) (λx=>some x)
  (λn _ j hj _=>by
   refine⟨?_,λ_ _=>trivial⟩;have h5:=hx _ (List.getElem_mem hj);have hck:ck ((j:Int)+1)=some ((j:Int)+1):=cR (by omega) (by omega);have him:kK (0:Int) m.2.1=mW m:=by show kK 0 (mW m)=mW m;grind [kK]
   simp only [bW,Int.ofNat_lt,hj,if_true,fZ hj,bs,dB h5,qH h5.1 h5.2,him,hck,decide_eq_true_eq];grind)
  (λn s _=>by simp [bW]) (n:=k) (s0:=()) hs trivial
 rw [show bW k m (kE f) s k 0=_ from key]
 congr 1
 have:∀(s:List Int) (j:Nat),fL (λ(_:Unit) _ x=>if decide (mW m≤f x)=true then Except.error x else .ok ()) j s ()=match s.find? (λx=>decide (mW m≤f x)) with |some x=>.error x |none=>.ok ():=by
  intro s
  induction s with
  |nil=>intro j;rfl
  |cons x s ih=>
   intro j;rw [fL,find?_cons];grind
 simp_all
theorem yX{s:List Int}:(nD s).length=s.length:=by
 unfold nD;grind
def JG(m:ae)(f:Int->Int)(l:List Int):Int:=((nD l).find? λx=>decide (mW m≤f x)).getD (-1)
theorem AW{k:Nat}{m:ae}{f:Int->Int}{c:Int}{d:Nat}(v:Vd m)(hk:10≤k)(hd:d < (mD m).length){l:List Int}(h:Du m d c=some l):
 dz k m (kE f) c (d:Int)=some (JG m f l):=by
 have h6:=v.d6
 have c5:=v.c5
 have hb:=uU v h
 unfold dz
 rw [uc v hk d k (by omega) hd,bs]
 unfold PP
 rw [h]
 have e1:Iw (Sum.inr (nD l):Int ⊕ List Int) (λn=>iq k n) (λl=>ip k l)=some (nD l):=rfl
 rw [e1,bs,vu v.w0 (by rw [yX];omega) (by rw [yX];omega) λx hx=>by grind [t3]]
 unfold JG
 cases(nD l).find? λx=>decide (mW m≤f x) with
 |none=>rw [kN];rfl
 |some x=>rw [rz];rfl
theorem JF{m:ae}{f:Int->Int}{l:List Int}(hx:∀x∈l,0≤x):0≤JG m f l↔(l.any λx=>decide (mW m≤f x))=true:=by
 unfold JG;rw [List.any_eq_true];cases e:(nD l).find? λx=>decide (mW m≤f x) with
 |none=>
  simp_all [Option.getD_none,List.find?_eq_none,t3]
 |some x=>
  grind [List.mem_of_find?_eq_some,t3]
theorem HE{k:Nat}{m:ae}{f:Int->Int}{d:Nat}(v:Vd m)(hk:10≤k)(hd:d < (mD m).length)(hf:∀c,0≤c->c < mC m-> -1≤f c/\f c≤1000):
 gK k m (kE f) (d:Int)=some (kE (PQ m f d)):=by
 have c5:=v.c5
 have c1:=v.c1
 have h6:=v.d6
 unfold gK
 have key:=dA (T:=List Int×Int) (f:=cx k m (kE f) (d:Int)) (List.range (mC m).toNat) (λ(g:Int->Int) j=>(kE g,j)) (λg j _=>upd g (j:Int) (Qc m f d (j:Int))) (λj g=>g=λc=>if 0≤c/\c < (j:Int) then Qc m f d c else f c) (λg=>some (kE g))
  (λn g j hj hg=>by
   rw [length_range] at hj;have j0:(0:Int)≤(j:Int):=Int.natCast_nonneg _;have j1:(j:Int) < mC m:=by omega
   have j5:(j:Int) < 5:=by omega
   have hck:ck ((j:Int)+1)=some ((j:Int)+1):=cR (by omega) (by omega);have hp:cN ((0:Int)≤(j:Int)/\(j:Int) < 5)=some ():=dB ⟨j0,j5⟩;have hgj:g (j:Int)=f (j:Int):=by simp_all
   have hfj:=hf _ j0 j1;refine⟨?_,?_⟩
   .have hm1:(m.1:Int)=mC m:=rfl;have hm2:m.2.2.2.1=mH m:=rfl;simp only [cx,hm1,hm2,j1,if_true,uc v hk d k (by omega) hd,bs,hp,qH j0 j5,hck,CH j0 j5];unfold PP Qc;cases e:Du m d (j:Int) with
    |none=>
     simp only [J3,Qf,if_true];by_cases hh:mH m≤(pw m (j:Int) d:Int)
     .simp_all
     .simp only [hh,if_false,bs];refine congrArg (λr=>cx k m (kE f) (d:Int) n (r,(j:Int)+1)) (mA λc _ _=>?_);simp_all [upd]
    |some l=>
     have hb:=uU v e;simp only [J3,Bool.false_eq_true,if_false,not_false_eq_true,if_true];by_cases h0:0≤f (j:Int)
     .have hck2:ck (f (j:Int)+1)=some (f (j:Int)+1):=cR (by omega) (by omega);simp_all
     .simp only [h0,if_false,AW v hk hd e,bs];have ht:=JF (m:=m) (f:=f) (l:=l) λx hx=>(hb.2 x hx).1;by_cases hany:(l.any λx=>decide (mW m≤f x))=true
      .simp_all
      .rw [if_neg λh=>hany (ht.1 h),bs,if_neg hany];refine congrArg (λr=>cx k m (kE f) (d:Int) n (r,(j:Int)+1)) (mA λc _ _=>?_);grind [upd]
   .rw [hg];funext c;unfold upd;grind)
  (λn g hg=>by
   rw [length_range];have:((mC m).toNat:Int)=mC m:=by omega
   simp_all [cx,if_neg,mC]) (n:=k) (s0:=f) (by grind) (by grind)
 rw [show cx k m (kE f) (d:Int) k (kE f,0)=_ from key.1,bs]
 congr 1
 refine mA λc _ _=>?_
 rw [key.2,length_range]
 unfold PQ
 grind
end Go.Proofs.YtddkbkkogpolaaaGreat
set_option linter.unusedVariables false
set_option linter.unusedSimpArgs false
namespace Go.Proofs.YtddkbkkogpolaaaGreat
open K Go Go.Proofs
def cr(F:Nat->Int->Int):List (List Int):=[kE (F 0),kE (F 1),kE (F 2),kE (F 3),kE (F 4),kE (F 5),kE (F 6)]
def AS(F:Nat->Int->Int)(n:Nat)(f:Int->Int):Nat->Int->Int:=λi=>if i=n then f else F i
theorem Un{n:Nat}(h:n < 7):n=0\/n=1\/n=2\/n=3\/n=4\/n=5\/n=6:=by omega
theorem uP{F:Nat->Int->Int}{n:Nat}(h:n < 7):aJ (cr F) (n:Int)=some (kE (F n)):=by
 rcases Un h with rfl |rfl |rfl |rfl |rfl |rfl |rfl <;> rfl
theorem O6{F:Nat->Int->Int}{n:Nat}{f:Int->Int}(h:n < 7):List.set (cr F) n (kE f)=cr (AS F n f):=by
 rcases Un h with rfl |rfl |rfl |rfl |rfl |rfl |rfl <;> rfl
def PV(m:ae)(B:Int->Bool):Nat->Int->Int
 |0=>λc=>if B c then mW m else -1
 |n+1=>PQ m (PV m B n) n
theorem yn{m:ae}(v:Vd m){B:Int->Bool}:∀(n:Nat) (c:Int),0≤c->c < mC m->PV m B n c=lP m B n c
 |0,c,_,_=>rfl
 |n+1,c,h0,h1=>by
  have ih:=yn v (B:=B) n
  show PQ m (PV m B n) n c=lP m B (n+1) c
  unfold PQ
  rw [if_pos ⟨h0,h1⟩]
  unfold Qc lP
  cases e:Du m n c with
  |none=>simp_all
  |some l=>
   have hb:=(uU v e).2
   grind
def FB(m:ae)(B:Int->Bool):Nat->Int->Int:=λn=>if n≤(mD m).length then PV m B n else λ_=>0
def mP(S:Int):Int->Bool:=λc=>decide (eg S c.toNat)
theorem Gx{k:Nat}{m:ae}{S:Int}(hk:10≤k)(hS:ju S):eS k m S=some (kE λc=>if mP S c then mW m else -1):=by
 unfold eS
 have key:=dA (T:=List Int×Int) (f:=cF k m S) (List.range 5) (λ(g:Int->Int) j=>(kE g,j)) (λg j _=>upd g (j:Int) (if mP S (j:Int) then mW m else -1)) (λj g=>∀c,0≤c->c < (j:Int)->g c=if mP S c then mW m else -1) (λg=>some (kE g))
  (λn g j hj hg=>by
   rw [length_range] at hj;have j0:(0:Int)≤(j:Int):=Int.natCast_nonneg _;have j5:(j:Int) < 5:=by omega
   have hck:ck ((j:Int)+1)=some ((j:Int)+1):=cR (by omega) (by omega);have hp:cN ((0:Int)≤(j:Int)/\(j:Int) < 5)=some ():=dB ⟨j0,j5⟩;have hp':cN ((0:Int)≤(j:Int)/\True)=some ():=dB ⟨j0,trivial⟩;refine⟨?_,?_⟩
   .simp only [cF,j5,if_true,hp,hp',bs,xQ (k:=k) hS (by omega:j < 8),hck,CH j0 j5];have hin:mP S (j:Int)=decide (eg S j):=by unfold mP;simp_all
    rw [hin];cases hh:decide (eg S j) with
    |true=>
     simp only [if_true,bs];refine congrArg (λr=>cF k m S n (r,(j:Int)+1)) (mA λc _ _=>?_);simp_all [upd]
    |false=>simp_all
   .intro c hc0 hc1;unfold upd;grind)
  (λn g hg=>by
   simp_all [length_range,cF,if_neg]) (n:=k) (s0:=λ_=>0) (by grind) (λc h0 h1=>by omega)
 have e0:([(0:Int),(0:Int),(0:Int),(0:Int),(0:Int)]:List Int)=kE λ_=>0:=rfl;rw [e0,show cF k m S k (kE λ_=>0,0)=_ from key.1,bs];refine congrArg some (mA λc h0 h5=>?_);simp_all
theorem o5{k:Nat}{m:ae}{S:Int}(v:Vd m)(hk:10≤k)(hS:ju S):kw k m S=some (cr (FB m (mP S))):=by
 have d6:=v.d6;have d1:=v.d1;have w0:=v.w0;have w3:=v.w3;unfold kw jl;have hm:cN (0≤S/\S < 256)=some ():=dB hS;have hp0:cN ((0:Int)≤0/\(0:Int) < 7)=some ():=dB ⟨by omega,by omega⟩;rw [hm,bs,Gx hk hS,bs,hp0,bs]
 have key:=dA (T:=List (List Int)×Int) (f:=bO k m) (mD m) (λ(F:Nat->Int->Int) j=>(cr F,j)) (λF j _=>AS F (j+1) (PQ m (F j) j)) (λj F=>F=λn=>if n≤j then PV m (mP S) n else λ_=>0) (λF=>some (cr F))
  (λn F j hj hF=>by
   have j0:(0:Int)≤(j:Int):=Int.natCast_nonneg _;have hck:ck ((j:Int)+1)=some ((j:Int)+1):=cR (by omega) (by omega);have hp:cN ((0:Int)≤(j:Int)/\(j:Int) < 7)=some ():=dB ⟨j0,by omega⟩;have hp2:cN ((0:Int)≤(j:Int)+1/\(j:Int)+1 < 7)=some ():=dB ⟨by omega,by omega⟩;have hFj:F j=PV m (mP S) j:=by simp_all
   have hj':(j:Int) < (m.2.2.2.2.1.length:Int):=Int.ofNat_lt.2 hj
   have hnx:=HE (k:=k) (f:=F j) v hk hj (λc h0 h1=>by
    rw [hFj,yn v j c h0 h1];have:=IG (B:=mP S) w0 (d:=j) (c:=c);have:=IF (B:=mP S) w3 (d:=j) (c:=c);omega)
   refine⟨?_,?_⟩
   .simp only [bO,hj',if_true,hck,hp,bs,uP (F:=F) (show j < 7 by omega),hnx,hp2];grind [Int.toNat,O6]
   .rw [hF];funext i;unfold AS;by_cases e:i=j+1
    .subst e;simp only [if_true,Nat.le_refl];rfl
    grind)
  (λn F hF=>by
   unfold bO;simp_all) (n:=k) (s0:=AS (λ_ _=>0) 0 (λc=>if mP S c then mW m else -1)) (by omega) (by
   funext n;unfold AS;by_cases e:n=0
   .subst e;rfl
   simp_all)
 have e0:List.set sO (Int.toNat 0) (kE λc=>if mP S c then mW m else -1)=cr (AS (λ_ _=>0) 0 (λc=>if mP S c then mW m else -1)):=rfl;rw [e0,show bO k m k (cr (AS (λ_ _=>0) 0 (λc=>if mP S c then mW m else -1)),0)=_ from key.1,bs];rw [key.2];rfl
theorem yg{m:ae}(v:Vd m){B:Int->Bool}{n:Nat}{c:Int}(hn:n≤(mD m).length)(h0:0≤c)(h1:c < mC m):FB m B n c=lP m B n c:=by
 simp_all [FB,if_pos,yn]
end Go.Proofs.YtddkbkkogpolaaaGreat
set_option linter.unusedVariables false
set_option linter.unusedSimpArgs false
namespace Go.Proofs.YtddkbkkogpolaaaGreat
open K Go Go.Proofs
def wk{σ:Type}(bad:σ->Int->Option Int)(add:σ->Int->σ):List Int->σ->Except Int σ
 |[],s=>.ok s
 |x::l,s=>match bad s x with
  |some e=>.error e
  |none=>wk bad add l (add s x)
theorem xc{σ:Type}{bad:σ->Int->Option Int}{add:σ->Int->σ}:∀(l:List Int) (j:Nat) (s:σ),fL (λs _ x=>match bad s x with |some e=>Except.error e |none=>.ok (add s x)) j l s=wk bad add l s
 |[],j,s=>rfl
 |x::l,j,s=>by
  rw [fL,wk]
  cases bad s x with
  |some e=>rfl
  |none=>exact xc l (j+1) (add s x)
theorem vQ{σ:Type}{bad:σ->Int->Option Int}{add:σ->Int->σ}:∀(a b:List Int) (s:σ),wk bad add (a++b) s=match wk bad add a s with | .error e=>.error e | .ok s'=>wk bad add b s'
 |[],b,s=>rfl
 |x::a,b,s=>by
  rw [cons_append,wk,wk]
  cases bad s x with
  |some e=>rfl
  |none=>exact vQ a b (add s x)
theorem Ci{σ:Type}{bad:σ->Int->Option Int}{add:σ->Int->σ}:∀(r:List (List Int)) (j:Nat) (s:σ),fL (λs _ l=>wk bad add l s) j r s=wk bad add r.flatten s
 |[],j,s=>rfl
 |l::r,j,s=>by
  rw [fL,flatten_cons,vQ]
  cases wk bad add l s with
  |error e=>rfl
  |ok s'=>exact Ci r (j+1) s'
theorem FY{σ τ:Type}{b1:σ->Int->Option Int}{a1:σ->Int->σ}{b2:τ->Int->Option Int}{a2:τ->Int->τ}(R:σ->τ->Prop)(hb:∀s t x,R s t->b1 s x=b2 t x)(ha:∀s t x,R s t->b1 s x=none->R (a1 s x) (a2 t x)):
 ∀(l:List Int) (s:σ) (t:τ),R s t->(∃e,wk b1 a1 l s= .error e/\wk b2 a2 l t= .error e)\/∃s' t',wk b1 a1 l s= .ok s'/\wk b2 a2 l t= .ok t'/\R s' t'
 |[],s,t,h=>.inr ⟨s,t,rfl,rfl,h⟩
 |x::l,s,t,h=>by
  rw [wk,wk,<-hb s t x h]
  cases e:b1 s x with
  |some c=>simp_all
  |none=>exact FY R hb ha l _ _ (ha s t x h e)
theorem AN{σ:Type}{bad:σ->Int->Option Int}{add:σ->Int->σ}(P:σ->Prop)(hs:∀s x,P s->bad s x=none->P (add s x)):∀(l:List Int) (s s':σ),P s->wk bad add l s= .ok s'->P s'
 |[],s,s',h,e=>by cases e;exact h
 |x::l,s,s',h,e=>by
  rw [wk] at e
  cases hb:bad s x with
  |some c=>simp_all
  |none=>rw [hb] at e;exact AN P hs l _ s' (hs s x h hb) e
theorem kS{k:Nat}{a b c:Int}:dJ k a b c=some (decide (b≤a/\a≤c)):=by
 grind [dJ]
theorem RX{n:Int}(h:1≤n/\n≤5):ck (n - 1)=some (n - 1):=by grind [cR]
def AL(C:Int)(s x:Int):Option Int:=if¬(0≤x/\x < C) then some 3 else if eg s x.toNat then some 4 else none
def wR(s x:Int):Int:=C6 .u8 s (ou .u8 1 x)
def BR(C:Int)(s:List Int)(x:Int):Option Int:=if¬(0≤x/\x < C) then some 3 else if x∈s then some 4 else none
def DC(s:List Int)(x:Int):List Int:=s++[x]
theorem uw:ju 0:=⟨by decide,by decide⟩
theorem Nu{C s x:Int}(h:AL C s x=none):0≤x/\x < C:=by
 unfold AL at h;grind
theorem mR{k:Nat}{s x:Int}(hs:ju s)(h0:0≤x)(h8:x < 8):fV k s x=some (wR s x)/\ju (wR s x)/\∀i:Nat,eg (wR s x) i↔eg s i\/(i:Int)=x:=by
 have h1:=Ou h0 h8;have h2:=OJ hs h1.1;refine⟨?_,h2.1,λi=>?_⟩
 .unfold fV;rw [dB h0,bs];rfl
 .show eg (C6 .u8 s (ou .u8 1 x)) i↔_;simp_all
theorem Aj{C s x:Int}(hC:C≤5)(hs:ju s)(h:AL C s x=none):ju (wR s x):=by
 have:=Nu h;exact(mR (k:=0) hs this.1 (by omega)).2.1
def sN(C:Int)(r:List (List Int)):Int:=if 3 < r.length then 6 else match wk (BR C) DC r.flatten [] with | .error e=>e | .ok _=>0
theorem ES{k:Nat}{m:ae}(hC:1≤mC m/\mC m≤5){l:List Int}(hk:l.length < k)(hl:l.length≤1000){s:Int}(hs:ju s):
 de k m l k (s,0)=some (wk (AL (mC m)) wR l s):=by
 have key:=nA (T:=Int×Int) (f:=de k m l) l (λ(s:Int) j=>(s,j)) (λs _ x=>match AL (mC m) s x with |some e=>Except.error e |none=>.ok (wR s x)) (λ_ s=>ju s) (λr=>some r)
  (λn s j hj hs=>by
   have hck:ck ((j:Int)+1)=some ((j:Int)+1):=cR (by omega) (by omega);have hc:ck (m.1 - 1)=some (m.1 - 1):=RX hC;refine⟨?_,λs' e=>?_⟩
   .simp only [de,Int.ofNat_lt,hj,if_true,fZ hj,bs,hc,kS];generalize l[j]=x;by_cases h:0≤x/\x < mC m
    .have h':0≤x/\x≤m.1 - 1:=⟨h.1,by grind⟩;have hh:=xQ (k:=k) hs (i:=x.toNat) (by omega);have ex:((x.toNat:Nat):Int)=x:=by omega
     rw [ex] at hh;simp only [h',and_self,decide_true,not_true_eq_false,if_false,hh,bs];have eb:AL (mC m) s x=if eg s x.toNat then some 4 else none:=by unfold AL;simp_all
     rw [eb];by_cases h2:eg s x.toNat
     .simp_all
     .simp only [h2,decide_false,Bool.false_eq_true,if_false,(mR (k:=k) hs h.1 (by omega)).1,bs,hck]
    .have h':¬(0≤x/\x≤m.1 - 1):=λhh=>h ⟨hh.1,by grind⟩;have eb:AL (mC m) s x=some 3:=by unfold AL;simp_all
     simp_all
   .cases e2:AL (mC m) s l[j] with
    |some c=>simp_all
    |none=>grind [Aj])
  (λn s _=>by simp [de]) (n:=k) (s0:=s) hk hs
 simp_all [de,xc]
theorem ET{k:Nat}{m:ae}(hC:1≤mC m/\mC m≤5){r:List (List Int)}(hk:r.length < k)(hr:r.length≤1000)(hl:∀l∈r,l.length < k/\l.length≤1000):
 dh k m r k (0,0)=some (match wk (AL (mC m)) wR r.flatten 0 with | .error e=>.error e | .ok _=>.ok ()):=by
 have key:=nA (T:=Int×Int) (f:=dh k m r) r (λ(s:Int) j=>(s,j)) (λs _ l=>wk (AL (mC m)) wR l s) (λ_ s=>ju s) (λx=>some (match x with | .error e=>Except.error e | .ok _=>.ok ()))
  (λn s j hj hs=>by
   have hck:ck ((j:Int)+1)=some ((j:Int)+1):=cR (by omega) (by omega);have hlj:=hl _ (List.getElem_mem hj);refine⟨?_,λs' e=>AN ju (λs x=>Aj hC.2) _ _ _ hs e⟩;simp only [dh,Int.ofNat_lt,hj,if_true,fZ hj,bs,ES hC hlj.1 hlj.2 hs];cases wk (AL (mC m)) wR r[j] s with
   |error e=>rw [rz]
   |ok s'=>rw [kN,hck,bs])
  (λn s _=>by simp [dh]) (n:=k) (s0:=0) hk uw
 simp_all [dh,Ci]
theorem Lr{C:Int}(hC:C≤5)(l:List Int):(∃e,wk (AL C) wR l 0= .error e/\wk (BR C) DC l []= .error e)\/∃s t,wk (AL C) wR l 0= .ok s/\wk (BR C) DC l []= .ok t/\(ju s/\∀i:Nat,eg s i↔(i:Int)∈t):=by
 refine FY (λs t=>ju s/\∀i:Nat,eg s i↔(i:Int)∈t) (λs t x h=>?_) (λs t x h hb=>?_) l 0 [] ⟨uw,λi=>by simp [eg]⟩
 .unfold AL BR;grind
 .have hx:=Nu hb;have hw:=mR (k:=0) h.1 hx.1 (by omega);simp_all [DC]
theorem KL{k:Nat}{m:ae}(hC:1≤mC m/\mC m≤5){r:List (List Int)}(hk:1000 < k)(hr:r.length≤1000)(hl:∀l∈r,l.length≤1000):iW k m r=some (sN (mC m) r):=by
 unfold iW sN;by_cases h3:3 < r.length
 .grind
 .rw [if_neg (by omega),if_neg h3,ET hC (by omega) hr λl hh=>⟨by grind,hl l hh⟩];rcases Lr hC.2 r.flatten with⟨e,h1,h2⟩ |⟨s,t,h1,h2,_⟩
  .simp_all [rz]
  simp_all [kN]
end Go.Proofs.YtddkbkkogpolaaaGreat
set_option linter.unusedVariables false
set_option linter.unusedSimpArgs false
namespace Go.Proofs.YtddkbkkogpolaaaGreat
open K Go Go.Proofs
theorem rU:∀(n:Nat) (l:List Int),l.Nodup->(∀x∈l,0≤x/\x < (n:Int))->l.length≤n
 |0,l,_,h=>by
  cases l with
  |nil=>simp
  |cons x l=>have:=h x (by simp);omega
 |n+1,l,hn,h=>by
  have h1:=rU n (l.erase (n:Int)) (hn.erase _) (λx hx=>by
   grind)
  grind
theorem Rq{C:Int}{s:List Int}{x:Int}(h:BR C s x=none):(0≤x/\x < C)/\x∉s:=by
 unfold BR at h;grind
def Mt(C:Int)(s:List Int):Prop:=s.Nodup/\∀x∈s,0≤x/\x < C
theorem Mt.add{C:Int}{s:List Int}{x:Int}(h:Mt C s)(hb:BR C s x=none):Mt C (DC s x):=by
 have:=Rq hb;refine⟨?_,λy hy=>?_⟩
 .unfold DC;rw [nodup_append];exact⟨h.1,by simp,λa ha b hb e=>by simp_all⟩
 .rcases List.mem_append.1 hy with hy |hy
  .exact h.2 y hy
  simp_all
theorem Mt.len{C:Int}{s:List Int}(hC:0≤C/\C≤5)(h:Mt C s):s.length≤5:=by
 have:=rU C.toNat s h.1 λx hx=>⟨(h.2 x hx).1,by have:=(h.2 x hx).2;omega⟩;omega
theorem FZ{C:Int}:∀{l s t:List Int},wk (BR C) DC l s= .ok t->t=s++l
 |[],s,t,e=>by cases e;simp
 |x::l,s,t,e=>by
  rw [wk] at e
  cases hb:BR C s x with
  |some c=>simp_all
  |none=>
   rw [hb] at e
   have:=FZ e
   simp_all [DC]
theorem Cj{C:Int}:∀{l s:List Int},(s++l).Nodup->(∀x∈l,0≤x/\x < C)->wk (BR C) DC l s= .ok (s++l)
 |[],s,_,_=>by simp [wk]
 |x::l,s,hn,hr=>by
  have hx:x∉s:=by
   grind
  have hb:BR C s x=none:=by
   unfold BR;simp_all
  rw [wk,hb];simp only [];rw [Cj (s:=DC s x) (by simp_all [DC]) λy hy=>hr y (mem_cons_of_mem _ hy)];simp_all [DC]
theorem wL{C:Int}{r:List (List Int)}:sN C r=0↔r.length≤3/\r.flatten.Nodup/\∀x∈r.flatten,0≤x/\x < C:=by
 unfold sN;constructor
 .intro h;split at h
  .cases h
  .cases e:wk (BR C) DC r.flatten [] with
   |ok t=>
    have h1:=AN (Mt C) (λs x=>Mt.add) _ _ _ ⟨nodup_nil,λx hx=>by cases hx⟩ e;have h2:=FZ e;rw [nil_append] at h2;subst h2;exact⟨by omega,h1.1,h1.2⟩
   |error c=>
    rw [e] at h;exfalso
    have:∀(l s:List Int),wk (BR C) DC l s≠.error 0:=by
     intro l
     induction l with
     |nil=>intro s h;cases h
     |cons x l ih=>
      grind [wk,BR]
    simp_all
 .rintro⟨h1,h2,h3⟩;rw [if_neg (by omega),Cj (by simp_all) h3]
def H2(m:ae)(g:bI):Int:=if(0≤g.1/\g.1 < mC m)/\0≤g.2.1/\g.2.1≤(mD m).length then 0 else 3
theorem OH{k:Nat}{m:ae}(hC:1≤mC m/\mC m≤5){g:bI}:ge k m g=some (H2 m g):=by
 have hc:ck (m.1 - 1)=some (m.1 - 1):=RX hC;unfold ge H2;have e:decide (0≤g.1/\g.1≤m.1 - 1)=decide (0≤g.1/\g.1 < mC m):=decide_eq_decide.2 ⟨λh=>⟨h.1,by grind⟩,λh=>⟨h.1,by grind⟩⟩;rw [hc,bs,kS,bs,e];by_cases h1:0≤g.1/\g.1 < mC m
 .by_cases h2:0≤g.2.1/\g.2.1≤(mD m).length <;> simp [h1,h2,kS]
 grind
def lO{α:Type}(f:α->Int)(l:List α):Int:=((l.map f).find? λe=>decide (e≠0)).getD 0
theorem sH{α:Type}(f:α->Int):∀(l:List α) (j:Nat),fL (λ(_:Unit) _ x=>if¬(f x=0) then Except.error (f x) else .ok ()) j l ()=if lO f l=0 then .ok () else .error (lO f l)
 |[],j=>by simp [fL,lO]
 |x::l,j=>by
  rw [fL]
  by_cases h:f x=0
  .
   have:lO f (x::l)=lO f l:=by simp [lO,h]
   rw [this]
   simp only [h,not_true_eq_false,if_false]
   exact sH f l (j+1)
  simp_all [lO]
theorem oZ{α:Type}{f:α->Int}{l:List α}:lO f l=0↔∀x∈l,f x=0:=by
 induction l with
 |nil=>simp [lO]
 |cons x l ih=>
  grind [lO]
structure Sm(m:ae):Prop where
 d:(mD m).length≤1000
 r:∀r∈mD m,r.length≤1000/\∀l∈r,l.length≤1000
 g:(mG m).length≤1000
def kM(m:ae):Int:=
 if¬((1≤mC m/\mC m≤5)/\(0≤mW m/\mW m≤3)/\(0≤mS m/\mS m≤3)/\1≤mH m/\mH m≤3) then 1
 else if(mD m).length=0 then 7 else if 6 < (mD m).length then 6 else if¬(lO (sN (mC m)) (mD m)=0) then lO (sN (mC m)) (mD m)
 else if 8 < (mG m).length then 6 else lO (H2 m) (mG m)
theorem KN{k:Nat}{m:ae}(hs:Sm m)(hk:1000 < k):mI k m=some (kM m):=by
 unfold mI kM;simp only [kS,bs];by_cases h1:1≤mC m/\mC m≤5
 .by_cases h2:0≤mW m/\mW m≤3
  .by_cases h3:0≤mS m/\mS m≤3
   .by_cases h4:1≤mH m/\mH m≤3
    .have e1:(1≤m.1/\m.1≤5)=True:=eq_true h1;have e2:(0≤m.2.1/\m.2.1≤3)=True:=eq_true h2;have e3:(0≤m.2.2.1/\m.2.2.1≤3)=True:=eq_true h3;have e4:(1≤m.2.2.2.1/\m.2.2.2.1≤3)=True:=eq_true h4;simp only [e1,e2,e3,e4,decide_true,not_true_eq_false,if_false,Bool.not_true,Bool.false_eq_true,bs,and_self,h1,h2,h3,h4];by_cases h5:(mD m).length=0
     .simp_all
     .rw [if_neg (show¬((m.2.2.2.2.1.length:Int) < 1) by grind),if_neg h5];by_cases h6:6 < (mD m).length
      .grind
      .rw [if_neg (show¬((6:Int) < (m.2.2.2.2.1.length:Int)) by grind),if_neg h6]
       have key:=nA (f:=fg k m) (mD m) (λ(_:Unit) j=>j) (λ_ _ x=>if¬(sN (mC m) x=0) then Except.error (sN (mC m) x) else .ok ()) (λ_ _=>True) (λr=>some r)
        (λn s j hj _=>by
         have hck:ck ((j:Int)+1)=some ((j:Int)+1):=cR (by omega) (by omega);have hr:=hs.r _ (List.getElem_mem hj);refine⟨?_,λ_ _=>trivial⟩;have hj':(j:Int) < (m.2.2.2.2.1.length:Int):=Int.ofNat_lt.2 hj;have hg:aJ m.2.2.2.2.1 (j:Int)=some (mD m)[j]:=fZ hj;simp only [fg,hj',if_true,hg,bs,KL h1 hk hr.1 hr.2];grind)
        (λn s _=>by
         unfold fg;simp_all) (n:=k) (s0:=()) (by omega) trivial
       rw [show fg k m k 0=_ from key,sH];by_cases h7:lO (sN (mC m)) (mD m)=0
       .rw [if_pos h7,kN,show(if¬(lO (sN (mC m)) (mD m)=0) then lO (sN (mC m)) (mD m) else if 8 < (mG m).length then 6 else lO (H2 m) (mG m))=(if 8 < (mG m).length then 6 else lO (H2 m) (mG m)) from if_neg (λhn=>hn h7)];by_cases h8:8 < (mG m).length
        .grind
        .rw [if_neg (show¬((8:Int) < (m.2.2.2.2.2.length:Int)) by grind),if_neg h8]
         have key:=nA (f:=ff k m) (mG m) (λ(_:Unit) j=>j) (λ_ _ x=>if¬(H2 m x=0) then Except.error (H2 m x) else .ok ()) (λ_ _=>True) (λr=>some r)
          (λn s j hj _=>by
           have hck:ck ((j:Int)+1)=some ((j:Int)+1):=cR (by omega) (by omega);refine⟨?_,λ_ _=>trivial⟩;have hj':(j:Int) < (m.2.2.2.2.2.length:Int):=Int.ofNat_lt.2 hj;have hg:aJ m.2.2.2.2.2 (j:Int)=some (mG m)[j]:=fZ hj;simp only [ff,hj',if_true,hg,bs,OH h1];grind)
          (λn s _=>by
           simp_all [ff,if_neg,Int.lt_irrefl]) (n:=k) (s0:=()) (by omega) trivial
         rw [show ff k m k 0=_ from key,sH];by_cases h9:lO (H2 m) (mG m)=0
         .rw [if_pos h9,kN,h9]
         .rw [if_neg h9,rz]
       .rw [if_neg h7,rz,if_pos h7]
    grind
   grind
  grind
 grind
end Go.Proofs.YtddkbkkogpolaaaGreat
set_option linter.unusedVariables false
set_option linter.unusedSimpArgs false
namespace Go.Proofs.YtddkbkkogpolaaaGreat
open K Go Go.Proofs
theorem ul{r:List (List Int)}{l:List Int}(h:r.flatten.Nodup)(hl:l∈r):l.Nodup:=by
 grind
theorem Jt{σ:Type}{bad:σ->Int->Option Int}{add:σ->Int->σ}{x:Int}{l:List Int}{s:σ}{e:Int}(h:bad s x=some e):wk bad add (x::l) s= .error e:=by rw [wk,h]
theorem Jq{σ:Type}{bad:σ->Int->Option Int}{add:σ->Int->σ}{x:Int}{l:List Int}{s:σ}(h:bad s x=none):wk bad add (x::l) s=wk bad add l (add s x):=by rw [wk,h]
theorem Vd.of{m:ae}(h:kM m=0):Vd m:=by
 unfold kM at h;by_cases h1:(1≤mC m/\mC m≤5)/\(0≤mW m/\mW m≤3)/\(0≤mS m/\mS m≤3)/\1≤mH m/\mH m≤3
 .rw [if_neg (λhn=>hn h1)] at h;by_cases h2:(mD m).length=0
  .omega
  .rw [if_neg h2] at h;by_cases h3:6 < (mD m).length
   .omega
   .rw [if_neg h3] at h;by_cases h4:lO (sN (mC m)) (mD m)=0
    .rw [if_neg (λhn=>hn h4)] at h;by_cases h5:8 < (mG m).length
     .omega
     .rw [if_neg h5] at h;have hd:=λr hr=>wL.1 (oZ.1 h4 r hr);have hx:∀r∈mD m,∀l∈r,∀x∈l,0≤x/\x < mC m:=λr hr l hl x hx=>(hd r hr).2.2 x (List.mem_flatten.2 ⟨l,hl,hx⟩)
      exact⟨h1.1.1,h1.1.2,h1.2.1.1,h1.2.1.2,h1.2.2.1.1,h1.2.2.1.2,h1.2.2.2.1,h1.2.2.2.2,by omega,by omega,λr hr=>(hd r hr).1,λr hr l hl=>by
       have hn:l.Nodup:=ul (hd r hr).2.1 hl;have:=rU (mC m).toNat l hn λx hxx=>by grind
       omega,hx,λr hr=>(hd r hr).2.1,by omega,λg hg=>by
        grind [oZ,H2]⟩
    omega
 omega
theorem Vd.chk{m:ae}(v:Vd m):kM m=0:=by
 unfold kM;have h1:(1≤mC m/\mC m≤5)/\(0≤mW m/\mW m≤3)/\(0≤mS m/\mS m≤3)/\1≤mH m/\mH m≤3:=⟨⟨v.c1,v.c5⟩,⟨v.w0,v.w3⟩,⟨v.s0,v.s3⟩,v.h1,v.h3⟩
 have h4:lO (sN (mC m)) (mD m)=0:=oZ.2 λr hr=>wL.2 ⟨v.r3 r hr,v.nd r hr,λx hx=>by
  obtain⟨l,hl,hx⟩:=List.mem_flatten.1 hx;exact v.x5 r hr l hl x hx⟩
 have h9:lO (H2 m) (mG m)=0:=oZ.2 λg hg=>by
  have:=v.gl g hg;unfold H2;omega
 have d1:=v.d1;have d6:=v.d6;have g8:=v.g8;omega
theorem Vd.sm{m:ae}(v:Vd m):Sm m:=⟨by have:=v.d6;omega,λr hr=>⟨by have:=v.r3 r hr;omega,λl hl=>by have:=v.l5 r hr l hl;omega⟩,by have:=v.g8;omega⟩
def vh(C:Int)(p:Option Int)(x:Int):Option Int:=if¬(0≤x/\x < C) then some 3 else if p.any (λy=>decide (x≤y)) then some 5 else none
def LL(C:Int)(p:Option Int×Int)(x:Int):Option Int:=vh C p.1 x
def PW(p:Option Int×Int)(x:Int):Option Int×Int:=(some x,wR p.2 x)
def LV(p:Option Int)(x:Int):Option Int:=some x
def sR(C:Int)(b:List Int):Int:=match wk (vh C) LV b none with | .error e=>e | .ok _=>0
def cp(b:List Int):Int:=b.foldl wR 0
theorem Nv{C:Int}{p:Option Int}{x:Int}(h:vh C p x=none):(0≤x/\x < C)/\p.any (λy=>decide (x≤y))=false:=by
 unfold vh at h;grind
theorem Dv{C:Int}:∀(b:List Int) (p:Option Int) (s:Int),(∃e,wk (LL C) PW b (p,s)= .error e/\wk (vh C) LV b p= .error e)\/∃q,wk (LL C) PW b (p,s)= .ok (q,b.foldl wR s)/\wk (vh C) LV b p= .ok q
 |[],p,s=>.inr ⟨p,rfl,rfl⟩
 |x::b,p,s=>by
  cases e:vh C p x with
  |some c=>exact .inl ⟨c,Jt e,Jt e⟩
  |none=>
   rw [Jq (bad:=LL C) (s:=(p,s)) (x:=x) e,Jq e]
   exact Dv (C:=C) b (some x) (wR s x)
theorem zy{k:Nat}{m:ae}(hC:1≤mC m/\mC m≤5){b:List Int}(hk:b.length < k)(hb:b.length≤1000):
 eY k m b k (0,0)=some (if sR (mC m) b=0 then .ok (cp b) else .error (none,0,sR (mC m) b)):=by
 have key:=nA (T:=Int×Int) (f:=eY k m b) b (λ(s:Option Int×Int) j=>(s.2,j)) (λs _ x=>match LL (mC m) s x with |some e=>Except.error e |none=>.ok (PW s x)) (λj s=>ju s.2/\s.1=if j=0 then none else b[j-1]?) (λr=>some (match r with | .error e=>Except.error (none,0,e) | .ok s=>.ok s.2))
  (λn s j hj hs=>by
   have hck:ck ((j:Int)+1)=some ((j:Int)+1):=cR (by omega) (by omega);have hc:ck (m.1 - 1)=some (m.1 - 1):=RX hC;refine⟨?_,λs' e=>?_⟩
   .simp only [eY,Int.ofNat_lt,hj,if_true,fZ hj,bs,hc,kS];generalize b[j]=x;rw [show LL (mC m) s x=vh (mC m) s.1 x from rfl];by_cases h:0≤x/\x < mC m
    .have h':0≤x/\x≤m.1 - 1:=⟨h.1,by grind⟩;have eb:vh (mC m) s.1 x=if s.1.any (λy=>decide (x≤y)) then some 5 else none:=by unfold vh;simp_all
     have ep:(if(0:Int) < (j:Int) then((ck ((j:Int) - 1)).bind λx12=>(aJ b x12).bind λx13=>some (decide (x≤x13))) else some false)=some (s.1.any λy=>decide (x≤y)):=by
      rw [hs.2];by_cases h0:j=0
      .simp_all
      .have c1:ck ((j:Int) - 1)=some ((j - 1:Nat):Int):=by grind [cR]
       rw [if_pos (by omega),c1,bs,fZ (by omega),bs,if_neg h0,List.getElem?_eq_getElem (by omega)];rfl
     rw [eb];simp only [h',and_self,decide_true,not_true_eq_false,if_false,bs];rw [ep,bs];cases s.1.any λy=>decide (x≤y) with
     |true=>simp_all
     |false=>
      simp only [Bool.false_eq_true,if_false,(mR (k:=k) hs.1 h.1 (by omega)).1,bs,hck];rfl
    .have h':¬(0≤x/\x≤m.1 - 1):=λhh=>h ⟨hh.1,by grind⟩;have eb:vh (mC m) s.1 x=some 3:=by unfold vh;simp_all
     simp_all
   .cases e2:LL (mC m) s b[j] with
    |some c=>simp_all
    |none=>
     rw [e2] at e;cases e;have hx:=Nv e2;exact⟨(mR (k:=0) hs.1 hx.1.1 (by omega)).2.1,by show some b[j]=if j+1=0 then none else b[j+1 - 1]?;simp_all⟩)
  (λn s _=>by simp [eY]) (n:=k) (s0:=(none,0)) hk ⟨uw,rfl⟩
 rw [show eY k m b k (0,0)=_ from key]
 have e1:fL (λ(s:Option Int×Int) _ x=>match LL (mC m) s x with |some e=>Except.error e |none=>.ok (PW s x)) 0 b (none,0)=wk (LL (mC m)) PW b (none,0):=xc (bad:=LL (mC m)) (add:=PW) b 0 (none,0)
 rw [e1]
 unfold sR
 have z:∀(l:List Int) (p:Option Int),wk (vh (mC m)) LV l p≠.error 0:=by
  intro l
  induction l with
  |nil=>intro p h;cases h
  |cons x l ih=>
   intro p h;rw [wk] at h;cases hb:vh (mC m) p x with
   |some c=>
    grind [vh]
   |none=>grind
 rcases Dv (C:=mC m) b none 0 with⟨e,h1,h2⟩ |⟨q,h1,h2⟩
 .
  grind
 .
  rw [h1,h2];rfl
end Go.Proofs.YtddkbkkogpolaaaGreat
set_option linter.unusedVariables false
set_option linter.unusedSimpArgs false
namespace Go.Proofs.YtddkbkkogpolaaaGreat
open K Go Go.Proofs
theorem yZ{C:Int}(hC:C≤5):∀(b:List Int) (s:Int),ju s->(∀x∈b,0≤x/\x < C)->ju (b.foldl wR s)/\∀i:Nat,eg (b.foldl wR s) i↔eg s i\/(i:Int)∈b
 |[],s,hs,_=>⟨hs,λi=>by simp⟩
 |x::b,s,hs,hb=>by
  have hx:=hb x mem_cons_self
  have hw:=mR (k:=0) hs hx.1 (by omega)
  have:=yZ hC b (wR s x) hw.2.1 λy hy=>hb y (mem_cons_of_mem _ hy)
  grind
structure Bg(C:Int)(b:List Int):Prop where
 rng:∀x∈b,0≤x/\x < C
 asc:b.Pairwise (· < ·)
theorem AO{C:Int}:∀{b:List Int} {p:Option Int},(∃q,wk (vh C) LV b p= .ok q)↔(∀x∈b,0≤x/\x < C)/\b.Pairwise (· < ·)/\∀y,p=some y->∀x∈b.head?,y < x
 |[],p=>by simp [wk]
 |x::b,p=>by
  cases e:vh C p x with
  |some c=>
   rw [Jt e]
   constructor
   .
    simp_all
   .
    rintro⟨h1,h2,h3⟩
    exfalso
    unfold vh at e
    rw [if_neg (λhn=>hn (h1 x mem_cons_self))] at e
    cases p with
    |none=>cases e
    |some y=>
     have:=h3 y rfl x (by simp)
     grind
  |none=>
   have hx:=Nv e
   rw [Jq e,AO (b:=b) (p:=LV p x)]
   constructor
   .
    rintro⟨h1,h2,h3⟩
    refine⟨λy hy=>?_,?_,λy hy z hz=>?_⟩
    .
     grind
    .
     rw [pairwise_cons]
     refine⟨λy hy=>?_,h2⟩
     cases b with
     |nil=>cases hy
     |cons z b=>
      have hz:=h3 x rfl z (by simp)
      grind [pairwise_cons]
    simp_all
   simp_all [pairwise_cons,mem_cons_of_mem,LV,mem_of_mem_head?]
theorem Dw{C:Int}:∀{l:List Int} {p:Option Int},wk (vh C) LV l p≠.error 0
 |[],p,h=>by cases h
 |x::l,p,h=>by
  cases hb:vh C p x with
  |some c=>
   rw [Jt hb] at h
   grind [vh]
  |none=>rw [Jq hb] at h;exact Dw h
theorem pi{C:Int}{b:List Int}:sR C b=0↔Bg C b:=by
 unfold sR;constructor
 .intro h;cases e:wk (vh C) LV b none with
  |error c=>simp_all [Dw]
  |ok q=>have:=AO.1 ⟨q,e⟩;exact⟨this.1,this.2.1⟩
 .rintro⟨h1,h2⟩;obtain⟨q,e⟩:=(AO (p:=none)).2 ⟨h1,h2,λy hy=>by cases hy⟩;rw [e]
theorem Bg.set{C:Int}(hC:C≤5){b:List Int}(h:Bg C b):ju (cp b)/\∀c:Int,0≤c->mP (cp b) c=decide (c∈b):=by
 have:=yZ hC b 0 uw h.rng;refine⟨this.1,λc hc=>?_⟩;unfold mP;have e:((c.toNat:Nat):Int)=c:=by omega
 have h2:=this.2 c.toNat;rw [e] at h2;refine decide_eq_decide.2 ?_;show eg (b.foldl wR 0) c.toNat↔_;simp_all [eg]
def uy(m:ae)(i:Nat):Int:=match i with |0=>mC m - 1 |1=>((mD m).length:Int) - 1 |_=>(mD m).length
def xP(n:Int)(l:List Int):Bool:=l.all λx=>decide (0≤x/\x≤n)
theorem pS{k:Nat}{m:ae}(v:Vd m){i:Nat}(hi:i < 3){l:List Int}(hk:l.length < k)(hl:l.length≤1000):
 dE k m (i:Int) l k 0=some (if xP (uy m i) l then .ok () else .error (none,0,3)):=by
 have c1:=v.c1
 have c5:=v.c5
 have d6:=v.d6
 have d1:=v.d1
 have key:=nA (T:=Int) (f:=dE k m (i:Int) l) l (λ(_:Unit) j=>j) (λ_ _ x=>if 0≤x/\x≤uy m i then .ok () else Except.error ((none,0,3):Option ae×Int×Int)) (λ_ _=>True) (λr=>some r)
  (λn s j hj _=>by
   have hck:ck ((j:Int)+1)=some ((j:Int)+1):=cR (by omega) (by omega);have hc:ck (m.1 - 1)=some (mC m - 1):=RX ⟨c1,c5⟩;have hd:ck ((m.2.2.2.2.1.length:Int) - 1)=some (((mD m).length:Int) - 1):=cR (by omega) (by grind)
   have hg:aJ [mC m - 1,((mD m).length:Int) - 1,((mD m).length:Int)] (i:Int)=some (uy m i):=by
    have:i=0\/i=1\/i=2:=by omega
    rcases this with rfl |rfl |rfl <;> rfl
   refine⟨?_,λ_ _=>trivial⟩;simp only [dE,Int.ofNat_lt,hj,if_true,fZ hj,bs,hc,hd];rw [show aJ [mC m - 1,((mD m).length:Int) - 1,(m.2.2.2.2.1.length:Int)] (i:Int)=some (uy m i) from hg,bs,kS,bs];grind)
  (λn s _=>by simp [dE]) (n:=k) (s0:=()) hk trivial
 rw [show dE k m (i:Int) l k 0=_ from key]
 congr 1
 have:∀(l:List Int) (j:Nat),fL (λ(_:Unit) _ x=>if 0≤x/\x≤uy m i then .ok () else Except.error ((none,0,3):Option ae×Int×Int)) j l ()=if xP (uy m i) l then .ok () else .error (none,0,3):=by
  intro l
  induction l with
  |nil=>intro j;rfl
  |cons x l ih=>
   intro j;rw [fL];by_cases h:0≤x/\x≤uy m i
   .simp_all [if_pos,xP,uy,all_cons,and_self,decide_true,Bool.true_and]
   .rw [if_neg h];have:xP (uy m i) (x::l)=false:=by simp only [xP,all_cons,h,decide_false,Bool.false_and]
    simp_all
 simp_all
theorem yN{k:Nat}{m:ae}(v:Vd m)(hk:10≤k):∀n:Nat,n≤32->vP k m n=some ()
 |0,_=>rfl
 |n+1,h=>by
  have e:IntKind.u8.wrap (n:Int)=(n:Int):=tu (by omega)
  unfold vP
  rw [yN v hk n (by omega),bs,e,o5 v hk ⟨by omega,by omega⟩,bs]
theorem Jx{k:Nat}{m:ae}(v:Vd m)(hk:10≤k):eH k m=some ():=by
 have c1:=v.c1;have c5:=v.c5;unfold eH
 have hc:m.1=1\/m.1=2\/m.1=3\/m.1=4\/m.1=5:=by
  grind
 have e:0≤ou .i64 1 m.1/\ou .i64 1 m.1≤32:=by
  rcases hc with h |h |h |h |h <;> rw [h] <;> decide
 rw [if_pos ⟨by omega,by omega⟩];simp_all [yN]
def G4(m:ae)(cs ds ns:List Int):Bool:=xP (uy m 0) cs && xP (uy m 1) ds && xP (uy m 2) ns
theorem uq{k:Nat}{m:ae}{b cs ds ns:List Int}(hs:Sm m)(hk:1010≤k)(hb:b.length≤1000)(h1:cs.length≤1000)(h2:ds.length≤1000)(h3:ns.length≤1000):
 jN k m b cs ds ns=some (if¬(kM m=0) then(none,0,kM m) else if¬(sR (mC m) b=0) then(none,0,sR (mC m) b) else if G4 m cs ds ns then(some m,cp b,0) else(none,0,3)):=by
 unfold jN
 rw [KN hs (by omega),bs]
 by_cases hc:kM m=0
 .
  have v:=Vd.of hc;rw [if_neg (λhn=>hn hc),if_neg (λhn=>hn hc),zy ⟨v.c1,v.c5⟩ (by omega) hb];by_cases hg:sR (mC m) b=0
  .rw [if_pos hg,kN,if_neg (λhn=>hn hg)];obtain⟨n,rfl⟩:∃n,k=n+4:=⟨k - 4,by omega⟩;have e0:=pS v (k:=n+4) (i:=0) (by omega) (l:=cs) (by omega) h1;have e1:=pS v (k:=n+4) (i:=1) (by omega) (l:=ds) (by omega) h2;have e2:=pS v (k:=n+4) (i:=2) (by omega) (l:=ns) (by omega) h3;have g0:aJ [cs,ds,ns] (0:Int)=some cs:=rfl;have g1:aJ [cs,ds,ns] (1:Int)=some ds:=rfl;have g2:aJ [cs,ds,ns] (2:Int)=some ns:=rfl;have k0:ck ((0:Int)+1)=some 1:=rfl;have k1:ck ((1:Int)+1)=some 2:=rfl;have k2:ck ((2:Int)+1)=some 3:=rfl;have ln:(([cs,ds,ns]:List (List Int)).length:Int)=3:=rfl
   have s0:cQ (n+4) m cs ds ns (n+4) 0=if xP (uy m 0) cs then cQ (n+4) m cs ds ns (n+3) 1 else some (.error (none,0,3)):=by
    rw [cQ,ln,if_pos (by decide),g0,bs,show dE (n+4) m 0 cs (n+4) 0=_ from e0];cases xP (uy m 0) cs with
    |true=>simp_all [if_true,kN,bs]
    |false=>simp_all [Bool.false_eq_true,if_false,rz]
   have s1:cQ (n+4) m cs ds ns (n+3) 1=if xP (uy m 1) ds then cQ (n+4) m cs ds ns (n+2) 2 else some (.error (none,0,3)):=by
    rw [cQ,ln,if_pos (by decide),g1,bs,show dE (n+4) m 1 ds (n+4) 0=_ from e1];cases xP (uy m 1) ds with
    |true=>simp_all [if_true,kN,bs]
    |false=>simp_all [Bool.false_eq_true,if_false,rz]
   have s2:cQ (n+4) m cs ds ns (n+2) 2=if xP (uy m 2) ns then cQ (n+4) m cs ds ns (n+1) 3 else some (.error (none,0,3)):=by
    rw [cQ,ln,if_pos (by decide),g2,bs,show dE (n+4) m 2 ns (n+4) 0=_ from e2];cases xP (uy m 2) ns with
    |true=>simp_all [if_true,kN,bs]
    |false=>simp_all [Bool.false_eq_true,if_false,rz]
   have s3:cQ (n+4) m cs ds ns (n+1) 3=some (.ok ()):=by
    rw [cQ,ln,if_neg (by decide)]
   rw [s0,s1,s2,s3];unfold G4
   have fin:((iU (n+4) m).bind λr32=>f5 r32 none (λq33=>(eH (n+4) q33).bind λr35=>some (some q33,cp b,(0:Int))))=some (some m,cp b,0):=by
    grind [iU,bs,o6,Jx]
   cases xP (uy m 0) cs with
   |false=>simp_all [Bool.false_eq_true,if_false,Bool.false_and,rz]
   |true=>
    cases xP (uy m 1) ds with
    |false=>simp_all [if_true,Bool.false_eq_true,if_false,Bool.true_and,Bool.false_and,rz]
    |true=>
     cases xP (uy m 2) ns with
     |false=>simp_all [if_true,Bool.false_eq_true,if_false,Bool.true_and,Bool.and_false,rz]
     |true=>simp_all [if_true,Bool.true_and,kN]
  .rw [if_neg hg,rz,if_pos hg]
 simp_all
end Go.Proofs.YtddkbkkogpolaaaGreat
set_option linter.unusedVariables false
set_option linter.unusedSimpArgs false
namespace Go.Proofs.YtddkbkkogpolaaaGreat
open K Go Go.Proofs
def pq(m:ae)(B:Int->Bool)(n:Nat):List Int:=(List.range (mC m).toNat).map λ(c:Nat)=>lP m B n (c:Int)
def nB(m:ae)(B:Int->Bool):List (List Int):=(List.range ((mD m).length+1)).map (pq m B)
theorem GN{m:ae}{B:Int->Bool}{n:Nat}{c:Int}(h0:0≤c)(h1:c < mC m):aJ (pq m B n) c=some (lP m B n c):=by
 unfold pq;rw [aJ,if_pos h0,List.getElem?_map,List.getElem?_range (by omega)];grind
theorem wM{m:ae}{B:Int->Bool}{n:Nat}(h:n≤(mD m).length):aJ (nB m B) (n:Int)=some (pq m B n):=by
 unfold nB;rw [aJ,if_pos (by omega),List.getElem?_map,Int.toNat_natCast,List.getElem?_range (by omega)];rfl
theorem Gm{f:Int->Int}{C:Int}(h0:0≤C)(h5:C≤5):List.take C.toNat (kE f)=(List.range C.toNat).map λ(c:Nat)=>f (c:Int):=by
 have:C=0\/C=1\/C=2\/C=3\/C=4\/C=5:=by omega
 rcases this with rfl |rfl |rfl |rfl |rfl |rfl <;> rfl
theorem Bv{k:Nat}{m:ae}{b:List Int}(hs:Sm m)(hk:1010≤k)(hb:b.length≤1000):
 ix k m b=some (if¬(kM m=0) then([],kM m) else if¬(sR (mC m) b=0) then([],sR (mC m) b) else(nB m λc=>decide (c∈b),0)):=by
 unfold ix
 rw [uq hs hk hb (by simp) (by simp) (by simp),bs]
 by_cases hc:kM m=0
 .
  have v:=Vd.of hc;by_cases hg:sR (mC m) b=0
  .have hB:=(pi.1 hg).set v.c5;have ho:G4 m [] [] []=true:=rfl;have c1:=v.c1;have c5:=v.c5;have d6:=v.d6;simp only [hc,hg,ho,not_true_eq_false,if_false,if_true,o6];rw [o5 v (by omega) hB.1,bs]
   have hd:ck ((m.2.2.2.2.1.length:Int)+1)=some (((mD m).length+1:Nat):Int):=by
    rw [cR (by omega) (by grind)];rfl
   rw [hd,bs]
   have key:=dA (T:=List (List Int)×Int) (f:=ew k m (cr (FB m (mP (cp b)))) (((mD m).length+1:Nat):Int)) (List.range ((mD m).length+1)) (λ(s:List (List Int)) j=>(s,j)) (λs j _=>s++[pq m (mP (cp b)) j]) (λj s=>s=(List.range j).map (pq m (mP (cp b)))) (λs=>some s)
    (λn s j hj hs=>by
     rw [length_range] at hj;have hck:ck ((j:Int)+1)=some ((j:Int)+1):=cR (by omega) (by omega);have hjlt:(j:Int) < (((mD m).length+1:Nat):Int):=by omega
     have hp:cN (0≤m.1/\m.1≤5)=some ():=dB ⟨by grind,c5⟩
     have ht:List.take (Int.toNat m.1) (kE (FB m (mP (cp b)) j))=pq m (mP (cp b)) j:=by
      rw [Gm (by omega) c5];unfold pq;refine List.map_congr_left λc hc=>?_;have:=List.mem_range.1 hc;exact yg v (by omega) (by omega) (by omega)
     have hl:(pq m (mP (cp b)) j).length≤5:=by grind
     have hsl:s.length=j:=by simp_all
     have hcl:ia k (pq m (mP (cp b)) j)=some (pq m (mP (cp b)) j):=by
      unfold ia;rw [dB (by show _≤_;omega),bs]
     have hok:cN (bP (length s+length [pq m (mP (cp b)) j]))=some ():=dB (by grind [bP]);refine⟨?_,?_⟩
     .simp only [ew,hjlt,if_true,uP (F:=FB m (mP (cp b))) (show j < 7 by omega),bs,hp,ht,hcl,hok,hck]
     simp_all [List.range_succ,List.map_append])
    (λn s hs=>by
     simp_all [length_range,ew,if_neg,Int.lt_irrefl]) (n:=k) (s0:=[]) (by grind) rfl
   rw [show ew k m (cr (FB m (mP (cp b)))) (((mD m).length+1:Nat):Int) k ([],0)=_ from key.1,bs,key.2,length_range]
   have hcs:(List.range ((mD m).length+1)).map (pq m (mP (cp b)))=nB m λc=>decide (c∈b):=by
    unfold nB;refine List.map_congr_left λn hn=>?_;unfold pq;refine List.map_congr_left λc hc=>?_
    have hage:∀(n:Nat) (c:Int),0≤c->c < mC m->lP m (mP (cp b)) n c=lP m (λc=>decide (c∈b)) n c:=by
     intro n
     induction n with
     |zero=>simp_all [lP]
     |succ n ih=>
      intro c h0 h1;unfold lP;cases e:Du m n c with
      |none=>simp_all
      |some l=>
       have hb:=(uU v e).2;grind
    simp_all
   rw [hcs]
  simp_all [not_true_eq_false,not_false_eq_true,if_false,if_true,jd]
 simp_all [not_false_eq_true,if_true,jd]
end Go.Proofs.YtddkbkkogpolaaaGreat
set_option linter.unusedVariables false
set_option linter.unusedSimpArgs false
namespace Go.Proofs.YtddkbkkogpolaaaGreat
open K Go Go.Proofs
theorem Lo.mono{l:bM}{m n:Int}(h:Lo l m)(hn:m≤n):Lo l n:=⟨h.1,Int.le_trans h.2 hn⟩
theorem Qn{α:Type}{l:List α}{x:α}{n:Nat}(h:l.length≤n)(hn:n≤1000000):bP (length l+length [x]):=by
 show length l+length [x]≤4294967296;grind
theorem Bt{k:Nat}(hk:50≤k){l:bM}{m:Int}{n:Nat}(hl:Lo l m)(hm:0≤m/\m≤1000)(hn:n≤8):W (gR k l (n:Int)) λr=>Lo r.2 (m+10)/\r.1.length=n/\(∀x∈r.1,0≤x/\x < (n:Int))/\r.1.Nodup:=by
 unfold gR;refine W.bind (R:=λr=>Lo (r.2.1,r.2.2.1,r.2.2.2) (m+10)/\r.1.length=n/\(∀x∈r.1,0≤x/\x < (n:Int))/\r.1.Nodup) ?_ λr h=>W.ret h
 refine W.loop (f:=d4 k (n:Int)) (λq y=>∃j:Nat,y.2.2.2.2=(j:Int)/\j≤n/\q=n - j/\Lo (y.1,y.2.1,y.2.2.1) (m+j)/\y.2.2.2.1.length=j/\(∀x∈y.2.2.2.1,0≤x/\x < (j:Int))/\y.2.2.2.1.Nodup) ?_ n k _ (by omega)
  ⟨0,rfl,by omega,by omega,by simp_all,rfl,by simp,by simp⟩
 rintro aK q ⟨nums,d,s,o,y⟩ ⟨j,hj,hle,hq,hlo,hlen,hx,hnd⟩ ih;simp only at hj hlo hlen hx hnd;subst hj;unfold d4;dsimp only;refine W.ite (λhlt=>?_) (λhge=>W.ret ⟨hlo.mono (by omega),by grind,λx hx'=>by grind,hnd⟩);obtain⟨r5,e5,a5,b5,c5⟩:=kC (k:=k) (n:=(j:Int)) hlo (by omega) (by omega);have b5:=b5 (by omega);have ho:(o++[(j:Int)]).length=j+1:=by simp [hlen]
 have hr5:r5.1.toNat < (o++[(j:Int)]).length:=by omega
 have hjl:j < (o++[(j:Int)]).length:=by omega
 have hgj:(o++[(j:Int)])[j]=(j:Int):=by
  grind
 rw [e5,bs,dB (Qn (n:=8) (by omega) (by omega)),bs,xT a5 hr5,bs,fZ (by omega),bs];have hgs:aJ (List.set (o++[(j:Int)]) (Int.toNat (j:Int)) (o++[(j:Int)])[r5.1.toNat]) r5.1=some ((List.set (o++[(j:Int)]) (Int.toNat (j:Int)) (o++[(j:Int)])[r5.1.toNat])[r5.1.toNat]'(by grind)):=xT a5 (by grind);rw [hgs,bs,cR (by omega) (by omega),bs]
 have hp:(List.set (List.set (o++[(j:Int)]) (Int.toNat (j:Int)) (o++[(j:Int)])[r5.1.toNat]) (Int.toNat r5.1) (j:Int)).Perm (o++[(j:Int)]):=by
  have:= @set_set_perm Int (o++[(j:Int)]) j r5.1.toNat hjl hr5;rw [hgj] at this;exact this
 refine ih (q - 1) (_,_,_,_,(j:Int)+1) (by omega) ⟨j+1,by grind,by omega,by omega,c5.mono (by omega),by simp [hlen],λx hx'=>?_,hp.nodup_iff.2 ?_⟩
 .grind
 grind
theorem Ie{out:List (List Int)}{i:Nat}{x:Int}(h:i < out.length):(out.set i (out[i]++[x])).flatten.Perm (out.flatten++[x]):=by
 have e1:out=out.take i++out[i]::out.drop (i+1):=by simp_all
 grind
structure Rl(C:Int)(r:List (List Int)):Prop where
 r3:r.length≤3
 x5:∀l∈r,∀x∈l,0≤x/\x < C
 nd:r.flatten.Nodup
theorem Rl.l5{C:Int}(hC:0≤C/\C≤5){r:List (List Int)}(h:Rl C r):∀l∈r,l.length≤5:=λl hl=>by
 have:=rU C.toNat l (ul h.nd hl) λx hx=>by have:=h.x5 l hl x hx;omega
 omega
theorem GU{k:Nat}(hk:50≤k){l:bM}{m:Int}{n:Nat}(hl:Lo l m)(hm:0≤m/\m≤900)(hn:n≤5):
 W (jQ k l (n:Int)) λr=>Lo r.2 (m+30)/\Rl (n:Int) r.1:=by
 unfold jQ
 refine W.bind (C7 (l:=(l.1,l.2.1,l.2.2)) hl (by omega) (by omega) (by omega) (by omega)) λr1 h1=>?_
 refine W.chk ⟨by omega,by show _≤_;omega⟩ ?_
 refine W.bind (Bt hk (l:=(r1.2.1,r1.2.2.1,r1.2.2.2)) (m:=m+1) (n:=n) h1.2.2 (by omega) (by omega)) λr4 h4=>?_
 obtain⟨lo4,len4,rng4,nd4⟩:=h4
 refine W.bind (R:=λx=>Lo (x.1,x.2.1,x.2.2.1) (m+30)/\Rl (n:Int) x.2.2.2) ?_ λx hx=>W.ret hx
 refine W.loop (f:=fy k r4) (λq y=>∃j:Nat,y.2.2.2.1=(j:Int)/\j≤n/\q=n - j/\Lo (y.1,y.2.1,y.2.2.1) (m+11+2 * j)/\y.2.2.2.2.length=r1.1.toNat/\(∀x∈y.2.2.2.2.flatten,x∈r4.1.take j)/\y.2.2.2.2.flatten.Nodup) ?_ n k _ (by omega)
  ⟨0,rfl,by omega,by omega,lo4.mono (by omega),by simp,by simp,by simp⟩
 rintro aK q ⟨nums,d,s,y,out⟩ ⟨j,hj,hle,hq,hlo,hlen,hx,hnd⟩ ih
 simp only at hj hlo hlen hx hnd
 subst hj
 unfold fy
 dsimp only
 refine W.ite (λhlt=>?_) (λhge=>W.ret ⟨hlo.mono (by omega),by grind,λl hl x hxx=>rng4 x (mem_of_mem_take (hx x (List.mem_flatten.2 ⟨l,hl,hxx⟩))),hnd⟩)
 have hj:j < r4.1.length:=by omega
 have hsub:∀x∈r4.1.take j,x∈r4.1.take (j+1):=λx hh=>by grind
 refine W.bind (R:=λx=>Lo (x.1,x.2.1,x.2.2.1) (m+11+2 * j+2)/\x.2.2.2.length=r1.1.toNat/\(∀z∈x.2.2.2.flatten,z∈r4.1.take (j+1))/\x.2.2.2.flatten.Nodup) ?_ λx9 h9=>?_
 .
  refine W.bind (xp (l:=(nums,d,s)) hlo (by omega) (by omega) (by omega)) λr11 h11=>?_;refine W.ite (λ_=>W.ret ⟨h11.mono (by omega),hlen,λz hz=>hsub z (hx z hz),hnd⟩) (λ_=>?_);refine W.ck (by omega) (by omega) ?_;refine W.bind (kC (l:=(r11.2.1,r11.2.2.1,r11.2.2.2)) h11 (by omega) (by omega)) λr13 h13=>?_;have b13:=h13.2.1 (by omega);have hi:r13.1.toNat < out.length:=by omega
  rw [xT h13.1 hi,bs,fZ hj,bs]
  have hxj:r4.1[j]∉out.flatten:=λhin=>by
   grind [List.getElem_of_mem,length_take,getElem_inj]
  have hlen2:(out[r13.1.toNat]).length≤5:=by
   have:=rU n _ (ul hnd (List.getElem_mem hi)) λx hxx=>rng4 x (mem_of_mem_take (hx x (List.mem_flatten.2 ⟨_,List.getElem_mem hi,hxx⟩)));omega
  rw [dB (by grind [bP]),bs];have hp:=Ie (x:=r4.1[j]) hi;refine W.ret ⟨h13.2.2.mono (by omega),by grind,λz hz=>?_,hp.nodup_iff.2 ?_⟩
  .grind [List.mem_singleton,take_add_one,List.getElem?_eq_getElem,List.mem_append_right]
  grind
 .
  refine W.ck (by omega) (by omega) ?_;exact ih (q - 1) (_,_,_,(j:Int)+1,_) (by omega) ⟨j+1,by grind,by omega,by omega,h9.1.mono (by omega),h9.2⟩
end Go.Proofs.YtddkbkkogpolaaaGreat
set_option linter.unusedVariables false
set_option linter.unusedSimpArgs false
namespace Go.Proofs.YtddkbkkogpolaaaGreat
open K Go Go.Proofs
theorem L2{c w s h:Int}{ds:List (List (List Int))}(hc:1≤c/\c≤5)(hw:0≤w/\w≤3)(hs:0≤s/\s≤3)(hh:1≤h/\h≤3)(d1:1≤ds.length)(d6:ds.length≤6)(hr:∀r∈ds,Rl c r):Vd (c,w,s,h,ds,[]):=
 ⟨hc.1,hc.2,hw.1,hw.2,hs.1,hs.2,hh.1,hh.2,d1,d6,λr h=>(hr r h).r3,λr h=>(hr r h).l5 ⟨by omega,hc.2⟩,λr h=>(hr r h).x5,λr h=>(hr r h).nd,by simp [mG],λg hg=>by cases hg⟩
theorem BO{k:Nat}{l:List Int}(h:l.length≤1000000):i8 k l=some l:=by
 grind [i8,dB,Ul,length_nil,bs]
theorem Aa{k:Nat}{l:List (List Int)}(hk:l.length < k)(h1:l.length≤1000000)(h2:∀x∈l,x.length≤1000000):ig k l=some l:=by
 unfold ig
 have key:=dA (T:=List (List Int)×Int) (f:=dL k l) l (λ(s:List (List Int)) j=>(s,j)) (λs j x=>s++[x]) (λj s=>s=l.take j) (λs=>some s)
  (λn s j hj hs=>by
   have hck:ck ((j:Int)+1)=some ((j:Int)+1):=cR (by omega) (by omega);have hl:s.length=j:=by grind
   have hok:cN (bP (length s+length [l[j]]))=some ():=dB (by grind [bP]);refine⟨?_,?_⟩
   .simp_all [dL,Int.ofNat_lt,if_true,fZ,bs,BO,List.getElem_mem]
   simp_all)
  (λn s hs=>by
   unfold dL;simp_all) (n:=k) (s0:=[]) hk (by simp)
 simp_all
theorem Br{k:Nat}(hk:50≤k){l:bM}{m:Int}{cs ds:Int}(hl:Lo l m)(hm:0≤m/\m≤400)(hc:1≤cs/\cs≤5)(hd:1≤ds/\ds≤6):
 W (jR k l cs ds) λr=>Lo r.2 (m+250)/\Vd r.1/\mG r.1=[]/\mC r.1≤cs/\((mD r.1).length:Int)≤ds:=by
 unfold jR
 refine W.bind (C7 (l:=(l.1,l.2.1,l.2.2)) hl (by omega) (by omega) (by omega) (by omega)) λr2 h2=>?_
 refine W.bind (kC (l:=(r2.2.1,r2.2.2.1,r2.2.2.2)) h2.2.2 (by omega) (by omega)) λr3 h3=>?_
 have b3:=h3.2.1 (by omega)
 refine W.bind (G6 (l:=(r3.2.1,r3.2.2.1,r3.2.2.2)) h3.2.2 (by omega) (by simp) (by simp)) λr4 h4=>?_
 refine W.bind (kC (l:=(r4.2.1,r4.2.2.1,r4.2.2.2)) h4.2 (by omega) (by omega)) λr5 h5=>?_
 have b5:=h5.2.1 (by omega)
 refine W.bind (G6 (l:=(r5.2.1,r5.2.2.1,r5.2.2.2)) h5.2.2 (by omega) (by simp) (by simp)) λr6 h6=>?_
 refine W.bind (C7 (l:=(r6.2.1,r6.2.2.1,r6.2.2.2)) h6.2 (by omega) (by omega) (by omega) (by omega)) λr7 h7=>?_
 refine W.bind (G6 (l:=(r7.2.1,r7.2.2.1,r7.2.2.2)) h7.2.2 (by omega) (by simp) (by simp)) λr8 h8=>?_
 have w4:0≤r4.1/\r4.1≤3:=by
  grind
 have w6:0≤r6.1/\r6.1≤3:=by
  grind
 have w8:1≤r8.1/\r8.1≤3:=by
  grind
 have lo8:=h8.2
 refine W.bind (R:=λx=>Lo (x.2.1,x.2.2.1,x.2.2.2) (m+250)/\(1≤x.1.length/\(x.1.length:Int)≤ds)/\∀r∈x.1,Rl r2.1 r) ?_ λx hx=>W.ret ⟨hx.1,L2 (by omega) w4 w6 w8 (by omega) (by omega) hx.2.2,rfl,h2.2.1,hx.2.1.2⟩
 refine W.bind (C7 (l:=(r8.2.1,r8.2.2.1,r8.2.2.2)) lo8 (by omega) (by omega) (by omega) (by omega)) λr12 h12=>?_
 refine W.loop (f:=fA k r2) (λq y=>∃j:Nat,y.2.2.2.1.length=j/\y.2.2.2.2=r12.1 - j/\(j:Int)≤r12.1/\q=r12.1.toNat - j/\Lo (y.1,y.2.1,y.2.2.1) (m+10+33 * j)/\∀r∈y.2.2.2.1,Rl r2.1 r) ?_ r12.1.toNat k _ (by omega)
  ⟨0,rfl,by simp,by omega,by omega,h12.2.2.mono (by omega),by simp⟩
 rintro aK q ⟨nums,d,s,out,y⟩ ⟨j,hj,hy,hle,hq,hlo,hr⟩ ih
 simp only at hj hy hlo hr
 subst hy
 unfold fA
 dsimp only
 refine W.ite (λhlt=>?_) (λhge=>W.ret ⟨hlo.mono (by omega),⟨by grind,by grind⟩,hr⟩)
 refine W.bind (R:=λx=>Lo (x.1,x.2.1,x.2.2.1) (m+10+33 * j+33)/\x.2.2.2.length=j+1/\∀r∈x.2.2.2,Rl r2.1 r) ?_ λx15 h15=>?_
 .
  refine W.bind (R:=λx=>Lo (x.1,x.2.1,x.2.2.1) (m+10+33 * j+1)/\(x.2.2.2=true->0 < out.length)) ?_ λx17 h17=>?_
  .refine W.ite (λh0=>?_) (λh0=>W.ret ⟨hlo.mono (by omega),λh=>by cases h⟩);grind [W.bind,xp,W.ret]
  .refine W.ite (λht=>?_) (λht=>?_)
   .have h0:=h17.2 ht;refine W.ck (by omega) (by omega) ?_;have hi:((out.length:Int) - 1)=((out.length - 1:Nat):Int):=by omega
    have hlt':out.length - 1 < out.length:=by omega
    rw [hi,fZ hlt',bs];have hrl:=hr _ (List.getElem_mem hlt');have hl5:=hrl.l5 (by omega);have hr3:=hrl.r3;rw [Aa (by omega) (by omega) (λx hx=>by grind),bs,dB (by grind [bP]),bs];refine W.ret ⟨h17.1.mono (by omega),by simp [hj],λr hrr=>?_⟩;grind
   .have hc2:((r2.1.toNat:Nat):Int)=r2.1:=by omega
    have:=GU hk (l:=(x17.1,x17.2.1,x17.2.2.1)) (m:=m+10+33 * j+1) (n:=r2.1.toNat) h17.1 (by omega) (by omega);rw [hc2] at this;refine W.bind this λr26 h26=>?_;rw [dB (by grind [bP]),bs];refine W.ret ⟨h26.1.mono (by omega),by simp [hj],λr hrr=>?_⟩;grind
 .
  refine W.ck (by omega) (by omega) ?_;exact ih (q - 1) (_,_,_,_,_) (by omega) ⟨j+1,h15.2.1,by grind,by omega,by omega,h15.1.mono (by omega),h15.2.2⟩
theorem Bg.len{C:Int}(hC:0≤C/\C≤5){b:List Int}(h:Bg C b):b.length≤5:=by
 have:=rU C.toNat b (h.asc.imp λhab e=>by omega) λx hx=>by have:=h.rng x hx;omega
 omega
theorem GM{m:ae}{B:Int->Bool}{n:Nat}(h:0≤mC m):((pq m B n).length:Int)=mC m:=by
 unfold pq;grind
theorem mL{m:ae}{B:Int->Bool}:(nB m B).length=(mD m).length+1:=by
 unfold nB;simp_all
theorem IB{α ε:Type}:∀(l:List α) (j:Nat),fL (λ(_:Unit) _ _=>(.ok ():Except ε Unit)) j l ()= .ok ()
 |[],_=>rfl
 |_::l,j=>IB l (j+1)
theorem F6{k:Nat}{m:ae}{B:Int->Bool}(v:Vd m)(hk:10≤k):kW k m (nB m B)=some true:=by
 have c1:=v.c1;have d6:=v.d6;unfold kW;have hd:ck ((m.2.2.2.2.1.length:Int)+1)=some (((mD m).length:Int)+1):=cR (by omega) (by grind);rw [hd,bs,if_neg (λhn=>hn (by rw [mL];omega))]
 have key:=nA (T:=Int) (f:=fh k m (nB m B)) (nB m B) (λ(_:Unit) j=>j) (λ_ _ _=>(.ok ():Except Bool Unit)) (λ_ _=>True) (λr=>some r)
  (λn s j hj _=>by
   have hck:ck ((j:Int)+1)=some ((j:Int)+1):=cR (by omega) (by grind [mL]);refine⟨?_,λ_ _=>trivial⟩;have hj2:j≤(mD m).length:=by grind [mL]
   simp only [fh,Int.ofNat_lt,hj,if_true,wM hj2,bs,hck];rw [if_neg (λhn=>hn (GM (by omega)))])
  (λn s _=>by simp [fh]) (n:=k) (s0:=()) (by rw [mL];omega) trivial
 simp_all [fh,nB,IB,kN]
end Go.Proofs.YtddkbkkogpolaaaGreat
set_option linter.unusedVariables false
set_option linter.unusedSimpArgs false
namespace Go.Proofs.YtddkbkkogpolaaaGreat
open K Go Go.Proofs
end Go.Proofs.YtddkbkkogpolaaaGreat
set_option linter.unusedVariables false
set_option linter.unusedSimpArgs false
namespace Go.Proofs.YtddkbkkogpolaaaGreat
open K Go Go.Proofs
theorem zM{k:Nat}{l:bM}{m:Int}{x:yf}(hl:Lo l m)(hm:0≤m/\m≤900)(hc:1≤x.1/\x.1≤5)(hd:x.2.2.2.2.1.length≤6):
 W (ie k l x) λr=>Lo r.2 (m+3)/\(0≤r.1.1/\r.1.1 < x.1)/\0≤r.1.2.1/\r.1.2.1≤(x.2.2.2.2.1.length:Int):=by
 unfold ie
 grind [W.ck,W.bind,kC,xp,W.ret]
theorem Vd.with{m:ae}(v:Vd m){gs:List bI}(h8:gs.length≤8)(hg:∀g∈gs,0≤g.1/\g.1 < mC m/\0≤g.2.1/\g.2.1≤(mD m).length):Vd (m.1,m.2.1,m.2.2.1,m.2.2.2.1,m.2.2.2.2.1,gs):=
 ⟨v.c1,v.c5,v.w0,v.w3,v.s0,v.s3,v.h1,v.h3,v.d1,v.d6,v.r3,v.l5,v.x5,v.nd,h8,hg⟩
theorem xR{k:Nat}(hk:50≤k){l:bM}{m:Int}{cs ds:Int}(hl:Lo l m)(hm:0≤m/\m≤400)(hc:1≤cs/\cs≤5)(hd:1≤ds/\ds≤6):
 W (gi k l cs ds) λr=>Lo r.2 (m+270)/\Vd r.1/\(mG r.1).length≤4/\mC r.1≤cs/\((mD r.1).length:Int)≤ds:=by
 unfold gi
 refine W.bind (Br hk (l:=(l.1,l.2.1,l.2.2)) hl hm hc hd) λr2 h2=>?_
 obtain⟨lo2,v,hg,hcs,hds⟩:=h2
 have c1:=v.c1
 have c5:=v.c5
 have d6:=v.d6
 refine W.bind (R:=λx=>Lo (x.2.1,x.2.2.1,x.2.2.2) (m+270)/\x.1.length≤4/\∀g∈x.1,0≤g.1/\g.1 < mC r2.1/\0≤g.2.1/\g.2.1≤(mD r2.1).length) ?_ λx hx=>W.ret ⟨hx.1,v.with (by omega) hx.2.2,hx.2.1,hcs,hds⟩
 refine W.bind (kC (l:=(r2.2.1,r2.2.2.1,r2.2.2.2)) lo2 (by omega) (by omega)) λr6 h6=>?_
 have b6:=h6.2.1 (by omega)
 refine W.loop (f:=eF k r2) (λq y=>∃j:Nat,y.2.2.2.1.length=j/\y.2.2.2.2=r6.1 - j/\(j:Int)≤r6.1/\q=r6.1.toNat - j/\Lo (y.1,y.2.1,y.2.2.1) (m+251+3 * j)/\∀g∈y.2.2.2.1,0≤g.1/\g.1 < mC r2.1/\0≤g.2.1/\g.2.1≤(mD r2.1).length) ?_ r6.1.toNat k _ (by omega)
  ⟨0,rfl,by simp,by omega,by omega,h6.2.2.mono (by omega),by simp⟩
 rintro aK q ⟨nums,d,s,out,y⟩ ⟨j,hj,hy,hle,hq,hlo,hr⟩ ih
 simp only at hj hy hlo hr
 subst hy
 unfold eF
 dsimp only
 refine W.ite (λhlt=>?_) (λhge=>W.ret ⟨hlo.mono (by omega),by grind,hr⟩)
 refine W.bind (zM (l:=(nums,d,s)) (x:=(r2.1.1,r2.1.2.1,r2.1.2.2.1,r2.1.2.2.2.1,r2.1.2.2.2.2.1,())) hlo (by omega) ⟨c1,c5⟩ d6) λr9 h9=>?_
 rw [dB (by grind [bP]),bs]
 refine W.ck (by omega) (by omega) ?_
 refine ih (q - 1) (_,_,_,_,_) (by omega) ⟨j+1,by simp [hj],by grind,by omega,by omega,h9.1.mono (by omega),λg hgg=>?_⟩
 grind
theorem Sm.with{m:ae}(h:Sm m){gs:List bI}(hg:gs.length≤1000):Sm (m.1,m.2.1,m.2.2.1,m.2.2.2.1,m.2.2.2.2.1,gs):=⟨h.d,h.r,hg⟩
end Go.Proofs.YtddkbkkogpolaaaGreat
set_option linter.unusedVariables false
set_option linter.unusedSimpArgs false
namespace Go.Proofs.YtddkbkkogpolaaaGreat
open K Go Go.Proofs
def nm(C:Nat):Nat->List Int->Nat->List (List Int)
 |0,b,_=>[b]
 |n+1,b,f=>b::(List.range' f (C - f)).flatMap λ(c:Nat)=>nm C n (b++[(c:Int)]) (c+1)
theorem t5{b:List Int}{c:Int}:cp (b++[c])=wR (cp b) c:=by
 unfold cp;simp_all
theorem zI{σ:Type}{k:Nat}{Y:σ->Int->Option (σ×Bool)}{C:Nat}(hC:C≤5)(hk:10≤k)(g:σ->List Int->σ)(vo:Nat->σ->Prop):
 ∀(n m0:Nat) (b:List Int) (f:Nat) (s:σ) (r:Nat),C - f≤n->f≤C->n < m0->ju (cp b)->(∀r s,∀b'∈nm C n b f,vo (r+1) s->Y s (cp b')=some (g s b',true)/\vo r (g s b'))->vo ((nm C n b f).length+r) s->
  dy k Y (C:Int) m0 (cp b) (f:Int) s=some (true,(nm C n b f).foldl g s)/\vo r ((nm C n b f).foldl g s)
 |n,0,b,f,s,r,_,_,h,_,_,_=>absurd h (not_lt_zero _)
 |0,m0+1,b,f,s,r,h1,h2,_,hm,hY,hI=>by
  have hf:f=C:=by omega
  subst hf
  unfold dy
  obtain⟨k,rfl⟩:∃n,k=n+1:=⟨k - 1,by omega⟩
  have hI:vo (r+1) s:=by rw [Nat.add_comm];exact hI
  have:=hY r s b (by simp [nm]) hI
  rw [this.1,bs,if_neg (by simp)]
  rw [du,if_neg (Int.lt_irrefl _),kN]
  exact⟨rfl,this.2⟩
 |n+1,m0+1,b,f,s,r,h1,h2,h3,hm,hY,hI=>by
  unfold dy
  have hlen:(nm C (n+1) b f).length=((List.range' f (C - f)).flatMap λ(c:Nat)=>nm C n (b++[(c:Int)]) (c+1)).length+1:=by rw [nm,length_cons]
  rw [hlen] at hI
  have h0:=hY (((List.range' f (C - f)).flatMap λ(c:Nat)=>nm C n (b++[(c:Int)]) (c+1)).length+r) s b (by simp [nm]) (by grind)
  rw [h0.1,bs,if_neg (by simp)]
  have loop:∀(d x:Nat) (s:σ) (aK:Nat) (r:Nat),C - x=d->f≤x->x≤C->d < aK->vo (((List.range' x (C - x)).flatMap λ(c:Nat)=>nm C n (b++[(c:Int)]) (c+1)).length+r) s->
   du k (cp b) (C:Int) (dy k Y (C:Int) m0) aK ((x:Int),s)=some (.ok (((List.range' x (C - x)).flatMap λ(c:Nat)=>nm C n (b++[(c:Int)]) (c+1)).foldl g s))/\vo r (((List.range' x (C - x)).flatMap λ(c:Nat)=>nm C n (b++[(c:Int)]) (c+1)).foldl g s):=by
   intro d
   induction d with
   |zero=>
    intro x s aK r hd hx hx2 hfu hI;obtain⟨aK,rfl⟩:∃n,aK=n+1:=⟨aK - 1,by omega⟩;have:x=C:=by omega
    simp_all [Nat.sub_self,du,if_neg,Int.lt_irrefl]
   |succ d ih=>
    intro x s aK r hd hx hx2 hfu hI;obtain⟨aK,rfl⟩:∃n,aK=n+1:=⟨aK - 1,by omega⟩;have hw:=mR (k:=k) hm (show(0:Int)≤(x:Int) by omega) (show(x:Int) < 8 by omega);have hck:ck ((x:Int)+1)=some (((x+1:Nat):Int)):=by grind [cR]
    have e:C - x=(C - (x+1))+1:=by omega
    rw [e,List.range'_succ,List.flatMap_cons,length_append,Nat.add_assoc] at hI
    have hsub:=zI hC hk g vo n m0 (b++[(x:Int)]) (x+1) s _ (by omega) (by omega) (by omega) (by simp_all [t5]) (λr s b' hb'=>hY r s b' (by
     rw [nm];grind)) hI
    rw [t5] at hsub;have hih:=ih (x+1) _ aK r (by omega) (by omega) (by omega) (by omega) hsub.2;rw [du,if_pos (show(x:Int) < (C:Int) by omega),hw.1,bs,hck,bs,hsub.1,bs,if_neg (by simp),bs,hih.1];simp_all [List.range'_succ,List.flatMap_cons,List.foldl_append]
  have hl:=loop (C - f) f _ k r rfl (Nat.le_refl _) h2 (by omega) h0.2;rw [hl.1,kN];exact⟨rfl,hl.2⟩
def Ig(m:ae)(but:Nat->Bool)(B:Int->Bool):Bool:=(mG m).zipIdx.all λg=>but g.2 || decide (g.1.2.2=decide (mS m≤lP m B g.1.2.1.toNat g.1.1))
theorem wI{α ε:Type}{p:Nat->α->Bool}{e:ε}:∀(l:List α) (j:Nat),fL (λ(_:Unit) j x=>if p j x=true then .ok () else Except.error e) j l ()=if((l.zipIdx j).all λg=>p g.2 g.1)=true then .ok () else .error e
 |[],j=>rfl
 |x::l,j=>by
  rw [fL,zipIdx_cons,all_cons]
  cases h:p j x with
  |true=>simp only [if_true,Bool.true_and];exact wI l (j+1)
  |false=>simp
theorem zR{k:Nat}{m:ae}{S a2:Int}(v:Vd m)(hk:10≤k)(hS:ju S)(ha:ju a2):dj k m S a2=some (Ig m (λi=>decide (eg a2 i)) (mP S)):=by
 have g8:=v.g8;have d6:=v.d6;unfold dj gr;rw [o5 v hk hS,bs]
 have key:=nA (T:=Int) (f:=cz k m a2 (cr (FB m (mP S)))) (mG m) (λ(_:Unit) j=>j) (λ_ j x=>if(decide (eg a2 j) || decide (x.2.2=decide (mS m≤lP m (mP S) x.2.1.toNat x.1)))=true then .ok () else Except.error ()) (λ_ _=>True) (λr=>some (match r with | .error _=>false | .ok _=>true))
  (λn s j hj _=>by
   have hck:ck ((j:Int)+1)=some ((j:Int)+1):=cR (by omega) (by omega);have hg:=v.gl _ (List.getElem_mem hj);have hj':(j:Int) < (m.2.2.2.2.2.length:Int):=Int.ofNat_lt.2 hj;have hget:aJ m.2.2.2.2.2 (j:Int)=some (mG m)[j]:=fZ hj;generalize (mG m)[j]=x at *;have c5:=v.c5;have e2:x.2.1=((x.2.1.toNat:Nat):Int):=by omega
   have hrow:aJ (cr (FB m (mP S))) x.2.1=some (kE (FB m (mP S) x.2.1.toNat)):=by
    grind [uP,Int.toNat_natCast]
   have hval:aJ (kE (FB m (mP S) x.2.1.toNat)) x.1=some (lP m (mP S) x.2.1.toNat x.1):=by
    grind [qH,yg]
   refine⟨?_,λ_ _=>trivial⟩;have hm1:m.2.2.1=mS m:=rfl;simp only [cz,hj',if_true,hget,bs,xQ (k:=k) ha (i:=j) (by omega),hrow,hval,hm1];grind)
  (λn s _=>by
   unfold cz;simp_all) (n:=k) (s0:=()) (by omega) trivial
 rw [show cz k m a2 (cr (FB m (mP S))) k 0=_ from key,wI (p:=λj (x:bI)=>decide (eg a2 j) || decide (x.2.2=decide (mS m≤lP m (mP S) x.2.1.toNat x.1)))];unfold Ig;grind
end Go.Proofs.YtddkbkkogpolaaaGreat
set_option linter.unusedVariables false
set_option linter.unusedSimpArgs false
namespace Go.Proofs.YtddkbkkogpolaaaGreat
open K Go Go.Proofs
theorem sT{m:ae}(v:Vd m){A B:Int->Bool}(h:∀c,0≤c->c < mC m->A c=B c):∀(n:Nat) (c:Int),0≤c->c < mC m->lP m A n c=lP m B n c
 |0,c,h0,h1=>by simp_all [lP]
 |n+1,c,h0,h1=>by
  have ih:=sT v h n
  unfold lP
  cases e:Du m n c with
  |none=>simp_all
  |some l=>
   have hb:=(uU v e).2
   grind
theorem BS{α:Type}{l:List α}{p q:α->Bool}(h:∀x∈l,p x=q x):l.all p=l.all q:=by
 grind
theorem EO{m:ae}(v:Vd m){but:Nat->Bool}{A B:Int->Bool}(h:∀c,0≤c->c < mC m->A c=B c):Ig m but A=Ig m but B:=by
 unfold Ig;refine BS λg hg=>?_;obtain⟨x,i⟩:=g;have hx:=v.gl x (List.fst_mem_of_mem_zipIdx hg);show(but i || decide (x.2.2=decide (mS m≤lP m A x.2.1.toNat x.1)))=(but i || decide (x.2.2=decide (mS m≤lP m B x.2.1.toNat x.1)));grind [sT]
def IC(m:ae):List (List Int):=nm (mC m).toNat (mC m).toNat [] 0
theorem Dx{C:Nat}:∀(n:Nat) (b:List Int) (f:Nat),Bg (C:Int) b->(∀x∈b,x < (f:Int))->∀b'∈nm C n b f,Bg (C:Int) b'
 |0,b,f,h,_,b',hb=>by
  simp_all [nm,List.mem_singleton]
 |n+1,b,f,h,hf,b',hb=>by
  rw [nm,mem_cons] at hb
  rcases hb with rfl |hb
  .
   exact h
  .
   obtain⟨c,hc,hb⟩:=List.mem_flatMap.1 hb
   rw [List.mem_range'_1] at hc
   refine Dx n (b++[(c:Int)]) (c+1) ⟨λx hx=>?_,?_⟩ (λx hx=>?_) b' hb
   .
    rcases List.mem_append.1 hx with hx |hx
    .
     exact h.rng x hx
    grind
   .
    rw [pairwise_append]
    exact⟨h.asc,by simp,λa ha x hx=>by grind⟩
   grind
theorem Dy{m:ae}(v:Vd m){b:List Int}(h:b∈IC m):Bg (mC m) b:=by
 have c1:=v.c1;have:=Dx (C:=(mC m).toNat) (mC m).toNat [] 0 ⟨by simp,by simp⟩ (by simp) b h;grind
theorem Ak{m:ae}(v:Vd m):(IC m).length≤32:=by
 have c1:=v.c1;have c5:=v.c5;have:(mC m).toNat=1\/(mC m).toNat=2\/(mC m).toNat=3\/(mC m).toNat=4\/(mC m).toNat=5:=by omega
 unfold IC;rcases this with h |h |h |h |h <;> rw [h] <;> decide
def fp(m:ae)(but:Nat->Bool):List (List Int):=(IC m).filter λb=>Ig m but λc=>decide (c∈b)
theorem pH{α β:Type}{p:α->Bool}{h:α->β}:∀(l:List α) (s:List β),l.foldl (λ(s:List β×Bool) b=>(if p b then s.1++[h b] else s.1,false)) (s,false)=(s++(l.filter p).map h,false)
 |[],s=>by simp
 |x::l,s=>by
  rw [foldl_cons,pH l]
  grind
theorem uu{k:Nat}{m:ae}{a2:Int}(v:Vd m)(hk:50≤k)(ha:ju a2):eE k m a2=some ((fp m λi=>decide (eg a2 i)).map cp):=by
 have c1:=v.c1;have c5:=v.c5;unfold eE jP;have hC:m.1=(((mC m).toNat:Nat):Int):=by grind
 have h:=zI (σ:=List Int×Bool) (k:=k) (Y:=qE (λ(y5:(List Int)) (p7:Int)=>(dj k m p7 a2).bind λr9=>if r9=true then((cN (bP (length y5+length [p7]))).bind λ_=>some (y5++[p7],true)) else(some (y5,true)))) (C:=(mC m).toNat) (by omega) (by omega)
  (λs b=>(if Ig m (λi=>decide (eg a2 i)) (λc=>decide (c∈b)) then s.1++[cp b] else s.1,false)) (λr s=>s.2=false/\s.1.length+r≤1000) (mC m).toNat k [] 0 ([],false) 0 (by omega) (by omega) (by omega) uw (λr s b' hb' hI=>by
   obtain⟨y,q⟩:=s;obtain⟨rfl,hI⟩:q=false/\y.length+(r+1)≤1000:=hI;have hbg:=Dy v hb';have hset:=hbg.set c5;have hex:Ig m (λi=>decide (eg a2 i)) (mP (cp b'))=Ig m (λi=>decide (eg a2 i)) (λc=>decide (c∈b')):=EO v λc h0 _=>hset.2 c h0;unfold qE;simp only [];rw [zR v (by omega) hset.1 ha,hex,bs];cases Ig m (λi=>decide (eg a2 i)) (λc=>decide (c∈b')) with
   |true=>
    simp only [if_true];grind [dB,bP,bs,cp]
   |false=>
    grind) ⟨rfl,by have:=Ak v;grind [IC]⟩
 rw [hC,show dy k (qE (λ(y5:(List Int)) (p7:Int)=>(dj k m p7 a2).bind λr9=>if r9=true then((cN (bP (length y5+length [p7]))).bind λ_=>some (y5++[p7],true)) else(some (y5,true)))) (((mC m).toNat:Nat):Int) k 0 0 ([],false)=_ from h.1,bs,bs];rw [pH (p:=λb=>Ig m (λi=>decide (eg a2 i)) λc=>decide (c∈b)) (h:=cp)];simp only [Bool.false_eq_true,if_false,nil_append];rfl
theorem Iz:∀{a b:List Int},a.Pairwise (· < ·)->b.Pairwise (· < ·)->(∀x,x∈a↔x∈b)->a=b
 |[],[],_,_,_=>rfl
 |[],y::b,_,_,h=>absurd ((h y).2 mem_cons_self) (by simp)
 |x::a,[],_,_,h=>absurd ((h x).1 mem_cons_self) (by simp)
 |x::a,y::b,ha,hb,h=>by
  rw [pairwise_cons] at ha hb
  have e:x=y:=by
   grind [mem_cons_self]
  subst e;rw [Iz ha.2 hb.2 λz=>?_];grind
theorem A2{k:Nat}{C:Int}{b:List Int}(hk:10≤k)(hC:C≤5)(h:Bg C b):fW k (cp b)=some b:=by
 have hset:=h.set hC;unfold fW
 have key:=dA (T:=List Int×Int) (f:=dD k (cp b)) (List.range 5) (λ(s:List Int) j=>(s,j)) (λs j _=>if decide (eg (cp b) j) then s++[(j:Int)] else s) (λj s=>s.length≤j/\s.Pairwise (· < ·)/\∀x,x∈s↔x∈b/\x < (j:Int)) (λs=>some s)
  (λn s j hj hs=>by
   rw [length_range] at hj;have hck:ck ((j:Int)+1)=some ((j:Int)+1):=cR (by omega) (by omega);have hj5:(j:Int) < 5:=by omega
   have hin:=hset.2 (j:Int) (by omega);unfold mP at hin;rw [Int.toNat_natCast] at hin;refine⟨?_,?_⟩
   .simp only [dD,hj5,if_true,xQ (k:=k) hset.1 (by omega:j < 8),bs];cases decide (eg (cp b) j) with
    |true=>
     simp only [if_true];rw [dB (by grind [bP]),bs,bs,hck,bs]
    |false=>simp_all
   grind)
  (λn s hs=>by
   simp_all [length_range,dD,if_neg]) (n:=k) (s0:=[]) (by grind) ⟨by simp,by simp,λx=>by simp;intro hx;exact(h.rng x hx).1⟩
 rw [show dD k (cp b) k ([],0)=_ from key.1,bs];have:=key.2;rw [length_range] at this;exact congrArg some (Iz this.2.1 h.asc λx=>by rw [this.2.2 x];exact⟨λhh=>hh.1,λhh=>⟨hh,by have:=h.rng x hh;omega⟩⟩)
end Go.Proofs.YtddkbkkogpolaaaGreat
set_option linter.unusedVariables false
set_option linter.unusedSimpArgs false
namespace Go.Proofs.YtddkbkkogpolaaaGreat
open K Go Go.Proofs
end Go.Proofs.YtddkbkkogpolaaaGreat
set_option linter.unusedVariables false
set_option linter.unusedSimpArgs false
namespace Go.Proofs.YtddkbkkogpolaaaGreat
open K Go Go.Proofs
def cU:Nat->Bool:=λ_=>false
theorem QR:(λi=>decide (eg 0 i))=cU:=by
 grind [cU,eg]
theorem tK{m:ae}(v:Vd m){but:Nat->Bool}{b:List Int}(h:b∈fp m but):Bg (mC m) b:=Dy v (List.mem_filter.1 h).1
theorem rj{m:ae}(v:Vd m){but:Nat->Bool}:(fp m but).length≤32:=Nat.le_trans (List.length_filter_le _ _) (Ak v)
theorem HT{k:Nat}{C:Int}(hC:C≤5)(hk:50≤k){L:List (List Int)}(hL:∀b∈L,Bg C b)(hl:L.length≤40):eA k (L.map cp) k ([],0)=some L:=by
 have key:=dA (T:=List (List Int)×Int) (f:=eA k (L.map cp)) L (λ(s:List (List Int)) j=>(s,j)) (λs _ b=>s++[b]) (λj s=>s=L.take j) (λs=>some s)
  (λn s j hj hs=>by
   have hck:ck ((j:Int)+1)=some ((j:Int)+1):=cR (by omega) (by omega);have hls:s.length=j:=by grind
   have hg:aJ (L.map cp) (j:Int)=some (cp L[j]):=by simp_all [aJ,if_pos,Int.toNat_natCast,List.getElem?_map,List.getElem?_eq_getElem]
   have hj':(j:Int) < ((L.map cp).length:Int):=by simp_all
   have hok:cN (bP (length s+length [L[j]]))=some ():=dB (by grind [bP]);refine⟨?_,?_⟩
   .simp only [eA,hj',if_true,hg,bs,A2 (k:=k) (by omega) hC (hL _ (List.getElem_mem hj)),hok,hck]
   simp_all)
  (λn s hs=>by
   unfold eA;simp_all) (n:=k) (s0:=[]) (by omega) (by simp)
 simp_all
theorem Bw{k:Nat}{m:ae}(hs:Sm m)(hk:1010≤k):iy k m=some (if¬(kM m=0) then([],kM m) else(fp m cU,0)):=by
 unfold iy;rw [uq hs hk (by simp) (by simp) (by simp) (by simp),bs];by_cases hc:kM m=0
 .have v:=Vd.of hc;have hb:sR (mC m) []=0:=pi.2 ⟨by simp,by simp⟩;have ho:G4 m [] [] []=true:=rfl;simp only [hc,hb,ho,not_true_eq_false,if_false,if_true,o6];rw [uu v (by omega) uw,bs,QR,HT v.c5 (by omega) (λb h=>tK v h) (by grind [rj,cU]),bs]
 simp_all [not_false_eq_true,if_true,jd]
end Go.Proofs.YtddkbkkogpolaaaGreat
set_option linter.unusedVariables false
set_option linter.unusedSimpArgs false
namespace Go.Proofs.YtddkbkkogpolaaaGreat
open K Go Go.Proofs
theorem wu{k:Nat}{m:ae}{cs ds ns:List Int}(hs:Sm m)(hk:1010≤k)(h1:cs.length≤1000)(h2:ds.length≤1000)(h3:ns.length≤1000):
 iI k m cs ds ns=some (if¬(kM m=0) then(none,[],kM m) else if¬(G4 m cs ds ns=true) then(none,[],3) else if(fp m cU).length=0 then(none,[],9) else(some m,(fp m cU).map cp,0)):=by
 unfold iI
 rw [uq hs hk (by simp) h1 h2 h3,bs]
 by_cases hc:kM m=0
 .
  have v:=Vd.of hc;have hb:sR (mC m) []=0:=pi.2 ⟨by simp,by simp⟩;by_cases ho:G4 m cs ds ns=true
  .simp only [hc,hb,ho,not_true_eq_false,if_false,if_true,o6];rw [uu v (by omega) uw,bs,QR];grind
  simp_all [not_true_eq_false,not_false_eq_true,if_false,if_true,jd,Bool.false_eq_true,if_pos]
 simp_all [not_false_eq_true,if_true,jd]
end Go.Proofs.YtddkbkkogpolaaaGreat
set_option linter.unusedVariables false
set_option linter.unusedSimpArgs false
namespace Go.Proofs.YtddkbkkogpolaaaGreat
open K Go Go.Proofs
theorem Dp{k:Nat}{m:ae}{b:List Int}(v:Vd m)(hk:10≤k)(hb:Bg (mC m) b):∃F:Nat->Int->Int,kw k m (cp b)=some (cr F)/\∀(n:Nat) (c:Int),n≤(mD m).length->0≤c->c < mC m->F n c=lP m (λc=>decide (c∈b)) n c:=by
 have hs:=hb.set v.c5;refine⟨_,o5 v hk hs.1,λn c hn h0 h1=>?_⟩;grind [yg,sT]
theorem LF{k:Nat}{m:ae}{b:List Int}{α:Type}{n:Nat}{c:Int}{f:Int->Option α}(v:Vd m)(hk:10≤k)(hb:Bg (mC m) b)(hn:n≤(mD m).length)(h0:0≤c)(h1:c < mC m):
 ((kw k m (cp b)).bind λr=>(aJ r (n:Int)).bind λx=>(aJ x c).bind λy=>f y)=f (lP m (λc=>decide (c∈b)) n c):=by
 obtain⟨F,e,h⟩:=Dp v hk hb
 have d6:=v.d6
 have c5:=v.c5
 grind [bs,uP,qH]
def nI(m:ae)(n:Nat)(c:Int)(x:Int)(L:List (List Int)):Nat:=L.countP λb=>decide (x≤lP m (λc=>decide (c∈b)) n c)
theorem wH{p:List Int->Bool}:∀(L:List (List Int)) (j:Nat) (s:Int),fC (λ(s:Int) _ b=>if p b then s+1 else s) j L s=s+(L.countP p:Nat)
 |[],_,s=>by simp [fC]
 |b::L,j,s=>by
  rw [fC,wH L,List.countP_cons]
  grind
theorem Iu{L:List (List Int)}{p:List Int->Bool}{f:Nat->Int×Int->Option Int}{k:Nat}(hk:L.length < k)(hl:L.length≤1000)
 (step:∀(n:Nat) (s:Int) (j:Nat) (h:j < L.length),0≤s->s≤j->f (n+1) (s,j)=f n (if p L[j] then s+1 else s,(j:Int)+1)) (stop:∀(n:Nat) (s:Int),f (n+1) (s,L.length)=some s):f k (0,0)=some (L.countP p:Int):=by
 have key:=dA (T:=Int×Int) (f:=f) L (λ(s:Int) j=>(s,j)) (λs _ b=>if p b then s+1 else s) (λj s=>0≤s/\s≤j) (λs=>some s)
  (λn s j hj hs=>⟨step n s j hj hs.1 hs.2,by omega⟩) (λn s _=>stop n s) (n:=k) (s0:=0) hk ⟨by omega,by omega⟩
 simp_all [wH]
def om:Int->List Int->Int
 |x,[]=>x
 |x,y::l=>om (pu x y) l
def oq:Int->List Int->Int
 |x,[]=>x
 |x,y::l=>oq (kK x y) l
theorem uI:∀(l:List Int) (j:Nat) (x:Int),fC (λ(s:Int) _ y=>pu s y) j l x=om x l
 |[],_,_=>rfl
 |y::l,j,x=>uI l (j+1) (pu x y)
theorem uJ:∀(l:List Int) (j:Nat) (x:Int),fC (λ(s:Int) _ y=>kK s y) j l x=oq x l
 |[],_,_=>rfl
 |y::l,j,x=>uJ l (j+1) (kK x y)
theorem KH{k:Nat}{x:Int}{l:List Int}(hk:l.length+1 < k)(hl:l.length≤1000):iD k (x::l)=some (om x l):=by
 have key:=dA (T:=Int×Int) (f:=dR k (x::l)) l (λ(s:Int) j=>(s,j+1)) (λs _ y=>pu s y) (λ_ _=>True) (λs=>some s)
  (λn s j hj _=>by
   have hck:ck ((j:Int)+1+1)=some ((j:Int)+1+1):=cR (by omega) (by omega);have hg:aJ (x::l) ((j:Int)+1)=some l[j]:=ov (by omega) (by simp_all);simp_all [dR,if_pos,bs])
  (λn s _=>by
   simp_all [dR,if_neg]) (n:=k) (s0:=x) (by omega) trivial
 unfold iD;rw [if_neg (by grind),show aJ (x::l) (0:Int)=some x from rfl,bs,show dR k (x::l) k (x,1)=_ from key.1,bs,uI]
theorem KO{k:Nat}{x:Int}{l:List Int}(hk:l.length+1 < k)(hl:l.length≤1000):jI k (x::l)=some (oq x l):=by
 have key:=dA (T:=Int×Int) (f:=dS k (x::l)) l (λ(s:Int) j=>(s,j+1)) (λs _ y=>kK s y) (λ_ _=>True) (λs=>some s)
  (λn s j hj _=>by
   have hck:ck ((j:Int)+1+1)=some ((j:Int)+1+1):=cR (by omega) (by omega);have hg:aJ (x::l) ((j:Int)+1)=some l[j]:=ov (by omega) (by simp_all);simp_all [dS,if_pos,bs])
  (λn s _=>by
   simp_all [dS,if_neg]) (n:=k) (s0:=x) (by omega) trivial
 unfold jI;rw [if_neg (by grind),show aJ (x::l) (0:Int)=some x from rfl,bs,show dS k (x::l) k (x,1)=_ from key.1,bs,uJ]
theorem wG{σ:Type}{g:σ->Nat->Nat->σ}:∀(n i j:Nat) (s:σ),i=j->fC (λs j _=>g s j j) j (List.range' i n) s=fC (λs j x=>g s j x) j (List.range' i n) s
 |0,_,_,_,_=>rfl
 |n+1,i,j,s,h=>by
  subst h
  rw [List.range'_succ]
  exact wG n (i+1) (i+1) _ rfl
end Go.Proofs.YtddkbkkogpolaaaGreat
set_option linter.unusedVariables false
set_option linter.unusedSimpArgs false
namespace Go.Proofs.YtddkbkkogpolaaaGreat
open K Go Go.Proofs
theorem JV{α:Type}{p:Prop}[Decidable p]{s:List α}{x:α}{j:Nat}(h:s.length≤j):(if p then s++[x] else s).length≤j+1:=by
 grind
def pB(x n:Nat):Int:=if x=n then 1 else if 0 < x then 3 else 2
theorem Jz{k x n:Nat}:iH k (x:Int) (n:Int)=some (pB x n):=by
 have e1:ck ((0:Int)+1)=some 1:=rfl;have e2:ck ((1:Int)+1)=some 2:=rfl;unfold iH pB;grind
theorem xK{k:Nat}{m:ae}{n:Nat}{r2:(Option ae)×(List Int)×Int}{L:List (List Int)}{y:(List Int)×Int}(v:Vd m)(hk:50≤k)(hL:∀b∈L,Bg (mC m) b)(hl:L.length≤40)(hr:r2.2.1=L.map cp)(hn:n≤(mD m).length)(h0:0≤y.2)(h1:y.2 < mC m):
 fX k (n:Int) r2 m y k (0,0)=some (nI m n y.2 0 L:Int):=by
 refine Iu (by omega) (by omega) (λn' s j hj s0 s1=>?_) (λn' s=>?_)
 .
  have hck:ck ((j:Int)+1)=some ((j:Int)+1):=cR (by omega) (by omega);have hcs:ck (s+1)=some (s+1):=cR (by omega) (by omega);have hb:=hL _ (List.getElem_mem hj);have hg:aJ r2.2.1 (j:Int)=some (cp L[j]):=by simp_all [ov,Int.toNat_natCast,List.getElem?_map,List.getElem?_eq_getElem]
  have hlt:(j:Int) < (r2.2.1.length:Int):=by simp_all
  rw [fX,if_pos hlt,hg,bs,LF v (by omega) hb hn h0 h1];grind
 simp_all [fX,if_neg,length_map]
theorem Lj{C:Int}{g:Int->Int}{f:Nat->(List Int)×Int->Option (List Int)}{k:Nat}(h0:0≤C)(hk:C.toNat < k)(hc:C≤1000)
 (step:∀(n:Nat) (s:List Int) (j:Nat),(j:Int) < C->s.length=j->f (n+1) (s,(j:Int))=f n (s++[g j],(j:Int)+1)) (stop:∀(n:Nat) (s:List Int),f (n+1) (s,C)=some s):f k ([],0)=some ((List.range C.toNat).map λ(j:Nat)=>g j):=by
 have key:=dA (T:=(List Int)×Int) (f:=f) (List.range C.toNat) (λ(s:List Int) j=>(s,j)) (λs j _=>s++[g j]) (λj s=>s.length=j) (λs=>some s)
  (λn s j hj hs=>by
   simp_all)
  (λn s _=>by grind) (n:=k) (s0:=[]) (by simp_all) rfl
 rw [show f k ([],0)=_ from key.1]
 have hsnoc:∀(l:List Nat) (j:Nat) (s:List Int),fC (λ(s:List Int) j x=>s++[g ((x:Nat):Int)]) j l s=s++l.map λ(x:Nat)=>g x:=by
  intro l
  induction l with
  |nil=>simp_all [fC]
  |cons x l ih=>grind [fC]
 rw [List.range_eq_range',wG (g:=λs j x=>s++[g ((x:Nat):Int)]) _ 0 0 _ rfl,hsnoc,nil_append]
def xg(m:ae)(n:Int):List Int×Int:=if¬(kM m=0) then([],kM m) else if¬(0≤n/\n≤((mD m).length:Int)) then([],3) else if(fp m cU).length=0 then([],9) else
 ((List.range (mC m).toNat).map λ(c:Nat)=>pB (nI m n.toNat c 0 (fp m cU)) (fp m cU).length,0)
theorem ww{k:Nat}{m:ae}{n:Int}(hs:Sm m)(hk:1010≤k):mF k m n=some (xg m n):=by
 unfold mF xg;rw [wu hs hk (by simp) (by simp) (by simp),bs];by_cases hc:kM m=0
 .have v:=Vd.of hc;have c1:=v.c1;have c5:=v.c5;have hop:G4 m [] [] [n]=decide (0≤n/\n≤((mD m).length:Int)):=by simp [G4,xP,uy]
  simp only [hc,hop,not_true_eq_false,if_false,decide_eq_true_eq];by_cases hn:0≤n/\n≤((mD m).length:Int)
  .simp only [hn,and_self,not_true_eq_false,if_false];have hl:=rj v (but:=cU);have hL:∀x∈fp m cU,Bg (mC m) x:=λx h=>tK v h;generalize fp m cU=L at *;by_cases h0:L.length=0
   .simp_all [if_pos,jd]
   .rw [if_neg h0,if_neg h0];obtain⟨n',rfl⟩:∃n':Nat,n=n':=⟨n.toNat,by omega⟩;simp only [o6,not_true_eq_false,if_false,Int.toNat_natCast];rw [Lj (f:=fY k m (n':Int) (some m,L.map cp,0) m) (k:=k) (C:=mC m) (g:=λc=>pB (nI m n' c 0 L) L.length) (by omega) (by omega) (by omega) (λn s j hj hs=>?_) (λn s=>?_),bs]
    .have hck:ck ((j:Int)+1)=some ((j:Int)+1):=cR (by omega) (by omega);have hok:∀x:Int,bP (length s+length [x]):=λx=>Qn (n:=10) (by omega) (by omega);rw [fY,if_pos hj,xK v (by omega) hL (by omega) rfl (by omega) (y:=(s,(j:Int))) (by omega) hj,bs];show Option.bind (Option.bind (iH k _ ((L.map cp).length:Int)) _) _=_;rw [length_map,Jz,bs];show Option.bind (Option.bind (cN (bP (length s+length [pB (nI m n' j 0 L) L.length]))) λ_=>some (s++[pB (nI m n' j 0 L) L.length])) _=_;simp_all [dB,bs]
    .rw [fY,if_neg (Int.lt_irrefl _)]
  simp_all [not_false_eq_true,if_true,jd,if_pos]
 simp_all [not_false_eq_true,if_true,jd]
def eG(m:ae)(B:Int->Bool)(c:Int):Int:=match (List.range ((mD m).length+1)).findIdx? λn=>decide (0≤lP m B n c) with
 |some i=>i
 |none=> -1
theorem GF{k:Nat}{m:ae}{B:Int->Bool}{c:Int}{f:Nat->Int->Option (Except Int Unit)}(hk:(mD m).length+1 < k)(hl:(mD m).length≤1000)
 (step:∀(n j:Nat),j < (mD m).length+1->f (n+1) (j:Int)=if 0≤lP m B j c then some (.error (j:Int)) else f n ((j:Int)+1)) (stop:∀n,f (n+1) (((mD m).length:Int)+1)=some (.ok ())):K.bE (f k 0) some (λ_=>some (-1:Int))=some (eG m B c):=by
 have key:=nA (T:=Int) (f:=f) (List.range ((mD m).length+1)) (λ(_:Unit) j=>j) (λ_ j x=>if decide (0≤lP m B x c)=true then Except.error (j:Int) else .ok ()) (λ_ _=>True) (λr=>some r)
  (λn s j hj _=>by
   grind)
  (λn s _=>by simp_all) (n:=k) (s0:=()) (by simp_all) trivial
 rw [show f k 0=_ from key,qm]
 grind [eG,K.bE]
theorem EE{k:Nat}{m:ae}{b:List Int}{c:Int}(v:Vd m)(hk:50≤k)(hb:Bg (mC m) b)(h0:0≤c)(h1:c < mC m):eT k m (cp b) c=some (eG m (λc=>decide (c∈b)) c):=by
 unfold eT;obtain⟨F,e,h⟩:=Dp (k:=k) v (by omega) hb;have d6:=v.d6;have c5:=v.c5;have hlen:ck (((mD m).length:Int)+1)=some (((mD m).length:Int)+1):=cR (by omega) (by omega);rw [e,bs,show m.2.2.2.2.1=mD m from rfl,hlen,bs];refine GF (by omega) (by omega) (λn j hj=>?_) (λn=>?_)
 .have hck:ck ((j:Int)+1)=some ((j:Int)+1):=cR (by omega) (by omega);have hj7:j < 7:=by omega
  rw [dK,if_pos (by omega),uP hj7,bs,qH h0 (by omega),bs,h j c (by omega) h0 h1,hck,bs]
 .rw [dK,if_neg (Int.lt_irrefl _)]
theorem En{m:ae}{B:Int->Bool}{c:Int}: -1≤eG m B c/\eG m B c≤(mD m).length:=by
 grind [eG,List.findIdx?_eq_some_iff_findIdx_eq,length_range]
def lM(m:ae)(c:Int)(L:List (List Int)):List Int:=(L.map λb=>eG m (λc=>decide (c∈b)) c).filter λx=>decide (0≤x)
def yb(m:ae)(c:Int):fj×Int:=if¬(kM m=0) then((0,0),kM m) else if¬(0≤c/\c < mC m) then((0,0),3) else if(fp m cU).length=0 then((0,0),9) else
 match lM m c (fp m cU) with
 |[]=>((0,0),11)
 |x::l=>((om x l,oq x l),0)
theorem Gz{m:ae}{c:Int}{L:List (List Int)}:(lM m c L).length≤L.length:=by
 unfold lM;grind
theorem wF{m:ae}{c:Int}:∀(L:List (List Int)) (j:Nat) (s:List Int),fC (λ(s:List Int) _ b=>if 0≤eG m (λc=>decide (c∈b)) c then s++[eG m (λc=>decide (c∈b)) c] else s) j L s=s++lM m c L
 |[],_,s=>by simp [fC,lM]
 |b::L,j,s=>by
  rw [fC,wF L]
  unfold lM
  grind
theorem Qm{m:ae}{c:Int}:G4 m [c] [] []=decide (0≤c/\c < mC m):=by
 simp only [G4,xP,uy,all_cons,List.all_nil,Bool.and_true];grind
theorem EG{k:Nat}{m:ae}{c:Int}(hs:Sm m)(hk:1010≤k):kV k m c=some (yb m c):=by
 unfold kV yb;rw [wu hs hk (by simp) (by simp) (by simp),bs];by_cases hc:kM m=0
 .have v:=Vd.of hc;have c1:=v.c1;have c5:=v.c5;have hop:G4 m [c] [] []=decide (0≤c/\c < mC m):=Qm;simp only [hc,hop,not_true_eq_false,if_false,decide_eq_true_eq];by_cases hn:0≤c/\c < mC m
  .simp only [hn,and_self,not_true_eq_false,if_false];have hl:=rj v (but:=cU);have hL:∀x∈fp m cU,Bg (mC m) x:=λx h=>tK v h;generalize fp m cU=L at *;by_cases h0:L.length=0
   .simp_all [if_pos,jd]
   .rw [if_neg h0,if_neg h0];simp only [o6,not_true_eq_false,if_false]
    have key:=dA (T:=List Int×Int) (f:=fe k c (some m,L.map cp,0) m) L (λ(s:List Int) j=>(s,j)) (λ(s:List Int) _ b=>if 0≤eG m (λc=>decide (c∈b)) c then s++[eG m (λc=>decide (c∈b)) c] else s) (λj s=>s.length≤j) (λs=>some s)
     (λn s j hj hs=>by
      have hck:ck ((j:Int)+1)=some ((j:Int)+1):=cR (by omega) (by omega);have hb:=hL _ (List.getElem_mem hj);have hg:aJ (L.map cp) (j:Int)=some (cp L[j]):=ov (by omega) (by simp_all);have hok:bP (length s+length [eG m (λc=>decide (c∈L[j])) c]):=Qn (n:=50) (by omega) (by omega);refine⟨?_,JV hs⟩;rw [fe,if_pos (by simp_all),hg,bs,EE v (by omega) hb hn.1 hn.2,bs];by_cases h:0≤eG m (λc=>decide (c∈L[j])) c
      .simp_all [if_pos,dB,bs]
      grind)
     (λn s _=>by simp_all [fe,if_neg,cp,length_map]) (n:=k) (s0:=[]) (by omega) (Nat.le_refl 0)
    rw [show fe k c (some m,L.map cp,0) m k ([],0)=_ from key.1,bs,wF,nil_append];have hlen:=Gz (m:=m) (c:=c) (L:=L);generalize lM m c L=R at *;cases R with
    |nil=>rfl
    |cons x l=>
     simp only [length_cons] at hlen;rw [if_neg (by grind),KH (by omega) (by omega),bs,KO (by omega) (by omega),bs]
  simp_all [not_false_eq_true,if_true,jd,if_pos]
 simp_all [not_false_eq_true,if_true,jd]
end Go.Proofs.YtddkbkkogpolaaaGreat
set_option linter.unusedVariables false
set_option linter.unusedSimpArgs false
namespace Go.Proofs.YtddkbkkogpolaaaGreat
open K Go Go.Proofs
end Go.Proofs.YtddkbkkogpolaaaGreat
set_option linter.unusedVariables false
set_option linter.unusedSimpArgs false
namespace Go.Proofs.YtddkbkkogpolaaaGreat
open K Go Go.Proofs
theorem zL:qZ 1200=some true:=by decide+kernel
theorem W.get{α:Type}{x:Option α}{a:α}(h:W x λy=>y=a):x=some a:=by
 obtain⟨b,e,rfl⟩:=h;exact e
end Go.Proofs.YtddkbkkogpolaaaGreat
set_option linter.unusedVariables false
set_option linter.unusedSimpArgs false
namespace Go.Proofs.YtddkbkkogpolaaaGreat
open K Go Go.Proofs
theorem EH{k:Nat}{m:ae}(v:Vd m)(hk:1010≤k):iy k m=some (fp m cU,0):=by
 rw [Bw v.sm hk,v.chk];rfl
