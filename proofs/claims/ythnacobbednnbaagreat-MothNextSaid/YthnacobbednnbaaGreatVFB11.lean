import Derived.Test.YthnacobbednnbaaGreatVFF2
open Nat
open List hiding mem_of_getElem?
open Array hiding mem_of_getElem? mk
set_option linter.unusedVariables false
set_option linter.unusedSimpArgs false
namespace Go.Proofs.YthnacobbednnbaaGreat
open K Go Go.Proofs
def W{α:Type}(x:Option α)(Q:α->Prop):Prop:=∃a,x=some a/\Q a
namespace W
variable {α β ε:Type}{Q:β->Prop}
theorem ret{a:β}(h:Q a):W (some a) Q:=⟨a,rfl,h⟩
theorem mono{x:Option β}{R:β->Prop}(h:W x R)(hq:∀a,R a->Q a):W x Q:=let ⟨a,e,r⟩:=h;⟨a,e,hq a r⟩
theorem bind{x:Option α}{f:α->Option β}{R:α->Prop}(h:W x R)(hf:∀a,R a->W (f a) Q):W (x.bind f) Q:=by
 obtain⟨a,rfl,r⟩:=h;grind
theorem ck{n:Int}{f:Int->Option β}(h1: -9223372036854775808≤n)(h2:n≤9223372036854775807)(hf:W (f n) Q):W ((K.ck n).bind f) Q:=by
 simp_all [K.ck,if_pos]
theorem chk{p:Prop}[Decidable p]{f:Unit->Option β}(h:p)(hf:W (f ()) Q):W ((cH p).bind f) Q:=by
 simp_all [cH,if_pos]
theorem at_{l:List α}{i:Int}{f:α->Option β}(h0:0≤i)(h1:i < l.length)(hf:∀x,l[i.toNat]? =some x->W (f x) Q):W ((aP l i).bind f) Q:=by
 simp_all [aP,if_pos,List.getElem?_eq_getElem]
theorem ite{p:Prop}[Decidable p]{a b:Option β}(h1:p->W a Q)(h2:¬p->W b Q):W (if p then a else b) Q:=by
 grind
theorem iteB{p:Prop}[Decidable p]{a b:Option α}{f:α->Option β}(h1:p->W (a.bind f) Q)(h2:¬p->W (b.bind f) Q):W ((if p then a else b).bind f) Q:=by
 grind
theorem loop{T:Type}{f:Nat->T->Option β}(I:Nat->T->Prop)(step:∀aK m y,I m y->(∀m' y',m' < m->I m' y'->W (f aK y') Q)->W (f (aK+1) y) Q):∀m aK y,m < aK->I m y->W (f aK y) Q:=by
 intro m
 induction m using Nat.strongRecOn with
 |_ m ih=>
  intro aK y hm hI;cases aK with
  |zero=>omega
  |succ aK=>grind
end W
theorem wrap_u64(n:Int):0≤IntKind.u64.wrap n/\IntKind.u64.wrap n < 18446744073709551616:=by
 simp_all [Int.emod_nonneg,Int.emod_lt_of_pos,IntKind.wrap,IntKind.signed,IntKind.bits]
theorem yo{n:Int}(h0:0≤n)(h1:n < 18446744073709551616):IntKind.u64.wrap n=n:=by
 simp_all [IntKind.wrap,IntKind.signed,IntKind.bits,Int.emod_eq_of_lt]
def Lo(l:bp)(m:Int):Prop:=0≤l.2.1/\l.2.1≤m
theorem J5{k:Nat}{l:bp}{m:Int}(h:Lo l m)(hm:m≤1000000000):W (ia k l) λr=>0≤r.1/\r.1 < 72057594037927936/\Lo r.2 (m+1):=by
 obtain⟨h0,h1⟩:=h;unfold ia
 have fin:∀x:Int,W ((K.ck (l.2.1+1)).bind λx4=>some (ie .u64 (rW .u64 (IntKind.u64.wrap ((rW .u64 x (ie .u64 x (29:Int))) * (2685821657736338717:Int))) (ie .u64 (IntKind.u64.wrap ((rW .u64 x (ie .u64 x (29:Int))) * (2685821657736338717:Int))) (32:Int))) (8:Int),(l.1,x4,x)))
  λr=>0≤r.1/\r.1 < 72057594037927936/\Lo r.2 (m+1):=λx=>by
  refine W.ck (by omega) (by omega) (W.ret ?_)
  generalize IntKind.u64.wrap ((rW .u64 x (ie .u64 x (29:Int))) * (2685821657736338717:Int))=y
  have hx:0≤rW .u64 y (ie .u64 y 32)/\rW .u64 y (ie .u64 y 32) < 18446744073709551616:=wrap_u64 _
  have e:ie .u64 (rW .u64 y (ie .u64 y 32)) 8=(rW .u64 y (ie .u64 y 32)) / 256:=by
   unfold ie;rw [Int.fdiv_eq_ediv_of_nonneg _ (by decide)];rfl
  refine⟨?_,?_,?_,?_⟩
  .
   omega
  .
   omega
  .
   grind
  simp_all
 refine W.iteB (λhlt=>?_) (λ_=>fin _);simp_all [aP,if_pos,List.getElem?_eq_getElem]
theorem jr{k:Nat}{l:bp}{m n:Int}(h:Lo l m)(hm:m≤1000000000)(hn:n≤1000000000):W (bU k l n) λr=>0≤r.1/\(0≤n->r.1≤n)/\Lo r.2 (m+1):=by
 unfold bU;refine W.ite (λh1=>W.ret ⟨Int.le_refl 0,λh=>h,h.1,by show l.2.1≤m+1;have:=h.2;omega⟩) (λh1=>?_);refine W.bind (J5 h hm) λr hr=>?_;refine W.ck (by omega) (by omega) ?_;have e:IntKind.u64.wrap (n+1)=n+1:=yo (by omega) (by omega);refine W.chk (by omega) ?_;rw [e];have h2:Int.tmod r.1 (n+1)=r.1 % (n+1):=Int.tmod_eq_emod_of_nonneg hr.1;have h3:=Int.emod_nonneg r.1 (show n+1≠0 by omega);have h4:=Int.emod_lt_of_pos r.1 (show 0 < n+1 by omega);grind [W.ck,W.ret]
theorem CY{k:Nat}{l:bp}{m a b:Int}(h:Lo l m)(hm:m≤1000000000)(ha:0≤a)(hab:a≤b)(hb:b≤1000000):W (fy k l a b) λr=>a≤r.1/\r.1≤b/\Lo r.2 (m+1):=by
 grind [fy,W.ck,W.bind,jr,W.ret]
theorem ti{k:Nat}{l:bp}{m a:Int}(h:Lo l m)(hm:m≤1000000000)(ha:0≤a)(hb:a≤1000000):W (ec k l a) λr=>Lo r.2 (m+1):=by
 grind [ec,W.ck,W.bind,jr,W.ret]
theorem GM{k:Nat}{l:bp}{m:Int}{some_:List Int}(h:Lo l m)(hm:m≤1000000000)(h0:0 < some_.length)(h1:some_.length≤1000000):W (gC k l some_) λr=>r.1∈some_/\Lo r.2 (m+1):=by
 grind [gC,W.ck,W.bind,jr,W.at_,W.ret,List.mem_of_getElem?]
theorem fP{α:Type}{l:List α}{i:Nat}(h:i < l.length):aP l (i:Int)=some l[i]:=by
 rw [aP,if_pos (by omega)];simp_all
section
variable {α β γ ε σ T:Type}
theorem bs{a:α}{f:α->Option β}:(some a).bind f=f a:=by simp_all
theorem du{n:Int}(h1: -9223372036854775808≤n)(h2:n≤9223372036854775807):K.ck n=some n:=by simp_all [K.ck,if_pos]
theorem dj{p:Prop}[Decidable p](h:p):cH p=some ():=by rw [cH,if_pos h]
theorem xu{l:List α}{i:Int}(h0:0≤i)(h:i.toNat < l.length):aP l i=some l[i.toNat]:=by rw [aP,if_pos h0];simp_all
theorem HJ{l:List α}{i:Int}{x:α}(h0:0≤i)(h:l[i.toNat]? =some x):aP l i=some x:=by simp_all [aP,if_pos]
theorem nf{a:α}{g:ε->Option β}{f:α->Option β}:K.bE (some (.ok a)) g f=f a:=by simp_all [K.bE]
theorem qR{e:ε}{g:ε->Option β}{f:α->Option β}:K.bE (some (.error e)) g f=g e:=by simp_all [K.bE]
theorem qO{q:α}{a:β}{b:α->β}:f8 (some q) a b=b q:=by simp_all [f8]
theorem lQ{a:β}{b:α->β}:f8 none a b=a:=by simp_all [f8]
theorem Ub{n:Nat}(h:n≤4294967296):bJ n:=h
def gY(g:σ->Nat->α->σ):Nat->List α->σ->σ
 |_,[],s=>s
 |j,x::l,s=>gY g (j+1) l (g s j x)
theorem fW(l:List α)(mk:σ->Int->T)(g:σ->Nat->α->σ)(P:Nat->σ->Prop){f:Nat->T->Option β}(fin:σ->Option β)
 (step:∀n s (j:Nat) (h:j < l.length),P j s->f (n+1) (mk s j)=f n (mk (g s j l[j]) ((j:Int)+1))/\P (j+1) (g s j l[j]))
 (stop:∀n s,P l.length s->f (n+1) (mk s l.length)=fin s) {s0:σ} {n:Nat} (hn:l.length < n) (h0:P 0 s0):f n (mk s0 0)=fin (gY g 0 l s0)/\P l.length (gY g 0 l s0):=by
 have key:∀(m:List α) (pre:List α) (n:Nat) (s:σ),l=pre++m->m.length < n->P pre.length s->f n (mk s pre.length)=fin (gY g pre.length m s)/\P l.length (gY g pre.length m s):=by
  intro m
  induction m with
  |nil=>
   intro pre n s e hn hp;obtain⟨n,rfl⟩:∃n',n=n'+1:=⟨n - 1,by omega⟩;have:l.length=pre.length:=by grind
   rw [<-this] at hp⊢;exact⟨stop n s hp,hp⟩
  |cons x m ih=>
   intro pre n s e hn hp;simp only [length_cons] at hn;obtain⟨n,rfl⟩:∃n',n=n'+1:=⟨n - 1,by omega⟩;have hl:pre.length < l.length:=by grind
   have hx:l[pre.length]=x:=by simp [e]
   obtain⟨h1,h2⟩:=step n s pre.length hl hp;rw [hx] at h1 h2;have:=ih (pre++[x]) n (g s pre.length x) (by grind) (by omega) (by simp_all);rw [length_append] at this;simp only [length_cons,length_nil,Nat.zero_add] at this;rw [h1];exact this
 have:=key l [] n s0 rfl hn h0
 exact this
def fA(g:σ->Nat->α->Except ε σ):Nat->List α->σ->Except ε σ
 |_,[],s=>.ok s
 |j,x::l,s=>match g s j x with
  | .error e=>.error e
  | .ok s'=>fA g (j+1) l s'
theorem Et(l:List α)(mk:σ->Int->T)(g:σ->Nat->α->Except ε σ)(P:Nat->σ->Prop){f:Nat->T->Option β}(fin:Except ε σ->Option β)
 (step:∀n s (j:Nat) (h:j < l.length),P j s->(∃e,g s j l[j]= .error e/\f (n+1) (mk s j)=fin (.error e))\/(∃s',g s j l[j]= .ok s'/\f (n+1) (mk s j)=f n (mk s' ((j:Int)+1))/\P (j+1) s'))
 (stop:∀n s,P l.length s->f (n+1) (mk s l.length)=fin (.ok s)) {s0:σ} {n:Nat} (hn:l.length < n) (h0:P 0 s0):f n (mk s0 0)=fin (fA g 0 l s0):=by
 have key:∀(m:List α) (pre:List α) (n:Nat) (s:σ),l=pre++m->m.length < n->P pre.length s->f n (mk s pre.length)=fin (fA g pre.length m s):=by
  intro m
  induction m with
  |nil=>
   intro pre n s e hn hp;obtain⟨n,rfl⟩:∃n',n=n'+1:=⟨n - 1,by omega⟩;have:l.length=pre.length:=by grind
   rw [<-this] at hp⊢;exact stop n s hp
  |cons x m ih=>
   intro pre n s e hn hp;simp only [length_cons] at hn;obtain⟨n,rfl⟩:∃n',n=n'+1:=⟨n - 1,by omega⟩;have hl:pre.length < l.length:=by grind
   have hx:l[pre.length]=x:=by simp [e]
   rcases step n s pre.length hl hp with⟨e',h1,h2⟩ |⟨s',h1,h2,h3⟩
   .grind [fA]
   .rw [hx] at h1;have:=ih (pre++[x]) n s' (by grind) (by omega) (by simp_all);simp_all [length_append,length_cons,length_nil,Nat.zero_add,fA]
 exact key l [] n s0 rfl hn h0
end
section
variable {α β ε σ T:Type}
theorem oe(l:List α)(mk:σ->Int->T)(g:σ->Nat->α->Except ε σ)(P:Nat->σ->Prop){f:Nat->T->Option β}(fin:Except ε σ->Option β)
 (step:∀n s (j:Nat) (h:j < l.length),P j s->(f (n+1) (mk s j)=match g s j l[j] with | .error e=>fin (.error e) | .ok s'=>f n (mk s' ((j:Int)+1)))/\∀s',g s j l[j]= .ok s'->P (j+1) s')
 (stop:∀n s,P l.length s->f (n+1) (mk s l.length)=fin (.ok s)) {s0:σ} {n:Nat} (hn:l.length < n) (h0:P 0 s0):f n (mk s0 0)=fin (fA g 0 l s0):=
 Et l mk g P fin (λn s j h hp=>by
  obtain⟨h1,h2⟩:=step n s j h hp
  grind) stop hn h0
end
theorem uv{α:Type}(p:α->Bool):∀(l:List α) (j:Nat),fA (λ(_:Unit) j x=>if p x then Except.error (j:Int) else .ok ()) j l ()=match l.findIdx? p with |some i=>.error ((i+j:Nat):Int) |none=>.ok ()
 |[],j=>by simp [fA]
 |x::l,j=>by
  rw [fA,findIdx?_cons]
  by_cases h:p x=true
  .
   simp [h]
  .
   simp only [h,if_false,Bool.false_eq_true]
   rw [uv p l (j+1)]
   grind
def jp(s:Int):Prop:=0≤s/\s < 256
def dW(s:Int)(i:Nat):Prop:=s.toNat.testBit i=true
instance (s:Int) (i:Nat):Decidable (dW s i):=by unfold dW;infer_instance
theorem ta{x:Nat}(h:x < 256):IntKind.u8.wrap (x:Int)=x:=by
 grind [IntKind.wrap,IntKind.signed,IntKind.bits]
theorem ug{s:Int}(h:jp s):∃n:Nat,n < 256/\s=n:=⟨s.toNat,by have:=h.1;have:=h.2;omega,by have:=h.1;omega⟩
theorem GN{n:Nat}(h:n < 256):(BitVec.ofInt IntKind.u8.bits (n:Int)).toNat=n:=by
 show(BitVec.ofInt 8 (n:Int)).toNat=n;simp_all
theorem Hy{n m:Nat}(hn:n < 256)(hm:m < 256):n |||m < 256:=or_lt_two_pow (n:=8) hn hm
theorem Ku{n m:Nat}(hn:n < 256):n &&& m < 256:=Nat.lt_of_le_of_lt and_le_left hn
theorem Og{a b:Int}(ha:jp a)(hb:jp b):jp (CX .u8 a b)/\∀i,dW (CX .u8 a b) i↔dW a i\/dW b i:=by
 obtain⟨n,hn,rfl⟩:=ug ha;obtain⟨m,hm,rfl⟩:=ug hb
 have e:CX .u8 (n:Int) (m:Int)=((n |||m:Nat):Int):=by
  grind [CX,BitVec.toNat_or,GN,ta,Hy]
 rw [e];refine⟨⟨by omega,by grind [Hy]⟩,λi=>?_⟩;simp [dW,testBit_or]
theorem NW{x:Int}(h0:0≤x)(h8:x < 8):jp (oc .u8 1 x)/\∀i:Nat,dW (oc .u8 1 x) i↔(i:Int)=x:=by
 obtain⟨n,rfl⟩:=Int.eq_ofNat_of_zero_le h0;have hn:n < 8:=by omega
 have e:oc .u8 1 (n:Int)=((2 ^ n:Nat):Int):=by
  unfold oc
  have h1:min (Int.toNat (n:Int)) IntKind.u8.bits=n:=by
   show min n 8=n;omega
  rw [h1,Int.one_mul];have h2:2 ^ n < 256:=Nat.pow_lt_pow_right (by decide) hn;grind [ta]
 rw [e];have h9:2 ^ n < 256:=Nat.pow_lt_pow_right (by decide) hn;refine⟨⟨Int.natCast_nonneg _,Int.ofNat_lt.2 h9⟩,λi=>?_⟩;simp only [dW,Int.toNat_natCast,testBit_two_pow,decide_eq_true_eq];omega
theorem xt{k:Nat}{s:Int}(hs:jp s){i:Nat}(hi:i < 8):eL k s (i:Int)=some (decide (dW s i)):=by
 obtain⟨n,hn,rfl⟩:=ug hs;unfold eL;rw [cH,if_pos (by omega)];show some _=some _;congr 1
 have e1:ie .u8 (n:Int) (i:Int)=((n >>> i:Nat):Int):=by
  unfold ie
  have h1:min (Int.toNat (i:Int)) IntKind.u8.bits=i:=by
   show min i 8=i;omega
  grind [Int.fdiv_eq_ediv_of_nonneg,Int.natCast_nonneg,Nat.shiftRight_eq_div_pow]
 have hlt:n >>> i < 256:=Nat.lt_of_le_of_lt (by rw [Nat.shiftRight_eq_div_pow];exact div_le_self _ _) hn
 have e2:pV .u8 ((n >>> i:Nat):Int) 1=(((n >>> i) &&& 1:Nat):Int):=by
  grind [pV,BitVec.ofInt,BitVec.toNat_and,GN,ta,Ku]
 rw [e1,e2]
 have e3:(((n >>> i) &&& 1:Nat):Int)=1↔dW (n:Int) i:=by
  rw [dW,Int.toNat_natCast,testBit];grind
 simp_all
end Go.Proofs.YthnacobbednnbaaGreat
set_option linter.unusedVariables false
set_option linter.unusedSimpArgs false
namespace Go.Proofs.YthnacobbednnbaaGreat
open K Go Go.Proofs
abbrev mC(m:ab):Int:=m.1
abbrev mW(m:ab):Int:=m.2.1
abbrev mS(m:ab):Int:=m.2.2.1
abbrev mH(m:ab):Int:=m.2.2.2.1
abbrev mD(m:ab):List (List (List Int)):=m.2.2.2.2.1
abbrev mG(m:ab):List aQ:=m.2.2.2.2.2
def zS(l:List Int)(c:Int):Option (List Int):=(l.findIdx? λy=>decide (c=y)).map λi=>(if 0 < i then [l[i-1]?.getD 0] else [])++(l[i+1]?).toList
def zT(d:List (List Int))(c:Int):Option (List Int):=d.findSome? λl=>zS l c
def zU(m:ab)(d:Nat)(c:Int):Option (List Int):=zT ((mD m)[d]?.getD []) c
def mA(m:ab)(c:Int):Nat->Nat
 |0=>if(zU m 0 c).isSome then 0 else 1
 |d+1=>if(zU m (d+1) c).isSome then 0 else mA m c d+1
def lE(m:ab)(B:Int->Bool):Nat->Int->Int
 |0,c=>if B c then mW m else -1
 |d+1,c=>match zU m d c with
  |none=>if mH m≤(mA m c d:Int) then -1 else lE m B d c
  |some l=>if 0≤lE m B d c then lE m B d c+1 else if l.any λx=>decide (mW m≤lE m B d x) then 0 else -1
theorem Iq{m:ab}{B:Int->Bool}(hw:0≤mW m):∀{d:Nat} {c:Int}, -1≤lE m B d c
 |0,c=>by grind [lE]
 |d+1,c=>by
  have:=Iq (B:=B) hw (d:=d) (c:=c)
  grind [lE]
theorem Ip{m:ab}{B:Int->Bool}(hw:mW m≤3):∀{d:Nat} {c:Int},lE m B d c≤3+d
 |0,c=>by grind [lE]
 |d+1,c=>by
  have:=Ip (B:=B) hw (d:=d) (c:=c)
  grind [lE]
theorem zu{k:Nat}{l:List Int}{x:Int}(hk:l.length < k)(hl:l.length≤1000000):fZ k l x=some (match l.findIdx? (λy=>decide (x=y)) with |some i=>(i:Int) |none=> -1):=by
 unfold fZ
 have key:=oe (f:=c7 k l x) l (λ(_:Unit) j=>j) (λ_ j y=>if decide (x=y)=true then Except.error (j:Int) else .ok ()) (λ_ _=>True) (λr=>some r)
  (λn s j hj _=>by
   have hck:ck ((j:Int)+1)=some ((j:Int)+1):=du (by omega) (by omega);refine⟨?_,λ_ _=>trivial⟩;simp only [c7,Int.ofNat_lt,hj,if_true,fP hj,bs,decide_eq_true_eq];grind)
  (λn s _=>by simp [c7]) (n:=k) (s0:=()) hk trivial
 rw [show c7 k l x k 0=_ from key,uv (λy=>decide (x=y)) l 0];grind [decide,nf,qR]
def nq:List Int->List Int
 |[a,b]=>if b < a then [b,a] else [a,b]
 |l=>l
theorem tN{l:List Int}{x:Int}:x∈nq l↔x∈l:=by
 unfold nq;grind
theorem Jy{k:Nat}{l:List Int}(hk:10≤k)(hl:l.length≤2):fF k l=some (nq l):=by
 obtain⟨k,rfl⟩:∃n,k=n+4:=⟨k - 4,by omega⟩;have e0:oZ (k+4) (IntKind.u64.wrap (0:Int))=some 0:=by kernel_rfl
 have e1:oZ (k+4) (IntKind.u64.wrap (1:Int))=some 1:=by kernel_rfl
 have e2:oZ (k+4) (IntKind.u64.wrap (2:Int))=some 2:=by kernel_rfl
 have c0:ck ((0:Int) - 0)=some 0:=rfl;have c1:ck ((1:Int) - 0)=some 1:=rfl;have c2:ck ((2:Int) - 0)=some 2:=rfl;have d1:ck ((0:Int)+1)=some 1:=rfl;have d2:ck ((1:Int)+1)=some 2:=rfl;have d3:ck ((1:Int) - 1)=some 0:=rfl;match l,hl with
 |[],_=>
  simp only [fF,length_nil,Int.ofNat_zero,e0,bs,cR,cx,bS,aZ,nq,c0,d1];rfl
 |[a],_=>
  simp_all [fF,bs,cR,cx,bS,aZ,nq]
 |[a,b],_=>
  have:(([a,b]:List Int).length:Int)=2:=rfl;have g0:aP [a,b] (0:Int)=some a:=rfl;have g1:aP [a,b] (1:Int)=some b:=rfl;have hn:∀x:Int,kO (k+4) x=some false:=λx=>by simp [kO]
  have hl:∀x y:Int,om (k+4) x y=some (decide (x < y)):=λx y=>by simp [om,hn]
  simp only [fF,this,e2,bs,cR,cx,bS,aZ,bA,c2,d1,d2,d3,g0,g1,hl];grind [nq,bA,bs,aP]
end Go.Proofs.YthnacobbednnbaaGreat
set_option linter.unusedVariables false
set_option linter.unusedSimpArgs false
namespace Go.Proofs.YthnacobbednnbaaGreat
open K Go Go.Proofs
structure Vd(m:ab):Prop where
 c1:1≤mC m
 c5:mC m≤5
 w0:0≤mW m
 w3:mW m≤3
 s0:0≤mS m
 s3:mS m≤3
 h1:1≤mH m
 h3:mH m≤3
 d1:1≤(mD m).length
 d6:(mD m).length≤6
 r3:∀r∈mD m,r.length≤3
 l5:∀r∈mD m,∀l∈r,l.length≤5
 x5:∀r∈mD m,∀l∈r,∀x∈l,0≤x/\x < mC m
 nd:∀r∈mD m,r.flatten.Nodup
 g8:(mG m).length≤8
 gl:∀g∈mG m,0≤g.1/\g.1 < mC m/\0≤g.2.1/\g.2.1≤(mD m).length
theorem zR{l:List Int}{c:Int}{s:List Int}(h:zS l c=some s):s.length≤2/\∀x∈s,x∈l:=by
 unfold zS at h;cases e:l.findIdx? (λy=>decide (c=y)) with
 |none=>simp_all
 |some i=>
  rw [e] at h;obtain rfl:=Option.some.inj h;have hi:i < l.length:=(List.findIdx?_eq_some_iff_getElem.1 e).1;grind
theorem Ig{d:List (List Int)}{c:Int}{s:List Int}(h:zT d c=some s):∃l∈d,zS l c=some s:=by
 simp_all [zT,List.exists_of_findSome?_eq_some]
theorem uD{m:ab}(v:Vd m){d:Nat}{c:Int}{s:List Int}(h:zU m d c=some s):s.length≤2/\∀x∈s,0≤x/\x < mC m:=by
 obtain⟨l,hl,h2⟩:=Ig h;cases e:(mD m)[d]? with
 |none=>simp_all
 |some r=>
  rw [e] at hl;have h3:=zR h2;exact⟨h3.1,λx hx=>v.x5 r (List.mem_of_getElem? e) l hl x (h3.2 x hx)⟩
def O5(m:ab)(c:Int)(d:Nat):Int ⊕ List Int:=match zU m d c with
 |some s=>.inr (nq s)
 |none=>.inl (mA m c d)
theorem yP{k:Nat}{c:Int}{r:List (List Int)}(hk:10≤k)(hr:r.length≤3)(hl:∀l∈r,l.length≤5):
 cE k c r k 0=some (match zT r c with |some s=>.error (.inr (nq s)) |none=>.ok ()):=by
 have key:=oe (f:=cE k c r) r (λ(_:Unit) j=>j) (λ_ _ l=>match zS l c with |some s=>Except.error (Sum.inr (nq s):Int ⊕ List Int) |none=>.ok ()) (λ_ _=>True) (λx=>some x)
  (λn s j hj _=>by
   refine⟨?_,λ_ _=>trivial⟩;have h5:=hl _ (List.getElem_mem hj);have hck:ck ((j:Int)+1)=some ((j:Int)+1):=du (by omega) (by omega);simp only [cE,Int.ofNat_lt,hj,if_true,fP hj,bs];rw [zu (by omega) (by omega),bs];generalize r[j]=l at *;have hb:zS l c=(l.findIdx? λy=>decide (c=y)).map λi=>(if 0 < i then [l[i-1]?.getD 0] else [])++(l[i+1]?).toList:=rfl;cases e:l.findIdx? (λy=>decide (c=y)) with
   |none=>
    simp_all
   |some i=>
    rw [e] at hb;simp only [Option.map_some] at hb;have hi:i < l.length:=(List.findIdx?_eq_some_iff_getElem.1 e).1;rw [hb];have hlen:=(zR hb).1;have c1:ck ((i:Int) - 1)=some ((i:Int) - 1):=du (by omega) (by omega);have c2:ck ((i:Int)+1)=some ((i:Int)+1):=du (by omega) (by omega);have ok0:cH (bJ (length ([]:List Int)+length [l[i-1]?.getD 0]))=some ():=dj (by simp [bJ]);simp only [show(0:Int)≤(i:Int) from Int.natCast_nonneg _,if_true,c1,c2,bs]
    have e1:(if(0:Int) < (i:Int) then((aP l ((i:Int) - 1)).bind λx11=>(cH (bJ (length ([]:List Int)+length [x11]))).bind λ_=>some (([]:List Int)++[x11])) else some ([]:List Int))=some (if 0 < i then [l[i-1]?.getD 0] else []):=by
     by_cases h0:0 < i
     .have g:aP l ((i:Int) - 1)=some (l[i-1]?.getD 0):=by
       grind [fP,List.getElem?_eq_getElem]
      simp_all
     simp_all
    rw [e1,bs];generalize (if 0 < i then [l[i-1]?.getD 0] else [])=p at *
    have e2:(if(i:Int)+1 < (l.length:Int) then((aP l ((i:Int)+1)).bind λx18=>(cH (bJ (length p+length [x18]))).bind λ_=>some (p++[x18])) else some p)=some (p++(l[i+1]?).toList):=by
     by_cases h1:i+1 < l.length
     .have g:aP l ((i:Int)+1)=some l[i+1]:=by
       have:((i:Int)+1)=((i+1:Nat):Int):=by omega
       rw [this,fP h1]
      rw [if_pos (by omega),g,bs,List.getElem?_eq_getElem h1];grind [List.getElem?_eq_getElem,dj,length_append,bJ,bs]
     grind
    simp_all [bs,Jy])
  (λn s _=>by simp [cE]) (n:=k) (s0:=()) (by omega) trivial
 rw [show cE k c r k 0=_ from key]
 congr 1
 have:∀(r:List (List Int)) (j:Nat),fA (λ(_:Unit) _ l=>match zS l c with |some s=>Except.error (Sum.inr (nq s):Int ⊕ List Int) |none=>.ok ()) j r ()=match zT r c with |some s=>.error (.inr (nq s)) |none=>.ok ():=by
  intro r
  induction r with
  |nil=>intro j;rfl
  |cons l r ih=>
   intro j;rw [fA];unfold zT;rw [findSome?_cons];cases zS l c with
   |none=>exact ih (j+1)
   |some s=>rfl
 simp_all
theorem Di{m:ab}{c:Int}:∀{d:Nat},mA m c d≤d+1
 |0=>by grind [mA]
 |d+1=>by have:=Di (m:=m) (c:=c) (d:=d);grind [mA]
theorem tY{k:Nat}{m:ab}{c:Int}(v:Vd m)(hk:10≤k):∀(d m0:Nat),d < m0->d < (mD m).length->dT k m0 m c (d:Int)=some (O5 m c d)
 |d,0,h,_=>absurd h (not_lt_zero _)
 |d,m0+1,h,hd=>by
  have hm:=List.getElem_mem hd
  unfold dT
  rw [fP hd,bs,yP hk (v.r3 _ hm) (v.l5 _ hm)]
  have hbes:zU m d c=zT (mD m)[d] c:=by unfold zU;simp_all
  cases e:zT (mD m)[d] c with
  |some s=>
   simp_all [qR,O5]
  |none=>
   rw [nf]
   unfold O5
   rw [hbes,e]
   match d,hd,h with
   |0,hd,h=>
    simp_all [mA]
   |d+1,hd,h=>
    have h6:=v.d6
    have c1:ck (((d+1:Nat):Int) - 1)=some (d:Int):=by grind [du]
    have ih:=tY v hk d m0 (by omega) (by omega) (c:=c)
    rw [if_pos (by omega),c1,bs,ih,bs]
    rw [hbes.symm] at e
    have hcold:mA m c (d+1)=mA m c d+1:=by grind [mA]
    have hle:=Di (m:=m) (c:=c) (d:=d)
    unfold O5
    cases e2:zU m d c with
    |some s=>
     simp only [JI]
     have:mA m c d=0:=by cases d <;> simp [mA,e2]
     simp_all
    |none=>
     have c2:ck ((1:Int)+(mA m c d:Int))=some ((1:Int)+(mA m c d:Int)):=du (by omega) (by omega)
     simp only [JI,PO,c2,bs,if_true,hcold]
     grind
end Go.Proofs.YthnacobbednnbaaGreat
set_option linter.unusedVariables false
set_option linter.unusedSimpArgs false
namespace Go.Proofs.YthnacobbednnbaaGreat
open K Go Go.Proofs
def ky(f:Int->Int):List Int:=[f 0,f 1,f 2,f 3,f 4]
def upd(f:Int->Int)(c v:Int):Int->Int:=λx=>if x=c then v else f x
theorem TS{c:Int}(h0:0≤c)(h:c < 5):c=0\/c=1\/c=2\/c=3\/c=4:=by omega
theorem te{f:Int->Int}{c:Int}(h0:0≤c)(h:c < 5):aP (ky f) c=some (f c):=by
 rcases TS h0 h with rfl |rfl |rfl |rfl |rfl <;> rfl
theorem Ci{f:Int->Int}{c v:Int}(h0:0≤c)(h:c < 5):List.set (ky f) (Int.toNat c) v=ky (upd f c v):=by
 rcases TS h0 h with rfl |rfl |rfl |rfl |rfl <;> rfl
theorem mf{f g:Int->Int}(h:∀c,0≤c->c < 5->f c=g c):ky f=ky g:=by
 simp_all [ky]
def PL(m:ab)(f:Int->Int)(d:Nat)(c:Int):Int:=match zU m d c with
 |none=>if mH m≤(mA m c d:Int) then -1 else f c
 |some l=>if 0≤f c then f c+1 else if l.any λx=>decide (mW m≤f x) then 0 else -1
def O6(m:ab)(f:Int->Int)(d:Nat):Int->Int:=λc=>if 0≤c/\c < mC m then PL m f d c else f c
theorem vd{k:Nat}{m:ab}{f:Int->Int}(hw:0≤mW m){s:List Int}(hs:s.length < k)(hs2:s.length≤1000)(hx:∀x∈s,0≤x/\x < 5):
 bT k m (ky f) s k 0=some (match s.find? (λx=>decide (mW m≤f x)) with |some x=>.error x |none=>.ok ()):=by
 have key:=oe (f:=bT k m (ky f) s) s (λ(_:Unit) j=>j) (λ_ _ x=>if decide (mW m≤f x)=true then Except.error x else .ok ()) (λ_ _=>True) (λx=>some x)
  (λn _ j hj _=>by
   refine⟨?_,λ_ _=>trivial⟩;have h5:=hx _ (List.getElem_mem hj);have hck:ck ((j:Int)+1)=some ((j:Int)+1):=du (by omega) (by omega);have him:nz (0:Int) m.2.1=mW m:=by show nz 0 (mW m)=mW m;grind [nz]
   simp only [bT,Int.ofNat_lt,hj,if_true,fP hj,bs,dj h5,te h5.1 h5.2,him,hck,decide_eq_true_eq];grind)
  (λn s _=>by simp [bT]) (n:=k) (s0:=()) hs trivial
 rw [show bT k m (ky f) s k 0=_ from key]
 congr 1
 have:∀(s:List Int) (j:Nat),fA (λ(_:Unit) _ x=>if decide (mW m≤f x)=true then Except.error x else .ok ()) j s ()=match s.find? (λx=>decide (mW m≤f x)) with |some x=>.error x |none=>.ok ():=by
  intro s
  induction s with
  |nil=>intro j;rfl
  |cons x s ih=>
   intro j;rw [fA,find?_cons];grind
 simp_all
theorem yG{s:List Int}:(nq s).length=s.length:=by
 unfold nq;grind
def Jn(m:ab)(f:Int->Int)(l:List Int):Int:=((nq l).find? λx=>decide (mW m≤f x)).getD (-1)
theorem AO{k:Nat}{m:ab}{f:Int->Int}{c:Int}{d:Nat}(v:Vd m)(hk:10≤k)(hd:d < (mD m).length){l:List Int}(h:zU m d c=some l):
 di k m (ky f) c (d:Int)=some (Jn m f l):=by
 have h6:=v.d6
 have c5:=v.c5
 have hb:=uD v h
 unfold di
 rw [tY v hk d k (by omega) hd,bs]
 unfold O5
 rw [h]
 have e1:Ie (Sum.inr (nq l):Int ⊕ List Int) (λn=>ip k n) (λl=>im k l)=some (nq l):=rfl
 rw [e1,bs,vd v.w0 (by rw [yG];omega) (by rw [yG];omega) λx hx=>by grind [tN]]
 unfold Jn
 cases(nq l).find? λx=>decide (mW m≤f x) with
 |none=>rw [nf];rfl
 |some x=>rw [qR];rfl
theorem Jm{m:ab}{f:Int->Int}{l:List Int}(hx:∀x∈l,0≤x):0≤Jn m f l↔(l.any λx=>decide (mW m≤f x))=true:=by
 unfold Jn;rw [List.any_eq_true];cases e:(nq l).find? λx=>decide (mW m≤f x) with
 |none=>
  simp_all [Option.getD_none,List.find?_eq_none,tN]
 |some x=>
  grind [List.mem_of_find?_eq_some,tN]
theorem Hk{k:Nat}{m:ab}{f:Int->Int}{d:Nat}(v:Vd m)(hk:10≤k)(hd:d < (mD m).length)(hf:∀c,0≤c->c < mC m-> -1≤f c/\f c≤1000):
 gy k m (ky f) (d:Int)=some (ky (O6 m f d)):=by
 have c5:=v.c5
 have c1:=v.c1
 have h6:=v.d6
 unfold gy
 have key:=fW (T:=List Int×Int) (f:=co k m (ky f) (d:Int)) (List.range (mC m).toNat) (λ(g:Int->Int) j=>(ky g,j)) (λg j _=>upd g (j:Int) (PL m f d (j:Int))) (λj g=>g=λc=>if 0≤c/\c < (j:Int) then PL m f d c else f c) (λg=>some (ky g))
  (λn g j hj hg=>by
   rw [length_range] at hj;have j0:(0:Int)≤(j:Int):=Int.natCast_nonneg _;have j1:(j:Int) < mC m:=by omega
   have j5:(j:Int) < 5:=by omega
   have hck:ck ((j:Int)+1)=some ((j:Int)+1):=du (by omega) (by omega);have hp:cH ((0:Int)≤(j:Int)/\(j:Int) < 5)=some ():=dj ⟨j0,j5⟩;have hgj:g (j:Int)=f (j:Int):=by simp_all
   have hfj:=hf _ j0 j1;refine⟨?_,?_⟩
   .have hm1:(m.1:Int)=mC m:=rfl;have hm2:m.2.2.2.1=mH m:=rfl;simp only [co,hm1,hm2,j1,if_true,tY v hk d k (by omega) hd,bs,hp,te j0 j5,hck,Ci j0 j5];unfold O5 PL;cases e:zU m d (j:Int) with
    |none=>
     simp only [JI,PO,if_true];by_cases hh:mH m≤(mA m (j:Int) d:Int)
     .simp_all
     .simp only [hh,if_false,bs];refine congrArg (λr=>co k m (ky f) (d:Int) n (r,(j:Int)+1)) (mf λc _ _=>?_);simp_all [upd]
    |some l=>
     have hb:=uD v e;simp only [JI,Bool.false_eq_true,if_false,not_false_eq_true,if_true];by_cases h0:0≤f (j:Int)
     .have hck2:ck (f (j:Int)+1)=some (f (j:Int)+1):=du (by omega) (by omega);simp_all
     .simp only [h0,if_false,AO v hk hd e,bs];have ht:=Jm (m:=m) (f:=f) (l:=l) λx hx=>(hb.2 x hx).1;by_cases hany:(l.any λx=>decide (mW m≤f x))=true
      .simp_all
      .rw [if_neg λh=>hany (ht.1 h),bs,if_neg hany];refine congrArg (λr=>co k m (ky f) (d:Int) n (r,(j:Int)+1)) (mf λc _ _=>?_);grind [upd]
   .rw [hg];funext c;unfold upd;grind)
  (λn g hg=>by
   rw [length_range];have:((mC m).toNat:Int)=mC m:=by omega
   simp_all [co,if_neg,mC]) (n:=k) (s0:=f) (by grind) (by grind)
 rw [show co k m (ky f) (d:Int) k (ky f,0)=_ from key.1,bs]
 congr 1
 refine mf λc _ _=>?_
 rw [key.2,length_range]
 unfold O6
 grind
end Go.Proofs.YthnacobbednnbaaGreat
set_option linter.unusedVariables false
set_option linter.unusedSimpArgs false
namespace Go.Proofs.YthnacobbednnbaaGreat
open K Go Go.Proofs
def cr(F:Nat->Int->Int):List (List Int):=[ky (F 0),ky (F 1),ky (F 2),ky (F 3),ky (F 4),ky (F 5),ky (F 6)]
def AK(F:Nat->Int->Int)(n:Nat)(f:Int->Int):Nat->Int->Int:=λi=>if i=n then f else F i
theorem TR{n:Nat}(h:n < 7):n=0\/n=1\/n=2\/n=3\/n=4\/n=5\/n=6:=by omega
theorem xK{F:Nat->Int->Int}{n:Nat}(h:n < 7):aP (cr F) (n:Int)=some (ky (F n)):=by
 rcases TR h with rfl |rfl |rfl |rfl |rfl |rfl |rfl <;> rfl
theorem OE{F:Nat->Int->Int}{n:Nat}{f:Int->Int}(h:n < 7):List.set (cr F) n (ky f)=cr (AK F n f):=by
 rcases TR h with rfl |rfl |rfl |rfl |rfl |rfl |rfl <;> rfl
def Pg(m:ab)(B:Int->Bool):Nat->Int->Int
 |0=>λc=>if B c then mW m else -1
 |n+1=>O6 m (Pg m B n) n
theorem xU{m:ab}(v:Vd m){B:Int->Bool}:∀(n:Nat) (c:Int),0≤c->c < mC m->Pg m B n c=lE m B n c
 |0,c,_,_=>rfl
 |n+1,c,h0,h1=>by
  have ih:=xU v (B:=B) n
  show O6 m (Pg m B n) n c=lE m B (n+1) c
  unfold O6
  rw [if_pos ⟨h0,h1⟩]
  unfold PL lE
  cases e:zU m n c with
  |none=>simp_all
  |some l=>
   have hb:=(uD v e).2
   grind
def Fa(m:ab)(B:Int->Bool):Nat->Int->Int:=λn=>if n≤(mD m).length then Pg m B n else λ_=>0
def mI(S:Int):Int->Bool:=λc=>decide (dW S c.toNat)
theorem F8{k:Nat}{m:ab}{S:Int}(hk:10≤k)(hS:jp S):eH k m S=some (ky λc=>if mI S c then mW m else -1):=by
 unfold eH
 have key:=fW (T:=List Int×Int) (f:=cD k m S) (List.range 5) (λ(g:Int->Int) j=>(ky g,j)) (λg j _=>upd g (j:Int) (if mI S (j:Int) then mW m else -1)) (λj g=>∀c,0≤c->c < (j:Int)->g c=if mI S c then mW m else -1) (λg=>some (ky g))
  (λn g j hj hg=>by
   rw [length_range] at hj;have j0:(0:Int)≤(j:Int):=Int.natCast_nonneg _;have j5:(j:Int) < 5:=by omega
   have hck:ck ((j:Int)+1)=some ((j:Int)+1):=du (by omega) (by omega);have hp:cH ((0:Int)≤(j:Int)/\(j:Int) < 5)=some ():=dj ⟨j0,j5⟩;have hp':cH ((0:Int)≤(j:Int)/\True)=some ():=dj ⟨j0,trivial⟩;refine⟨?_,?_⟩
   .simp only [cD,j5,if_true,hp,hp',bs,xt (k:=k) hS (by omega:j < 8),hck,Ci j0 j5];have hin:mI S (j:Int)=decide (dW S j):=by unfold mI;simp_all
    rw [hin];cases hh:decide (dW S j) with
    |true=>
     simp only [if_true,bs];refine congrArg (λr=>cD k m S n (r,(j:Int)+1)) (mf λc _ _=>?_);simp_all [upd]
    |false=>simp_all
   .intro c hc0 hc1;unfold upd;grind)
  (λn g hg=>by
   simp_all [length_range,cD,if_neg]) (n:=k) (s0:=λ_=>0) (by grind) (λc h0 h1=>by omega)
 have e0:([(0:Int),(0:Int),(0:Int),(0:Int),(0:Int)]:List Int)=ky λ_=>0:=rfl;rw [e0,show cD k m S k (ky λ_=>0,0)=_ from key.1,bs];refine congrArg some (mf λc h0 h5=>?_);simp_all
theorem oR{k:Nat}{m:ab}{S:Int}(v:Vd m)(hk:10≤k)(hS:jp S):kE k m S=some (cr (Fa m (mI S))):=by
 have d6:=v.d6;have d1:=v.d1;have w0:=v.w0;have w3:=v.w3;unfold kE je;have hm:cH (0≤S/\S < 256)=some ():=dj hS;have hp0:cH ((0:Int)≤0/\(0:Int) < 7)=some ():=dj ⟨by omega,by omega⟩;rw [hm,bs,F8 hk hS,bs,hp0,bs]
 have key:=fW (T:=List (List Int)×Int) (f:=bM k m) (mD m) (λ(F:Nat->Int->Int) j=>(cr F,j)) (λF j _=>AK F (j+1) (O6 m (F j) j)) (λj F=>F=λn=>if n≤j then Pg m (mI S) n else λ_=>0) (λF=>some (cr F))
  (λn F j hj hF=>by
   have j0:(0:Int)≤(j:Int):=Int.natCast_nonneg _;have hck:ck ((j:Int)+1)=some ((j:Int)+1):=du (by omega) (by omega);have hp:cH ((0:Int)≤(j:Int)/\(j:Int) < 7)=some ():=dj ⟨j0,by omega⟩;have hp2:cH ((0:Int)≤(j:Int)+1/\(j:Int)+1 < 7)=some ():=dj ⟨by omega,by omega⟩;have hFj:F j=Pg m (mI S) j:=by simp_all
   have hj':(j:Int) < (m.2.2.2.2.1.length:Int):=Int.ofNat_lt.2 hj
   have hnx:=Hk (k:=k) (f:=F j) v hk hj (λc h0 h1=>by
    rw [hFj,xU v j c h0 h1];have:=Iq (B:=mI S) w0 (d:=j) (c:=c);have:=Ip (B:=mI S) w3 (d:=j) (c:=c);omega)
   refine⟨?_,?_⟩
   .simp only [bM,hj',if_true,hck,hp,bs,xK (F:=F) (show j < 7 by omega),hnx,hp2];grind [Int.toNat,OE]
   .rw [hF];funext i;unfold AK;by_cases e:i=j+1
    .subst e;simp only [if_true,Nat.le_refl];rfl
    grind)
  (λn F hF=>by
   unfold bM;simp_all) (n:=k) (s0:=AK (λ_ _=>0) 0 (λc=>if mI S c then mW m else -1)) (by omega) (by
   funext n;unfold AK;by_cases e:n=0
   .subst e;rfl
   simp_all)
 have e0:List.set sj (Int.toNat 0) (ky λc=>if mI S c then mW m else -1)=cr (AK (λ_ _=>0) 0 (λc=>if mI S c then mW m else -1)):=rfl;rw [e0,show bM k m k (cr (AK (λ_ _=>0) 0 (λc=>if mI S c then mW m else -1)),0)=_ from key.1,bs];rw [key.2];rfl
theorem xJ{m:ab}(v:Vd m){B:Int->Bool}{n:Nat}{c:Int}(hn:n≤(mD m).length)(h0:0≤c)(h1:c < mC m):Fa m B n c=lE m B n c:=by
 simp_all [Fa,if_pos,xU]
end Go.Proofs.YthnacobbednnbaaGreat
set_option linter.unusedVariables false
set_option linter.unusedSimpArgs false
namespace Go.Proofs.YthnacobbednnbaaGreat
open K Go Go.Proofs
def wk{σ:Type}(bad:σ->Int->Option Int)(add:σ->Int->σ):List Int->σ->Except Int σ
 |[],s=>.ok s
 |x::l,s=>match bad s x with
  |some e=>.error e
  |none=>wk bad add l (add s x)
theorem wO{σ:Type}{bad:σ->Int->Option Int}{add:σ->Int->σ}:∀(l:List Int) (j:Nat) (s:σ),fA (λs _ x=>match bad s x with |some e=>Except.error e |none=>.ok (add s x)) j l s=wk bad add l s
 |[],j,s=>rfl
 |x::l,j,s=>by
  rw [fA,wk]
  cases bad s x with
  |some e=>rfl
  |none=>exact wO l (j+1) (add s x)
theorem vD{σ:Type}{bad:σ->Int->Option Int}{add:σ->Int->σ}:∀(a b:List Int) (s:σ),wk bad add (a++b) s=match wk bad add a s with | .error e=>.error e | .ok s'=>wk bad add b s'
 |[],b,s=>rfl
 |x::a,b,s=>by
  rw [cons_append,wk,wk]
  cases bad s x with
  |some e=>rfl
  |none=>exact vD a b (add s x)
theorem B0{σ:Type}{bad:σ->Int->Option Int}{add:σ->Int->σ}:∀(r:List (List Int)) (j:Nat) (s:σ),fA (λs _ l=>wk bad add l s) j r s=wk bad add r.flatten s
 |[],j,s=>rfl
 |l::r,j,s=>by
  rw [fA,flatten_cons,vD]
  cases wk bad add l s with
  |error e=>rfl
  |ok s'=>exact B0 r (j+1) s'
theorem FG{σ τ:Type}{b1:σ->Int->Option Int}{a1:σ->Int->σ}{b2:τ->Int->Option Int}{a2:τ->Int->τ}(R:σ->τ->Prop)(hb:∀s t x,R s t->b1 s x=b2 t x)(ha:∀s t x,R s t->b1 s x=none->R (a1 s x) (a2 t x)):
 ∀(l:List Int) (s:σ) (t:τ),R s t->(∃e,wk b1 a1 l s= .error e/\wk b2 a2 l t= .error e)\/∃s' t',wk b1 a1 l s= .ok s'/\wk b2 a2 l t= .ok t'/\R s' t'
 |[],s,t,h=>.inr ⟨s,t,rfl,rfl,h⟩
 |x::l,s,t,h=>by
  rw [wk,wk,<-hb s t x h]
  cases e:b1 s x with
  |some c=>simp_all
  |none=>exact FG R hb ha l _ _ (ha s t x h e)
theorem AD{σ:Type}{bad:σ->Int->Option Int}{add:σ->Int->σ}(P:σ->Prop)(hs:∀s x,P s->bad s x=none->P (add s x)):∀(l:List Int) (s s':σ),P s->wk bad add l s= .ok s'->P s'
 |[],s,s',h,e=>by cases e;exact h
 |x::l,s,s',h,e=>by
  rw [wk] at e
  cases hb:bad s x with
  |some c=>simp_all
  |none=>rw [hb] at e;exact AD P hs l _ s' (hs s x h hb) e
theorem kL{k:Nat}{a b c:Int}:dz k a b c=some (decide (b≤a/\a≤c)):=by
 grind [dz]
theorem Ru{n:Int}(h:1≤n/\n≤5):ck (n - 1)=some (n - 1):=by grind [du]
def Az(C:Int)(s x:Int):Option Int:=if¬(0≤x/\x < C) then some 3 else if dW s x.toNat then some 4 else none
def wE(s x:Int):Int:=CX .u8 s (oc .u8 1 x)
def BK(C:Int)(s:List Int)(x:Int):Option Int:=if¬(0≤x/\x < C) then some 3 else if x∈s then some 4 else none
def Dt(s:List Int)(x:Int):List Int:=s++[x]
theorem uh:jp 0:=⟨by decide,by decide⟩
theorem MS{C s x:Int}(h:Az C s x=none):0≤x/\x < C:=by
 unfold Az at h;grind
theorem mK{k:Nat}{s x:Int}(hs:jp s)(h0:0≤x)(h8:x < 8):fL k s x=some (wE s x)/\jp (wE s x)/\∀i:Nat,dW (wE s x) i↔dW s i\/(i:Int)=x:=by
 have h1:=NW h0 h8;have h2:=Og hs h1.1;refine⟨?_,h2.1,λi=>?_⟩
 .unfold fL;rw [dj h0,bs];rfl
 .show dW (CX .u8 s (oc .u8 1 x)) i↔_;simp_all
theorem zV{C s x:Int}(hC:C≤5)(hs:jp s)(h:Az C s x=none):jp (wE s x):=by
 have:=MS h;exact(mK (k:=0) hs this.1 (by omega)).2.1
def sf(C:Int)(r:List (List Int)):Int:=if 3 < r.length then 6 else match wk (BK C) Dt r.flatten [] with | .error e=>e | .ok _=>0
theorem EF{k:Nat}{m:ab}(hC:1≤mC m/\mC m≤5){l:List Int}(hk:l.length < k)(hl:l.length≤1000){s:Int}(hs:jp s):
 cX k m l k (s,0)=some (wk (Az (mC m)) wE l s):=by
 have key:=oe (T:=Int×Int) (f:=cX k m l) l (λ(s:Int) j=>(s,j)) (λs _ x=>match Az (mC m) s x with |some e=>Except.error e |none=>.ok (wE s x)) (λ_ s=>jp s) (λr=>some r)
  (λn s j hj hs=>by
   have hck:ck ((j:Int)+1)=some ((j:Int)+1):=du (by omega) (by omega);have hc:ck (m.1 - 1)=some (m.1 - 1):=Ru hC;refine⟨?_,λs' e=>?_⟩
   .simp only [cX,Int.ofNat_lt,hj,if_true,fP hj,bs,hc,kL];generalize l[j]=x;by_cases h:0≤x/\x < mC m
    .have h':0≤x/\x≤m.1 - 1:=⟨h.1,by grind⟩;have hh:=xt (k:=k) hs (i:=x.toNat) (by omega);have ex:((x.toNat:Nat):Int)=x:=by omega
     rw [ex] at hh;simp only [h',and_self,decide_true,not_true_eq_false,if_false,hh,bs];have eb:Az (mC m) s x=if dW s x.toNat then some 4 else none:=by unfold Az;simp_all
     rw [eb];by_cases h2:dW s x.toNat
     .simp_all
     .simp only [h2,decide_false,Bool.false_eq_true,if_false,(mK (k:=k) hs h.1 (by omega)).1,bs,hck]
    .have h':¬(0≤x/\x≤m.1 - 1):=λhh=>h ⟨hh.1,by grind⟩;have eb:Az (mC m) s x=some 3:=by unfold Az;simp_all
     simp_all
   .cases e2:Az (mC m) s l[j] with
    |some c=>simp_all
    |none=>grind [zV])
  (λn s _=>by simp [cX]) (n:=k) (s0:=s) hk hs
 simp_all [cX,wO]
theorem EG{k:Nat}{m:ab}(hC:1≤mC m/\mC m≤5){r:List (List Int)}(hk:r.length < k)(hr:r.length≤1000)(hl:∀l∈r,l.length < k/\l.length≤1000):
 cY k m r k (0,0)=some (match wk (Az (mC m)) wE r.flatten 0 with | .error e=>.error e | .ok _=>.ok ()):=by
 have key:=oe (T:=Int×Int) (f:=cY k m r) r (λ(s:Int) j=>(s,j)) (λs _ l=>wk (Az (mC m)) wE l s) (λ_ s=>jp s) (λx=>some (match x with | .error e=>Except.error e | .ok _=>.ok ()))
  (λn s j hj hs=>by
   have hck:ck ((j:Int)+1)=some ((j:Int)+1):=du (by omega) (by omega);have hlj:=hl _ (List.getElem_mem hj);refine⟨?_,λs' e=>AD jp (λs x=>zV hC.2) _ _ _ hs e⟩;simp only [cY,Int.ofNat_lt,hj,if_true,fP hj,bs,EF hC hlj.1 hlj.2 hs];cases wk (Az (mC m)) wE r[j] s with
   |error e=>rw [qR]
   |ok s'=>rw [nf,hck,bs])
  (λn s _=>by simp [cY]) (n:=k) (s0:=0) hk uh
 simp_all [cY,B0]
theorem K1{C:Int}(hC:C≤5)(l:List Int):(∃e,wk (Az C) wE l 0= .error e/\wk (BK C) Dt l []= .error e)\/∃s t,wk (Az C) wE l 0= .ok s/\wk (BK C) Dt l []= .ok t/\(jp s/\∀i:Nat,dW s i↔(i:Int)∈t):=by
 refine FG (λs t=>jp s/\∀i:Nat,dW s i↔(i:Int)∈t) (λs t x h=>?_) (λs t x h hb=>?_) l 0 [] ⟨uh,λi=>by simp [dW]⟩
 .unfold Az BK;grind
 .have hx:=MS hb;have hw:=mK (k:=0) h.1 hx.1 (by omega);simp_all [Dt]
theorem Kq{k:Nat}{m:ab}(hC:1≤mC m/\mC m≤5){r:List (List Int)}(hk:1000 < k)(hr:r.length≤1000)(hl:∀l∈r,l.length≤1000):iO k m r=some (sf (mC m) r):=by
 unfold iO sf;by_cases h3:3 < r.length
 .grind
 .rw [if_neg (by omega),if_neg h3,EG hC (by omega) hr λl hh=>⟨by grind,hl l hh⟩];rcases K1 hC.2 r.flatten with⟨e,h1,h2⟩ |⟨s,t,h1,h2,_⟩
  .simp_all [qR]
  simp_all [nf]
end Go.Proofs.YthnacobbednnbaaGreat
set_option linter.unusedVariables false
set_option linter.unusedSimpArgs false
namespace Go.Proofs.YthnacobbednnbaaGreat
open K Go Go.Proofs
theorem rC:∀(n:Nat) (l:List Int),l.Nodup->(∀x∈l,0≤x/\x < (n:Int))->l.length≤n
 |0,l,_,h=>by
  cases l with
  |nil=>simp
  |cons x l=>have:=h x (by simp);omega
 |n+1,l,hn,h=>by
  have h1:=rC n (l.erase (n:Int)) (hn.erase _) (λx hx=>by
   grind)
  grind
theorem QV{C:Int}{s:List Int}{x:Int}(h:BK C s x=none):(0≤x/\x < C)/\x∉s:=by
 unfold BK at h;grind
def Mt(C:Int)(s:List Int):Prop:=s.Nodup/\∀x∈s,0≤x/\x < C
theorem Mt.add{C:Int}{s:List Int}{x:Int}(h:Mt C s)(hb:BK C s x=none):Mt C (Dt s x):=by
 have:=QV hb;refine⟨?_,λy hy=>?_⟩
 .unfold Dt;rw [nodup_append];exact⟨h.1,by simp,λa ha b hb e=>by simp_all⟩
 .rcases List.mem_append.1 hy with hy |hy
  .exact h.2 y hy
  simp_all
theorem Mt.len{C:Int}{s:List Int}(hC:0≤C/\C≤5)(h:Mt C s):s.length≤5:=by
 have:=rC C.toNat s h.1 λx hx=>⟨(h.2 x hx).1,by have:=(h.2 x hx).2;omega⟩;omega
theorem FH{C:Int}:∀{l s t:List Int},wk (BK C) Dt l s= .ok t->t=s++l
 |[],s,t,e=>by cases e;simp
 |x::l,s,t,e=>by
  rw [wk] at e
  cases hb:BK C s x with
  |some c=>simp_all
  |none=>
   rw [hb] at e
   have:=FH e
   simp_all [Dt]
theorem Cb{C:Int}:∀{l s:List Int},(s++l).Nodup->(∀x∈l,0≤x/\x < C)->wk (BK C) Dt l s= .ok (s++l)
 |[],s,_,_=>by simp [wk]
 |x::l,s,hn,hr=>by
  have hx:x∉s:=by
   grind
  have hb:BK C s x=none:=by
   unfold BK;simp_all
  rw [wk,hb];simp only [];rw [Cb (s:=Dt s x) (by simp_all [Dt]) λy hy=>hr y (mem_cons_of_mem _ hy)];simp_all [Dt]
theorem wy{C:Int}{r:List (List Int)}:sf C r=0↔r.length≤3/\r.flatten.Nodup/\∀x∈r.flatten,0≤x/\x < C:=by
 unfold sf;constructor
 .intro h;split at h
  .cases h
  .cases e:wk (BK C) Dt r.flatten [] with
   |ok t=>
    have h1:=AD (Mt C) (λs x=>Mt.add) _ _ _ ⟨nodup_nil,λx hx=>by cases hx⟩ e;have h2:=FH e;rw [nil_append] at h2;subst h2;exact⟨by omega,h1.1,h1.2⟩
   |error c=>
    rw [e] at h;exfalso
    have:∀(l s:List Int),wk (BK C) Dt l s≠.error 0:=by
     intro l
     induction l with
     |nil=>intro s h;cases h
     |cons x l ih=>
      grind [wk,BK]
    simp_all
 .rintro⟨h1,h2,h3⟩;rw [if_neg (by omega),Cb (by simp_all) h3]
def HI(m:ab)(g:aQ):Int:=if(0≤g.1/\g.1 < mC m)/\0≤g.2.1/\g.2.1≤(mD m).length then 0 else 3
theorem Oe{k:Nat}{m:ab}(hC:1≤mC m/\mC m≤5){g:aQ}:fV k m g=some (HI m g):=by
 have hc:ck (m.1 - 1)=some (m.1 - 1):=Ru hC;unfold fV HI;have e:decide (0≤g.1/\g.1≤m.1 - 1)=decide (0≤g.1/\g.1 < mC m):=decide_eq_decide.2 ⟨λh=>⟨h.1,by grind⟩,λh=>⟨h.1,by grind⟩⟩;rw [hc,bs,kL,bs,e];by_cases h1:0≤g.1/\g.1 < mC m
 .by_cases h2:0≤g.2.1/\g.2.1≤(mD m).length <;> simp [h1,h2,kL]
 grind
def lG{α:Type}(f:α->Int)(l:List α):Int:=((l.map f).find? λe=>decide (e≠0)).getD 0
theorem rY{α:Type}(f:α->Int):∀(l:List α) (j:Nat),fA (λ(_:Unit) _ x=>if¬(f x=0) then Except.error (f x) else .ok ()) j l ()=if lG f l=0 then .ok () else .error (lG f l)
 |[],j=>by simp [fA,lG]
 |x::l,j=>by
  rw [fA]
  by_cases h:f x=0
  .
   have:lG f (x::l)=lG f l:=by simp [lG,h]
   rw [this]
   simp only [h,not_true_eq_false,if_false]
   exact rY f l (j+1)
  simp_all [lG]
theorem oO{α:Type}{f:α->Int}{l:List α}:lG f l=0↔∀x∈l,f x=0:=by
 induction l with
 |nil=>simp [lG]
 |cons x l ih=>
  grind [lG]
structure Sm(m:ab):Prop where
 d:(mD m).length≤1000
 r:∀r∈mD m,r.length≤1000/\∀l∈r,l.length≤1000
 g:(mG m).length≤1000
def lW(m:ab):Int:=
 if¬((1≤mC m/\mC m≤5)/\(0≤mW m/\mW m≤3)/\(0≤mS m/\mS m≤3)/\1≤mH m/\mH m≤3) then 1
 else if(mD m).length=0 then 7 else if 6 < (mD m).length then 6 else if¬(lG (sf (mC m)) (mD m)=0) then lG (sf (mC m)) (mD m)
 else if 8 < (mG m).length then 6 else lG (HI m) (mG m)
theorem Kr{k:Nat}{m:ab}(hs:Sm m)(hk:1000 < k):ml k m=some (lW m):=by
 unfold ml lW;simp only [kL,bs];by_cases h1:1≤mC m/\mC m≤5
 .by_cases h2:0≤mW m/\mW m≤3
  .by_cases h3:0≤mS m/\mS m≤3
   .by_cases h4:1≤mH m/\mH m≤3
    .have e1:(1≤m.1/\m.1≤5)=True:=eq_true h1;have e2:(0≤m.2.1/\m.2.1≤3)=True:=eq_true h2;have e3:(0≤m.2.2.1/\m.2.2.1≤3)=True:=eq_true h3;have e4:(1≤m.2.2.2.1/\m.2.2.2.1≤3)=True:=eq_true h4;simp only [e1,e2,e3,e4,decide_true,not_true_eq_false,if_false,Bool.not_true,Bool.false_eq_true,bs,and_self,h1,h2,h3,h4];by_cases h5:(mD m).length=0
     .simp_all
     .rw [if_neg (show¬((m.2.2.2.2.1.length:Int) < 1) by grind),if_neg h5];by_cases h6:6 < (mD m).length
      .grind
      .rw [if_neg (show¬((6:Int) < (m.2.2.2.2.1.length:Int)) by grind),if_neg h6]
       have key:=oe (f:=eQ k m) (mD m) (λ(_:Unit) j=>j) (λ_ _ x=>if¬(sf (mC m) x=0) then Except.error (sf (mC m) x) else .ok ()) (λ_ _=>True) (λr=>some r)
        (λn s j hj _=>by
         have hck:ck ((j:Int)+1)=some ((j:Int)+1):=du (by omega) (by omega);have hr:=hs.r _ (List.getElem_mem hj);refine⟨?_,λ_ _=>trivial⟩;have hj':(j:Int) < (m.2.2.2.2.1.length:Int):=Int.ofNat_lt.2 hj;have hg:aP m.2.2.2.2.1 (j:Int)=some (mD m)[j]:=fP hj;simp only [eQ,hj',if_true,hg,bs,Kq h1 hk hr.1 hr.2];grind)
        (λn s _=>by
         unfold eQ;simp_all) (n:=k) (s0:=()) (by omega) trivial
       rw [show eQ k m k 0=_ from key,rY];by_cases h7:lG (sf (mC m)) (mD m)=0
       .rw [if_pos h7,nf,show(if¬(lG (sf (mC m)) (mD m)=0) then lG (sf (mC m)) (mD m) else if 8 < (mG m).length then 6 else lG (HI m) (mG m))=(if 8 < (mG m).length then 6 else lG (HI m) (mG m)) from if_neg (λhn=>hn h7)];by_cases h8:8 < (mG m).length
        .grind
        .rw [if_neg (show¬((8:Int) < (m.2.2.2.2.2.length:Int)) by grind),if_neg h8]
         have key:=oe (f:=eP k m) (mG m) (λ(_:Unit) j=>j) (λ_ _ x=>if¬(HI m x=0) then Except.error (HI m x) else .ok ()) (λ_ _=>True) (λr=>some r)
          (λn s j hj _=>by
           have hck:ck ((j:Int)+1)=some ((j:Int)+1):=du (by omega) (by omega);refine⟨?_,λ_ _=>trivial⟩;have hj':(j:Int) < (m.2.2.2.2.2.length:Int):=Int.ofNat_lt.2 hj;have hg:aP m.2.2.2.2.2 (j:Int)=some (mG m)[j]:=fP hj;simp only [eP,hj',if_true,hg,bs,Oe h1];grind)
          (λn s _=>by
           simp_all [eP,if_neg,Int.lt_irrefl]) (n:=k) (s0:=()) (by omega) trivial
         rw [show eP k m k 0=_ from key,rY];by_cases h9:lG (HI m) (mG m)=0
         .rw [if_pos h9,nf,h9]
         .rw [if_neg h9,qR]
       .rw [if_neg h7,qR,if_pos h7]
    grind
   grind
  grind
 grind
end Go.Proofs.YthnacobbednnbaaGreat
set_option linter.unusedVariables false
set_option linter.unusedSimpArgs false
namespace Go.Proofs.YthnacobbednnbaaGreat
open K Go Go.Proofs
theorem uc{r:List (List Int)}{l:List Int}(h:r.flatten.Nodup)(hl:l∈r):l.Nodup:=by
 grind
theorem Jd{σ:Type}{bad:σ->Int->Option Int}{add:σ->Int->σ}{x:Int}{l:List Int}{s:σ}{e:Int}(h:bad s x=some e):wk bad add (x::l) s= .error e:=by rw [wk,h]
theorem Ja{σ:Type}{bad:σ->Int->Option Int}{add:σ->Int->σ}{x:Int}{l:List Int}{s:σ}(h:bad s x=none):wk bad add (x::l) s=wk bad add l (add s x):=by rw [wk,h]
theorem Vd.of{m:ab}(h:lW m=0):Vd m:=by
 unfold lW at h;by_cases h1:(1≤mC m/\mC m≤5)/\(0≤mW m/\mW m≤3)/\(0≤mS m/\mS m≤3)/\1≤mH m/\mH m≤3
 .rw [if_neg (λhn=>hn h1)] at h;by_cases h2:(mD m).length=0
  .omega
  .rw [if_neg h2] at h;by_cases h3:6 < (mD m).length
   .omega
   .rw [if_neg h3] at h;by_cases h4:lG (sf (mC m)) (mD m)=0
    .rw [if_neg (λhn=>hn h4)] at h;by_cases h5:8 < (mG m).length
     .omega
     .rw [if_neg h5] at h;have hd:=λr hr=>wy.1 (oO.1 h4 r hr);have hx:∀r∈mD m,∀l∈r,∀x∈l,0≤x/\x < mC m:=λr hr l hl x hx=>(hd r hr).2.2 x (List.mem_flatten.2 ⟨l,hl,hx⟩)
      exact⟨h1.1.1,h1.1.2,h1.2.1.1,h1.2.1.2,h1.2.2.1.1,h1.2.2.1.2,h1.2.2.2.1,h1.2.2.2.2,by omega,by omega,λr hr=>(hd r hr).1,λr hr l hl=>by
       have hn:l.Nodup:=uc (hd r hr).2.1 hl;have:=rC (mC m).toNat l hn λx hxx=>by grind
       omega,hx,λr hr=>(hd r hr).2.1,by omega,λg hg=>by
        grind [oO,HI]⟩
    omega
 omega
theorem Vd.chk{m:ab}(v:Vd m):lW m=0:=by
 unfold lW;have h1:(1≤mC m/\mC m≤5)/\(0≤mW m/\mW m≤3)/\(0≤mS m/\mS m≤3)/\1≤mH m/\mH m≤3:=⟨⟨v.c1,v.c5⟩,⟨v.w0,v.w3⟩,⟨v.s0,v.s3⟩,v.h1,v.h3⟩
 have h4:lG (sf (mC m)) (mD m)=0:=oO.2 λr hr=>wy.2 ⟨v.r3 r hr,v.nd r hr,λx hx=>by
  obtain⟨l,hl,hx⟩:=List.mem_flatten.1 hx;exact v.x5 r hr l hl x hx⟩
 have h9:lG (HI m) (mG m)=0:=oO.2 λg hg=>by
  have:=v.gl g hg;unfold HI;omega
 have d1:=v.d1;have d6:=v.d6;have g8:=v.g8;omega
theorem Vd.sm{m:ab}(v:Vd m):Sm m:=⟨by have:=v.d6;omega,λr hr=>⟨by have:=v.r3 r hr;omega,λl hl=>by have:=v.l5 r hr l hl;omega⟩,by have:=v.g8;omega⟩
def uV(C:Int)(p:Option Int)(x:Int):Option Int:=if¬(0≤x/\x < C) then some 3 else if p.any (λy=>decide (x≤y)) then some 5 else none
def Ln(C:Int)(p:Option Int×Int)(x:Int):Option Int:=uV C p.1 x
def Pi(p:Option Int×Int)(x:Int):Option Int×Int:=(some x,wE p.2 x)
def Lx(p:Option Int)(x:Int):Option Int:=some x
def sw(C:Int)(b:List Int):Int:=match wk (uV C) Lx b none with | .error e=>e | .ok _=>0
def cI(b:List Int):Int:=b.foldl wE 0
theorem MU{C:Int}{p:Option Int}{x:Int}(h:uV C p x=none):(0≤x/\x < C)/\p.any (λy=>decide (x≤y))=false:=by
 unfold uV at h;grind
theorem Dm{C:Int}:∀(b:List Int) (p:Option Int) (s:Int),(∃e,wk (Ln C) Pi b (p,s)= .error e/\wk (uV C) Lx b p= .error e)\/∃q,wk (Ln C) Pi b (p,s)= .ok (q,b.foldl wE s)/\wk (uV C) Lx b p= .ok q
 |[],p,s=>.inr ⟨p,rfl,rfl⟩
 |x::b,p,s=>by
  cases e:uV C p x with
  |some c=>exact .inl ⟨c,Jd e,Jd e⟩
  |none=>
   rw [Ja (bad:=Ln C) (s:=(p,s)) (x:=x) e,Ja e]
   exact Dm (C:=C) b (some x) (wE s x)
theorem ze{k:Nat}{m:ab}(hC:1≤mC m/\mC m≤5){b:List Int}(hk:b.length < k)(hb:b.length≤1000):
 eM k m b k (0,0)=some (if sw (mC m) b=0 then .ok (cI b) else .error (none,0,sw (mC m) b)):=by
 have key:=oe (T:=Int×Int) (f:=eM k m b) b (λ(s:Option Int×Int) j=>(s.2,j)) (λs _ x=>match Ln (mC m) s x with |some e=>Except.error e |none=>.ok (Pi s x)) (λj s=>jp s.2/\s.1=if j=0 then none else b[j-1]?) (λr=>some (match r with | .error e=>Except.error (none,0,e) | .ok s=>.ok s.2))
  (λn s j hj hs=>by
   have hck:ck ((j:Int)+1)=some ((j:Int)+1):=du (by omega) (by omega);have hc:ck (m.1 - 1)=some (m.1 - 1):=Ru hC;refine⟨?_,λs' e=>?_⟩
   .simp only [eM,Int.ofNat_lt,hj,if_true,fP hj,bs,hc,kL];generalize b[j]=x;rw [show Ln (mC m) s x=uV (mC m) s.1 x from rfl];by_cases h:0≤x/\x < mC m
    .have h':0≤x/\x≤m.1 - 1:=⟨h.1,by grind⟩;have eb:uV (mC m) s.1 x=if s.1.any (λy=>decide (x≤y)) then some 5 else none:=by unfold uV;simp_all
     have ep:(if(0:Int) < (j:Int) then((ck ((j:Int) - 1)).bind λx12=>(aP b x12).bind λx13=>some (decide (x≤x13))) else some false)=some (s.1.any λy=>decide (x≤y)):=by
      rw [hs.2];by_cases h0:j=0
      .simp_all
      .have c1:ck ((j:Int) - 1)=some ((j - 1:Nat):Int):=by grind [du]
       rw [if_pos (by omega),c1,bs,fP (by omega),bs,if_neg h0,List.getElem?_eq_getElem (by omega)];rfl
     rw [eb];simp only [h',and_self,decide_true,not_true_eq_false,if_false,bs];rw [ep,bs];cases s.1.any λy=>decide (x≤y) with
     |true=>simp_all
     |false=>
      simp only [Bool.false_eq_true,if_false,(mK (k:=k) hs.1 h.1 (by omega)).1,bs,hck];rfl
    .have h':¬(0≤x/\x≤m.1 - 1):=λhh=>h ⟨hh.1,by grind⟩;have eb:uV (mC m) s.1 x=some 3:=by unfold uV;simp_all
     simp_all
   .cases e2:Ln (mC m) s b[j] with
    |some c=>simp_all
    |none=>
     rw [e2] at e;cases e;have hx:=MU e2;exact⟨(mK (k:=0) hs.1 hx.1.1 (by omega)).2.1,by show some b[j]=if j+1=0 then none else b[j+1 - 1]?;simp_all⟩)
  (λn s _=>by simp [eM]) (n:=k) (s0:=(none,0)) hk ⟨uh,rfl⟩
 rw [show eM k m b k (0,0)=_ from key]
 have e1:fA (λ(s:Option Int×Int) _ x=>match Ln (mC m) s x with |some e=>Except.error e |none=>.ok (Pi s x)) 0 b (none,0)=wk (Ln (mC m)) Pi b (none,0):=wO (bad:=Ln (mC m)) (add:=Pi) b 0 (none,0)
 rw [e1]
 unfold sw
 have z:∀(l:List Int) (p:Option Int),wk (uV (mC m)) Lx l p≠.error 0:=by
  intro l
  induction l with
  |nil=>intro p h;cases h
  |cons x l ih=>
   intro p h;rw [wk] at h;cases hb:uV (mC m) p x with
   |some c=>
    grind [uV]
   |none=>grind
 rcases Dm (C:=mC m) b none 0 with⟨e,h1,h2⟩ |⟨q,h1,h2⟩
 .
  grind
 .
  rw [h1,h2];rfl
end Go.Proofs.YthnacobbednnbaaGreat
set_option linter.unusedVariables false
set_option linter.unusedSimpArgs false
namespace Go.Proofs.YthnacobbednnbaaGreat
open K Go Go.Proofs
theorem yJ{C:Int}(hC:C≤5):∀(b:List Int) (s:Int),jp s->(∀x∈b,0≤x/\x < C)->jp (b.foldl wE s)/\∀i:Nat,dW (b.foldl wE s) i↔dW s i\/(i:Int)∈b
 |[],s,hs,_=>⟨hs,λi=>by simp⟩
 |x::b,s,hs,hb=>by
  have hx:=hb x mem_cons_self
  have hw:=mK (k:=0) hs hx.1 (by omega)
  have:=yJ hC b (wE s x) hw.2.1 λy hy=>hb y (mem_cons_of_mem _ hy)
  grind
structure Bg(C:Int)(b:List Int):Prop where
 rng:∀x∈b,0≤x/\x < C
 asc:b.Pairwise (· < ·)
theorem AG{C:Int}:∀{b:List Int} {p:Option Int},(∃q,wk (uV C) Lx b p= .ok q)↔(∀x∈b,0≤x/\x < C)/\b.Pairwise (· < ·)/\∀y,p=some y->∀x∈b.head?,y < x
 |[],p=>by simp [wk]
 |x::b,p=>by
  cases e:uV C p x with
  |some c=>
   rw [Jd e]
   constructor
   .
    simp_all
   .
    rintro⟨h1,h2,h3⟩
    exfalso
    unfold uV at e
    rw [if_neg (λhn=>hn (h1 x mem_cons_self))] at e
    cases p with
    |none=>cases e
    |some y=>
     have:=h3 y rfl x (by simp)
     grind
  |none=>
   have hx:=MU e
   rw [Ja e,AG (b:=b) (p:=Lx p x)]
   constructor
   .
    rintro⟨h1,h2,h3⟩
    refine⟨λy hy=>?_,?_,λy hy z hz=>?_⟩
    .
     grind
    .
     rw [pairwise_cons]
     refine⟨λy hy=>?_,h2⟩
     cases b with
     |nil=>cases hy
     |cons z b=>
      have hz:=h3 x rfl z (by simp)
      grind [pairwise_cons]
    simp_all
   simp_all [pairwise_cons,mem_cons_of_mem,Lx,mem_of_mem_head?]
theorem Do{C:Int}:∀{l:List Int} {p:Option Int},wk (uV C) Lx l p≠.error 0
 |[],p,h=>by cases h
 |x::l,p,h=>by
  cases hb:uV C p x with
  |some c=>
   rw [Jd hb] at h
   grind [uV]
  |none=>rw [Ja hb] at h;exact Do h
theorem o0{C:Int}{b:List Int}:sw C b=0↔Bg C b:=by
 unfold sw;constructor
 .intro h;cases e:wk (uV C) Lx b none with
  |error c=>simp_all [Do]
  |ok q=>have:=AG.1 ⟨q,e⟩;exact⟨this.1,this.2.1⟩
 .rintro⟨h1,h2⟩;obtain⟨q,e⟩:=(AG (p:=none)).2 ⟨h1,h2,λy hy=>by cases hy⟩;rw [e]
theorem Bg.set{C:Int}(hC:C≤5){b:List Int}(h:Bg C b):jp (cI b)/\∀c:Int,0≤c->mI (cI b) c=decide (c∈b):=by
 have:=yJ hC b 0 uh h.rng;refine⟨this.1,λc hc=>?_⟩;unfold mI;have e:((c.toNat:Nat):Int)=c:=by omega
 have h2:=this.2 c.toNat;rw [e] at h2;refine decide_eq_decide.2 ?_;show dW (b.foldl wE 0) c.toNat↔_;simp_all [dW]
def uU(m:ab)(i:Nat):Int:=match i with |0=>mC m - 1 |1=>((mD m).length:Int) - 1 |_=>(mD m).length
def yk(n:Int)(l:List Int):Bool:=l.all λx=>decide (0≤x/\x≤n)
theorem pE{k:Nat}{m:ab}(v:Vd m){i:Nat}(hi:i < 3){l:List Int}(hk:l.length < k)(hl:l.length≤1000):
 dp k m (i:Int) l k 0=some (if yk (uU m i) l then .ok () else .error (none,0,3)):=by
 have c1:=v.c1
 have c5:=v.c5
 have d6:=v.d6
 have d1:=v.d1
 have key:=oe (T:=Int) (f:=dp k m (i:Int) l) l (λ(_:Unit) j=>j) (λ_ _ x=>if 0≤x/\x≤uU m i then .ok () else Except.error ((none,0,3):Option ab×Int×Int)) (λ_ _=>True) (λr=>some r)
  (λn s j hj _=>by
   have hck:ck ((j:Int)+1)=some ((j:Int)+1):=du (by omega) (by omega);have hc:ck (m.1 - 1)=some (mC m - 1):=Ru ⟨c1,c5⟩;have hd:ck ((m.2.2.2.2.1.length:Int) - 1)=some (((mD m).length:Int) - 1):=du (by omega) (by grind)
   have hg:aP [mC m - 1,((mD m).length:Int) - 1,((mD m).length:Int)] (i:Int)=some (uU m i):=by
    have:i=0\/i=1\/i=2:=by omega
    rcases this with rfl |rfl |rfl <;> rfl
   refine⟨?_,λ_ _=>trivial⟩;simp only [dp,Int.ofNat_lt,hj,if_true,fP hj,bs,hc,hd];rw [show aP [mC m - 1,((mD m).length:Int) - 1,(m.2.2.2.2.1.length:Int)] (i:Int)=some (uU m i) from hg,bs,kL,bs];grind)
  (λn s _=>by simp [dp]) (n:=k) (s0:=()) hk trivial
 rw [show dp k m (i:Int) l k 0=_ from key]
 congr 1
 have:∀(l:List Int) (j:Nat),fA (λ(_:Unit) _ x=>if 0≤x/\x≤uU m i then .ok () else Except.error ((none,0,3):Option ab×Int×Int)) j l ()=if yk (uU m i) l then .ok () else .error (none,0,3):=by
  intro l
  induction l with
  |nil=>intro j;rfl
  |cons x l ih=>
   intro j;rw [fA];by_cases h:0≤x/\x≤uU m i
   .simp_all [if_pos,yk,uU,all_cons,and_self,decide_true,Bool.true_and]
   .rw [if_neg h];have:yk (uU m i) (x::l)=false:=by simp only [yk,all_cons,h,decide_false,Bool.false_and]
    simp_all
 simp_all
theorem yx{k:Nat}{m:ab}(v:Vd m)(hk:10≤k):∀n:Nat,n≤32->vC k m n=some ()
 |0,_=>rfl
 |n+1,h=>by
  have e:IntKind.u8.wrap (n:Int)=(n:Int):=ta (by omega)
  unfold vC
  rw [yx v hk n (by omega),bs,e,oR v hk ⟨by omega,by omega⟩,bs]
theorem Jh{k:Nat}{m:ab}(v:Vd m)(hk:10≤k):ek k m=some ():=by
 have c1:=v.c1;have c5:=v.c5;unfold ek
 have hc:m.1=1\/m.1=2\/m.1=3\/m.1=4\/m.1=5:=by
  grind
 have e:0≤oc .i64 1 m.1/\oc .i64 1 m.1≤32:=by
  rcases hc with h |h |h |h |h <;> rw [h] <;> decide
 rw [if_pos ⟨by omega,by omega⟩];simp_all [yx]
def MF(m:ab)(cs ds ns:List Int):Bool:=yk (uU m 0) cs && yk (uU m 1) ds && yk (uU m 2) ns
theorem ud{k:Nat}{m:ab}{b cs ds ns:List Int}(hs:Sm m)(hk:1010≤k)(hb:b.length≤1000)(h1:cs.length≤1000)(h2:ds.length≤1000)(h3:ns.length≤1000):
 jG k m b cs ds ns=some (if¬(lW m=0) then(none,0,lW m) else if¬(sw (mC m) b=0) then(none,0,sw (mC m) b) else if MF m cs ds ns then(some m,cI b,0) else(none,0,3)):=by
 unfold jG
 rw [Kr hs (by omega),bs]
 by_cases hc:lW m=0
 .
  have v:=Vd.of hc;rw [if_neg (λhn=>hn hc),if_neg (λhn=>hn hc),ze ⟨v.c1,v.c5⟩ (by omega) hb];by_cases hg:sw (mC m) b=0
  .rw [if_pos hg,nf,if_neg (λhn=>hn hg)];obtain⟨n,rfl⟩:∃n,k=n+4:=⟨k - 4,by omega⟩;have e0:=pE v (k:=n+4) (i:=0) (by omega) (l:=cs) (by omega) h1;have e1:=pE v (k:=n+4) (i:=1) (by omega) (l:=ds) (by omega) h2;have e2:=pE v (k:=n+4) (i:=2) (by omega) (l:=ns) (by omega) h3;have g0:aP [cs,ds,ns] (0:Int)=some cs:=rfl;have g1:aP [cs,ds,ns] (1:Int)=some ds:=rfl;have g2:aP [cs,ds,ns] (2:Int)=some ns:=rfl;have k0:ck ((0:Int)+1)=some 1:=rfl;have k1:ck ((1:Int)+1)=some 2:=rfl;have k2:ck ((2:Int)+1)=some 3:=rfl;have ln:(([cs,ds,ns]:List (List Int)).length:Int)=3:=rfl
   have s0:cN (n+4) m cs ds ns (n+4) 0=if yk (uU m 0) cs then cN (n+4) m cs ds ns (n+3) 1 else some (.error (none,0,3)):=by
    rw [cN,ln,if_pos (by decide),g0,bs,show dp (n+4) m 0 cs (n+4) 0=_ from e0];cases yk (uU m 0) cs with
    |true=>simp_all [if_true,nf,bs]
    |false=>simp_all [Bool.false_eq_true,if_false,qR]
   have s1:cN (n+4) m cs ds ns (n+3) 1=if yk (uU m 1) ds then cN (n+4) m cs ds ns (n+2) 2 else some (.error (none,0,3)):=by
    rw [cN,ln,if_pos (by decide),g1,bs,show dp (n+4) m 1 ds (n+4) 0=_ from e1];cases yk (uU m 1) ds with
    |true=>simp_all [if_true,nf,bs]
    |false=>simp_all [Bool.false_eq_true,if_false,qR]
   have s2:cN (n+4) m cs ds ns (n+2) 2=if yk (uU m 2) ns then cN (n+4) m cs ds ns (n+1) 3 else some (.error (none,0,3)):=by
    rw [cN,ln,if_pos (by decide),g2,bs,show dp (n+4) m 2 ns (n+4) 0=_ from e2];cases yk (uU m 2) ns with
    |true=>simp_all [if_true,nf,bs]
    |false=>simp_all [Bool.false_eq_true,if_false,qR]
   have s3:cN (n+4) m cs ds ns (n+1) 3=some (.ok ()):=by
    rw [cN,ln,if_neg (by decide)]
   rw [s0,s1,s2,s3];unfold MF
   have fin:((iM (n+4) m).bind λr32=>f8 r32 none (λq33=>(ek (n+4) q33).bind λr35=>some (some q33,cI b,(0:Int))))=some (some m,cI b,0):=by
    grind [iM,bs,qO,Jh]
   cases yk (uU m 0) cs with
   |false=>simp_all [Bool.false_eq_true,if_false,Bool.false_and,qR]
   |true=>
    cases yk (uU m 1) ds with
    |false=>simp_all [if_true,Bool.false_eq_true,if_false,Bool.true_and,Bool.false_and,qR]
    |true=>
     cases yk (uU m 2) ns with
     |false=>simp_all [if_true,Bool.false_eq_true,if_false,Bool.true_and,Bool.and_false,qR]
     |true=>simp_all [if_true,Bool.true_and,nf]
  .rw [if_neg hg,qR,if_pos hg]
 simp_all
end Go.Proofs.YthnacobbednnbaaGreat
set_option linter.unusedVariables false
set_option linter.unusedSimpArgs false
namespace Go.Proofs.YthnacobbednnbaaGreat
open K Go Go.Proofs
def nO(m:ab)(B:Int->Bool)(n:Nat):List Int:=(List.range (mC m).toNat).map λ(c:Nat)=>lE m B n (c:Int)
def kw(m:ab)(B:Int->Bool):List (List Int):=(List.range ((mD m).length+1)).map (nO m B)
theorem Gn{m:ab}{B:Int->Bool}{n:Nat}{c:Int}(h0:0≤c)(h1:c < mC m):aP (nO m B n) c=some (lE m B n c):=by
 unfold nO;rw [aP,if_pos h0,List.getElem?_map,List.getElem?_range (by omega)];grind
theorem wz{m:ab}{B:Int->Bool}{n:Nat}(h:n≤(mD m).length):aP (kw m B) (n:Int)=some (nO m B n):=by
 unfold kw;rw [aP,if_pos (by omega),List.getElem?_map,Int.toNat_natCast,List.getElem?_range (by omega)];rfl
theorem FZ{f:Int->Int}{C:Int}(h0:0≤C)(h5:C≤5):List.take C.toNat (ky f)=(List.range C.toNat).map λ(c:Nat)=>f (c:Int):=by
 have:C=0\/C=1\/C=2\/C=3\/C=4\/C=5:=by omega
 rcases this with rfl |rfl |rfl |rfl |rfl |rfl <;> rfl
theorem Bl{k:Nat}{m:ab}{b:List Int}(hs:Sm m)(hk:1010≤k)(hb:b.length≤1000):
 jg k m b=some (if¬(lW m=0) then([],lW m) else if¬(sw (mC m) b=0) then([],sw (mC m) b) else(kw m λc=>decide (c∈b),0)):=by
 unfold jg
 rw [ud hs hk hb (by simp) (by simp) (by simp),bs]
 by_cases hc:lW m=0
 .
  have v:=Vd.of hc;by_cases hg:sw (mC m) b=0
  .have hB:=(o0.1 hg).set v.c5;have ho:MF m [] [] []=true:=rfl;have c1:=v.c1;have c5:=v.c5;have d6:=v.d6;simp only [hc,hg,ho,not_true_eq_false,if_false,if_true,qO];rw [oR v (by omega) hB.1,bs]
   have hd:ck ((m.2.2.2.2.1.length:Int)+1)=some (((mD m).length+1:Nat):Int):=by
    rw [du (by omega) (by grind)];rfl
   rw [hd,bs]
   have key:=fW (T:=List (List Int)×Int) (f:=d4 k m (cr (Fa m (mI (cI b)))) (((mD m).length+1:Nat):Int)) (List.range ((mD m).length+1)) (λ(s:List (List Int)) j=>(s,j)) (λs j _=>s++[nO m (mI (cI b)) j]) (λj s=>s=(List.range j).map (nO m (mI (cI b)))) (λs=>some s)
    (λn s j hj hs=>by
     rw [length_range] at hj;have hck:ck ((j:Int)+1)=some ((j:Int)+1):=du (by omega) (by omega);have hjlt:(j:Int) < (((mD m).length+1:Nat):Int):=by omega
     have hp:cH (0≤m.1/\m.1≤5)=some ():=dj ⟨by grind,c5⟩
     have ht:List.take (Int.toNat m.1) (ky (Fa m (mI (cI b)) j))=nO m (mI (cI b)) j:=by
      rw [FZ (by omega) c5];unfold nO;refine List.map_congr_left λc hc=>?_;have:=List.mem_range.1 hc;exact xJ v (by omega) (by omega) (by omega)
     have hl:(nO m (mI (cI b)) j).length≤5:=by grind
     have hsl:s.length=j:=by simp_all
     have hcl:hJ k (nO m (mI (cI b)) j)=some (nO m (mI (cI b)) j):=by
      unfold hJ;rw [dj (by show _≤_;omega),bs]
     have hok:cH (bJ (length s+length [nO m (mI (cI b)) j]))=some ():=dj (by grind [bJ]);refine⟨?_,?_⟩
     .simp only [d4,hjlt,if_true,xK (F:=Fa m (mI (cI b))) (show j < 7 by omega),bs,hp,ht,hcl,hok,hck]
     simp_all [List.range_succ,List.map_append])
    (λn s hs=>by
     simp_all [length_range,d4,if_neg,Int.lt_irrefl]) (n:=k) (s0:=[]) (by grind) rfl
   rw [show d4 k m (cr (Fa m (mI (cI b)))) (((mD m).length+1:Nat):Int) k ([],0)=_ from key.1,bs,key.2,length_range]
   have hcs:(List.range ((mD m).length+1)).map (nO m (mI (cI b)))=kw m λc=>decide (c∈b):=by
    unfold kw;refine List.map_congr_left λn hn=>?_;unfold nO;refine List.map_congr_left λc hc=>?_
    have hage:∀(n:Nat) (c:Int),0≤c->c < mC m->lE m (mI (cI b)) n c=lE m (λc=>decide (c∈b)) n c:=by
     intro n
     induction n with
     |zero=>simp_all [lE]
     |succ n ih=>
      intro c h0 h1;unfold lE;cases e:zU m n c with
      |none=>simp_all
      |some l=>
       have hb:=(uD v e).2;grind
    simp_all
   rw [hcs]
  simp_all [not_true_eq_false,not_false_eq_true,if_false,if_true,lQ]
 simp_all [not_false_eq_true,if_true,lQ]
end Go.Proofs.YthnacobbednnbaaGreat
set_option linter.unusedVariables false
set_option linter.unusedSimpArgs false
namespace Go.Proofs.YthnacobbednnbaaGreat
open K Go Go.Proofs
theorem Lo.mono{l:bp}{m n:Int}(h:Lo l m)(hn:m≤n):Lo l n:=⟨h.1,Int.le_trans h.2 hn⟩
theorem RP{α:Type}{l:List α}{x:α}{n:Nat}(h:l.length≤n)(hn:n≤1000000):bJ (length l+length [x]):=by
 show length l+length [x]≤4294967296;grind
theorem Bj{k:Nat}(hk:50≤k){l:bp}{m:Int}{n:Nat}(hl:Lo l m)(hm:0≤m/\m≤1000)(hn:n≤8):W (gG k l (n:Int)) λr=>Lo r.2 (m+10)/\r.1.length=n/\(∀x∈r.1,0≤x/\x < (n:Int))/\r.1.Nodup:=by
 unfold gG;refine W.bind (R:=λr=>Lo (r.2.1,r.2.2.1,r.2.2.2) (m+10)/\r.1.length=n/\(∀x∈r.1,0≤x/\x < (n:Int))/\r.1.Nodup) ?_ λr h=>W.ret h
 refine W.loop (f:=dQ k (n:Int)) (λq y=>∃j:Nat,y.2.2.2.2=(j:Int)/\j≤n/\q=n - j/\Lo (y.1,y.2.1,y.2.2.1) (m+j)/\y.2.2.2.1.length=j/\(∀x∈y.2.2.2.1,0≤x/\x < (j:Int))/\y.2.2.2.1.Nodup) ?_ n k _ (by omega)
  ⟨0,rfl,by omega,by omega,by simp_all,rfl,by simp,by simp⟩
 rintro aK q ⟨nums,d,s,o,y⟩ ⟨j,hj,hle,hq,hlo,hlen,hx,hnd⟩ ih;simp only at hj hlo hlen hx hnd;subst hj;unfold dQ;dsimp only;refine W.ite (λhlt=>?_) (λhge=>W.ret ⟨hlo.mono (by omega),by grind,λx hx'=>by grind,hnd⟩);obtain⟨r5,e5,a5,b5,c5⟩:=jr (k:=k) (n:=(j:Int)) hlo (by omega) (by omega);have b5:=b5 (by omega);have ho:(o++[(j:Int)]).length=j+1:=by simp [hlen]
 have hr5:r5.1.toNat < (o++[(j:Int)]).length:=by omega
 have hjl:j < (o++[(j:Int)]).length:=by omega
 have hgj:(o++[(j:Int)])[j]=(j:Int):=by
  grind
 rw [e5,bs,dj (RP (n:=8) (by omega) (by omega)),bs,xu a5 hr5,bs,fP (by omega),bs];have hgs:aP (List.set (o++[(j:Int)]) (Int.toNat (j:Int)) (o++[(j:Int)])[r5.1.toNat]) r5.1=some ((List.set (o++[(j:Int)]) (Int.toNat (j:Int)) (o++[(j:Int)])[r5.1.toNat])[r5.1.toNat]'(by grind)):=xu a5 (by grind);rw [hgs,bs,du (by omega) (by omega),bs]
 have hp:(List.set (List.set (o++[(j:Int)]) (Int.toNat (j:Int)) (o++[(j:Int)])[r5.1.toNat]) (Int.toNat r5.1) (j:Int)).Perm (o++[(j:Int)]):=by
  have:= @set_set_perm Int (o++[(j:Int)]) j r5.1.toNat hjl hr5;rw [hgj] at this;exact this
 refine ih (q - 1) (_,_,_,_,(j:Int)+1) (by omega) ⟨j+1,by grind,by omega,by omega,c5.mono (by omega),by simp [hlen],λx hx'=>?_,hp.nodup_iff.2 ?_⟩
 .grind
 grind
theorem HU{out:List (List Int)}{i:Nat}{x:Int}(h:i < out.length):(out.set i (out[i]++[x])).flatten.Perm (out.flatten++[x]):=by
 have e1:out=out.take i++out[i]::out.drop (i+1):=by simp_all
 grind
structure Rl(C:Int)(r:List (List Int)):Prop where
 r3:r.length≤3
 x5:∀l∈r,∀x∈l,0≤x/\x < C
 nd:r.flatten.Nodup
theorem Rl.l5{C:Int}(hC:0≤C/\C≤5){r:List (List Int)}(h:Rl C r):∀l∈r,l.length≤5:=λl hl=>by
 have:=rC C.toNat l (uc h.nd hl) λx hx=>by have:=h.x5 l hl x hx;omega
 omega
theorem Gx{k:Nat}(hk:50≤k){l:bp}{m:Int}{n:Nat}(hl:Lo l m)(hm:0≤m/\m≤900)(hn:n≤5):
 W (jJ k l (n:Int)) λr=>Lo r.2 (m+30)/\Rl (n:Int) r.1:=by
 unfold jJ
 refine W.bind (CY (l:=(l.1,l.2.1,l.2.2)) hl (by omega) (by omega) (by omega) (by omega)) λr1 h1=>?_
 refine W.chk ⟨by omega,by show _≤_;omega⟩ ?_
 refine W.bind (Bj hk (l:=(r1.2.1,r1.2.2.1,r1.2.2.2)) (m:=m+1) (n:=n) h1.2.2 (by omega) (by omega)) λr4 h4=>?_
 obtain⟨lo4,len4,rng4,nd4⟩:=h4
 refine W.bind (R:=λx=>Lo (x.1,x.2.1,x.2.2.1) (m+30)/\Rl (n:Int) x.2.2.2) ?_ λx hx=>W.ret hx
 refine W.loop (f:=fa k r4) (λq y=>∃j:Nat,y.2.2.2.1=(j:Int)/\j≤n/\q=n - j/\Lo (y.1,y.2.1,y.2.2.1) (m+11+2 * j)/\y.2.2.2.2.length=r1.1.toNat/\(∀x∈y.2.2.2.2.flatten,x∈r4.1.take j)/\y.2.2.2.2.flatten.Nodup) ?_ n k _ (by omega)
  ⟨0,rfl,by omega,by omega,lo4.mono (by omega),by simp,by simp,by simp⟩
 rintro aK q ⟨nums,d,s,y,out⟩ ⟨j,hj,hle,hq,hlo,hlen,hx,hnd⟩ ih
 simp only at hj hlo hlen hx hnd
 subst hj
 unfold fa
 dsimp only
 refine W.ite (λhlt=>?_) (λhge=>W.ret ⟨hlo.mono (by omega),by grind,λl hl x hxx=>rng4 x (mem_of_mem_take (hx x (List.mem_flatten.2 ⟨l,hl,hxx⟩))),hnd⟩)
 have hj:j < r4.1.length:=by omega
 have hsub:∀x∈r4.1.take j,x∈r4.1.take (j+1):=λx hh=>by grind
 refine W.bind (R:=λx=>Lo (x.1,x.2.1,x.2.2.1) (m+11+2 * j+2)/\x.2.2.2.length=r1.1.toNat/\(∀z∈x.2.2.2.flatten,z∈r4.1.take (j+1))/\x.2.2.2.flatten.Nodup) ?_ λx9 h9=>?_
 .
  refine W.bind (ti (l:=(nums,d,s)) hlo (by omega) (by omega) (by omega)) λr11 h11=>?_;refine W.ite (λ_=>W.ret ⟨h11.mono (by omega),hlen,λz hz=>hsub z (hx z hz),hnd⟩) (λ_=>?_);refine W.ck (by omega) (by omega) ?_;refine W.bind (jr (l:=(r11.2.1,r11.2.2.1,r11.2.2.2)) h11 (by omega) (by omega)) λr13 h13=>?_;have b13:=h13.2.1 (by omega);have hi:r13.1.toNat < out.length:=by omega
  rw [xu h13.1 hi,bs,fP hj,bs]
  have hxj:r4.1[j]∉out.flatten:=λhin=>by
   grind [List.getElem_of_mem,length_take,getElem_inj]
  have hlen2:(out[r13.1.toNat]).length≤5:=by
   have:=rC n _ (uc hnd (List.getElem_mem hi)) λx hxx=>rng4 x (mem_of_mem_take (hx x (List.mem_flatten.2 ⟨_,List.getElem_mem hi,hxx⟩)));omega
  rw [dj (by grind [bJ]),bs];have hp:=HU (x:=r4.1[j]) hi;refine W.ret ⟨h13.2.2.mono (by omega),by grind,λz hz=>?_,hp.nodup_iff.2 ?_⟩
  .grind [List.mem_singleton,take_add_one,List.getElem?_eq_getElem,List.mem_append_right]
  grind
 .
  refine W.ck (by omega) (by omega) ?_;exact ih (q - 1) (_,_,_,(j:Int)+1,_) (by omega) ⟨j+1,by grind,by omega,by omega,h9.1.mono (by omega),h9.2⟩
end Go.Proofs.YthnacobbednnbaaGreat
set_option linter.unusedVariables false
set_option linter.unusedSimpArgs false
namespace Go.Proofs.YthnacobbednnbaaGreat
open K Go Go.Proofs
theorem LG{c w s h:Int}{ds:List (List (List Int))}(hc:1≤c/\c≤5)(hw:0≤w/\w≤3)(hs:0≤s/\s≤3)(hh:1≤h/\h≤3)(d1:1≤ds.length)(d6:ds.length≤6)(hr:∀r∈ds,Rl c r):Vd (c,w,s,h,ds,[]):=
 ⟨hc.1,hc.2,hw.1,hw.2,hs.1,hs.2,hh.1,hh.2,d1,d6,λr h=>(hr r h).r3,λr h=>(hr r h).l5 ⟨by omega,hc.2⟩,λr h=>(hr r h).x5,λr h=>(hr r h).nd,by simp [mG],λg hg=>by cases hg⟩
theorem BF{k:Nat}{l:List Int}(h:l.length≤1000000):iS k l=some l:=by
 grind [iS,dj,Ub,length_nil,bs]
theorem sR{k:Nat}{l:List (List Int)}(hk:l.length < k)(h1:l.length≤1000000)(h2:∀x∈l,x.length≤1000000):f6 k l=some l:=by
 unfold f6
 have key:=fW (T:=List (List Int)×Int) (f:=dB k l) l (λ(s:List (List Int)) j=>(s,j)) (λs j x=>s++[x]) (λj s=>s=l.take j) (λs=>some s)
  (λn s j hj hs=>by
   have hck:ck ((j:Int)+1)=some ((j:Int)+1):=du (by omega) (by omega);have hl:s.length=j:=by grind
   have hok:cH (bJ (length s+length [l[j]]))=some ():=dj (by grind [bJ]);refine⟨?_,?_⟩
   .simp_all [dB,Int.ofNat_lt,if_true,fP,bs,BF,List.getElem_mem]
   simp_all)
  (λn s hs=>by
   unfold dB;simp_all) (n:=k) (s0:=[]) hk (by simp)
 simp_all
theorem Bi{k:Nat}(hk:50≤k){l:bp}{m:Int}{cs ds:Int}(hl:Lo l m)(hm:0≤m/\m≤400)(hc:1≤cs/\cs≤5)(hd:1≤ds/\ds≤6):
 W (jK k l cs ds) λr=>Lo r.2 (m+250)/\Vd r.1/\mG r.1=[]/\mC r.1≤cs/\((mD r.1).length:Int)≤ds:=by
 unfold jK
 refine W.bind (CY (l:=(l.1,l.2.1,l.2.2)) hl (by omega) (by omega) (by omega) (by omega)) λr2 h2=>?_
 refine W.bind (jr (l:=(r2.2.1,r2.2.2.1,r2.2.2.2)) h2.2.2 (by omega) (by omega)) λr3 h3=>?_
 have b3:=h3.2.1 (by omega)
 refine W.bind (GM (l:=(r3.2.1,r3.2.2.1,r3.2.2.2)) h3.2.2 (by omega) (by simp) (by simp)) λr4 h4=>?_
 refine W.bind (jr (l:=(r4.2.1,r4.2.2.1,r4.2.2.2)) h4.2 (by omega) (by omega)) λr5 h5=>?_
 have b5:=h5.2.1 (by omega)
 refine W.bind (GM (l:=(r5.2.1,r5.2.2.1,r5.2.2.2)) h5.2.2 (by omega) (by simp) (by simp)) λr6 h6=>?_
 refine W.bind (CY (l:=(r6.2.1,r6.2.2.1,r6.2.2.2)) h6.2 (by omega) (by omega) (by omega) (by omega)) λr7 h7=>?_
 refine W.bind (GM (l:=(r7.2.1,r7.2.2.1,r7.2.2.2)) h7.2.2 (by omega) (by simp) (by simp)) λr8 h8=>?_
 have w4:0≤r4.1/\r4.1≤3:=by
  grind
 have w6:0≤r6.1/\r6.1≤3:=by
  grind
 have w8:1≤r8.1/\r8.1≤3:=by
  grind
 have lo8:=h8.2
 refine W.bind (R:=λx=>Lo (x.2.1,x.2.2.1,x.2.2.2) (m+250)/\(1≤x.1.length/\(x.1.length:Int)≤ds)/\∀r∈x.1,Rl r2.1 r) ?_ λx hx=>W.ret ⟨hx.1,LG (by omega) w4 w6 w8 (by omega) (by omega) hx.2.2,rfl,h2.2.1,hx.2.1.2⟩
 refine W.bind (CY (l:=(r8.2.1,r8.2.2.1,r8.2.2.2)) lo8 (by omega) (by omega) (by omega) (by omega)) λr12 h12=>?_
 refine W.loop (f:=fe k r2) (λq y=>∃j:Nat,y.2.2.2.1.length=j/\y.2.2.2.2=r12.1 - j/\(j:Int)≤r12.1/\q=r12.1.toNat - j/\Lo (y.1,y.2.1,y.2.2.1) (m+10+33 * j)/\∀r∈y.2.2.2.1,Rl r2.1 r) ?_ r12.1.toNat k _ (by omega)
  ⟨0,rfl,by simp,by omega,by omega,h12.2.2.mono (by omega),by simp⟩
 rintro aK q ⟨nums,d,s,out,y⟩ ⟨j,hj,hy,hle,hq,hlo,hr⟩ ih
 simp only at hj hy hlo hr
 subst hy
 unfold fe
 dsimp only
 refine W.ite (λhlt=>?_) (λhge=>W.ret ⟨hlo.mono (by omega),⟨by grind,by grind⟩,hr⟩)
 refine W.bind (R:=λx=>Lo (x.1,x.2.1,x.2.2.1) (m+10+33 * j+33)/\x.2.2.2.length=j+1/\∀r∈x.2.2.2,Rl r2.1 r) ?_ λx15 h15=>?_
 .
  refine W.bind (R:=λx=>Lo (x.1,x.2.1,x.2.2.1) (m+10+33 * j+1)/\(x.2.2.2=true->0 < out.length)) ?_ λx17 h17=>?_
  .refine W.ite (λh0=>?_) (λh0=>W.ret ⟨hlo.mono (by omega),λh=>by cases h⟩);grind [W.bind,ti,W.ret]
  .refine W.ite (λht=>?_) (λht=>?_)
   .have h0:=h17.2 ht;refine W.ck (by omega) (by omega) ?_;have hi:((out.length:Int) - 1)=((out.length - 1:Nat):Int):=by omega
    have hlt':out.length - 1 < out.length:=by omega
    rw [hi,fP hlt',bs];have hrl:=hr _ (List.getElem_mem hlt');have hl5:=hrl.l5 (by omega);have hr3:=hrl.r3;rw [sR (by omega) (by omega) (λx hx=>by grind),bs,dj (by grind [bJ]),bs];refine W.ret ⟨h17.1.mono (by omega),by simp [hj],λr hrr=>?_⟩;grind
   .have hc2:((r2.1.toNat:Nat):Int)=r2.1:=by omega
    have:=Gx hk (l:=(x17.1,x17.2.1,x17.2.2.1)) (m:=m+10+33 * j+1) (n:=r2.1.toNat) h17.1 (by omega) (by omega);rw [hc2] at this;refine W.bind this λr26 h26=>?_;rw [dj (by grind [bJ]),bs];refine W.ret ⟨h26.1.mono (by omega),by simp [hj],λr hrr=>?_⟩;grind
 .
  refine W.ck (by omega) (by omega) ?_;exact ih (q - 1) (_,_,_,_,_) (by omega) ⟨j+1,h15.2.1,by grind,by omega,by omega,h15.1.mono (by omega),h15.2.2⟩
theorem BJ{k:Nat}(hk:50≤k){l:bp}{m:Int}{c:Int}(hl:Lo l m)(hm:0≤m/\m≤900)(hc:1≤c/\c≤5):
 W (jL k l c) λr=>Lo r.2 (m+10)/\Bg c r.1:=by
 unfold jL
 refine W.bind (R:=λx=>Lo (x.2.1,x.2.2.1,x.2.2.2) (m+10)/\Bg c x.1) ?_ λx hx=>W.ret hx
 refine W.loop (f:=ff k c) (λq y=>∃j:Nat,y.2.2.2.2=(j:Int)/\(j:Int)≤c/\q=c.toNat - j/\Lo (y.1,y.2.1,y.2.2.1) (m+j)/\y.2.2.2.1.length≤j/\(∀x∈y.2.2.2.1,0≤x/\x < (j:Int))/\y.2.2.2.1.Pairwise (· < ·)) ?_ c.toNat k _ (by omega)
  ⟨0,rfl,by omega,by omega,by simp_all,by simp,by simp,by simp⟩
 rintro aK q ⟨nums,d,s,o,y⟩ ⟨j,hj,hle,hq,hlo,hlen,hx,hp⟩ ih
 simp only at hj hlo hlen hx hp
 subst hj
 unfold ff
 dsimp only
 refine W.ite (λhlt=>?_) (λhge=>W.ret ⟨hlo.mono (by omega),λx hxx=>by grind,hp⟩)
 refine W.bind (R:=λx=>Lo (x.1,x.2.1,x.2.2.1) (m+j+1)/\x.2.2.2.length≤j+1/\(∀z∈x.2.2.2,0≤z/\z < ((j+1:Nat):Int))/\x.2.2.2.Pairwise (· < ·)) ?_ λx5 h5=>?_
 .
  refine W.bind (ti (l:=(nums,d,s)) hlo (by omega) (by omega) (by omega)) λr7 h7=>?_;refine W.ite (λht=>?_) (λht=>W.ret ⟨h7,by grind,λz hz=>by grind,hp⟩);grind [dj,bJ,bs,W.ret,List.mem_singleton]
 .
  refine W.ck (by omega) (by omega) ?_;exact ih (q - 1) (_,_,_,_,_) (by omega) ⟨j+1,by grind,by omega,by omega,h5.1.mono (by omega),h5.2⟩
theorem Bg.len{C:Int}(hC:0≤C/\C≤5){b:List Int}(h:Bg C b):b.length≤5:=by
 have:=rC C.toNat b (h.asc.imp λhab e=>by omega) λx hx=>by have:=h.rng x hx;omega
 omega
theorem Gm{m:ab}{B:Int->Bool}{n:Nat}(h:0≤mC m):((nO m B n).length:Int)=mC m:=by
 unfold nO;grind
theorem oS{m:ab}{B:Int->Bool}:(kw m B).length=(mD m).length+1:=by
 unfold kw;simp_all
theorem Ij{α ε:Type}:∀(l:List α) (j:Nat),fA (λ(_:Unit) _ _=>(.ok ():Except ε Unit)) j l ()= .ok ()
 |[],_=>rfl
 |_::l,j=>Ij l (j+1)
theorem FN{k:Nat}{m:ab}{B:Int->Bool}(v:Vd m)(hk:10≤k):mm k m (kw m B)=some true:=by
 have c1:=v.c1;have d6:=v.d6;unfold mm;have hd:ck ((m.2.2.2.2.1.length:Int)+1)=some (((mD m).length:Int)+1):=du (by omega) (by grind);rw [hd,bs,if_neg (λhn=>hn (by rw [oS];omega))]
 have key:=oe (T:=Int) (f:=eR k m (kw m B)) (kw m B) (λ(_:Unit) j=>j) (λ_ _ _=>(.ok ():Except Bool Unit)) (λ_ _=>True) (λr=>some r)
  (λn s j hj _=>by
   have hck:ck ((j:Int)+1)=some ((j:Int)+1):=du (by omega) (by grind [oS]);refine⟨?_,λ_ _=>trivial⟩;have hj2:j≤(mD m).length:=by grind [oS]
   simp only [eR,Int.ofNat_lt,hj,if_true,wz hj2,bs,hck];rw [if_neg (λhn=>hn (Gm (by omega)))])
  (λn s _=>by simp [eR]) (n:=k) (s0:=()) (by rw [oS];omega) trivial
 simp_all [eR,kw,Ij,nf]
end Go.Proofs.YthnacobbednnbaaGreat
set_option linter.unusedVariables false
set_option linter.unusedSimpArgs false
namespace Go.Proofs.YthnacobbednnbaaGreat
open K Go Go.Proofs
end Go.Proofs.YthnacobbednnbaaGreat
set_option linter.unusedVariables false
set_option linter.unusedSimpArgs false
namespace Go.Proofs.YthnacobbednnbaaGreat
open K Go Go.Proofs
theorem zL{k:Nat}{m:ab}(hk:1010≤k)(hs:Sm m):ic k m=some m:=by
 have hd:=hs.d;have hg:=hs.g;unfold ic;rw [dj (by show _≤_;grind),bs]
 have key:=fW (T:=List (List (List Int))×Int) (f:=dA k m) (mD m) (λ(s:List (List (List Int))) j=>(s,j)) (λs j x=>s++[x]) (λj s=>s=(mD m).take j) (λs=>some s)
  (λn s j hj hs'=>by
   have hck:ck ((j:Int)+1)=some ((j:Int)+1):=du (by omega) (by omega);have hl:s.length=j:=by grind
   have hok:cH (bJ (length s+length [(mD m)[j]]))=some ():=dj (by grind [bJ]);have hj':(j:Int) < (m.2.2.2.2.1.length:Int):=Int.ofNat_lt.2 hj;have hg:aP m.2.2.2.2.1 (j:Int)=some (mD m)[j]:=fP hj;have hr:=hs.r _ (List.getElem_mem hj);refine⟨?_,?_⟩
   .simp only [dA,hj',if_true,hg,bs,sR (k:=k) (l:=(mD m)[j]) (by omega) (by omega) (λx hx=>by grind),hok,hck]
   simp_all)
  (λn s hs=>by
   unfold dA;simp_all) (n:=k) (s0:=[]) (by omega) (by simp)
 simp_all
theorem zw{k:Nat}{l:bp}{m:Int}{x:xI}(hl:Lo l m)(hm:0≤m/\m≤900)(hc:1≤x.1/\x.1≤5)(hd:x.2.2.2.2.1.length≤6):
 W (ib k l x) λr=>Lo r.2 (m+3)/\(0≤r.1.1/\r.1.1 < x.1)/\0≤r.1.2.1/\r.1.2.1≤(x.2.2.2.2.1.length:Int):=by
 unfold ib
 grind [W.ck,W.bind,jr,ti,W.ret]
theorem Vd.with{m:ab}(v:Vd m){gs:List aQ}(h8:gs.length≤8)(hg:∀g∈gs,0≤g.1/\g.1 < mC m/\0≤g.2.1/\g.2.1≤(mD m).length):Vd (m.1,m.2.1,m.2.2.1,m.2.2.2.1,m.2.2.2.2.1,gs):=
 ⟨v.c1,v.c5,v.w0,v.w3,v.s0,v.s3,v.h1,v.h3,v.d1,v.d6,v.r3,v.l5,v.x5,v.nd,h8,hg⟩
theorem Sm.with{m:ab}(h:Sm m){gs:List aQ}(hg:gs.length≤1000):Sm (m.1,m.2.1,m.2.2.1,m.2.2.2.1,m.2.2.2.2.1,gs):=⟨h.d,h.r,hg⟩
end Go.Proofs.YthnacobbednnbaaGreat
set_option linter.unusedVariables false
set_option linter.unusedSimpArgs false
namespace Go.Proofs.YthnacobbednnbaaGreat
open K Go Go.Proofs
def lx(C:Nat):Nat->List Int->Nat->List (List Int)
 |0,b,_=>[b]
 |n+1,b,f=>b::(List.range' f (C - f)).flatMap λ(c:Nat)=>lx C n (b++[(c:Int)]) (c+1)
theorem tP{b:List Int}{c:Int}:cI (b++[c])=wE (cI b) c:=by
 unfold cI;simp_all
theorem zq{σ:Type}{k:Nat}{Y:σ->Int->Option (σ×Bool)}{C:Nat}(hC:C≤5)(hk:10≤k)(g:σ->List Int->σ)(u5:Nat->σ->Prop):
 ∀(n m0:Nat) (b:List Int) (f:Nat) (s:σ) (r:Nat),C - f≤n->f≤C->n < m0->jp (cI b)->(∀r s,∀b'∈lx C n b f,u5 (r+1) s->Y s (cI b')=some (g s b',true)/\u5 r (g s b'))->u5 ((lx C n b f).length+r) s->
  dh k Y (C:Int) m0 (cI b) (f:Int) s=some (true,(lx C n b f).foldl g s)/\u5 r ((lx C n b f).foldl g s)
 |n,0,b,f,s,r,_,_,h,_,_,_=>absurd h (not_lt_zero _)
 |0,m0+1,b,f,s,r,h1,h2,_,hm,hY,hI=>by
  have hf:f=C:=by omega
  subst hf
  unfold dh
  obtain⟨k,rfl⟩:∃n,k=n+1:=⟨k - 1,by omega⟩
  have hI:u5 (r+1) s:=by rw [Nat.add_comm];exact hI
  have:=hY r s b (by simp [lx]) hI
  rw [this.1,bs,if_neg (by simp)]
  rw [de,if_neg (Int.lt_irrefl _),nf]
  exact⟨rfl,this.2⟩
 |n+1,m0+1,b,f,s,r,h1,h2,h3,hm,hY,hI=>by
  unfold dh
  have hlen:(lx C (n+1) b f).length=((List.range' f (C - f)).flatMap λ(c:Nat)=>lx C n (b++[(c:Int)]) (c+1)).length+1:=by rw [lx,length_cons]
  rw [hlen] at hI
  have h0:=hY (((List.range' f (C - f)).flatMap λ(c:Nat)=>lx C n (b++[(c:Int)]) (c+1)).length+r) s b (by simp [lx]) (by grind)
  rw [h0.1,bs,if_neg (by simp)]
  have loop:∀(d x:Nat) (s:σ) (aK:Nat) (r:Nat),C - x=d->f≤x->x≤C->d < aK->u5 (((List.range' x (C - x)).flatMap λ(c:Nat)=>lx C n (b++[(c:Int)]) (c+1)).length+r) s->
   de k (cI b) (C:Int) (dh k Y (C:Int) m0) aK ((x:Int),s)=some (.ok (((List.range' x (C - x)).flatMap λ(c:Nat)=>lx C n (b++[(c:Int)]) (c+1)).foldl g s))/\u5 r (((List.range' x (C - x)).flatMap λ(c:Nat)=>lx C n (b++[(c:Int)]) (c+1)).foldl g s):=by
   intro d
   induction d with
   |zero=>
    intro x s aK r hd hx hx2 hfu hI;obtain⟨aK,rfl⟩:∃n,aK=n+1:=⟨aK - 1,by omega⟩;have:x=C:=by omega
    simp_all [Nat.sub_self,de,if_neg,Int.lt_irrefl]
   |succ d ih=>
    intro x s aK r hd hx hx2 hfu hI;obtain⟨aK,rfl⟩:∃n,aK=n+1:=⟨aK - 1,by omega⟩;have hw:=mK (k:=k) hm (show(0:Int)≤(x:Int) by omega) (show(x:Int) < 8 by omega);have hck:ck ((x:Int)+1)=some (((x+1:Nat):Int)):=by grind [du]
    have e:C - x=(C - (x+1))+1:=by omega
    rw [e,List.range'_succ,List.flatMap_cons,length_append,Nat.add_assoc] at hI
    have hsub:=zq hC hk g u5 n m0 (b++[(x:Int)]) (x+1) s _ (by omega) (by omega) (by omega) (by simp_all [tP]) (λr s b' hb'=>hY r s b' (by
     rw [lx];grind)) hI
    rw [tP] at hsub;have hih:=ih (x+1) _ aK r (by omega) (by omega) (by omega) (by omega) hsub.2;rw [de,if_pos (show(x:Int) < (C:Int) by omega),hw.1,bs,hck,bs,hsub.1,bs,if_neg (by simp),bs,hih.1];simp_all [List.range'_succ,List.flatMap_cons,List.foldl_append]
  have hl:=loop (C - f) f _ k r rfl (Nat.le_refl _) h2 (by omega) h0.2;rw [hl.1,nf];exact⟨rfl,hl.2⟩
def Aw(m:ab)(but:Nat->Bool)(B:Int->Bool):Bool:=(mG m).zipIdx.all λg=>but g.2 || decide (g.1.2.2=decide (mS m≤lE m B g.1.2.1.toNat g.1.1))
theorem wv{α ε:Type}{p:Nat->α->Bool}{e:ε}:∀(l:List α) (j:Nat),fA (λ(_:Unit) j x=>if p j x=true then .ok () else Except.error e) j l ()=if((l.zipIdx j).all λg=>p g.2 g.1)=true then .ok () else .error e
 |[],j=>rfl
 |x::l,j=>by
  rw [fA,zipIdx_cons,all_cons]
  cases h:p j x with
  |true=>simp only [if_true,Bool.true_and];exact wv l (j+1)
  |false=>simp
theorem zC{k:Nat}{m:ab}{S a2:Int}(v:Vd m)(hk:10≤k)(hS:jp S)(ha:jp a2):cZ k m S a2=some (Aw m (λi=>decide (dW a2 i)) (mI S)):=by
 have g8:=v.g8;have d6:=v.d6;unfold cZ gd;rw [oR v hk hS,bs]
 have key:=oe (T:=Int) (f:=cu k m a2 (cr (Fa m (mI S)))) (mG m) (λ(_:Unit) j=>j) (λ_ j x=>if(decide (dW a2 j) || decide (x.2.2=decide (mS m≤lE m (mI S) x.2.1.toNat x.1)))=true then .ok () else Except.error ()) (λ_ _=>True) (λr=>some (match r with | .error _=>false | .ok _=>true))
  (λn s j hj _=>by
   have hck:ck ((j:Int)+1)=some ((j:Int)+1):=du (by omega) (by omega);have hg:=v.gl _ (List.getElem_mem hj);have hj':(j:Int) < (m.2.2.2.2.2.length:Int):=Int.ofNat_lt.2 hj;have hget:aP m.2.2.2.2.2 (j:Int)=some (mG m)[j]:=fP hj;generalize (mG m)[j]=x at *;have c5:=v.c5;have e2:x.2.1=((x.2.1.toNat:Nat):Int):=by omega
   have hrow:aP (cr (Fa m (mI S))) x.2.1=some (ky (Fa m (mI S) x.2.1.toNat)):=by
    grind [xK,Int.toNat_natCast]
   have hval:aP (ky (Fa m (mI S) x.2.1.toNat)) x.1=some (lE m (mI S) x.2.1.toNat x.1):=by
    grind [te,xJ]
   refine⟨?_,λ_ _=>trivial⟩;have hm1:m.2.2.1=mS m:=rfl;simp only [cu,hj',if_true,hget,bs,xt (k:=k) ha (i:=j) (by omega),hrow,hval,hm1];grind)
  (λn s _=>by
   unfold cu;simp_all) (n:=k) (s0:=()) (by omega) trivial
 rw [show cu k m a2 (cr (Fa m (mI S))) k 0=_ from key,wv (p:=λj (x:aQ)=>decide (dW a2 j) || decide (x.2.2=decide (mS m≤lE m (mI S) x.2.1.toNat x.1)))];unfold Aw;grind
end Go.Proofs.YthnacobbednnbaaGreat
set_option linter.unusedVariables false
set_option linter.unusedSimpArgs false
namespace Go.Proofs.YthnacobbednnbaaGreat
open K Go Go.Proofs
theorem sx{m:ab}(v:Vd m){A B:Int->Bool}(h:∀c,0≤c->c < mC m->A c=B c):∀(n:Nat) (c:Int),0≤c->c < mC m->lE m A n c=lE m B n c
 |0,c,h0,h1=>by simp_all [lE]
 |n+1,c,h0,h1=>by
  have ih:=sx v h n
  unfold lE
  cases e:zU m n c with
  |none=>simp_all
  |some l=>
   have hb:=(uD v e).2
   grind
theorem BL{α:Type}{l:List α}{p q:α->Bool}(h:∀x∈l,p x=q x):l.all p=l.all q:=by
 grind
theorem Ez{m:ab}(v:Vd m){but:Nat->Bool}{A B:Int->Bool}(h:∀c,0≤c->c < mC m->A c=B c):Aw m but A=Aw m but B:=by
 unfold Aw;refine BL λg hg=>?_;obtain⟨x,i⟩:=g;have hx:=v.gl x (List.fst_mem_of_mem_zipIdx hg);show(but i || decide (x.2.2=decide (mS m≤lE m A x.2.1.toNat x.1)))=(but i || decide (x.2.2=decide (mS m≤lE m B x.2.1.toNat x.1)));grind [sx]
def zY(m:ab):List (List Int):=lx (mC m).toNat (mC m).toNat [] 0
theorem Dp{C:Nat}:∀(n:Nat) (b:List Int) (f:Nat),Bg (C:Int) b->(∀x∈b,x < (f:Int))->∀b'∈lx C n b f,Bg (C:Int) b'
 |0,b,f,h,_,b',hb=>by
  simp_all [lx,List.mem_singleton]
 |n+1,b,f,h,hf,b',hb=>by
  rw [lx,mem_cons] at hb
  rcases hb with rfl |hb
  .
   exact h
  .
   obtain⟨c,hc,hb⟩:=List.mem_flatMap.1 hb
   rw [List.mem_range'_1] at hc
   refine Dp n (b++[(c:Int)]) (c+1) ⟨λx hx=>?_,?_⟩ (λx hx=>?_) b' hb
   .
    rcases List.mem_append.1 hx with hx |hx
    .
     exact h.rng x hx
    grind
   .
    rw [pairwise_append]
    exact⟨h.asc,by simp,λa ha x hx=>by grind⟩
   grind
theorem Dq{m:ab}(v:Vd m){b:List Int}(h:b∈zY m):Bg (mC m) b:=by
 have c1:=v.c1;have:=Dp (C:=(mC m).toNat) (mC m).toNat [] 0 ⟨by simp,by simp⟩ (by simp) b h;grind
theorem zX{m:ab}(v:Vd m):(zY m).length≤32:=by
 have c1:=v.c1;have c5:=v.c5;have:(mC m).toNat=1\/(mC m).toNat=2\/(mC m).toNat=3\/(mC m).toNat=4\/(mC m).toNat=5:=by omega
 unfold zY;rcases this with h |h |h |h |h <;> rw [h] <;> decide
def eT(m:ab)(but:Nat->Bool):List (List Int):=(zY m).filter λb=>Aw m but λc=>decide (c∈b)
theorem pq{α β:Type}{p:α->Bool}{h:α->β}:∀(l:List α) (s:List β),l.foldl (λ(s:List β×Bool) b=>(if p b then s.1++[h b] else s.1,false)) (s,false)=(s++(l.filter p).map h,false)
 |[],s=>by simp
 |x::l,s=>by
  rw [foldl_cons,pq l]
  grind
theorem uf{k:Nat}{m:ab}{a2:Int}(v:Vd m)(hk:50≤k)(ha:jp a2):eh k m a2=some ((eT m λi=>decide (dW a2 i)).map cI):=by
 have c1:=v.c1;have c5:=v.c5;unfold eh jI;have hC:m.1=(((mC m).toNat:Nat):Int):=by grind
 have h:=zq (σ:=List Int×Bool) (k:=k) (Y:=ql (λ(y5:(List Int)) (p7:Int)=>(cZ k m p7 a2).bind λr9=>if r9=true then((cH (bJ (length y5+length [p7]))).bind λ_=>some (y5++[p7],true)) else(some (y5,true)))) (C:=(mC m).toNat) (by omega) (by omega)
  (λs b=>(if Aw m (λi=>decide (dW a2 i)) (λc=>decide (c∈b)) then s.1++[cI b] else s.1,false)) (λr s=>s.2=false/\s.1.length+r≤1000) (mC m).toNat k [] 0 ([],false) 0 (by omega) (by omega) (by omega) uh (λr s b' hb' hI=>by
   obtain⟨y,q⟩:=s;obtain⟨rfl,hI⟩:q=false/\y.length+(r+1)≤1000:=hI;have hbg:=Dq v hb';have hset:=hbg.set c5;have hex:Aw m (λi=>decide (dW a2 i)) (mI (cI b'))=Aw m (λi=>decide (dW a2 i)) (λc=>decide (c∈b')):=Ez v λc h0 _=>hset.2 c h0;unfold ql;simp only [];rw [zC v (by omega) hset.1 ha,hex,bs];cases Aw m (λi=>decide (dW a2 i)) (λc=>decide (c∈b')) with
   |true=>
    simp only [if_true];grind [dj,bJ,bs,cI]
   |false=>
    grind) ⟨rfl,by have:=zX v;grind [zY]⟩
 rw [hC,show dh k (ql (λ(y5:(List Int)) (p7:Int)=>(cZ k m p7 a2).bind λr9=>if r9=true then((cH (bJ (length y5+length [p7]))).bind λ_=>some (y5++[p7],true)) else(some (y5,true)))) (((mC m).toNat:Nat):Int) k 0 0 ([],false)=_ from h.1,bs,bs];rw [pq (p:=λb=>Aw m (λi=>decide (dW a2 i)) λc=>decide (c∈b)) (h:=cI)];simp only [Bool.false_eq_true,if_false,nil_append];rfl
theorem Ih:∀{a b:List Int},a.Pairwise (· < ·)->b.Pairwise (· < ·)->(∀x,x∈a↔x∈b)->a=b
 |[],[],_,_,_=>rfl
 |[],y::b,_,_,h=>absurd ((h y).2 mem_cons_self) (by simp)
 |x::a,[],_,_,h=>absurd ((h x).1 mem_cons_self) (by simp)
 |x::a,y::b,ha,hb,h=>by
  rw [pairwise_cons] at ha hb
  have e:x=y:=by
   grind [mem_cons_self]
  subst e;rw [Ih ha.2 hb.2 λz=>?_];grind
theorem AU{k:Nat}{C:Int}{b:List Int}(hk:10≤k)(hC:C≤5)(h:Bg C b):fM k (cI b)=some b:=by
 have hset:=h.set hC;unfold fM
 have key:=fW (T:=List Int×Int) (f:=dn k (cI b)) (List.range 5) (λ(s:List Int) j=>(s,j)) (λs j _=>if decide (dW (cI b) j) then s++[(j:Int)] else s) (λj s=>s.length≤j/\s.Pairwise (· < ·)/\∀x,x∈s↔x∈b/\x < (j:Int)) (λs=>some s)
  (λn s j hj hs=>by
   rw [length_range] at hj;have hck:ck ((j:Int)+1)=some ((j:Int)+1):=du (by omega) (by omega);have hj5:(j:Int) < 5:=by omega
   have hin:=hset.2 (j:Int) (by omega);unfold mI at hin;rw [Int.toNat_natCast] at hin;refine⟨?_,?_⟩
   .simp only [dn,hj5,if_true,xt (k:=k) hset.1 (by omega:j < 8),bs];cases decide (dW (cI b) j) with
    |true=>
     simp only [if_true];rw [dj (by grind [bJ]),bs,bs,hck,bs]
    |false=>simp_all
   grind)
  (λn s hs=>by
   simp_all [length_range,dn,if_neg]) (n:=k) (s0:=[]) (by grind) ⟨by simp,by simp,λx=>by simp;intro hx;exact(h.rng x hx).1⟩
 rw [show dn k (cI b) k ([],0)=_ from key.1,bs];have:=key.2;rw [length_range] at this;exact congrArg some (Ih this.2.1 h.asc λx=>by rw [this.2.2 x];exact⟨λhh=>hh.1,λhh=>⟨hh,by have:=h.rng x hh;omega⟩⟩)
end Go.Proofs.YthnacobbednnbaaGreat
set_option linter.unusedVariables false
set_option linter.unusedSimpArgs false
namespace Go.Proofs.YthnacobbednnbaaGreat
open K Go Go.Proofs
end Go.Proofs.YthnacobbednnbaaGreat
set_option linter.unusedVariables false
set_option linter.unusedSimpArgs false
namespace Go.Proofs.YthnacobbednnbaaGreat
open K Go Go.Proofs
def cK:Nat->Bool:=λ_=>false
theorem Qo:(λi=>decide (dW 0 i))=cK:=by
 grind [cK,dW]
theorem Db{m:ab}(v:Vd m){but:Nat->Bool}{b:List Int}(h:b∈eT m but):Bg (mC m) b:=Dq v (List.mem_filter.1 h).1
theorem zD{m:ab}(v:Vd m){but:Nat->Bool}:(eT m but).length≤32:=Nat.le_trans (List.length_filter_le _ _) (zX v)
theorem HC{k:Nat}{C:Int}(hC:C≤5)(hk:50≤k){L:List (List Int)}(hL:∀b∈L,Bg C b)(hl:L.length≤40):d5 k (L.map cI) k ([],0)=some L:=by
 have key:=fW (T:=List (List Int)×Int) (f:=d5 k (L.map cI)) L (λ(s:List (List Int)) j=>(s,j)) (λs _ b=>s++[b]) (λj s=>s=L.take j) (λs=>some s)
  (λn s j hj hs=>by
   have hck:ck ((j:Int)+1)=some ((j:Int)+1):=du (by omega) (by omega);have hls:s.length=j:=by grind
   have hg:aP (L.map cI) (j:Int)=some (cI L[j]):=by simp_all [aP,if_pos,Int.toNat_natCast,List.getElem?_map,List.getElem?_eq_getElem]
   have hj':(j:Int) < ((L.map cI).length:Int):=by simp_all
   have hok:cH (bJ (length s+length [L[j]]))=some ():=dj (by grind [bJ]);refine⟨?_,?_⟩
   .simp only [d5,hj',if_true,hg,bs,AU (k:=k) (by omega) hC (hL _ (List.getElem_mem hj)),hok,hck]
   simp_all)
  (λn s hs=>by
   unfold d5;simp_all) (n:=k) (s0:=[]) (by omega) (by simp)
 simp_all
theorem Bm{k:Nat}{m:ab}(hs:Sm m)(hk:1010≤k):fO k m=some (if¬(lW m=0) then([],lW m) else(eT m cK,0)):=by
 unfold fO;rw [ud hs hk (by simp) (by simp) (by simp) (by simp),bs];by_cases hc:lW m=0
 .have v:=Vd.of hc;have hb:sw (mC m) []=0:=o0.2 ⟨by simp,by simp⟩;have ho:MF m [] [] []=true:=rfl;simp only [hc,hb,ho,not_true_eq_false,if_false,if_true,qO];rw [uf v (by omega) uh,bs,Qo,HC v.c5 (by omega) (λb h=>Db v h) (by grind [zD,cK]),bs]
 simp_all [not_false_eq_true,if_true,lQ]
end Go.Proofs.YthnacobbednnbaaGreat
set_option linter.unusedVariables false
set_option linter.unusedSimpArgs false
namespace Go.Proofs.YthnacobbednnbaaGreat
open K Go Go.Proofs
theorem Em{k:Nat}{m:ab}{cs ds ns:List Int}(hs:Sm m)(hk:1010≤k)(h1:cs.length≤1000)(h2:ds.length≤1000)(h3:ns.length≤1000):
 jf k m cs ds ns=some (if¬(lW m=0) then(none,[],lW m) else if¬(MF m cs ds ns=true) then(none,[],3) else if(eT m cK).length=0 then(none,[],9) else(some m,(eT m cK).map cI,0)):=by
 unfold jf
 rw [ud hs hk (by simp) h1 h2 h3,bs]
 by_cases hc:lW m=0
 .
  have v:=Vd.of hc;have hb:sw (mC m) []=0:=o0.2 ⟨by simp,by simp⟩;by_cases ho:MF m cs ds ns=true
  .simp only [hc,hb,ho,not_true_eq_false,if_false,if_true,qO];rw [uf v (by omega) uh,bs,Qo];grind
  simp_all [not_true_eq_false,not_false_eq_true,if_false,if_true,lQ,Bool.false_eq_true,if_pos]
 simp_all [not_false_eq_true,if_true,lQ]
end Go.Proofs.YthnacobbednnbaaGreat
set_option linter.unusedVariables false
set_option linter.unusedSimpArgs false
namespace Go.Proofs.YthnacobbednnbaaGreat
open K Go Go.Proofs
theorem Lc{k:Nat}{m:ab}{b:List Int}(v:Vd m)(hk:10≤k)(hb:Bg (mC m) b):∃F:Nat->Int->Int,kE k m (cI b)=some (cr F)/\∀(n:Nat) (c:Int),n≤(mD m).length->0≤c->c < mC m->F n c=lE m (λc=>decide (c∈b)) n c:=by
 have hs:=hb.set v.c5;refine⟨_,oR v hk hs.1,λn c hn h0 h1=>?_⟩;grind [xJ,sx]
theorem Ld{k:Nat}{m:ab}{b:List Int}{α:Type}{n:Nat}{c:Int}{f:Int->Option α}(v:Vd m)(hk:10≤k)(hb:Bg (mC m) b)(hn:n≤(mD m).length)(h0:0≤c)(h1:c < mC m):
 ((kE k m (cI b)).bind λr=>(aP r (n:Int)).bind λx=>(aP x c).bind λy=>f y)=f (lE m (λc=>decide (c∈b)) n c):=by
 obtain⟨F,e,h⟩:=Lc v hk hb
 have d6:=v.d6
 have c5:=v.c5
 grind [bs,xK,te]
def xM(m:ab)(n:Nat)(c:Int)(x:Int)(L:List (List Int)):Nat:=L.countP λb=>decide (x≤lE m (λc=>decide (c∈b)) n c)
theorem wu{p:List Int->Bool}:∀(L:List (List Int)) (j:Nat) (s:Int),gY (λ(s:Int) _ b=>if p b then s+1 else s) j L s=s+(L.countP p:Nat)
 |[],_,s=>by simp [gY]
 |b::L,j,s=>by
  rw [gY,wu L,List.countP_cons]
  grind
theorem Ib{L:List (List Int)}{p:List Int->Bool}{f:Nat->Int×Int->Option Int}{k:Nat}(hk:L.length < k)(hl:L.length≤1000)
 (step:∀(n:Nat) (s:Int) (j:Nat) (h:j < L.length),0≤s->s≤j->f (n+1) (s,j)=f n (if p L[j] then s+1 else s,(j:Int)+1)) (stop:∀(n:Nat) (s:Int),f (n+1) (s,L.length)=some s):f k (0,0)=some (L.countP p:Int):=by
 have key:=fW (T:=Int×Int) (f:=f) L (λ(s:Int) j=>(s,j)) (λs _ b=>if p b then s+1 else s) (λj s=>0≤s/\s≤j) (λs=>some s)
  (λn s j hj hs=>⟨step n s j hj hs.1 hs.2,by omega⟩) (λn s _=>stop n s) (n:=k) (s0:=0) hk ⟨by omega,by omega⟩
 simp_all [wu]
theorem zl{k:Nat}{m:ab}{n:Nat}{r2:(Option ab)×(List Int)×Int}{L:List (List Int)}{y:(List Int)×Int}(v:Vd m)(hk:50≤k)(hL:∀b∈L,Bg (mC m) b)(hl:L.length≤40)(hr:r2.2.1=L.map cI)(hn:n≤(mD m).length)(h0:0≤y.2)(h1:y.2 < mC m):
 gz k m (n:Int) r2 m y k (0,0)=some (xM m n y.2 (mS m) L:Int):=by
 refine Ib (by omega) (by omega) (λn' s j hj s0 s1=>?_) (λn' s=>?_)
 .
  have hck:ck ((j:Int)+1)=some ((j:Int)+1):=du (by omega) (by omega);have hcs:ck (s+1)=some (s+1):=du (by omega) (by omega);have hb:=hL _ (List.getElem_mem hj);have hg:aP r2.2.1 (j:Int)=some (cI L[j]):=by simp_all [HJ,Int.toNat_natCast,List.getElem?_map,List.getElem?_eq_getElem]
  have hlt:(j:Int) < (r2.2.1.length:Int):=by simp_all
  rw [gz,if_pos hlt,hg,bs,Ld v (by omega) hb hn h0 h1];grind
 simp_all [gz,if_neg,length_map]
def eW(m:ab)(n:Nat)(L:List (List Int))(c:Int):Int:=nz (xM m n c (mS m) L) (L.length - xM m n c (mS m) L)
theorem Ic{m:ab}{n:Nat}{c x:Int}{L:List (List Int)}:xM m n c x L≤L.length:=List.countP_le_length
def rS(R:Int->Int)(N:Int)(C:Nat):Int×Int:=gY (λ(s:Int×Int) j _=>if R j < s.2 then((j:Int),R j) else s) 0 (List.range C) (-1,N)
def gA:Int->List Int->Int
 |x,[]=>x
 |x,y::l=>gA (iT x y) l
theorem uu:∀(l:List Int) (j:Nat) (x:Int),gY (λ(s:Int) _ y=>iT s y) j l x=gA x l
 |[],_,_=>rfl
 |y::l,j,x=>uu l (j+1) (iT x y)
theorem J9{k:Nat}{x:Int}{l:List Int}(hk:l.length+1 < k)(hl:l.length≤1000):ix k (x::l)=some (gA x l):=by
 have key:=fW (T:=Int×Int) (f:=dL k (x::l)) l (λ(s:Int) j=>(s,j+1)) (λs _ y=>iT s y) (λ_ _=>True) (λs=>some s)
  (λn s j hj _=>by
   have hck:ck ((j:Int)+1+1)=some ((j:Int)+1+1):=du (by omega) (by omega);have hg:aP (x::l) ((j:Int)+1)=some l[j]:=HJ (by omega) (by simp_all);simp_all [dL,if_pos,bs])
  (λn s _=>by
   simp_all [dL,if_neg]) (n:=k) (s0:=x) (by omega) trivial
 unfold ix;rw [if_neg (by grind),show aP (x::l) (0:Int)=some x from rfl,bs,show dL k (x::l) k (x,1)=_ from key.1,bs,uu]
theorem zi:∀{l:List Int} {x y:Int},gA (iT x y) l=iT x (gA y l)
 |[],_,_=>rfl
 |z::l,x,y=>by
  show gA (iT (iT x y) z) l=iT x (gA (iT y z) l)
  rw [show iT (iT x y) z=iT x (iT y z) by grind [iT]]
  exact zi
theorem we:∀(l:List Int) (x:Int) (j:Nat) (s:Int×Int),gY (λ(s:Int×Int) (j:Nat) y=>if y < s.2 then((j:Int),y) else s) j (x::l) s=if gA x l < s.2 then(((j+((x::l).findIdx? λy=>decide (gA x l=y)).getD 0:Nat):Int),gA x l) else s
 |[],x,j,s=>by
  show(if x < s.2 then((j:Int),x) else s)=_
  simp [gA,findIdx?_cons]
 |y::l,x,j,s=>by
  rw [gY,we l y (j+1)]
  have e:gA x (y::l)=iT x (gA y l):=zi
  rw [e]
  generalize hM:gA y l=M at *
  by_cases hx:x≤M
  .
   have e2:iT x M=x:=by grind [iT]
   grind
  .
   have e2:iT x M=M:=by simp_all [iT]
   have hne:decide (M=x)=false:=by simp;omega
   rw [e2,show(x::y::l).findIdx? (λy=>decide (M=y))=((y::l).findIdx? (λy=>decide (M=y))).map (· +1) by grind]
   have hin:M∈y::l:=by
    rw [<-hM];clear hM e hx e2 hne
    induction l generalizing y with
    |nil=>simp [gA]
    |cons z l ih=>
     grind [gA,iT]
   obtain⟨i,hi⟩:∃i,(y::l).findIdx? (λy=>decide (M=y))=some i:=by
    cases h:(y::l).findIdx? (λy=>decide (M=y)) with
    |some i=>simp_all
    |none=>grind
   grind
theorem wq{α β σ:Type}{f:α->β}{g:σ->Nat->β->σ}:∀(l:List α) (j:Nat) (s:σ),gY g j (l.map f) s=gY (λs j x=>g s j (f x)) j l s
 |[],_,_=>rfl
 |x::l,j,s=>wq l (j+1) _
theorem rZ{σ:Type}{g:σ->Nat->Nat->σ}:∀(n i j:Nat) (s:σ),i=j->gY (λs j _=>g s j j) j (List.range' i n) s=gY (λs j x=>g s j x) j (List.range' i n) s
 |0,_,_,_,_=>rfl
 |n+1,i,j,s,h=>by
  subst h
  rw [List.range'_succ]
  exact rZ n (i+1) (i+1) _ rfl
def CN(m:ab)(n:Int):Int×Int×Int:=if¬(lW m=0) then(0,0,lW m) else if¬(0≤n/\n≤((mD m).length:Int)) then(0,0,3) else if(eT m cK).length=0 then(0,0,9) else
 let x:=rS (eW m n.toNat (eT m cK)) (eT m cK).length (mC m).toNat
 if x.1 < 0 then(0,0,11) else(x.1,x.2,0)
theorem Hv{k:Nat}{m:ab}{n:Int}(hs:Sm m)(hk:1010≤k):mj k m n=some (CN m n):=by
 unfold mj CN;rw [Em hs hk (by simp) (by simp) (by simp),bs];by_cases hc:lW m=0
 .have v:=Vd.of hc;have c1:=v.c1;have c5:=v.c5;have hop:MF m [] [] [n]=decide (0≤n/\n≤((mD m).length:Int)):=by simp [MF,yk,uU]
  simp only [hc,hop,not_true_eq_false,if_false,decide_eq_true_eq];by_cases hn:0≤n/\n≤((mD m).length:Int)
  .simp only [hn,and_self,not_true_eq_false,if_false];have hl:=zD v (but:=cK);have hL:∀x∈eT m cK,Bg (mC m) x:=λx h=>Db v h;generalize eT m cK=L at *;by_cases h0:L.length=0
   .rw [if_pos h0,if_pos h0];simp only [lQ];rw [if_pos (by decide)]
   .rw [if_neg h0,if_neg h0];obtain⟨n',rfl⟩:∃n':Nat,n=n':=⟨n.toNat,by omega⟩;simp only [qO,not_true_eq_false,if_false,Int.toNat_natCast]
    have key:=fW (T:=List Int×Int) (f:=fx k m (n':Int) (some m,L.map cI,0) m) (List.range (mC m).toNat) (λ(s:List Int) j=>(s,j)) (λs j _=>s++[eW m n' L j]) (λj s=>s.length=j) (λs=>some s)
     (λn s j hj hs=>by
      rw [length_range] at hj;have hck:ck ((j:Int)+1)=some ((j:Int)+1):=du (by omega) (by omega);have hle:=Ic (m:=m) (n:=n') (c:=j) (x:=mS m) (L:=L);have hcl:ck ((L.length:Int) - (xM m n' j (mS m) L:Int))=some ((L.length:Int) - (xM m n' j (mS m) L:Int)):=du (by omega) (by omega);have hok:bJ (length s+length [eW m n' L j]):=RP (n:=10) (by omega) (by omega);refine⟨?_,by simp [hs]⟩;rw [fx,if_pos (by show(j:Int) < mC m;omega),zl v (by omega) hL (by omega) rfl (by omega) (y:=(s,(j:Int))) (by show(0:Int)≤j;omega) (by show(j:Int) < mC m;omega),bs];show Option.bind (Option.bind (ck (((L.map cI).length:Int) - _)) _) _=_;rw [length_map,hcl,bs];show Option.bind (Option.bind (cH (bJ (length s+length [eW m n' L j]))) λ_=>some (s++[eW m n' L j])) _=_;rw [dj hok,bs,bs,hck,bs])
     (λn s _=>by
      rw [length_range,fx,if_neg (by show¬(((mC m).toNat:Int) < mC m);omega)]) (n:=k) (s0:=[]) (by rw [length_range];omega) rfl
    rw [show fx k m (n':Int) (some m,L.map cI,0) m k ([],0)=_ from key.1,bs]
    have hsnoc:∀(l:List Nat) (j:Nat) (s:List Int),gY (λ(s:List Int) j x=>s++[eW m n' L ((x:Nat):Int)]) j l s=s++l.map λ(x:Nat)=>eW m n' L x:=by
     intro l
     induction l with
     |nil=>intro j s;simp [gY]
     |cons x l ih=>intro j s;rw [gY,ih];simp
    have e1:gY (λ(s:List Int) (j x:Nat)=>s++[eW m n' L j]) 0 (List.range (mC m).toNat) []=(List.range (mC m).toNat).map λ(x:Nat)=>eW m n' L x:=by
     rw [List.range_eq_range',rZ (g:=λs j x=>s++[eW m n' L ((x:Nat):Int)]) _ 0 0 _ rfl,hsnoc,nil_append]
    rw [e1]
    have e2:rS (eW m n' L) L.length (mC m).toNat=gY (λ(s:Int×Int) (j:Nat) y=>if y < s.2 then((j:Int),y) else s) 0 ((List.range (mC m).toNat).map λ(x:Nat)=>eW m n' L x) (-1,(L.length:Int)):=by
     rw [wq];unfold rS;rw [List.range_eq_range',rZ (g:=λ(s:Int×Int) j x=>if eW m n' L ((x:Nat):Int) < s.2 then((j:Int),eW m n' L ((x:Nat):Int)) else s) _ 0 0 _ rfl]
    rw [e2];have hlen:((List.range (mC m).toNat).map λ(x:Nat)=>eW m n' L x).length=(mC m).toNat:=by simp
    generalize ((List.range (mC m).toNat).map λ(x:Nat)=>eW m n' L x)=R at *;cases R with
    |nil=>simp at hlen;omega
    |cons x l=>
     simp only [length_cons] at hlen;rw [J9 (by omega) (by omega),bs,we l x 0];show(if((L.map cI).length:Int)≤gA x l then _ else _)=_;rw [length_map];by_cases hm:gA x l < (L.length:Int)
     .rw [if_neg (by omega),if_pos hm,zu (by simp only [length_cons];omega) (by simp only [length_cons];omega),bs]
      have hin:∃i,(x::l).findIdx? (λy=>decide (gA x l=y))=some i:=by
       cases h:(x::l).findIdx? (λy=>decide (gA x l=y)) with
       |some i=>exact⟨i,rfl⟩
       |none=>
        rw [List.findIdx?_eq_none_iff] at h
        have hmem:gA x l∈x::l:=by
         clear h hm hlen e2 e1 hsnoc key
         induction l generalizing x with
         |nil=>simp [gA]
         |cons z l ih=>
          show gA (iT x z) l∈_;rcases mem_cons.1 (ih (iT x z)) with h |h
          .rw [h];unfold iT;split <;> simp
          .simp [h]
        have:=h _ hmem;simp at this
      obtain⟨i,hi⟩:=hin;simp only [hi,Option.getD_some];rw [if_neg (by omega)];congr 2;omega
     .rw [if_pos (by omega),if_neg hm];rfl
  .simp only [hn,not_false_eq_true,if_true,lQ];rw [if_pos (by decide)]
 .simp only [hc,not_false_eq_true,if_true,lQ]
end Go.Proofs.YthnacobbednnbaaGreat
set_option linter.unusedVariables false
set_option linter.unusedSimpArgs false
namespace Go.Proofs.YthnacobbednnbaaGreat
open K Go Go.Proofs
def yl(m:ab)(gs:List aQ):ab:=(m.1,m.2.1,m.2.2.1,m.2.2.2.1,m.2.2.2.2.1,gs)
theorem Dj{m:ab}{gs:List aQ}{c:Int}:∀d:Nat,mA (yl m gs) c d=mA m c d
 |0=>rfl
 |d+1=>by rw [mA,mA,Dj d];rfl
theorem uE{m:ab}{gs:List aQ}{B:Int->Bool}:∀(n:Nat) (c:Int),lE (yl m gs) B n c=lE m B n c
 |0,c=>rfl
 |n+1,c=>by
  rw [lE,lE,show zU (yl m gs) n c=zU m n c from rfl,Dj,uE n c]
  cases zU m n c with
  |none=>rfl
  |some l=>
   have:(λx=>decide (mW (yl m gs)≤lE (yl m gs) B n x))=λx=>decide (mW m≤lE m B n x):=by
    funext x;rw [uE n x];rfl
   simp_all
theorem zW{C:Nat}:∀(t:List Int) (n:Nat) (b:List Int) (f:Nat),C - f≤n->(∀x∈t,(f:Int)≤x/\x < C)->t.Pairwise (· < ·)->b++t∈lx C n b f
 |[],0,b,f,_,_,_=>by simp [lx]
 |[],n+1,b,f,_,_,_=>by simp [lx]
 |x::t,0,b,f,h,hx,_=>by grind [mem_cons_self]
 |x::t,n+1,b,f,h,hx,hp=>by
  have h0:=hx x (mem_cons_self ..)
  rw [pairwise_cons] at hp
  rw [lx]
  refine mem_cons_of_mem _ (List.mem_flatMap.2 ⟨x.toNat,by grind,?_⟩)
  have:=zW t n (b++[((x.toNat:Nat):Int)]) (x.toNat+1) (by omega) (λy hy=>⟨by grind,(hx y (mem_cons_of_mem _ hy)).2⟩) hp.2
  grind
theorem Ik{m:ab}{b:List Int}(h:Bg (mC m) b):b∈zY m:=by
 have:=zW (C:=(mC m).toNat) b (mC m).toNat [] 0 (by omega) (λx hx=>by have:=h.rng x hx;omega) h.asc;exact this
def Ro(m:ab)(B:Int->Bool)(g:aQ):Prop:=g.2.2=decide (mS m≤lE m B g.2.1.toNat g.1)
theorem Ey{m:ab}{B:Int->Bool}(h:∀g∈mG m,Ro m B g):Aw m cK B=true:=by
 unfold Aw;rw [List.all_eq_true];intro g hg;have:g.1∈mG m:=List.fst_mem_of_mem_zipIdx hg;simp only [cK,Bool.false_or];exact decide_eq_true (h _ this)
theorem JE{k:Nat}(hk:1010≤k){l:bp}{m0:Int}(hl:Lo l m0)(hm:0≤m0/\m0≤400):
 W (mr k l) λr=>∃(m:ab) (b:List Int) (l':bp),r=(m,b,kw m λc=>decide (c∈b),true,l')/\Vd m/\Bg (mC m) b/\Lo l' (m0+300)/\mC m≤4/\((mD m).length:Int)≤4/\(mG m).length≤4/\b∈eT m cK:=by
 unfold mr
 refine W.bind (Bi (by omega) (l:=(l.1,l.2.1,l.2.2)) hl hm (by omega) (by omega)) λr2 h2=>?_
 obtain⟨lo2,v,hg,hcs,hds⟩:=h2
 have c1:=v.c1
 have c5:=v.c5
 have d6:=v.d6
 refine W.bind (BJ (by omega) (l:=(r2.2.1,r2.2.2.1,r2.2.2.2)) (c:=r2.1.1) lo2 (by omega) ⟨c1,c5⟩) λr4 h4=>?_
 obtain⟨lo4,hb⟩:=h4
 have l4:=hb.len ⟨by omega,c5⟩
 have eta:(r2.1.1,r2.1.2.1,r2.1.2.2.1,r2.1.2.2.2.1,r2.1.2.2.2.2.1,([]:List aQ))=r2.1:=by
  grind
 rw [eta,Bl v.sm hk (by omega),bs,v.chk,o0.2 hb]
 simp only [not_true_eq_false,if_false]
 rw [FN v (by omega),bs]
 simp only [Bool.not_true,bs,Bool.false_eq_true,if_false]
 let B:Int->Bool:=λc=>decide (c∈r4.1)
 refine W.bind (R:=λx=>Lo (x.2.1,x.2.2.1,x.2.2.2) (m0+300)/\x.1.length≤4/\∀g∈x.1,(0≤g.1/\g.1 < mC r2.1/\0≤g.2.1/\g.2.1≤(mD r2.1).length)/\Ro r2.1 B g) ?_ λx hx=>?_
 .
  refine W.bind (jr (l:=(r4.2.1,r4.2.2.1,r4.2.2.2)) lo4 (by omega) (by omega)) λr6 h6=>?_;have b6:=h6.2.1 (by omega)
  refine W.loop (f:=iz k r2 (kw r2.1 B,0)) (λq y=>∃j:Nat,y.2.2.2.1.length=j/\y.2.2.2.2=r6.1 - j/\(j:Int)≤r6.1/\q=r6.1.toNat - j/\Lo (y.1,y.2.1,y.2.2.1) (m0+261+3 * j)/\∀g∈y.2.2.2.1,(0≤g.1/\g.1 < mC r2.1/\0≤g.2.1/\g.2.1≤(mD r2.1).length)/\Ro r2.1 B g) ?_ r6.1.toNat k _ (by omega)
   ⟨0,rfl,by simp,by omega,by omega,h6.2.2.mono (by omega),by simp⟩
  rintro aK q ⟨nums,d,s,out,y⟩ ⟨j,hj,hy,hle,hq,hlo,hr⟩ ih;simp only at hj hy hlo hr;subst hy;unfold iz;dsimp only;refine W.ite (λhlt=>?_) (λhge=>W.ret ⟨hlo.mono (by omega),by grind,hr⟩);refine W.bind (zw (l:=(nums,d,s)) (x:=(r2.1.1,r2.1.2.1,r2.1.2.2.1,r2.1.2.2.2.1,r2.1.2.2.2.2.1,())) hlo (by omega) ⟨c1,c5⟩ d6) λr9 h9=>?_;obtain⟨n9,e9⟩:∃n9:Nat,r9.1.2.1=n9:=⟨r9.1.2.1.toNat,by omega⟩;have hn9:n9≤(mD r2.1).length:=by grind
  rw [e9,wz hn9,bs,Gn h9.2.1.1 h9.2.1.2,bs,dj (by grind [bJ]),bs];refine W.ck (by omega) (by omega) ?_;refine ih (q - 1) (_,_,_,_,_) (by omega) ⟨j+1,by simp [hj],by grind,by omega,by omega,h9.1.mono (by omega),λg hgg=>?_⟩;rcases List.mem_append.1 hgg with h |h
  .grind
  .rw [List.mem_singleton.1 h];exact⟨⟨h9.2.1.1,h9.2.1.2,by grind,by grind⟩,rfl⟩
 .
  have vm:Vd (yl r2.1 x.1):=v.with (by omega) λg h=>(hx.2.2 g h).1
  have hcr:kw r2.1 B=kw (yl r2.1 x.1) B:=by
   unfold kw nO;refine List.map_congr_left λn _=>List.map_congr_left λc _=>?_;simp_all [uE]
  refine W.ret ⟨yl r2.1 x.1,r4.1,(x.2.1,x.2.2.1,x.2.2.2),?_,vm,hb,hx.1,hcs,hds,hx.2.1,?_⟩
  .rw [<-hcr];rfl
  .unfold eT;rw [List.mem_filter];refine⟨Ik hb,Ey λg h=>?_⟩;unfold Ro;rw [uE];exact(hx.2.2 g h).2
end Go.Proofs.YthnacobbednnbaaGreat
set_option linter.unusedVariables false
set_option linter.unusedSimpArgs false
namespace Go.Proofs.YthnacobbednnbaaGreat
open K Go Go.Proofs
theorem HE:nZ 1200=some true:=by decide+kernel
theorem W.get{α:Type}{x:Option α}{a:α}(h:W x λy=>y=a):x=some a:=by
 obtain⟨b,e,rfl⟩:=h;exact e
