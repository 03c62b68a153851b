import Derived.Test.YtflilincnacbpaaGreatVTF2
open Nat
open List hiding mem_of_getElem?
open Array hiding mem_of_getElem? mk
set_option linter.unusedVariables false
set_option linter.unusedSimpArgs false
namespace Go.Proofs.YtflilincnacbpaaGreat
open K Go Go.Proofs
def W{α:Type}(x:Option α)(Q:α->Prop):Prop:=∃a,x=some a/\Q a
namespace W
variable {α β ε:Type}{Q:β->Prop}
theorem ret{a:β}(h:Q a):W (some a) Q:=⟨a,rfl,h⟩
theorem mono{x:Option β}{R:β->Prop}(h:W x R)(hq:∀a,R a->Q a):W x Q:=let ⟨a,e,r⟩:=h;⟨a,e,hq a r⟩
theorem bind{x:Option α}{f:α->Option β}{R:α->Prop}(h:W x R)(hf:∀a,R a->W (f a) Q):W (x.bind f) Q:=by
 obtain⟨a,rfl,r⟩:=h;grind
theorem ck{n:Int}{f:Int->Option β}(h1: -9223372036854775808≤n)(h2:n≤9223372036854775807)(hf:W (f n) Q):W ((K.ck n).bind f) Q:=by
 simp_all [K.ck,if_pos]
theorem chk{p:Prop}[Decidable p]{f:Unit->Option β}(h:p)(hf:W (f ()) Q):W ((cM p).bind f) Q:=by
 simp_all [cM,if_pos]
theorem at_{l:List α}{i:Int}{f:α->Option β}(h0:0≤i)(h1:i < l.length)(hf:∀x,l[i.toNat]? =some x->W (f x) Q):W ((aG l i).bind f) Q:=by
 simp_all [aG,if_pos,List.getElem?_eq_getElem]
theorem ite{p:Prop}[Decidable p]{a b:Option β}(h1:p->W a Q)(h2:¬p->W b Q):W (if p then a else b) Q:=by
 grind
theorem iteB{p:Prop}[Decidable p]{a b:Option α}{f:α->Option β}(h1:p->W (a.bind f) Q)(h2:¬p->W (b.bind f) Q):W ((if p then a else b).bind f) Q:=by
 grind
theorem bEE{x:Option (Except ε α)}{g:ε->Option β}{f:α->Option β}{R:Except ε α->Prop}(h:W x R)(hg:∀e,R (.error e)->W (g e) Q)(hf:∀a,R (.ok a)->W (f a) Q):W (K.bE x g f) Q:=by
 obtain⟨a,rfl,r⟩:=h;cases a with
 |error e=>exact hg e r
 |ok a=>exact hf a r
theorem loop{T:Type}{f:Nat->T->Option β}(I:Nat->T->Prop)(step:∀aL m y,I m y->(∀m' y',m' < m->I m' y'->W (f aL y') Q)->W (f (aL+1) y) Q):∀m aL y,m < aL->I m y->W (f aL y) Q:=by
 intro m
 induction m using Nat.strongRecOn with
 |_ m ih=>
  intro aL y hm hI;cases aL with
  |zero=>omega
  |succ aL=>grind
end W
theorem wrap_u64(n:Int):0≤IntKind.u64.wrap n/\IntKind.u64.wrap n < 18446744073709551616:=by
 simp_all [Int.emod_nonneg,Int.emod_lt_of_pos,IntKind.wrap,IntKind.signed,IntKind.bits]
theorem zf{n:Int}(h0:0≤n)(h1:n < 18446744073709551616):IntKind.u64.wrap n=n:=by
 simp_all [IntKind.wrap,IntKind.signed,IntKind.bits,Int.emod_eq_of_lt]
def Lo(l:ba)(m:Int):Prop:=0≤l.2.1/\l.2.1≤m
theorem Lx{k:Nat}{l:ba}{m:Int}(h:Lo l m)(hm:m≤1000000000):W (ip k l) λr=>0≤r.1/\r.1 < 72057594037927936/\Lo r.2 (m+1):=by
 obtain⟨h0,h1⟩:=h;unfold ip
 have fin:∀x:Int,W ((K.ck (l.2.1+1)).bind λx4=>some (iu .u64 (tc .u64 (IntKind.u64.wrap ((tc .u64 x (iu .u64 x (29:Int))) * (2685821657736338717:Int))) (iu .u64 (IntKind.u64.wrap ((tc .u64 x (iu .u64 x (29:Int))) * (2685821657736338717:Int))) (32:Int))) (8:Int),(l.1,x4,x)))
  λr=>0≤r.1/\r.1 < 72057594037927936/\Lo r.2 (m+1):=λx=>by
  refine W.ck (by omega) (by omega) (W.ret ?_)
  generalize IntKind.u64.wrap ((tc .u64 x (iu .u64 x (29:Int))) * (2685821657736338717:Int))=y
  have hx:0≤tc .u64 y (iu .u64 y 32)/\tc .u64 y (iu .u64 y 32) < 18446744073709551616:=wrap_u64 _
  have e:iu .u64 (tc .u64 y (iu .u64 y 32)) 8=(tc .u64 y (iu .u64 y 32)) / 256:=by
   unfold iu;rw [Int.fdiv_eq_ediv_of_nonneg _ (by decide)];rfl
  refine⟨?_,?_,?_,?_⟩
  .
   omega
  .
   omega
  .
   grind
  simp_all
 refine W.iteB (λhlt=>?_) (λ_=>fin _);simp_all [aG,if_pos,List.getElem?_eq_getElem]
theorem kG{k:Nat}{l:ba}{m n:Int}(h:Lo l m)(hm:m≤1000000000)(hn:n≤1000000000):W (cE k l n) λr=>0≤r.1/\(0≤n->r.1≤n)/\Lo r.2 (m+1):=by
 unfold cE;refine W.ite (λh1=>W.ret ⟨Int.le_refl 0,λh=>h,h.1,by show l.2.1≤m+1;have:=h.2;omega⟩) (λh1=>?_);refine W.bind (Lx h hm) λr hr=>?_;refine W.ck (by omega) (by omega) ?_;have e:IntKind.u64.wrap (n+1)=n+1:=zf (by omega) (by omega);refine W.chk (by omega) ?_;rw [e];have h2:Int.tmod r.1 (n+1)=r.1 % (n+1):=Int.tmod_eq_emod_of_nonneg hr.1;have h3:=Int.emod_nonneg r.1 (show n+1≠0 by omega);have h4:=Int.emod_lt_of_pos r.1 (show 0 < n+1 by omega);grind [W.ck,W.ret]
theorem D9{k:Nat}{l:ba}{m a b:Int}(h:Lo l m)(hm:m≤1000000000)(ha:0≤a)(hab:a≤b)(hb:b≤1000000):W (fQ k l a b) λr=>a≤r.1/\r.1≤b/\Lo r.2 (m+1):=by
 grind [fQ,W.ck,W.bind,kG,W.ret]
theorem uf{k:Nat}{l:ba}{m a:Int}(h:Lo l m)(hm:m≤1000000000)(ha:0≤a)(hb:a≤1000000):W (eD k l a) λr=>Lo r.2 (m+1):=by
 grind [eD,W.ck,W.bind,kG,W.ret]
theorem H2{k:Nat}{l:ba}{m:Int}{some_:List Int}(h:Lo l m)(hm:m≤1000000000)(h0:0 < some_.length)(h1:some_.length≤1000000):W (gY k l some_) λr=>r.1∈some_/\Lo r.2 (m+1):=by
 grind [gY,W.ck,W.bind,kG,W.at_,W.ret,List.mem_of_getElem?]
theorem eh{α:Type}{l:List α}{i:Nat}(h:i < l.length):aG l (i:Int)=some l[i]:=by
 rw [aG,if_pos (by omega)];simp_all
section
variable {α β γ ε σ T:Type}
theorem bs{a:α}{f:α->Option β}:(some a).bind f=f a:=by simp_all
theorem dz{n:Int}(h1: -9223372036854775808≤n)(h2:n≤9223372036854775807):K.ck n=some n:=by simp_all [K.ck,if_pos]
theorem dD{p:Prop}[Decidable p](h:p):cM p=some ():=by rw [cM,if_pos h]
theorem rN{l:List α}{i:Int}(h0:0≤i)(h:i.toNat < l.length):aG l i=some l[i.toNat]:=by rw [aG,if_pos h0];simp_all
theorem qE{l:List α}{i:Int}{x:α}(h0:0≤i)(h:l[i.toNat]? =some x):aG l i=some x:=by simp_all [aG,if_pos]
theorem oc{a:α}{g:ε->Option β}{f:α->Option β}:K.bE (some (.ok a)) g f=f a:=by simp_all [K.bE]
theorem qN{e:ε}{g:ε->Option β}{f:α->Option β}:K.bE (some (.error e)) g f=g e:=by simp_all [K.bE]
theorem yD{q:α}{a:β}{b:α->β}:gI (some q) a b=b q:=by simp_all [gI]
theorem yE{a:β}{b:α->β}:gI none a b=a:=by simp_all [gI]
theorem Vr{n:Nat}(h:n≤4294967296):bN n:=h
def oQ(g:σ->Nat->α->σ):Nat->List α->σ->σ
 |_,[],s=>s
 |j,x::l,s=>oQ g (j+1) l (g s j x)
theorem fH(l:List α)(mk:σ->Int->T)(g:σ->Nat->α->σ)(P:Nat->σ->Prop){f:Nat->T->Option β}(fin:σ->Option β)
 (step:∀n s (j:Nat) (h:j < l.length),P j s->f (n+1) (mk s j)=f n (mk (g s j l[j]) ((j:Int)+1))/\P (j+1) (g s j l[j]))
 (stop:∀n s,P l.length s->f (n+1) (mk s l.length)=fin s) {s0:σ} {n:Nat} (hn:l.length < n) (h0:P 0 s0):f n (mk s0 0)=fin (oQ g 0 l s0)/\P l.length (oQ g 0 l s0):=by
 have key:∀(m:List α) (pre:List α) (n:Nat) (s:σ),l=pre++m->m.length < n->P pre.length s->f n (mk s pre.length)=fin (oQ g pre.length m s)/\P l.length (oQ g pre.length m s):=by
  intro m
  induction m with
  |nil=>
   intro pre n s e hn hp;obtain⟨n,rfl⟩:∃n',n=n'+1:=⟨n - 1,by omega⟩;have:l.length=pre.length:=by grind
   rw [<-this] at hp⊢;exact⟨stop n s hp,hp⟩
  |cons x m ih=>
   intro pre n s e hn hp;simp only [length_cons] at hn;obtain⟨n,rfl⟩:∃n',n=n'+1:=⟨n - 1,by omega⟩;have hl:pre.length < l.length:=by grind
   have hx:l[pre.length]=x:=by simp [e]
   obtain⟨h1,h2⟩:=step n s pre.length hl hp;rw [hx] at h1 h2;have:=ih (pre++[x]) n (g s pre.length x) (by grind) (by omega) (by simp_all);rw [length_append] at this;simp only [length_cons,length_nil,Nat.zero_add] at this;rw [h1];exact this
 have:=key l [] n s0 rfl hn h0
 exact this
def fR(g:σ->Nat->α->Except ε σ):Nat->List α->σ->Except ε σ
 |_,[],s=>.ok s
 |j,x::l,s=>match g s j x with
  | .error e=>.error e
  | .ok s'=>fR g (j+1) l s'
theorem FG(l:List α)(mk:σ->Int->T)(g:σ->Nat->α->Except ε σ)(P:Nat->σ->Prop){f:Nat->T->Option β}(fin:Except ε σ->Option β)
 (step:∀n s (j:Nat) (h:j < l.length),P j s->(∃e,g s j l[j]= .error e/\f (n+1) (mk s j)=fin (.error e))\/(∃s',g s j l[j]= .ok s'/\f (n+1) (mk s j)=f n (mk s' ((j:Int)+1))/\P (j+1) s'))
 (stop:∀n s,P l.length s->f (n+1) (mk s l.length)=fin (.ok s)) {s0:σ} {n:Nat} (hn:l.length < n) (h0:P 0 s0):f n (mk s0 0)=fin (fR g 0 l s0):=by
 have key:∀(m:List α) (pre:List α) (n:Nat) (s:σ),l=pre++m->m.length < n->P pre.length s->f n (mk s pre.length)=fin (fR g pre.length m s):=by
  intro m
  induction m with
  |nil=>
   intro pre n s e hn hp;obtain⟨n,rfl⟩:∃n',n=n'+1:=⟨n - 1,by omega⟩;have:l.length=pre.length:=by grind
   rw [<-this] at hp⊢;exact stop n s hp
  |cons x m ih=>
   intro pre n s e hn hp;simp only [length_cons] at hn;obtain⟨n,rfl⟩:∃n',n=n'+1:=⟨n - 1,by omega⟩;have hl:pre.length < l.length:=by grind
   have hx:l[pre.length]=x:=by simp [e]
   rcases step n s pre.length hl hp with⟨e',h1,h2⟩ |⟨s',h1,h2,h3⟩
   .grind [fR]
   .rw [hx] at h1;have:=ih (pre++[x]) n s' (by grind) (by omega) (by simp_all);simp_all [length_append,length_cons,length_nil,Nat.zero_add,fR]
 exact key l [] n s0 rfl hn h0
end
section
variable {α β ε σ T:Type}
theorem mh(l:List α)(mk:σ->Int->T)(g:σ->Nat->α->Except ε σ)(P:Nat->σ->Prop){f:Nat->T->Option β}(fin:Except ε σ->Option β)
 (step:∀n s (j:Nat) (h:j < l.length),P j s->(f (n+1) (mk s j)=match g s j l[j] with | .error e=>fin (.error e) | .ok s'=>f n (mk s' ((j:Int)+1)))/\∀s',g s j l[j]= .ok s'->P (j+1) s')
 (stop:∀n s,P l.length s->f (n+1) (mk s l.length)=fin (.ok s)) {s0:σ} {n:Nat} (hn:l.length < n) (h0:P 0 s0):f n (mk s0 0)=fin (fR g 0 l s0):=
 FG l mk g P fin (λn s j h hp=>by
  obtain⟨h1,h2⟩:=step n s j h hp
  grind) stop hn h0
end
theorem qG{α:Type}(p:α->Bool):∀(l:List α) (j:Nat),fR (λ(_:Unit) j x=>if p x then Except.error (j:Int) else .ok ()) j l ()=match l.findIdx? p with |some i=>.error ((i+j:Nat):Int) |none=>.ok ()
 |[],j=>by simp [fR]
 |x::l,j=>by
  rw [fR,findIdx?_cons]
  by_cases h:p x=true
  .
   simp [h]
  .
   simp only [h,if_false,Bool.false_eq_true]
   rw [qG p l (j+1)]
   grind
theorem SJ{k:Nat}{l:List Int}{x:Int}(hk:l.length < k)(hl:l.length≤1000000):W (lD k l x) λr=>(0≤r↔x∈l):=by
 unfold lD
 have key:=W.loop (f:=gA k l x) (Q:=λr=>match r with | .error e=>0≤e/\x∈l | .ok _=>x∉l)
  (λm y=>0≤y/\y≤l.length/\m=l.length - y.toNat/\∀j:Nat,(j:Int) < y->l[j]? ≠some x) (λaL m y hI ih=>by
   obtain⟨h0,h1,hm,hj⟩:=hI;unfold gA;refine W.ite (λhlt=>W.at_ h0 hlt λv hv=>W.ite (λe=>W.ret ⟨h0,?_⟩) (λe=>W.ck (by omega) (by omega) (ih (m - 1) _ (by omega) ⟨by omega,by omega,by omega,λj hjy=>?_⟩))) (λhge=>W.ret ?_)
   .grind
   .grind
   grind [List.mem_iff_getElem?,Nat.lt_or_ge,List.getElem?_eq_none])
 refine W.bEE (key l.length k 0 hk ⟨Int.le_refl 0,by omega,by simp,λj hj=>by omega⟩) (λe he=>W.ret ⟨λ_=>he.2,λ_=>he.1⟩) (λ_ ho=>W.ret ⟨λh=>by omega,λh=>absurd h ho⟩)
def jB(s:Int):Prop:=0≤s/\s < 256
def ek(s:Int)(i:Nat):Prop:=s.toNat.testBit i=true
instance (s:Int) (i:Nat):Decidable (ek s i):=by unfold ek;infer_instance
theorem uc{x:Nat}(h:x < 256):IntKind.u8.wrap (x:Int)=x:=by
 grind [IntKind.wrap,IntKind.signed,IntKind.bits]
theorem u7{s:Int}(h:jB s):∃n:Nat,n < 256/\s=n:=⟨s.toNat,by have:=h.1;have:=h.2;omega,by have:=h.1;omega⟩
theorem H3{n:Nat}(h:n < 256):(BitVec.ofInt IntKind.u8.bits (n:Int)).toNat=n:=by
 show(BitVec.ofInt 8 (n:Int)).toNat=n;simp_all
theorem IK{n m:Nat}(hn:n < 256)(hm:m < 256):n |||m < 256:=or_lt_two_pow (n:=8) hn hm
theorem LJ{n m:Nat}(hn:n < 256):n &&& m < 256:=Nat.lt_of_le_of_lt and_le_left hn
theorem PN{a b:Int}(ha:jB a)(hb:jB b):jB (D8 .u8 a b)/\∀i,ek (D8 .u8 a b) i↔ek a i\/ek b i:=by
 obtain⟨n,hn,rfl⟩:=u7 ha;obtain⟨m,hm,rfl⟩:=u7 hb
 have e:D8 .u8 (n:Int) (m:Int)=((n |||m:Nat):Int):=by
  grind [D8,BitVec.toNat_or,H3,uc,IK]
 rw [e];refine⟨⟨by omega,by grind [IK]⟩,λi=>?_⟩;simp [ek,testBit_or]
theorem O8{x:Int}(h0:0≤x)(h8:x < 8):jB (oO .u8 1 x)/\∀i:Nat,ek (oO .u8 1 x) i↔(i:Int)=x:=by
 obtain⟨n,rfl⟩:=Int.eq_ofNat_of_zero_le h0;have hn:n < 8:=by omega
 have e:oO .u8 1 (n:Int)=((2 ^ n:Nat):Int):=by
  unfold oO
  have h1:min (Int.toNat (n:Int)) IntKind.u8.bits=n:=by
   show min n 8=n;omega
  rw [h1,Int.one_mul];have h2:2 ^ n < 256:=Nat.pow_lt_pow_right (by decide) hn;grind [uc]
 rw [e];have h9:2 ^ n < 256:=Nat.pow_lt_pow_right (by decide) hn;refine⟨⟨Int.natCast_nonneg _,Int.ofNat_lt.2 h9⟩,λi=>?_⟩;simp only [ek,Int.toNat_natCast,testBit_two_pow,decide_eq_true_eq];omega
theorem yo{k:Nat}{s:Int}(hs:jB s){i:Nat}(hi:i < 8):eZ k s (i:Int)=some (decide (ek s i)):=by
 obtain⟨n,hn,rfl⟩:=u7 hs;unfold eZ;rw [cM,if_pos (by omega)];show some _=some _;congr 1
 have e1:iu .u8 (n:Int) (i:Int)=((n >>> i:Nat):Int):=by
  unfold iu
  have h1:min (Int.toNat (i:Int)) IntKind.u8.bits=i:=by
   show min i 8=i;omega
  grind [Int.fdiv_eq_ediv_of_nonneg,Int.natCast_nonneg,Nat.shiftRight_eq_div_pow]
 have hlt:n >>> i < 256:=Nat.lt_of_le_of_lt (by rw [Nat.shiftRight_eq_div_pow];exact div_le_self _ _) hn
 have e2:qD .u8 ((n >>> i:Nat):Int) 1=(((n >>> i) &&& 1:Nat):Int):=by
  grind [qD,BitVec.ofInt,BitVec.toNat_and,H3,uc,LJ]
 rw [e1,e2]
 have e3:(((n >>> i) &&& 1:Nat):Int)=1↔ek (n:Int) i:=by
  rw [ek,Int.toNat_natCast,testBit];grind
 simp_all
end Go.Proofs.YtflilincnacbpaaGreat
set_option linter.unusedVariables false
set_option linter.unusedSimpArgs false
namespace Go.Proofs.YtflilincnacbpaaGreat
open K Go Go.Proofs
abbrev mC(m:ae):Int:=m.1
abbrev mW(m:ae):Int:=m.2.1
abbrev mS(m:ae):Int:=m.2.2.1
abbrev mH(m:ae):Int:=m.2.2.2.1
abbrev mD(m:ae):List (List (List Int)):=m.2.2.2.2.1
abbrev mG(m:ae):List an:=m.2.2.2.2.2
def qM(l:List Int)(c:Int):Option (List Int):=(l.findIdx? λy=>decide (c=y)).map λi=>(if 0 < i then [l[i-1]?.getD 0] else [])++(l[i+1]?).toList
def vp(d:List (List Int))(c:Int):Option (List Int):=d.findSome? λl=>qM l c
def zc(m:ae)(d:Nat)(c:Int):Option (List Int):=vp ((mD m)[d]?.getD []) c
def lR(m:ae)(c:Int):Nat->Nat
 |0=>if(zc m 0 c).isSome then 0 else 1
 |d+1=>if(zc m (d+1) c).isSome then 0 else lR m c d+1
def mK(m:ae)(B:Int->Bool):Nat->Int->Int
 |0,c=>if B c then mW m else -1
 |d+1,c=>match zc m d c with
  |none=>if mH m≤(lR m c d:Int) then -1 else mK m B d c
  |some l=>if 0≤mK m B d c then mK m B d c+1 else if l.any λx=>decide (mW m≤mK m B d x) then 0 else -1
theorem Ju{m:ae}{B:Int->Bool}(hw:0≤mW m):∀{d:Nat} {c:Int}, -1≤mK m B d c
 |0,c=>by grind [mK]
 |d+1,c=>by
  have:=Ju (B:=B) hw (d:=d) (c:=c)
  grind [mK]
theorem Jt{m:ae}{B:Int->Bool}(hw:mW m≤3):∀{d:Nat} {c:Int},mK m B d c≤3+d
 |0,c=>by grind [mK]
 |d+1,c=>by
  have:=Jt (B:=B) hw (d:=d) (c:=c)
  grind [mK]
theorem IQ{k:Nat}{l:List Int}{x:Int}(hk:l.length < k)(hl:l.length≤1000000):gu k l x=some (match l.findIdx? (λy=>decide (x=y)) with |some i=>(i:Int) |none=> -1):=by
 unfold gu
 have key:=mh (f:=dr k l x) l (λ(_:Unit) j=>j) (λ_ j y=>if decide (x=y)=true then Except.error (j:Int) else .ok ()) (λ_ _=>True) (λr=>some r)
  (λn s j hj _=>by
   have hck:ck ((j:Int)+1)=some ((j:Int)+1):=dz (by omega) (by omega);refine⟨?_,λ_ _=>trivial⟩;simp only [dr,Int.ofNat_lt,hj,if_true,eh hj,bs,decide_eq_true_eq];grind)
  (λn s _=>by simp [dr]) (n:=k) (s0:=()) hk trivial
 rw [show dr k l x k 0=_ from key,qG (λy=>decide (x=y)) l 0];grind [decide,oc,qN]
def nW:List Int->List Int
 |[a,b]=>if b < a then [b,a] else [a,b]
 |l=>l
theorem uB{l:List Int}{x:Int}:x∈nW l↔x∈l:=by
 unfold nW;grind
theorem KY{k:Nat}{l:List Int}(hk:10≤k)(hl:l.length≤2):fW k l=some (nW l):=by
 obtain⟨k,rfl⟩:∃n,k=n+4:=⟨k - 4,by omega⟩;have e0:pE (k+4) (IntKind.u64.wrap (0:Int))=some 0:=by kernel_rfl
 have e1:pE (k+4) (IntKind.u64.wrap (1:Int))=some 1:=by kernel_rfl
 have e2:pE (k+4) (IntKind.u64.wrap (2:Int))=some 2:=by kernel_rfl
 have c0:ck ((0:Int) - 0)=some 0:=rfl;have c1:ck ((1:Int) - 0)=some 1:=rfl;have c2:ck ((2:Int) - 0)=some 2:=rfl;have d1:ck ((0:Int)+1)=some 1:=rfl;have d2:ck ((1:Int)+1)=some 2:=rfl;have d3:ck ((1:Int) - 1)=some 0:=rfl;match l,hl with
 |[],_=>
  simp only [fW,length_nil,Int.ofNat_zero,e0,bs,c6,cG,bZ,bg,nW,c0,d1];rfl
 |[a],_=>
  simp_all [fW,bs,c6,cG,bZ,bg,nW]
 |[a,b],_=>
  have:(([a,b]:List Int).length:Int)=2:=rfl;have g0:aG [a,b] (0:Int)=some a:=rfl;have g1:aG [a,b] (1:Int)=some b:=rfl;have hn:∀x:Int,kW (k+4) x=some false:=λx=>by simp [kW]
  have hl:∀x y:Int,oU (k+4) x y=some (decide (x < y)):=λx y=>by simp [oU,hn]
  simp only [fW,this,e2,bs,c6,cG,bZ,bg,bH,c2,d1,d2,d3,g0,g1,hl];grind [nW,bH,bs,aG]
end Go.Proofs.YtflilincnacbpaaGreat
set_option linter.unusedVariables false
set_option linter.unusedSimpArgs false
namespace Go.Proofs.YtflilincnacbpaaGreat
open K Go Go.Proofs
structure Vd(m:ae):Prop where
 c1:1≤mC m
 c5:mC m≤5
 w0:0≤mW m
 w3:mW m≤3
 s0:0≤mS m
 s3:mS m≤3
 h1:1≤mH m
 h3:mH m≤3
 d1:1≤(mD m).length
 d6:(mD m).length≤6
 r3:∀r∈mD m,r.length≤3
 l5:∀r∈mD m,∀l∈r,l.length≤5
 x5:∀r∈mD m,∀l∈r,∀x∈l,0≤x/\x < mC m
 nd:∀r∈mD m,r.flatten.Nodup
 g8:(mG m).length≤8
 gl:∀g∈mG m,0≤g.1/\g.1 < mC m/\0≤g.2.1/\g.2.1≤(mD m).length
theorem AP{l:List Int}{c:Int}{s:List Int}(h:qM l c=some s):s.length≤2/\∀x∈s,x∈l:=by
 unfold qM at h;cases e:l.findIdx? (λy=>decide (c=y)) with
 |none=>simp_all
 |some i=>
  rw [e] at h;obtain rfl:=Option.some.inj h;have hi:i < l.length:=(List.findIdx?_eq_some_iff_getElem.1 e).1;grind
theorem Jp{d:List (List Int)}{c:Int}{s:List Int}(h:vp d c=some s):∃l∈d,qM l c=some s:=by
 simp_all [vp,List.exists_of_findSome?_eq_some]
theorem tB{m:ae}(v:Vd m){d:Nat}{c:Int}{s:List Int}(h:zc m d c=some s):s.length≤2/\∀x∈s,0≤x/\x < mC m:=by
 obtain⟨l,hl,h2⟩:=Jp h;cases e:(mD m)[d]? with
 |none=>simp_all
 |some r=>
  rw [e] at hl;have h3:=AP h2;exact⟨h3.1,λx hx=>v.x5 r (List.mem_of_getElem? e) l hl x (h3.2 x hx)⟩
def QB(m:ae)(c:Int)(d:Nat):Int ⊕ List Int:=match zc m d c with
 |some s=>.inr (nW s)
 |none=>.inl (lR m c d)
theorem zM{k:Nat}{c:Int}{r:List (List Int)}(hk:10≤k)(hr:r.length≤3)(hl:∀l∈r,l.length≤5):
 cK k c r k 0=some (match vp r c with |some s=>.error (.inr (nW s)) |none=>.ok ()):=by
 have key:=mh (f:=cK k c r) r (λ(_:Unit) j=>j) (λ_ _ l=>match qM l c with |some s=>Except.error (Sum.inr (nW s):Int ⊕ List Int) |none=>.ok ()) (λ_ _=>True) (λx=>some x)
  (λn s j hj _=>by
   refine⟨?_,λ_ _=>trivial⟩;have h5:=hl _ (List.getElem_mem hj);have hck:ck ((j:Int)+1)=some ((j:Int)+1):=dz (by omega) (by omega);simp only [cK,Int.ofNat_lt,hj,if_true,eh hj,bs];rw [IQ (by omega) (by omega),bs];generalize r[j]=l at *;have hb:qM l c=(l.findIdx? λy=>decide (c=y)).map λi=>(if 0 < i then [l[i-1]?.getD 0] else [])++(l[i+1]?).toList:=rfl;cases e:l.findIdx? (λy=>decide (c=y)) with
   |none=>
    simp_all
   |some i=>
    rw [e] at hb;simp only [Option.map_some] at hb;have hi:i < l.length:=(List.findIdx?_eq_some_iff_getElem.1 e).1;rw [hb];have hlen:=(AP hb).1;have c1:ck ((i:Int) - 1)=some ((i:Int) - 1):=dz (by omega) (by omega);have c2:ck ((i:Int)+1)=some ((i:Int)+1):=dz (by omega) (by omega);have ok0:cM (bN (length ([]:List Int)+length [l[i-1]?.getD 0]))=some ():=dD (by simp [bN]);simp only [show(0:Int)≤(i:Int) from Int.natCast_nonneg _,if_true,c1,c2,bs]
    have e1:(if(0:Int) < (i:Int) then((aG l ((i:Int) - 1)).bind λx11=>(cM (bN (length ([]:List Int)+length [x11]))).bind λ_=>some (([]:List Int)++[x11])) else some ([]:List Int))=some (if 0 < i then [l[i-1]?.getD 0] else []):=by
     by_cases h0:0 < i
     .have g:aG l ((i:Int) - 1)=some (l[i-1]?.getD 0):=by
       grind [eh,List.getElem?_eq_getElem]
      simp_all
     simp_all
    rw [e1,bs];generalize (if 0 < i then [l[i-1]?.getD 0] else [])=p at *
    have e2:(if(i:Int)+1 < (l.length:Int) then((aG l ((i:Int)+1)).bind λx18=>(cM (bN (length p+length [x18]))).bind λ_=>some (p++[x18])) else some p)=some (p++(l[i+1]?).toList):=by
     by_cases h1:i+1 < l.length
     .have g:aG l ((i:Int)+1)=some l[i+1]:=by
       have:((i:Int)+1)=((i+1:Nat):Int):=by omega
       rw [this,eh h1]
      rw [if_pos (by omega),g,bs,List.getElem?_eq_getElem h1];grind [List.getElem?_eq_getElem,dD,length_append,bN,bs]
     grind
    simp_all [bs,KY])
  (λn s _=>by simp [cK]) (n:=k) (s0:=()) (by omega) trivial
 rw [show cK k c r k 0=_ from key]
 congr 1
 have:∀(r:List (List Int)) (j:Nat),fR (λ(_:Unit) _ l=>match qM l c with |some s=>Except.error (Sum.inr (nW s):Int ⊕ List Int) |none=>.ok ()) j r ()=match vp r c with |some s=>.error (.inr (nW s)) |none=>.ok ():=by
  intro r
  induction r with
  |nil=>intro j;rfl
  |cons l r ih=>
   intro j;rw [fR];unfold vp;rw [findSome?_cons];cases qM l c with
   |none=>exact ih (j+1)
   |some s=>rfl
 simp_all
theorem Eo{m:ae}{c:Int}:∀{d:Nat},lR m c d≤d+1
 |0=>by grind [lR]
 |d+1=>by have:=Eo (m:=m) (c:=c) (d:=d);grind [lR]
theorem uM{k:Nat}{m:ae}{c:Int}(v:Vd m)(hk:10≤k):∀(d m0:Nat),d < m0->d < (mD m).length->eg k m0 m c (d:Int)=some (QB m c d)
 |d,0,h,_=>absurd h (not_lt_zero _)
 |d,m0+1,h,hd=>by
  have hm:=List.getElem_mem hd
  unfold eg
  rw [eh hd,bs,zM hk (v.r3 _ hm) (v.l5 _ hm)]
  have hbes:zc m d c=vp (mD m)[d] c:=by unfold zc;simp_all
  cases e:vp (mD m)[d] c with
  |some s=>
   simp_all [qN,QB]
  |none=>
   rw [oc]
   unfold QB
   rw [hbes,e]
   match d,hd,h with
   |0,hd,h=>
    simp_all [lR]
   |d+1,hd,h=>
    have h6:=v.d6
    have c1:ck (((d+1:Nat):Int) - 1)=some (d:Int):=by grind [dz]
    have ih:=uM v hk d m0 (by omega) (by omega) (c:=c)
    rw [if_pos (by omega),c1,bs,ih,bs]
    rw [hbes.symm] at e
    have hcold:lR m c (d+1)=lR m c d+1:=by grind [lR]
    have hle:=Eo (m:=m) (c:=c) (d:=d)
    unfold QB
    cases e2:zc m d c with
    |some s=>
     simp only [K6]
     have:lR m c d=0:=by cases d <;> simp [lR,e2]
     simp_all
    |none=>
     have c2:ck ((1:Int)+(lR m c d:Int))=some ((1:Int)+(lR m c d:Int)):=dz (by omega) (by omega)
     simp only [K6,Q2,c2,bs,if_true,hcold]
     grind
end Go.Proofs.YtflilincnacbpaaGreat
set_option linter.unusedVariables false
set_option linter.unusedSimpArgs false
namespace Go.Proofs.YtflilincnacbpaaGreat
open K Go Go.Proofs
def kH(f:Int->Int):List Int:=[f 0,f 1,f 2,f 3,f 4]
def upd(f:Int->Int)(c v:Int):Int->Int:=λx=>if x=c then v else f x
theorem Ve{c:Int}(h0:0≤c)(h:c < 5):c=0\/c=1\/c=2\/c=3\/c=4:=by omega
theorem xU{f:Int->Int}{c:Int}(h0:0≤c)(h:c < 5):aG (kH f) c=some (f c):=by
 rcases Ve h0 h with rfl |rfl |rfl |rfl |rfl <;> rfl
theorem DI{f:Int->Int}{c v:Int}(h0:0≤c)(h:c < 5):List.set (kH f) (Int.toNat c) v=kH (upd f c v):=by
 rcases Ve h0 h with rfl |rfl |rfl |rfl |rfl <;> rfl
theorem mU{f g:Int->Int}(h:∀c,0≤c->c < 5->f c=g c):kH f=kH g:=by
 simp_all [kH]
def QZ(m:ae)(f:Int->Int)(d:Nat)(c:Int):Int:=match zc m d c with
 |none=>if mH m≤(lR m c d:Int) then -1 else f c
 |some l=>if 0≤f c then f c+1 else if l.any λx=>decide (mW m≤f x) then 0 else -1
def QC(m:ae)(f:Int->Int)(d:Nat):Int->Int:=λc=>if 0≤c/\c < mC m then QZ m f d c else f c
theorem vU{k:Nat}{m:ae}{f:Int->Int}(hw:0≤mW m){s:List Int}(hs:s.length < k)(hs2:s.length≤1000)(hx:∀x∈s,0≤x/\x < 5):
 ce k m (kH f) s k 0=some (match s.find? (λx=>decide (mW m≤f x)) with |some x=>.error x |none=>.ok ()):=by
 have key:=mh (f:=ce k m (kH f) s) s (λ(_:Unit) j=>j) (λ_ _ x=>if decide (mW m≤f x)=true then Except.error x else .ok ()) (λ_ _=>True) (λx=>some x)
  (λn _ j hj _=>by
   refine⟨?_,λ_ _=>trivial⟩;have h5:=hx _ (List.getElem_mem hj);have hck:ck ((j:Int)+1)=some ((j:Int)+1):=dz (by omega) (by omega);have him:td (0:Int) m.2.1=mW m:=by show td 0 (mW m)=mW m;grind [td]
   simp only [ce,Int.ofNat_lt,hj,if_true,eh hj,bs,dD h5,xU h5.1 h5.2,him,hck,decide_eq_true_eq];grind)
  (λn s _=>by simp [ce]) (n:=k) (s0:=()) hs trivial
 rw [show ce k m (kH f) s k 0=_ from key]
 congr 1
 have:∀(s:List Int) (j:Nat),fR (λ(_:Unit) _ x=>if decide (mW m≤f x)=true then Except.error x else .ok ()) j s ()=match s.find? (λx=>decide (mW m≤f x)) with |some x=>.error x |none=>.ok ():=by
  intro s
  induction s with
  |nil=>intro j;rfl
  |cons x s ih=>
   intro j;rw [fR,find?_cons];grind
 simp_all
theorem zB{s:List Int}:(nW s).length=s.length:=by
 unfold nW;grind
def KL(m:ae)(f:Int->Int)(l:List Int):Int:=((nW l).find? λx=>decide (mW m≤f x)).getD (-1)
theorem BG{k:Nat}{m:ae}{f:Int->Int}{c:Int}{d:Nat}(v:Vd m)(hk:10≤k)(hd:d < (mD m).length){l:List Int}(h:zc m d c=some l):
 dC k m (kH f) c (d:Int)=some (KL m f l):=by
 have h6:=v.d6
 have c5:=v.c5
 have hb:=tB v h
 unfold dC
 rw [uM v hk d k (by omega) hd,bs]
 unfold QB
 rw [h]
 have e1:Jn (Sum.inr (nW l):Int ⊕ List Int) (λn=>iF k n) (λl=>iD k l)=some (nW l):=rfl
 rw [e1,bs,vU v.w0 (by rw [zB];omega) (by rw [zB];omega) λx hx=>by grind [uB]]
 unfold KL
 cases(nW l).find? λx=>decide (mW m≤f x) with
 |none=>rw [oc];rfl
 |some x=>rw [qN];rfl
theorem KJ{m:ae}{f:Int->Int}{l:List Int}(hx:∀x∈l,0≤x):0≤KL m f l↔(l.any λx=>decide (mW m≤f x))=true:=by
 unfold KL;rw [List.any_eq_true];cases e:(nW l).find? λx=>decide (mW m≤f x) with
 |none=>
  simp_all [Option.getD_none,List.find?_eq_none,uB]
 |some x=>
  grind [List.mem_of_find?_eq_some,uB]
theorem IB{k:Nat}{m:ae}{f:Int->Int}{d:Nat}(v:Vd m)(hk:10≤k)(hd:d < (mD m).length)(hf:∀c,0≤c->c < mC m-> -1≤f c/\f c≤1000):
 gX k m (kH f) (d:Int)=some (kH (QC m f d)):=by
 have c5:=v.c5
 have c1:=v.c1
 have h6:=v.d6
 unfold gX
 have key:=fH (T:=List Int×Int) (f:=cD k m (kH f) (d:Int)) (List.range (mC m).toNat) (λ(g:Int->Int) j=>(kH g,j)) (λg j _=>upd g (j:Int) (QZ m f d (j:Int))) (λj g=>g=λc=>if 0≤c/\c < (j:Int) then QZ m f d c else f c) (λg=>some (kH g))
  (λn g j hj hg=>by
   rw [length_range] at hj;have j0:(0:Int)≤(j:Int):=Int.natCast_nonneg _;have j1:(j:Int) < mC m:=by omega
   have j5:(j:Int) < 5:=by omega
   have hck:ck ((j:Int)+1)=some ((j:Int)+1):=dz (by omega) (by omega);have hp:cM ((0:Int)≤(j:Int)/\(j:Int) < 5)=some ():=dD ⟨j0,j5⟩;have hgj:g (j:Int)=f (j:Int):=by simp_all
   have hfj:=hf _ j0 j1;refine⟨?_,?_⟩
   .have hm1:(m.1:Int)=mC m:=rfl;have hm2:m.2.2.2.1=mH m:=rfl;simp only [cD,hm1,hm2,j1,if_true,uM v hk d k (by omega) hd,bs,hp,xU j0 j5,hck,DI j0 j5];unfold QB QZ;cases e:zc m d (j:Int) with
    |none=>
     simp only [K6,Q2,if_true];by_cases hh:mH m≤(lR m (j:Int) d:Int)
     .simp_all
     .simp only [hh,if_false,bs];refine congrArg (λr=>cD k m (kH f) (d:Int) n (r,(j:Int)+1)) (mU λc _ _=>?_);simp_all [upd]
    |some l=>
     have hb:=tB v e;simp only [K6,Bool.false_eq_true,if_false,not_false_eq_true,if_true];by_cases h0:0≤f (j:Int)
     .have hck2:ck (f (j:Int)+1)=some (f (j:Int)+1):=dz (by omega) (by omega);simp_all
     .simp only [h0,if_false,BG v hk hd e,bs];have ht:=KJ (m:=m) (f:=f) (l:=l) λx hx=>(hb.2 x hx).1;by_cases hany:(l.any λx=>decide (mW m≤f x))=true
      .simp_all
      .rw [if_neg λh=>hany (ht.1 h),bs,if_neg hany];refine congrArg (λr=>cD k m (kH f) (d:Int) n (r,(j:Int)+1)) (mU λc _ _=>?_);grind [upd]
   .rw [hg];funext c;unfold upd;grind)
  (λn g hg=>by
   rw [length_range];have:((mC m).toNat:Int)=mC m:=by omega
   simp_all [cD,if_neg,mC]) (n:=k) (s0:=f) (by grind) (by grind)
 rw [show cD k m (kH f) (d:Int) k (kH f,0)=_ from key.1,bs]
 congr 1
 refine mU λc _ _=>?_
 rw [key.2,length_range]
 unfold QC
 grind
end Go.Proofs.YtflilincnacbpaaGreat
set_option linter.unusedVariables false
set_option linter.unusedSimpArgs false
namespace Go.Proofs.YtflilincnacbpaaGreat
open K Go Go.Proofs
def cr(F:Nat->Int->Int):List (List Int):=[kH (F 0),kH (F 1),kH (F 2),kH (F 3),kH (F 4),kH (F 5),kH (F 6)]
def BA(F:Nat->Int->Int)(n:Nat)(f:Int->Int):Nat->Int->Int:=λi=>if i=n then f else F i
theorem Vb{n:Nat}(h:n < 7):n=0\/n=1\/n=2\/n=3\/n=4\/n=5\/n=6:=by omega
theorem CX{F:Nat->Int->Int}{n:Nat}(h:n < 7):aG (cr F) (n:Int)=some (kH (F n)):=by
 rcases Vb h with rfl |rfl |rfl |rfl |rfl |rfl |rfl <;> rfl
theorem Qa{F:Nat->Int->Int}{n:Nat}{f:Int->Int}(h:n < 7):List.set (cr F) n (kH f)=cr (BA F n f):=by
 rcases Vb h with rfl |rfl |rfl |rfl |rfl |rfl |rfl <;> rfl
def QI(m:ae)(B:Int->Bool):Nat->Int->Int
 |0=>λc=>if B c then mW m else -1
 |n+1=>QC m (QI m B n) n
theorem yM{m:ae}(v:Vd m){B:Int->Bool}:∀(n:Nat) (c:Int),0≤c->c < mC m->QI m B n c=mK m B n c
 |0,c,_,_=>rfl
 |n+1,c,h0,h1=>by
  have ih:=yM v (B:=B) n
  show QC m (QI m B n) n c=mK m B (n+1) c
  unfold QC
  rw [if_pos ⟨h0,h1⟩]
  unfold QZ mK
  cases e:zc m n c with
  |none=>simp_all
  |some l=>
   have hb:=(tB v e).2
   grind
def GG(m:ae)(B:Int->Bool):Nat->Int->Int:=λn=>if n≤(mD m).length then QI m B n else λ_=>0
def ni(S:Int):Int->Bool:=λc=>decide (ek S c.toNat)
theorem Hu{k:Nat}{m:ae}{S:Int}(hk:10≤k)(hS:jB S):eT k m S=some (kH λc=>if ni S c then mW m else -1):=by
 unfold eT
 have key:=fH (T:=List Int×Int) (f:=cJ k m S) (List.range 5) (λ(g:Int->Int) j=>(kH g,j)) (λg j _=>upd g (j:Int) (if ni S (j:Int) then mW m else -1)) (λj g=>∀c,0≤c->c < (j:Int)->g c=if ni S c then mW m else -1) (λg=>some (kH g))
  (λn g j hj hg=>by
   rw [length_range] at hj;have j0:(0:Int)≤(j:Int):=Int.natCast_nonneg _;have j5:(j:Int) < 5:=by omega
   have hck:ck ((j:Int)+1)=some ((j:Int)+1):=dz (by omega) (by omega);have hp:cM ((0:Int)≤(j:Int)/\(j:Int) < 5)=some ():=dD ⟨j0,j5⟩;have hp':cM ((0:Int)≤(j:Int)/\True)=some ():=dD ⟨j0,trivial⟩;refine⟨?_,?_⟩
   .simp only [cJ,j5,if_true,hp,hp',bs,yo (k:=k) hS (by omega:j < 8),hck,DI j0 j5];have hin:ni S (j:Int)=decide (ek S j):=by unfold ni;simp_all
    rw [hin];cases hh:decide (ek S j) with
    |true=>
     simp only [if_true,bs];refine congrArg (λr=>cJ k m S n (r,(j:Int)+1)) (mU λc _ _=>?_);simp_all [upd]
    |false=>simp_all
   .intro c hc0 hc1;unfold upd;grind)
  (λn g hg=>by
   simp_all [length_range,cJ,if_neg]) (n:=k) (s0:=λ_=>0) (by grind) (λc h0 h1=>by omega)
 have e0:([(0:Int),(0:Int),(0:Int),(0:Int),(0:Int)]:List Int)=kH λ_=>0:=rfl;rw [e0,show cJ k m S k (kH λ_=>0,0)=_ from key.1,bs];refine congrArg some (mU λc h0 h5=>?_);simp_all
theorem tw{k:Nat}{m:ae}{S:Int}(v:Vd m)(hk:10≤k)(hS:jB S):lQ k m S=some (cr (GG m (ni S))):=by
 have d6:=v.d6;have d1:=v.d1;have w0:=v.w0;have w3:=v.w3;unfold lQ jt;have hm:cM (0≤S/\S < 256)=some ():=dD hS;have hp0:cM ((0:Int)≤0/\(0:Int) < 7)=some ():=dD ⟨by omega,by omega⟩;rw [hm,bs,Hu hk hS,bs,hp0,bs]
 have key:=fH (T:=List (List Int)×Int) (f:=bS k m) (mD m) (λ(F:Nat->Int->Int) j=>(cr F,j)) (λF j _=>BA F (j+1) (QC m (F j) j)) (λj F=>F=λn=>if n≤j then QI m (ni S) n else λ_=>0) (λF=>some (cr F))
  (λn F j hj hF=>by
   have j0:(0:Int)≤(j:Int):=Int.natCast_nonneg _;have hck:ck ((j:Int)+1)=some ((j:Int)+1):=dz (by omega) (by omega);have hp:cM ((0:Int)≤(j:Int)/\(j:Int) < 7)=some ():=dD ⟨j0,by omega⟩;have hp2:cM ((0:Int)≤(j:Int)+1/\(j:Int)+1 < 7)=some ():=dD ⟨by omega,by omega⟩;have hFj:F j=QI m (ni S) j:=by simp_all
   have hj':(j:Int) < (m.2.2.2.2.1.length:Int):=Int.ofNat_lt.2 hj
   have hnx:=IB (k:=k) (f:=F j) v hk hj (λc h0 h1=>by
    rw [hFj,yM v j c h0 h1];have:=Ju (B:=ni S) w0 (d:=j) (c:=c);have:=Jt (B:=ni S) w3 (d:=j) (c:=c);omega)
   refine⟨?_,?_⟩
   .simp only [bS,hj',if_true,hck,hp,bs,CX (F:=F) (show j < 7 by omega),hnx,hp2];grind [Int.toNat,Qa]
   .rw [hF];funext i;unfold BA;by_cases e:i=j+1
    .subst e;simp only [if_true,Nat.le_refl];rfl
    grind)
  (λn F hF=>by
   unfold bS;simp_all) (n:=k) (s0:=BA (λ_ _=>0) 0 (λc=>if ni S c then mW m else -1)) (by omega) (by
   funext n;unfold BA;by_cases e:n=0
   .subst e;rfl
   simp_all)
 have e0:List.set tq (Int.toNat 0) (kH λc=>if ni S c then mW m else -1)=cr (BA (λ_ _=>0) 0 (λc=>if ni S c then mW m else -1)):=rfl;rw [e0,show bS k m k (cr (BA (λ_ _=>0) 0 (λc=>if ni S c then mW m else -1)),0)=_ from key.1,bs];rw [key.2];rfl
theorem Em{m:ae}(v:Vd m){B:Int->Bool}{n:Nat}{c:Int}(hn:n≤(mD m).length)(h0:0≤c)(h1:c < mC m):GG m B n c=mK m B n c:=by
 simp_all [GG,if_pos,yM]
end Go.Proofs.YtflilincnacbpaaGreat
set_option linter.unusedVariables false
set_option linter.unusedSimpArgs false
namespace Go.Proofs.YtflilincnacbpaaGreat
open K Go Go.Proofs
def wk{σ:Type}(bad:σ->Int->Option Int)(add:σ->Int->σ):List Int->σ->Except Int σ
 |[],s=>.ok s
 |x::l,s=>match bad s x with
  |some e=>.error e
  |none=>wk bad add l (add s x)
theorem xK{σ:Type}{bad:σ->Int->Option Int}{add:σ->Int->σ}:∀(l:List Int) (j:Nat) (s:σ),fR (λs _ x=>match bad s x with |some e=>Except.error e |none=>.ok (add s x)) j l s=wk bad add l s
 |[],j,s=>rfl
 |x::l,j,s=>by
  rw [fR,wk]
  cases bad s x with
  |some e=>rfl
  |none=>exact xK l (j+1) (add s x)
theorem wA{σ:Type}{bad:σ->Int->Option Int}{add:σ->Int->σ}:∀(a b:List Int) (s:σ),wk bad add (a++b) s=match wk bad add a s with | .error e=>.error e | .ok s'=>wk bad add b s'
 |[],b,s=>rfl
 |x::a,b,s=>by
  rw [cons_append,wk,wk]
  cases bad s x with
  |some e=>rfl
  |none=>exact wA a b (add s x)
theorem Dx{σ:Type}{bad:σ->Int->Option Int}{add:σ->Int->σ}:∀(r:List (List Int)) (j:Nat) (s:σ),fR (λs _ l=>wk bad add l s) j r s=wk bad add r.flatten s
 |[],j,s=>rfl
 |l::r,j,s=>by
  rw [fR,flatten_cons,wA]
  cases wk bad add l s with
  |error e=>rfl
  |ok s'=>exact Dx r (j+1) s'
theorem G1{σ τ:Type}{b1:σ->Int->Option Int}{a1:σ->Int->σ}{b2:τ->Int->Option Int}{a2:τ->Int->τ}(R:σ->τ->Prop)(hb:∀s t x,R s t->b1 s x=b2 t x)(ha:∀s t x,R s t->b1 s x=none->R (a1 s x) (a2 t x)):
 ∀(l:List Int) (s:σ) (t:τ),R s t->(∃e,wk b1 a1 l s= .error e/\wk b2 a2 l t= .error e)\/∃s' t',wk b1 a1 l s= .ok s'/\wk b2 a2 l t= .ok t'/\R s' t'
 |[],s,t,h=>.inr ⟨s,t,rfl,rfl,h⟩
 |x::l,s,t,h=>by
  rw [wk,wk,<-hb s t x h]
  cases e:b1 s x with
  |some c=>simp_all
  |none=>exact G1 R hb ha l _ _ (ha s t x h e)
theorem Bt{σ:Type}{bad:σ->Int->Option Int}{add:σ->Int->σ}(P:σ->Prop)(hs:∀s x,P s->bad s x=none->P (add s x)):∀(l:List Int) (s s':σ),P s->wk bad add l s= .ok s'->P s'
 |[],s,s',h,e=>by cases e;exact h
 |x::l,s,s',h,e=>by
  rw [wk] at e
  cases hb:bad s x with
  |some c=>simp_all
  |none=>rw [hb] at e;exact Bt P hs l _ s' (hs s x h hb) e
theorem kS{k:Nat}{a b c:Int}:dP k a b c=some (decide (b≤a/\a≤c)):=by
 grind [dP]
theorem Tv{n:Int}(h:1≤n/\n≤5):ck (n - 1)=some (n - 1):=by grind [dz]
def Bo(C:Int)(s x:Int):Option Int:=if¬(0≤x/\x < C) then some 3 else if ek s x.toNat then some 4 else none
def xu(s x:Int):Int:=D8 .u8 s (oO .u8 1 x)
def C6(C:Int)(s:List Int)(x:Int):Option Int:=if¬(0≤x/\x < C) then some 3 else if x∈s then some 4 else none
def EE(s:List Int)(x:Int):List Int:=s++[x]
theorem wW:jB 0:=⟨by decide,by decide⟩
theorem Oc{C s x:Int}(h:Bo C s x=none):0≤x/\x < C:=by
 unfold Bo at h;grind
theorem nk{k:Nat}{s x:Int}(hs:jB s)(h0:0≤x)(h8:x < 8):f7 k s x=some (xu s x)/\jB (xu s x)/\∀i:Nat,ek (xu s x) i↔ek s i\/(i:Int)=x:=by
 have h1:=O8 h0 h8;have h2:=PN hs h1.1;refine⟨?_,h2.1,λi=>?_⟩
 .unfold f7;rw [dD h0,bs];rfl
 .show ek (D8 .u8 s (oO .u8 1 x)) i↔_;simp_all
theorem AQ{C s x:Int}(hC:C≤5)(hs:jB s)(h:Bo C s x=none):jB (xu s x):=by
 have:=Oc h;exact(nk (k:=0) hs this.1 (by omega)).2.1
def tp(C:Int)(r:List (List Int)):Int:=if 3 < r.length then 6 else match wk (C6 C) EE r.flatten [] with | .error e=>e | .ok _=>0
theorem FQ{k:Nat}{m:ae}(hC:1≤mC m/\mC m≤5){l:List Int}(hk:l.length < k)(hl:l.length≤1000){s:Int}(hs:jB s):
 dj k m l k (s,0)=some (wk (Bo (mC m)) xu l s):=by
 have key:=mh (T:=Int×Int) (f:=dj k m l) l (λ(s:Int) j=>(s,j)) (λs _ x=>match Bo (mC m) s x with |some e=>Except.error e |none=>.ok (xu s x)) (λ_ s=>jB s) (λr=>some r)
  (λn s j hj hs=>by
   have hck:ck ((j:Int)+1)=some ((j:Int)+1):=dz (by omega) (by omega);have hc:ck (m.1 - 1)=some (m.1 - 1):=Tv hC;refine⟨?_,λs' e=>?_⟩
   .simp only [dj,Int.ofNat_lt,hj,if_true,eh hj,bs,hc,kS];generalize l[j]=x;by_cases h:0≤x/\x < mC m
    .have h':0≤x/\x≤m.1 - 1:=⟨h.1,by grind⟩;have hh:=yo (k:=k) hs (i:=x.toNat) (by omega);have ex:((x.toNat:Nat):Int)=x:=by omega
     rw [ex] at hh;simp only [h',and_self,decide_true,not_true_eq_false,if_false,hh,bs];have eb:Bo (mC m) s x=if ek s x.toNat then some 4 else none:=by unfold Bo;simp_all
     rw [eb];by_cases h2:ek s x.toNat
     .simp_all
     .simp only [h2,decide_false,Bool.false_eq_true,if_false,(nk (k:=k) hs h.1 (by omega)).1,bs,hck]
    .have h':¬(0≤x/\x≤m.1 - 1):=λhh=>h ⟨hh.1,by grind⟩;have eb:Bo (mC m) s x=some 3:=by unfold Bo;simp_all
     simp_all
   .cases e2:Bo (mC m) s l[j] with
    |some c=>simp_all
    |none=>grind [AQ])
  (λn s _=>by simp [dj]) (n:=k) (s0:=s) hk hs
 simp_all [dj,xK]
theorem FR{k:Nat}{m:ae}(hC:1≤mC m/\mC m≤5){r:List (List Int)}(hk:r.length < k)(hr:r.length≤1000)(hl:∀l∈r,l.length < k/\l.length≤1000):
 dk k m r k (0,0)=some (match wk (Bo (mC m)) xu r.flatten 0 with | .error e=>.error e | .ok _=>.ok ()):=by
 have key:=mh (T:=Int×Int) (f:=dk k m r) r (λ(s:Int) j=>(s,j)) (λs _ l=>wk (Bo (mC m)) xu l s) (λ_ s=>jB s) (λx=>some (match x with | .error e=>Except.error e | .ok _=>.ok ()))
  (λn s j hj hs=>by
   have hck:ck ((j:Int)+1)=some ((j:Int)+1):=dz (by omega) (by omega);have hlj:=hl _ (List.getElem_mem hj);refine⟨?_,λs' e=>Bt jB (λs x=>AQ hC.2) _ _ _ hs e⟩;simp only [dk,Int.ofNat_lt,hj,if_true,eh hj,bs,FQ hC hlj.1 hlj.2 hs];cases wk (Bo (mC m)) xu r[j] s with
   |error e=>rw [qN]
   |ok s'=>rw [oc,hck,bs])
  (λn s _=>by simp [dk]) (n:=k) (s0:=0) hk wW
 simp_all [dk,Dx]
theorem MJ{C:Int}(hC:C≤5)(l:List Int):(∃e,wk (Bo C) xu l 0= .error e/\wk (C6 C) EE l []= .error e)\/∃s t,wk (Bo C) xu l 0= .ok s/\wk (C6 C) EE l []= .ok t/\(jB s/\∀i:Nat,ek s i↔(i:Int)∈t):=by
 refine G1 (λs t=>jB s/\∀i:Nat,ek s i↔(i:Int)∈t) (λs t x h=>?_) (λs t x h hb=>?_) l 0 [] ⟨wW,λi=>by simp [ek]⟩
 .unfold Bo C6;grind
 .have hx:=Oc hb;have hw:=nk (k:=0) h.1 hx.1 (by omega);simp_all [EE]
theorem LF{k:Nat}{m:ae}(hC:1≤mC m/\mC m≤5){r:List (List Int)}(hk:1000 < k)(hr:r.length≤1000)(hl:∀l∈r,l.length≤1000):jd k m r=some (tp (mC m) r):=by
 unfold jd tp;by_cases h3:3 < r.length
 .grind
 .rw [if_neg (by omega),if_neg h3,FR hC (by omega) hr λl hh=>⟨by grind,hl l hh⟩];rcases MJ hC.2 r.flatten with⟨e,h1,h2⟩ |⟨s,t,h1,h2,_⟩
  .simp_all [qN]
  simp_all [oc]
end Go.Proofs.YtflilincnacbpaaGreat
set_option linter.unusedVariables false
set_option linter.unusedSimpArgs false
namespace Go.Proofs.YtflilincnacbpaaGreat
open K Go Go.Proofs
theorem qh:∀(n:Nat) (l:List Int),l.Nodup->(∀x∈l,0≤x/\x < (n:Int))->l.length≤n
 |0,l,_,h=>by
  cases l with
  |nil=>simp
  |cons x l=>have:=h x (by simp);omega
 |n+1,l,hn,h=>by
  have h1:=qh n (l.erase (n:Int)) (hn.erase _) (λx hx=>by
   grind)
  grind
theorem SI{C:Int}{s:List Int}{x:Int}(h:C6 C s x=none):(0≤x/\x < C)/\x∉s:=by
 unfold C6 at h;grind
def Mt(C:Int)(s:List Int):Prop:=s.Nodup/\∀x∈s,0≤x/\x < C
theorem Mt.add{C:Int}{s:List Int}{x:Int}(h:Mt C s)(hb:C6 C s x=none):Mt C (EE s x):=by
 have:=SI hb;refine⟨?_,λy hy=>?_⟩
 .unfold EE;rw [nodup_append];exact⟨h.1,by simp,λa ha b hb e=>by simp_all⟩
 .rcases List.mem_append.1 hy with hy |hy
  .exact h.2 y hy
  simp_all
theorem Mt.len{C:Int}{s:List Int}(hC:0≤C/\C≤5)(h:Mt C s):s.length≤5:=by
 have:=qh C.toNat s h.1 λx hx=>⟨(h.2 x hx).1,by have:=(h.2 x hx).2;omega⟩;omega
theorem G2{C:Int}:∀{l s t:List Int},wk (C6 C) EE l s= .ok t->t=s++l
 |[],s,t,e=>by cases e;simp
 |x::l,s,t,e=>by
  rw [wk] at e
  cases hb:C6 C s x with
  |some c=>simp_all
  |none=>
   rw [hb] at e
   have:=G2 e
   simp_all [EE]
theorem Dy{C:Int}:∀{l s:List Int},(s++l).Nodup->(∀x∈l,0≤x/\x < C)->wk (C6 C) EE l s= .ok (s++l)
 |[],s,_,_=>by simp [wk]
 |x::l,s,hn,hr=>by
  have hx:x∉s:=by
   grind
  have hb:C6 C s x=none:=by
   unfold C6;simp_all
  rw [wk,hb];simp only [];rw [Dy (s:=EE s x) (by simp_all [EE]) λy hy=>hr y (mem_cons_of_mem _ hy)];simp_all [EE]
theorem xn{C:Int}{r:List (List Int)}:tp C r=0↔r.length≤3/\r.flatten.Nodup/\∀x∈r.flatten,0≤x/\x < C:=by
 unfold tp;constructor
 .intro h;split at h
  .cases h
  .cases e:wk (C6 C) EE r.flatten [] with
   |ok t=>
    have h1:=Bt (Mt C) (λs x=>Mt.add) _ _ _ ⟨nodup_nil,λx hx=>by cases hx⟩ e;have h2:=G2 e;rw [nil_append] at h2;subst h2;exact⟨by omega,h1.1,h1.2⟩
   |error c=>
    rw [e] at h;exfalso
    have:∀(l s:List Int),wk (C6 C) EE l s≠.error 0:=by
     intro l
     induction l with
     |nil=>intro s h;cases h
     |cons x l ih=>
      grind [wk,C6]
    simp_all
 .rintro⟨h1,h2,h3⟩;rw [if_neg (by omega),Dy (by simp_all) h3]
def IX(m:ae)(g:an):Int:=if(0≤g.1/\g.1 < mC m)/\0≤g.2.1/\g.2.1≤(mD m).length then 0 else 3
theorem PL{k:Nat}{m:ae}(hC:1≤mC m/\mC m≤5){g:an}:gp k m g=some (IX m g):=by
 have hc:ck (m.1 - 1)=some (m.1 - 1):=Tv hC;unfold gp IX;have e:decide (0≤g.1/\g.1≤m.1 - 1)=decide (0≤g.1/\g.1 < mC m):=decide_eq_decide.2 ⟨λh=>⟨h.1,by grind⟩,λh=>⟨h.1,by grind⟩⟩;rw [hc,bs,kS,bs,e];by_cases h1:0≤g.1/\g.1 < mC m
 .by_cases h2:0≤g.2.1/\g.2.1≤(mD m).length <;> simp [h1,h2,kS]
 grind
def lP{α:Type}(f:α->Int)(l:List α):Int:=((l.map f).find? λe=>decide (e≠0)).getD 0
theorem tf{α:Type}(f:α->Int):∀(l:List α) (j:Nat),fR (λ(_:Unit) _ x=>if¬(f x=0) then Except.error (f x) else .ok ()) j l ()=if lP f l=0 then .ok () else .error (lP f l)
 |[],j=>by simp [fR,lP]
 |x::l,j=>by
  rw [fR]
  by_cases h:f x=0
  .
   have:lP f (x::l)=lP f l:=by simp [lP,h]
   rw [this]
   simp only [h,not_true_eq_false,if_false]
   exact tf f l (j+1)
  simp_all [lP]
theorem pw{α:Type}{f:α->Int}{l:List α}:lP f l=0↔∀x∈l,f x=0:=by
 induction l with
 |nil=>simp [lP]
 |cons x l ih=>
  grind [lP]
structure Sm(m:ae):Prop where
 d:(mD m).length≤1000
 r:∀r∈mD m,r.length≤1000/\∀l∈r,l.length≤1000
 g:(mG m).length≤1000
def qL(m:ae):Int:=
 if¬((1≤mC m/\mC m≤5)/\(0≤mW m/\mW m≤3)/\(0≤mS m/\mS m≤3)/\1≤mH m/\mH m≤3) then 1
 else if(mD m).length=0 then 7 else if 6 < (mD m).length then 6 else if¬(lP (tp (mC m)) (mD m)=0) then lP (tp (mC m)) (mD m)
 else if 8 < (mG m).length then 6 else lP (IX m) (mG m)
theorem LG{k:Nat}{m:ae}(hs:Sm m)(hk:1000 < k):mZ k m=some (qL m):=by
 unfold mZ qL;simp only [kS,bs];by_cases h1:1≤mC m/\mC m≤5
 .by_cases h2:0≤mW m/\mW m≤3
  .by_cases h3:0≤mS m/\mS m≤3
   .by_cases h4:1≤mH m/\mH m≤3
    .have e1:(1≤m.1/\m.1≤5)=True:=eq_true h1;have e2:(0≤m.2.1/\m.2.1≤3)=True:=eq_true h2;have e3:(0≤m.2.2.1/\m.2.2.1≤3)=True:=eq_true h3;have e4:(1≤m.2.2.2.1/\m.2.2.2.1≤3)=True:=eq_true h4;simp only [e1,e2,e3,e4,decide_true,not_true_eq_false,if_false,Bool.not_true,Bool.false_eq_true,bs,and_self,h1,h2,h3,h4];by_cases h5:(mD m).length=0
     .simp_all
     .rw [if_neg (show¬((m.2.2.2.2.1.length:Int) < 1) by grind),if_neg h5];by_cases h6:6 < (mD m).length
      .grind
      .rw [if_neg (show¬((6:Int) < (m.2.2.2.2.1.length:Int)) by grind),if_neg h6]
       have key:=mh (f:=fh k m) (mD m) (λ(_:Unit) j=>j) (λ_ _ x=>if¬(tp (mC m) x=0) then Except.error (tp (mC m) x) else .ok ()) (λ_ _=>True) (λr=>some r)
        (λn s j hj _=>by
         have hck:ck ((j:Int)+1)=some ((j:Int)+1):=dz (by omega) (by omega);have hr:=hs.r _ (List.getElem_mem hj);refine⟨?_,λ_ _=>trivial⟩;have hj':(j:Int) < (m.2.2.2.2.1.length:Int):=Int.ofNat_lt.2 hj;have hg:aG m.2.2.2.2.1 (j:Int)=some (mD m)[j]:=eh hj;simp only [fh,hj',if_true,hg,bs,LF h1 hk hr.1 hr.2];grind)
        (λn s _=>by
         unfold fh;simp_all) (n:=k) (s0:=()) (by omega) trivial
       rw [show fh k m k 0=_ from key,tf];by_cases h7:lP (tp (mC m)) (mD m)=0
       .rw [if_pos h7,oc,show(if¬(lP (tp (mC m)) (mD m)=0) then lP (tp (mC m)) (mD m) else if 8 < (mG m).length then 6 else lP (IX m) (mG m))=(if 8 < (mG m).length then 6 else lP (IX m) (mG m)) from if_neg (λhn=>hn h7)];by_cases h8:8 < (mG m).length
        .grind
        .rw [if_neg (show¬((8:Int) < (m.2.2.2.2.2.length:Int)) by grind),if_neg h8]
         have key:=mh (f:=fg k m) (mG m) (λ(_:Unit) j=>j) (λ_ _ x=>if¬(IX m x=0) then Except.error (IX m x) else .ok ()) (λ_ _=>True) (λr=>some r)
          (λn s j hj _=>by
           have hck:ck ((j:Int)+1)=some ((j:Int)+1):=dz (by omega) (by omega);refine⟨?_,λ_ _=>trivial⟩;have hj':(j:Int) < (m.2.2.2.2.2.length:Int):=Int.ofNat_lt.2 hj;have hg:aG m.2.2.2.2.2 (j:Int)=some (mG m)[j]:=eh hj;simp only [fg,hj',if_true,hg,bs,PL h1];grind)
          (λn s _=>by
           simp_all [fg,if_neg,Int.lt_irrefl]) (n:=k) (s0:=()) (by omega) trivial
         rw [show fg k m k 0=_ from key,tf];by_cases h9:lP (IX m) (mG m)=0
         .rw [if_pos h9,oc,h9]
         .rw [if_neg h9,qN]
       .rw [if_neg h7,qN,if_pos h7]
    grind
   grind
  grind
 grind
end Go.Proofs.YtflilincnacbpaaGreat
set_option linter.unusedVariables false
set_option linter.unusedSimpArgs false
namespace Go.Proofs.YtflilincnacbpaaGreat
open K Go Go.Proofs
theorem rC{r:List (List Int)}{l:List Int}(h:r.flatten.Nodup)(hl:l∈r):l.Nodup:=by
 grind
theorem Kz{σ:Type}{bad:σ->Int->Option Int}{add:σ->Int->σ}{x:Int}{l:List Int}{s:σ}{e:Int}(h:bad s x=some e):wk bad add (x::l) s= .error e:=by rw [wk,h]
theorem Kw{σ:Type}{bad:σ->Int->Option Int}{add:σ->Int->σ}{x:Int}{l:List Int}{s:σ}(h:bad s x=none):wk bad add (x::l) s=wk bad add l (add s x):=by rw [wk,h]
theorem Vd.of{m:ae}(h:qL m=0):Vd m:=by
 unfold qL at h;by_cases h1:(1≤mC m/\mC m≤5)/\(0≤mW m/\mW m≤3)/\(0≤mS m/\mS m≤3)/\1≤mH m/\mH m≤3
 .rw [if_neg (λhn=>hn h1)] at h;by_cases h2:(mD m).length=0
  .omega
  .rw [if_neg h2] at h;by_cases h3:6 < (mD m).length
   .omega
   .rw [if_neg h3] at h;by_cases h4:lP (tp (mC m)) (mD m)=0
    .rw [if_neg (λhn=>hn h4)] at h;by_cases h5:8 < (mG m).length
     .omega
     .rw [if_neg h5] at h;have hd:=λr hr=>xn.1 (pw.1 h4 r hr);have hx:∀r∈mD m,∀l∈r,∀x∈l,0≤x/\x < mC m:=λr hr l hl x hx=>(hd r hr).2.2 x (List.mem_flatten.2 ⟨l,hl,hx⟩)
      exact⟨h1.1.1,h1.1.2,h1.2.1.1,h1.2.1.2,h1.2.2.1.1,h1.2.2.1.2,h1.2.2.2.1,h1.2.2.2.2,by omega,by omega,λr hr=>(hd r hr).1,λr hr l hl=>by
       have hn:l.Nodup:=rC (hd r hr).2.1 hl;have:=qh (mC m).toNat l hn λx hxx=>by grind
       omega,hx,λr hr=>(hd r hr).2.1,by omega,λg hg=>by
        grind [pw,IX]⟩
    omega
 omega
theorem Vd.chk{m:ae}(v:Vd m):qL m=0:=by
 unfold qL;have h1:(1≤mC m/\mC m≤5)/\(0≤mW m/\mW m≤3)/\(0≤mS m/\mS m≤3)/\1≤mH m/\mH m≤3:=⟨⟨v.c1,v.c5⟩,⟨v.w0,v.w3⟩,⟨v.s0,v.s3⟩,v.h1,v.h3⟩
 have h4:lP (tp (mC m)) (mD m)=0:=pw.2 λr hr=>xn.2 ⟨v.r3 r hr,v.nd r hr,λx hx=>by
  obtain⟨l,hl,hx⟩:=List.mem_flatten.1 hx;exact v.x5 r hr l hl x hx⟩
 have h9:lP (IX m) (mG m)=0:=pw.2 λg hg=>by
  have:=v.gl g hg;unfold IX;omega
 have d1:=v.d1;have d6:=v.d6;have g8:=v.g8;omega
theorem Vd.sm{m:ae}(v:Vd m):Sm m:=⟨by have:=v.d6;omega,λr hr=>⟨by have:=v.r3 r hr;omega,λl hl=>by have:=v.l5 r hr l hl;omega⟩,by have:=v.g8;omega⟩
def vK(C:Int)(p:Option Int)(x:Int):Option Int:=if¬(0≤x/\x < C) then some 3 else if p.any (λy=>decide (x≤y)) then some 5 else none
def M6(C:Int)(p:Option Int×Int)(x:Int):Option Int:=vK C p.1 x
def QJ(p:Option Int×Int)(x:Int):Option Int×Int:=(some x,xu p.2 x)
def Ni(p:Option Int)(x:Int):Option Int:=some x
def ua(C:Int)(b:List Int):Int:=match wk (vK C) Ni b none with | .error e=>e | .ok _=>0
def du(b:List Int):Int:=b.foldl xu 0
theorem Oe{C:Int}{p:Option Int}{x:Int}(h:vK C p x=none):(0≤x/\x < C)/\p.any (λy=>decide (x≤y))=false:=by
 unfold vK at h;grind
theorem Ez{C:Int}:∀(b:List Int) (p:Option Int) (s:Int),(∃e,wk (M6 C) QJ b (p,s)= .error e/\wk (vK C) Ni b p= .error e)\/∃q,wk (M6 C) QJ b (p,s)= .ok (q,b.foldl xu s)/\wk (vK C) Ni b p= .ok q
 |[],p,s=>.inr ⟨p,rfl,rfl⟩
 |x::b,p,s=>by
  cases e:vK C p x with
  |some c=>exact .inl ⟨c,Kz e,Kz e⟩
  |none=>
   rw [Kw (bad:=M6 C) (s:=(p,s)) (x:=x) e,Kw e]
   exact Ez (C:=C) b (some x) (xu s x)
theorem Ac{k:Nat}{m:ae}(hC:1≤mC m/\mC m≤5){b:List Int}(hk:b.length < k)(hb:b.length≤1000):
 fa k m b k (0,0)=some (if ua (mC m) b=0 then .ok (du b) else .error (none,0,ua (mC m) b)):=by
 have key:=mh (T:=Int×Int) (f:=fa k m b) b (λ(s:Option Int×Int) j=>(s.2,j)) (λs _ x=>match M6 (mC m) s x with |some e=>Except.error e |none=>.ok (QJ s x)) (λj s=>jB s.2/\s.1=if j=0 then none else b[j-1]?) (λr=>some (match r with | .error e=>Except.error (none,0,e) | .ok s=>.ok s.2))
  (λn s j hj hs=>by
   have hck:ck ((j:Int)+1)=some ((j:Int)+1):=dz (by omega) (by omega);have hc:ck (m.1 - 1)=some (m.1 - 1):=Tv hC;refine⟨?_,λs' e=>?_⟩
   .simp only [fa,Int.ofNat_lt,hj,if_true,eh hj,bs,hc,kS];generalize b[j]=x;rw [show M6 (mC m) s x=vK (mC m) s.1 x from rfl];by_cases h:0≤x/\x < mC m
    .have h':0≤x/\x≤m.1 - 1:=⟨h.1,by grind⟩;have eb:vK (mC m) s.1 x=if s.1.any (λy=>decide (x≤y)) then some 5 else none:=by unfold vK;simp_all
     have ep:(if(0:Int) < (j:Int) then((ck ((j:Int) - 1)).bind λx12=>(aG b x12).bind λx13=>some (decide (x≤x13))) else some false)=some (s.1.any λy=>decide (x≤y)):=by
      rw [hs.2];by_cases h0:j=0
      .simp_all
      .have c1:ck ((j:Int) - 1)=some ((j - 1:Nat):Int):=by grind [dz]
       rw [if_pos (by omega),c1,bs,eh (by omega),bs,if_neg h0,List.getElem?_eq_getElem (by omega)];rfl
     rw [eb];simp only [h',and_self,decide_true,not_true_eq_false,if_false,bs];rw [ep,bs];cases s.1.any λy=>decide (x≤y) with
     |true=>simp_all
     |false=>
      simp only [Bool.false_eq_true,if_false,(nk (k:=k) hs.1 h.1 (by omega)).1,bs,hck];rfl
    .have h':¬(0≤x/\x≤m.1 - 1):=λhh=>h ⟨hh.1,by grind⟩;have eb:vK (mC m) s.1 x=some 3:=by unfold vK;simp_all
     simp_all
   .cases e2:M6 (mC m) s b[j] with
    |some c=>simp_all
    |none=>
     rw [e2] at e;cases e;have hx:=Oe e2;exact⟨(nk (k:=0) hs.1 hx.1.1 (by omega)).2.1,by show some b[j]=if j+1=0 then none else b[j+1 - 1]?;simp_all⟩)
  (λn s _=>by simp [fa]) (n:=k) (s0:=(none,0)) hk ⟨wW,rfl⟩
 rw [show fa k m b k (0,0)=_ from key]
 have e1:fR (λ(s:Option Int×Int) _ x=>match M6 (mC m) s x with |some e=>Except.error e |none=>.ok (QJ s x)) 0 b (none,0)=wk (M6 (mC m)) QJ b (none,0):=xK (bad:=M6 (mC m)) (add:=QJ) b 0 (none,0)
 rw [e1]
 unfold ua
 have z:∀(l:List Int) (p:Option Int),wk (vK (mC m)) Ni l p≠.error 0:=by
  intro l
  induction l with
  |nil=>intro p h;cases h
  |cons x l ih=>
   intro p h;rw [wk] at h;cases hb:vK (mC m) p x with
   |some c=>
    grind [vK]
   |none=>grind
 rcases Ez (C:=mC m) b none 0 with⟨e,h1,h2⟩ |⟨q,h1,h2⟩
 .
  grind
 .
  rw [h1,h2];rfl
end Go.Proofs.YtflilincnacbpaaGreat
set_option linter.unusedVariables false
set_option linter.unusedSimpArgs false
namespace Go.Proofs.YtflilincnacbpaaGreat
open K Go Go.Proofs
theorem zE{C:Int}(hC:C≤5):∀(b:List Int) (s:Int),jB s->(∀x∈b,0≤x/\x < C)->jB (b.foldl xu s)/\∀i:Nat,ek (b.foldl xu s) i↔ek s i\/(i:Int)∈b
 |[],s,hs,_=>⟨hs,λi=>by simp⟩
 |x::b,s,hs,hb=>by
  have hx:=hb x mem_cons_self
  have hw:=nk (k:=0) hs hx.1 (by omega)
  have:=zE hC b (xu s x) hw.2.1 λy hy=>hb y (mem_cons_of_mem _ hy)
  grind
structure Bg(C:Int)(b:List Int):Prop where
 rng:∀x∈b,0≤x/\x < C
 asc:b.Pairwise (· < ·)
theorem Bv{C:Int}:∀{b:List Int} {p:Option Int},(∃q,wk (vK C) Ni b p= .ok q)↔(∀x∈b,0≤x/\x < C)/\b.Pairwise (· < ·)/\∀y,p=some y->∀x∈b.head?,y < x
 |[],p=>by simp [wk]
 |x::b,p=>by
  cases e:vK C p x with
  |some c=>
   rw [Kz e]
   constructor
   .
    simp_all
   .
    rintro⟨h1,h2,h3⟩
    exfalso
    unfold vK at e
    rw [if_neg (λhn=>hn (h1 x mem_cons_self))] at e
    cases p with
    |none=>cases e
    |some y=>
     have:=h3 y rfl x (by simp)
     grind
  |none=>
   have hx:=Oe e
   rw [Kw e,Bv (b:=b) (p:=Ni p x)]
   constructor
   .
    rintro⟨h1,h2,h3⟩
    refine⟨λy hy=>?_,?_,λy hy z hz=>?_⟩
    .
     grind
    .
     rw [pairwise_cons]
     refine⟨λy hy=>?_,h2⟩
     cases b with
     |nil=>cases hy
     |cons z b=>
      have hz:=h3 x rfl z (by simp)
      grind [pairwise_cons]
    simp_all
   simp_all [pairwise_cons,mem_cons_of_mem,Ni,mem_of_mem_head?]
theorem EA{C:Int}:∀{l:List Int} {p:Option Int},wk (vK C) Ni l p≠.error 0
 |[],p,h=>by cases h
 |x::l,p,h=>by
  cases hb:vK C p x with
  |some c=>
   rw [Kz hb] at h
   grind [vK]
  |none=>rw [Kw hb] at h;exact EA h
theorem tC{C:Int}{b:List Int}:ua C b=0↔Bg C b:=by
 unfold ua;constructor
 .intro h;cases e:wk (vK C) Ni b none with
  |error c=>simp_all [EA]
  |ok q=>have:=Bv.1 ⟨q,e⟩;exact⟨this.1,this.2.1⟩
 .rintro⟨h1,h2⟩;obtain⟨q,e⟩:=(Bv (p:=none)).2 ⟨h1,h2,λy hy=>by cases hy⟩;rw [e]
theorem Bg.set{C:Int}(hC:C≤5){b:List Int}(h:Bg C b):jB (du b)/\∀c:Int,0≤c->ni (du b) c=decide (c∈b):=by
 have:=zE hC b 0 wW h.rng;refine⟨this.1,λc hc=>?_⟩;unfold ni;have e:((c.toNat:Nat):Int)=c:=by omega
 have h2:=this.2 c.toNat;rw [e] at h2;refine decide_eq_decide.2 ?_;show ek (b.foldl xu 0) c.toNat↔_;simp_all [ek]
def wo(m:ae)(i:Nat):Int:=match i with |0=>mC m - 1 |1=>((mD m).length:Int) - 1 |_=>(mD m).length
def Ap(n:Int)(l:List Int):Bool:=l.all λx=>decide (0≤x/\x≤n)
theorem qi{k:Nat}{m:ae}(v:Vd m){i:Nat}(hi:i < 3){l:List Int}(hk:l.length < k)(hl:l.length≤1000):
 dI k m (i:Int) l k 0=some (if Ap (wo m i) l then .ok () else .error (none,0,3)):=by
 have c1:=v.c1
 have c5:=v.c5
 have d6:=v.d6
 have d1:=v.d1
 have key:=mh (T:=Int) (f:=dI k m (i:Int) l) l (λ(_:Unit) j=>j) (λ_ _ x=>if 0≤x/\x≤wo m i then .ok () else Except.error ((none,0,3):Option ae×Int×Int)) (λ_ _=>True) (λr=>some r)
  (λn s j hj _=>by
   have hck:ck ((j:Int)+1)=some ((j:Int)+1):=dz (by omega) (by omega);have hc:ck (m.1 - 1)=some (mC m - 1):=Tv ⟨c1,c5⟩;have hd:ck ((m.2.2.2.2.1.length:Int) - 1)=some (((mD m).length:Int) - 1):=dz (by omega) (by grind)
   have hg:aG [mC m - 1,((mD m).length:Int) - 1,((mD m).length:Int)] (i:Int)=some (wo m i):=by
    have:i=0\/i=1\/i=2:=by omega
    rcases this with rfl |rfl |rfl <;> rfl
   refine⟨?_,λ_ _=>trivial⟩;simp only [dI,Int.ofNat_lt,hj,if_true,eh hj,bs,hc,hd];rw [show aG [mC m - 1,((mD m).length:Int) - 1,(m.2.2.2.2.1.length:Int)] (i:Int)=some (wo m i) from hg,bs,kS,bs];grind)
  (λn s _=>by simp [dI]) (n:=k) (s0:=()) hk trivial
 rw [show dI k m (i:Int) l k 0=_ from key]
 congr 1
 have:∀(l:List Int) (j:Nat),fR (λ(_:Unit) _ x=>if 0≤x/\x≤wo m i then .ok () else Except.error ((none,0,3):Option ae×Int×Int)) j l ()=if Ap (wo m i) l then .ok () else .error (none,0,3):=by
  intro l
  induction l with
  |nil=>intro j;rfl
  |cons x l ih=>
   intro j;rw [fR];by_cases h:0≤x/\x≤wo m i
   .simp_all [if_pos,Ap,wo,all_cons,and_self,decide_true,Bool.true_and]
   .rw [if_neg h];have:Ap (wo m i) (x::l)=false:=by simp only [Ap,all_cons,h,decide_false,Bool.false_and]
    simp_all
 simp_all
theorem zp{k:Nat}{m:ae}(v:Vd m)(hk:10≤k):∀n:Nat,n≤32->wz k m n=some ()
 |0,_=>rfl
 |n+1,h=>by
  have e:IntKind.u8.wrap (n:Int)=(n:Int):=uc (by omega)
  unfold wz
  rw [zp v hk n (by omega),bs,e,tw v hk ⟨by omega,by omega⟩,bs]
theorem KE{k:Nat}{m:ae}(v:Vd m)(hk:10≤k):eJ k m=some ():=by
 have c1:=v.c1;have c5:=v.c5;unfold eJ
 have hc:m.1=1\/m.1=2\/m.1=3\/m.1=4\/m.1=5:=by
  grind
 have e:0≤oO .i64 1 m.1/\oO .i64 1 m.1≤32:=by
  rcases hc with h |h |h |h |h <;> rw [h] <;> decide
 rw [if_pos ⟨by omega,by omega⟩];simp_all [zp]
def Tm(m:ae)(cs ds ns:List Int):Bool:=Ap (wo m 0) cs && Ap (wo m 1) ds && Ap (wo m 2) ns
theorem Ab{k:Nat}{m:ae}{b cs ds ns:List Int}(hs:Sm m)(hk:1010≤k)(hb:b.length≤1000)(h1:cs.length≤1000)(h2:ds.length≤1000)(h3:ns.length≤1000):
 jQ k m b cs ds ns=some (if¬(qL m=0) then(none,0,qL m) else if¬(ua (mC m) b=0) then(none,0,ua (mC m) b) else if Tm m cs ds ns then(some m,du b,0) else(none,0,3)):=by
 unfold jQ
 rw [LG hs (by omega),bs]
 by_cases hc:qL m=0
 .
  have v:=Vd.of hc;rw [if_neg (λhn=>hn hc),if_neg (λhn=>hn hc),Ac ⟨v.c1,v.c5⟩ (by omega) hb];by_cases hg:ua (mC m) b=0
  .rw [if_pos hg,oc,if_neg (λhn=>hn hg)];obtain⟨n,rfl⟩:∃n,k=n+4:=⟨k - 4,by omega⟩;have e0:=qi v (k:=n+4) (i:=0) (by omega) (l:=cs) (by omega) h1;have e1:=qi v (k:=n+4) (i:=1) (by omega) (l:=ds) (by omega) h2;have e2:=qi v (k:=n+4) (i:=2) (by omega) (l:=ns) (by omega) h3;have g0:aG [cs,ds,ns] (0:Int)=some cs:=rfl;have g1:aG [cs,ds,ns] (1:Int)=some ds:=rfl;have g2:aG [cs,ds,ns] (2:Int)=some ns:=rfl;have k0:ck ((0:Int)+1)=some 1:=rfl;have k1:ck ((1:Int)+1)=some 2:=rfl;have k2:ck ((2:Int)+1)=some 3:=rfl;have ln:(([cs,ds,ns]:List (List Int)).length:Int)=3:=rfl
   have s0:cY (n+4) m cs ds ns (n+4) 0=if Ap (wo m 0) cs then cY (n+4) m cs ds ns (n+3) 1 else some (.error (none,0,3)):=by
    rw [cY,ln,if_pos (by decide),g0,bs,show dI (n+4) m 0 cs (n+4) 0=_ from e0];cases Ap (wo m 0) cs with
    |true=>simp_all [if_true,oc,bs]
    |false=>simp_all [Bool.false_eq_true,if_false,qN]
   have s1:cY (n+4) m cs ds ns (n+3) 1=if Ap (wo m 1) ds then cY (n+4) m cs ds ns (n+2) 2 else some (.error (none,0,3)):=by
    rw [cY,ln,if_pos (by decide),g1,bs,show dI (n+4) m 1 ds (n+4) 0=_ from e1];cases Ap (wo m 1) ds with
    |true=>simp_all [if_true,oc,bs]
    |false=>simp_all [Bool.false_eq_true,if_false,qN]
   have s2:cY (n+4) m cs ds ns (n+2) 2=if Ap (wo m 2) ns then cY (n+4) m cs ds ns (n+1) 3 else some (.error (none,0,3)):=by
    rw [cY,ln,if_pos (by decide),g2,bs,show dI (n+4) m 2 ns (n+4) 0=_ from e2];cases Ap (wo m 2) ns with
    |true=>simp_all [if_true,oc,bs]
    |false=>simp_all [Bool.false_eq_true,if_false,qN]
   have s3:cY (n+4) m cs ds ns (n+1) 3=some (.ok ()):=by
    rw [cY,ln,if_neg (by decide)]
   rw [s0,s1,s2,s3];unfold Tm
   have fin:((i8 (n+4) m).bind λr32=>gI r32 none (λq33=>(eJ (n+4) q33).bind λr35=>some (some q33,du b,(0:Int))))=some (some m,du b,0):=by
    grind [i8,bs,yD,KE]
   cases Ap (wo m 0) cs with
   |false=>simp_all [Bool.false_eq_true,if_false,Bool.false_and,qN]
   |true=>
    cases Ap (wo m 1) ds with
    |false=>simp_all [if_true,Bool.false_eq_true,if_false,Bool.true_and,Bool.false_and,qN]
    |true=>
     cases Ap (wo m 2) ns with
     |false=>simp_all [if_true,Bool.false_eq_true,if_false,Bool.true_and,Bool.and_false,qN]
     |true=>simp_all [if_true,Bool.true_and,oc]
  .rw [if_neg hg,qN,if_pos hg]
 simp_all
end Go.Proofs.YtflilincnacbpaaGreat
set_option linter.unusedVariables false
set_option linter.unusedSimpArgs false
namespace Go.Proofs.YtflilincnacbpaaGreat
open K Go Go.Proofs
def pK(m:ae)(B:Int->Bool)(n:Nat):List Int:=(List.range (mC m).toNat).map λ(c:Nat)=>mK m B n (c:Int)
def ig(m:ae)(B:Int->Bool):List (List Int):=(List.range ((mD m).length+1)).map (pK m B)
theorem zG{m:ae}{B:Int->Bool}{n:Nat}{c:Int}(h0:0≤c)(h1:c < mC m):aG (pK m B n) c=some (mK m B n c):=by
 unfold pK;rw [aG,if_pos h0,List.getElem?_map,List.getElem?_range (by omega)];grind
theorem tz{m:ae}{B:Int->Bool}{n:Nat}(h:n≤(mD m).length):aG (ig m B) (n:Int)=some (pK m B n):=by
 unfold ig;rw [aG,if_pos (by omega),List.getElem?_map,Int.toNat_natCast,List.getElem?_range (by omega)];rfl
theorem Hm{f:Int->Int}{C:Int}(h0:0≤C)(h5:C≤5):List.take C.toNat (kH f)=(List.range C.toNat).map λ(c:Nat)=>f (c:Int):=by
 have:C=0\/C=1\/C=2\/C=3\/C=4\/C=5:=by omega
 rcases this with rfl |rfl |rfl |rfl |rfl |rfl <;> rfl
theorem CB{k:Nat}{m:ae}{b:List Int}(hs:Sm m)(hk:1010≤k)(hb:b.length≤1000):
 fj k m b=some (if¬(qL m=0) then([],qL m) else if¬(ua (mC m) b=0) then([],ua (mC m) b) else(ig m λc=>decide (c∈b),0)):=by
 unfold fj
 rw [Ab hs hk hb (by simp) (by simp) (by simp),bs]
 by_cases hc:qL m=0
 .
  have v:=Vd.of hc;by_cases hg:ua (mC m) b=0
  .have hB:=(tC.1 hg).set v.c5;have ho:Tm m [] [] []=true:=rfl;have c1:=v.c1;have c5:=v.c5;have d6:=v.d6;simp only [hc,hg,ho,not_true_eq_false,if_false,if_true,yD];rw [tw v (by omega) hB.1,bs]
   have hd:ck ((m.2.2.2.2.1.length:Int)+1)=some (((mD m).length+1:Nat):Int):=by
    rw [dz (by omega) (by grind)];rfl
   rw [hd,bs]
   have key:=fH (T:=List (List Int)×Int) (f:=eB k m (cr (GG m (ni (du b)))) (((mD m).length+1:Nat):Int)) (List.range ((mD m).length+1)) (λ(s:List (List Int)) j=>(s,j)) (λs j _=>s++[pK m (ni (du b)) j]) (λj s=>s=(List.range j).map (pK m (ni (du b)))) (λs=>some s)
    (λn s j hj hs=>by
     rw [length_range] at hj;have hck:ck ((j:Int)+1)=some ((j:Int)+1):=dz (by omega) (by omega);have hjlt:(j:Int) < (((mD m).length+1:Nat):Int):=by omega
     have hp:cM (0≤m.1/\m.1≤5)=some ():=dD ⟨by grind,c5⟩
     have ht:List.take (Int.toNat m.1) (kH (GG m (ni (du b)) j))=pK m (ni (du b)) j:=by
      rw [Hm (by omega) c5];unfold pK;refine List.map_congr_left λc hc=>?_;have:=List.mem_range.1 hc;exact Em v (by omega) (by omega) (by omega)
     have hl:(pK m (ni (du b)) j).length≤5:=by grind
     have hsl:s.length=j:=by simp_all
     have hcl:im k (pK m (ni (du b)) j)=some (pK m (ni (du b)) j):=by
      unfold im;rw [dD (by show _≤_;omega),bs]
     have hok:cM (bN (length s+length [pK m (ni (du b)) j]))=some ():=dD (by grind [bN]);refine⟨?_,?_⟩
     .simp only [eB,hjlt,if_true,CX (F:=GG m (ni (du b))) (show j < 7 by omega),bs,hp,ht,hcl,hok,hck]
     simp_all [List.range_succ,List.map_append])
    (λn s hs=>by
     simp_all [length_range,eB,if_neg,Int.lt_irrefl]) (n:=k) (s0:=[]) (by grind) rfl
   rw [show eB k m (cr (GG m (ni (du b)))) (((mD m).length+1:Nat):Int) k ([],0)=_ from key.1,bs,key.2,length_range]
   have hcs:(List.range ((mD m).length+1)).map (pK m (ni (du b)))=ig m λc=>decide (c∈b):=by
    unfold ig;refine List.map_congr_left λn hn=>?_;unfold pK;refine List.map_congr_left λc hc=>?_
    have hage:∀(n:Nat) (c:Int),0≤c->c < mC m->mK m (ni (du b)) n c=mK m (λc=>decide (c∈b)) n c:=by
     intro n
     induction n with
     |zero=>simp_all [mK]
     |succ n ih=>
      intro c h0 h1;unfold mK;cases e:zc m n c with
      |none=>simp_all
      |some l=>
       have hb:=(tB v e).2;grind
    simp_all
   rw [hcs]
  simp_all [not_true_eq_false,not_false_eq_true,if_false,if_true,yE]
 simp_all [not_false_eq_true,if_true,yE]
end Go.Proofs.YtflilincnacbpaaGreat
set_option linter.unusedVariables false
set_option linter.unusedSimpArgs false
namespace Go.Proofs.YtflilincnacbpaaGreat
open K Go Go.Proofs
theorem Lo.mono{l:ba}{m n:Int}(h:Lo l m)(hn:m≤n):Lo l n:=⟨h.1,Int.le_trans h.2 hn⟩
theorem U8{α:Type}{l:List α}{x:α}{n:Nat}(h:l.length≤n)(hn:n≤1000000):bN (length l+length [x]):=by
 show length l+length [x]≤4294967296;grind
theorem uZ{k:Nat}(hk:50≤k){l:ba}{m:Int}{n:Nat}(hl:Lo l m)(hm:0≤m/\m≤1000)(hn:n≤8):W (eK k l (n:Int)) λr=>Lo r.2 (m+10)/\r.1.length=n/\(∀x∈r.1,0≤x/\x < (n:Int))/\r.1.Nodup:=by
 unfold eK;refine W.bind (R:=λr=>Lo (r.2.1,r.2.2.1,r.2.2.2) (m+10)/\r.1.length=n/\(∀x∈r.1,0≤x/\x < (n:Int))/\r.1.Nodup) ?_ λr h=>W.ret h
 refine W.loop (f:=d5 k (n:Int)) (λq y=>∃j:Nat,y.2.2.2.2=(j:Int)/\j≤n/\q=n - j/\Lo (y.1,y.2.1,y.2.2.1) (m+j)/\y.2.2.2.1.length=j/\(∀x∈y.2.2.2.1,0≤x/\x < (j:Int))/\y.2.2.2.1.Nodup) ?_ n k _ (by omega)
  ⟨0,rfl,by omega,by omega,by simp_all,rfl,by simp,by simp⟩
 rintro aL q ⟨nums,d,s,o,y⟩ ⟨j,hj,hle,hq,hlo,hlen,hx,hnd⟩ ih;simp only at hj hlo hlen hx hnd;subst hj;unfold d5;dsimp only;refine W.ite (λhlt=>?_) (λhge=>W.ret ⟨hlo.mono (by omega),by grind,λx hx'=>by grind,hnd⟩);obtain⟨r5,e5,a5,b5,c5⟩:=kG (k:=k) (n:=(j:Int)) hlo (by omega) (by omega);have b5:=b5 (by omega);have ho:(o++[(j:Int)]).length=j+1:=by simp [hlen]
 have hr5:r5.1.toNat < (o++[(j:Int)]).length:=by omega
 have hjl:j < (o++[(j:Int)]).length:=by omega
 have hgj:(o++[(j:Int)])[j]=(j:Int):=by
  grind
 rw [e5,bs,dD (U8 (n:=8) (by omega) (by omega)),bs,rN a5 hr5,bs,eh (by omega),bs];have hgs:aG (List.set (o++[(j:Int)]) (Int.toNat (j:Int)) (o++[(j:Int)])[r5.1.toNat]) r5.1=some ((List.set (o++[(j:Int)]) (Int.toNat (j:Int)) (o++[(j:Int)])[r5.1.toNat])[r5.1.toNat]'(by grind)):=rN a5 (by grind);rw [hgs,bs,dz (by omega) (by omega),bs]
 have hp:(List.set (List.set (o++[(j:Int)]) (Int.toNat (j:Int)) (o++[(j:Int)])[r5.1.toNat]) (Int.toNat r5.1) (j:Int)).Perm (o++[(j:Int)]):=by
  have:= @set_set_perm Int (o++[(j:Int)]) j r5.1.toNat hjl hr5;rw [hgj] at this;exact this
 refine ih (q - 1) (_,_,_,_,(j:Int)+1) (by omega) ⟨j+1,by grind,by omega,by omega,c5.mono (by omega),by simp [hlen],λx hx'=>?_,hp.nodup_iff.2 ?_⟩
 .grind
 grind
theorem I7{out:List (List Int)}{i:Nat}{x:Int}(h:i < out.length):(out.set i (out[i]++[x])).flatten.Perm (out.flatten++[x]):=by
 have e1:out=out.take i++out[i]::out.drop (i+1):=by simp_all
 grind
structure Rl(C:Int)(r:List (List Int)):Prop where
 r3:r.length≤3
 x5:∀l∈r,∀x∈l,0≤x/\x < C
 nd:r.flatten.Nodup
theorem Rl.l5{C:Int}(hC:0≤C/\C≤5){r:List (List Int)}(h:Rl C r):∀l∈r,l.length≤5:=λl hl=>by
 have:=qh C.toNat l (rC h.nd hl) λx hx=>by have:=h.x5 l hl x hx;omega
 omega
theorem HK{k:Nat}(hk:50≤k){l:ba}{m:Int}{n:Nat}(hl:Lo l m)(hm:0≤m/\m≤900)(hn:n≤5):
 W (jT k l (n:Int)) λr=>Lo r.2 (m+30)/\Rl (n:Int) r.1:=by
 unfold jT
 refine W.bind (D9 (l:=(l.1,l.2.1,l.2.2)) hl (by omega) (by omega) (by omega) (by omega)) λr1 h1=>?_
 refine W.chk ⟨by omega,by show _≤_;omega⟩ ?_
 refine W.bind (uZ hk (l:=(r1.2.1,r1.2.2.1,r1.2.2.2)) (m:=m+1) (n:=n) h1.2.2 (by omega) (by omega)) λr4 h4=>?_
 obtain⟨lo4,len4,rng4,nd4⟩:=h4
 refine W.bind (R:=λx=>Lo (x.1,x.2.1,x.2.2.1) (m+30)/\Rl (n:Int) x.2.2.2) ?_ λx hx=>W.ret hx
 refine W.loop (f:=fD k r4) (λq y=>∃j:Nat,y.2.2.2.1=(j:Int)/\j≤n/\q=n - j/\Lo (y.1,y.2.1,y.2.2.1) (m+11+2 * j)/\y.2.2.2.2.length=r1.1.toNat/\(∀x∈y.2.2.2.2.flatten,x∈r4.1.take j)/\y.2.2.2.2.flatten.Nodup) ?_ n k _ (by omega)
  ⟨0,rfl,by omega,by omega,lo4.mono (by omega),by simp,by simp,by simp⟩
 rintro aL q ⟨nums,d,s,y,out⟩ ⟨j,hj,hle,hq,hlo,hlen,hx,hnd⟩ ih
 simp only at hj hlo hlen hx hnd
 subst hj
 unfold fD
 dsimp only
 refine W.ite (λhlt=>?_) (λhge=>W.ret ⟨hlo.mono (by omega),by grind,λl hl x hxx=>rng4 x (mem_of_mem_take (hx x (List.mem_flatten.2 ⟨l,hl,hxx⟩))),hnd⟩)
 have hj:j < r4.1.length:=by omega
 have hsub:∀x∈r4.1.take j,x∈r4.1.take (j+1):=λx hh=>by grind
 refine W.bind (R:=λx=>Lo (x.1,x.2.1,x.2.2.1) (m+11+2 * j+2)/\x.2.2.2.length=r1.1.toNat/\(∀z∈x.2.2.2.flatten,z∈r4.1.take (j+1))/\x.2.2.2.flatten.Nodup) ?_ λx9 h9=>?_
 .
  refine W.bind (uf (l:=(nums,d,s)) hlo (by omega) (by omega) (by omega)) λr11 h11=>?_;refine W.ite (λ_=>W.ret ⟨h11.mono (by omega),hlen,λz hz=>hsub z (hx z hz),hnd⟩) (λ_=>?_);refine W.ck (by omega) (by omega) ?_;refine W.bind (kG (l:=(r11.2.1,r11.2.2.1,r11.2.2.2)) h11 (by omega) (by omega)) λr13 h13=>?_;have b13:=h13.2.1 (by omega);have hi:r13.1.toNat < out.length:=by omega
  rw [rN h13.1 hi,bs,eh hj,bs]
  have hxj:r4.1[j]∉out.flatten:=λhin=>by
   grind [List.getElem_of_mem,length_take,getElem_inj]
  have hlen2:(out[r13.1.toNat]).length≤5:=by
   have:=qh n _ (rC hnd (List.getElem_mem hi)) λx hxx=>rng4 x (mem_of_mem_take (hx x (List.mem_flatten.2 ⟨_,List.getElem_mem hi,hxx⟩)));omega
  rw [dD (by grind [bN]),bs];have hp:=I7 (x:=r4.1[j]) hi;refine W.ret ⟨h13.2.2.mono (by omega),by grind,λz hz=>?_,hp.nodup_iff.2 ?_⟩
  .grind [List.mem_singleton,take_add_one,List.getElem?_eq_getElem,List.mem_append_right]
  grind
 .
  refine W.ck (by omega) (by omega) ?_;exact ih (q - 1) (_,_,_,(j:Int)+1,_) (by omega) ⟨j+1,by grind,by omega,by omega,h9.1.mono (by omega),h9.2⟩
end Go.Proofs.YtflilincnacbpaaGreat
set_option linter.unusedVariables false
set_option linter.unusedSimpArgs false
namespace Go.Proofs.YtflilincnacbpaaGreat
open K Go Go.Proofs
theorem Nr{c w s h:Int}{ds:List (List (List Int))}(hc:1≤c/\c≤5)(hw:0≤w/\w≤3)(hs:0≤s/\s≤3)(hh:1≤h/\h≤3)(d1:1≤ds.length)(d6:ds.length≤6)(hr:∀r∈ds,Rl c r):Vd (c,w,s,h,ds,[]):=
 ⟨hc.1,hc.2,hw.1,hw.2,hs.1,hs.2,hh.1,hh.2,d1,d6,λr h=>(hr r h).r3,λr h=>(hr r h).l5 ⟨by omega,hc.2⟩,λr h=>(hr r h).x5,λr h=>(hr r h).nd,by simp [mG],λg hg=>by cases hg⟩
theorem CZ{k:Nat}{l:List Int}(h:l.length≤1000000):jh k l=some l:=by
 grind [jh,dD,Vr,length_nil,bs]
theorem tU{k:Nat}{l:List (List Int)}(hk:l.length < k)(h1:l.length≤1000000)(h2:∀x∈l,x.length≤1000000):eE k l=some l:=by
 unfold eE
 have key:=fH (T:=List (List Int)×Int) (f:=c7 k l) l (λ(s:List (List Int)) j=>(s,j)) (λs j x=>s++[x]) (λj s=>s=l.take j) (λs=>some s)
  (λn s j hj hs=>by
   have hck:ck ((j:Int)+1)=some ((j:Int)+1):=dz (by omega) (by omega);have hl:s.length=j:=by grind
   have hok:cM (bN (length s+length [l[j]]))=some ():=dD (by grind [bN]);refine⟨?_,?_⟩
   .simp_all [c7,Int.ofNat_lt,if_true,eh,bs,CZ,List.getElem_mem]
   simp_all)
  (λn s hs=>by
   unfold c7;simp_all) (n:=k) (s0:=[]) hk (by simp)
 simp_all
theorem Cm{k:Nat}(hk:50≤k){l:ba}{m:Int}{cs ds:Int}(hl:Lo l m)(hm:0≤m/\m≤400)(hc:1≤cs/\cs≤5)(hd:1≤ds/\ds≤6):
 W (jU k l cs ds) λr=>Lo r.2 (m+250)/\Vd r.1/\mG r.1=[]/\mC r.1≤cs/\((mD r.1).length:Int)≤ds:=by
 unfold jU
 refine W.bind (D9 (l:=(l.1,l.2.1,l.2.2)) hl (by omega) (by omega) (by omega) (by omega)) λr2 h2=>?_
 refine W.bind (kG (l:=(r2.2.1,r2.2.2.1,r2.2.2.2)) h2.2.2 (by omega) (by omega)) λr3 h3=>?_
 have b3:=h3.2.1 (by omega)
 refine W.bind (H2 (l:=(r3.2.1,r3.2.2.1,r3.2.2.2)) h3.2.2 (by omega) (by simp) (by simp)) λr4 h4=>?_
 refine W.bind (kG (l:=(r4.2.1,r4.2.2.1,r4.2.2.2)) h4.2 (by omega) (by omega)) λr5 h5=>?_
 have b5:=h5.2.1 (by omega)
 refine W.bind (H2 (l:=(r5.2.1,r5.2.2.1,r5.2.2.2)) h5.2.2 (by omega) (by simp) (by simp)) λr6 h6=>?_
 refine W.bind (D9 (l:=(r6.2.1,r6.2.2.1,r6.2.2.2)) h6.2 (by omega) (by omega) (by omega) (by omega)) λr7 h7=>?_
 refine W.bind (H2 (l:=(r7.2.1,r7.2.2.1,r7.2.2.2)) h7.2.2 (by omega) (by simp) (by simp)) λr8 h8=>?_
 have w4:0≤r4.1/\r4.1≤3:=by
  grind
 have w6:0≤r6.1/\r6.1≤3:=by
  grind
 have w8:1≤r8.1/\r8.1≤3:=by
  grind
 have lo8:=h8.2
 refine W.bind (R:=λx=>Lo (x.2.1,x.2.2.1,x.2.2.2) (m+250)/\(1≤x.1.length/\(x.1.length:Int)≤ds)/\∀r∈x.1,Rl r2.1 r) ?_ λx hx=>W.ret ⟨hx.1,Nr (by omega) w4 w6 w8 (by omega) (by omega) hx.2.2,rfl,h2.2.1,hx.2.1.2⟩
 refine W.bind (D9 (l:=(r8.2.1,r8.2.2.1,r8.2.2.2)) lo8 (by omega) (by omega) (by omega) (by omega)) λr12 h12=>?_
 refine W.loop (f:=fE k r2) (λq y=>∃j:Nat,y.2.2.2.1.length=j/\y.2.2.2.2=r12.1 - j/\(j:Int)≤r12.1/\q=r12.1.toNat - j/\Lo (y.1,y.2.1,y.2.2.1) (m+10+33 * j)/\∀r∈y.2.2.2.1,Rl r2.1 r) ?_ r12.1.toNat k _ (by omega)
  ⟨0,rfl,by simp,by omega,by omega,h12.2.2.mono (by omega),by simp⟩
 rintro aL q ⟨nums,d,s,out,y⟩ ⟨j,hj,hy,hle,hq,hlo,hr⟩ ih
 simp only at hj hy hlo hr
 subst hy
 unfold fE
 dsimp only
 refine W.ite (λhlt=>?_) (λhge=>W.ret ⟨hlo.mono (by omega),⟨by grind,by grind⟩,hr⟩)
 refine W.bind (R:=λx=>Lo (x.1,x.2.1,x.2.2.1) (m+10+33 * j+33)/\x.2.2.2.length=j+1/\∀r∈x.2.2.2,Rl r2.1 r) ?_ λx15 h15=>?_
 .
  refine W.bind (R:=λx=>Lo (x.1,x.2.1,x.2.2.1) (m+10+33 * j+1)/\(x.2.2.2=true->0 < out.length)) ?_ λx17 h17=>?_
  .refine W.ite (λh0=>?_) (λh0=>W.ret ⟨hlo.mono (by omega),λh=>by cases h⟩);grind [W.bind,uf,W.ret]
  .refine W.ite (λht=>?_) (λht=>?_)
   .have h0:=h17.2 ht;refine W.ck (by omega) (by omega) ?_;have hi:((out.length:Int) - 1)=((out.length - 1:Nat):Int):=by omega
    have hlt':out.length - 1 < out.length:=by omega
    rw [hi,eh hlt',bs];have hrl:=hr _ (List.getElem_mem hlt');have hl5:=hrl.l5 (by omega);have hr3:=hrl.r3;rw [tU (by omega) (by omega) (λx hx=>by grind),bs,dD (by grind [bN]),bs];refine W.ret ⟨h17.1.mono (by omega),by simp [hj],λr hrr=>?_⟩;grind
   .have hc2:((r2.1.toNat:Nat):Int)=r2.1:=by omega
    have:=HK hk (l:=(x17.1,x17.2.1,x17.2.2.1)) (m:=m+10+33 * j+1) (n:=r2.1.toNat) h17.1 (by omega) (by omega);rw [hc2] at this;refine W.bind this λr26 h26=>?_;rw [dD (by grind [bN]),bs];refine W.ret ⟨h26.1.mono (by omega),by simp [hj],λr hrr=>?_⟩;grind
 .
  refine W.ck (by omega) (by omega) ?_;exact ih (q - 1) (_,_,_,_,_) (by omega) ⟨j+1,h15.2.1,by grind,by omega,by omega,h15.1.mono (by omega),h15.2.2⟩
theorem C5{k:Nat}(hk:50≤k){l:ba}{m:Int}{c:Int}(hl:Lo l m)(hm:0≤m/\m≤900)(hc:1≤c/\c≤5):
 W (iO k l c) λr=>Lo r.2 (m+10)/\Bg c r.1:=by
 unfold iO
 refine W.bind (R:=λx=>Lo (x.2.1,x.2.2.1,x.2.2.2) (m+10)/\Bg c x.1) ?_ λx hx=>W.ret hx
 refine W.loop (f:=fF k c) (λq y=>∃j:Nat,y.2.2.2.2=(j:Int)/\(j:Int)≤c/\q=c.toNat - j/\Lo (y.1,y.2.1,y.2.2.1) (m+j)/\y.2.2.2.1.length≤j/\(∀x∈y.2.2.2.1,0≤x/\x < (j:Int))/\y.2.2.2.1.Pairwise (· < ·)) ?_ c.toNat k _ (by omega)
  ⟨0,rfl,by omega,by omega,by simp_all,by simp,by simp,by simp⟩
 rintro aL q ⟨nums,d,s,o,y⟩ ⟨j,hj,hle,hq,hlo,hlen,hx,hp⟩ ih
 simp only at hj hlo hlen hx hp
 subst hj
 unfold fF
 dsimp only
 refine W.ite (λhlt=>?_) (λhge=>W.ret ⟨hlo.mono (by omega),λx hxx=>by grind,hp⟩)
 refine W.bind (R:=λx=>Lo (x.1,x.2.1,x.2.2.1) (m+j+1)/\x.2.2.2.length≤j+1/\(∀z∈x.2.2.2,0≤z/\z < ((j+1:Nat):Int))/\x.2.2.2.Pairwise (· < ·)) ?_ λx5 h5=>?_
 .
  refine W.bind (uf (l:=(nums,d,s)) hlo (by omega) (by omega) (by omega)) λr7 h7=>?_;refine W.ite (λht=>?_) (λht=>W.ret ⟨h7,by grind,λz hz=>by grind,hp⟩);grind [dD,bN,bs,W.ret,List.mem_singleton]
 .
  refine W.ck (by omega) (by omega) ?_;exact ih (q - 1) (_,_,_,_,_) (by omega) ⟨j+1,by grind,by omega,by omega,h5.1.mono (by omega),h5.2⟩
theorem Bg.len{C:Int}(hC:0≤C/\C≤5){b:List Int}(h:Bg C b):b.length≤5:=by
 have:=qh C.toNat b (h.asc.imp λhab e=>by omega) λx hx=>by have:=h.rng x hx;omega
 omega
theorem HE{m:ae}{B:Int->Bool}{n:Nat}(h:0≤mC m):((pK m B n).length:Int)=mC m:=by
 unfold pK;grind
theorem kV{m:ae}{B:Int->Bool}:(ig m B).length=(mD m).length+1:=by
 unfold ig;simp_all
theorem yK{α ε:Type}:∀(l:List α) (j:Nat),fR (λ(_:Unit) _ _=>(.ok ():Except ε Unit)) j l ()= .ok ()
 |[],_=>rfl
 |_::l,j=>yK l (j+1)
theorem zl{k:Nat}{m:ae}{B:Int->Bool}(v:Vd m)(hk:10≤k):fC k m (ig m B)=some true:=by
 have c1:=v.c1;have d6:=v.d6;unfold fC;have hd:ck ((m.2.2.2.2.1.length:Int)+1)=some (((mD m).length:Int)+1):=dz (by omega) (by grind);rw [hd,bs,if_neg (λhn=>hn (by rw [kV];omega))]
 have key:=mh (T:=Int) (f:=dn k m (ig m B)) (ig m B) (λ(_:Unit) j=>j) (λ_ _ _=>(.ok ():Except Bool Unit)) (λ_ _=>True) (λr=>some r)
  (λn s j hj _=>by
   have hck:ck ((j:Int)+1)=some ((j:Int)+1):=dz (by omega) (by grind [kV]);refine⟨?_,λ_ _=>trivial⟩;have hj2:j≤(mD m).length:=by grind [kV]
   simp only [dn,Int.ofNat_lt,hj,if_true,tz hj2,bs,hck];rw [if_neg (λhn=>hn (HE (by omega)))])
  (λn s _=>by simp [dn]) (n:=k) (s0:=()) (by rw [kV];omega) trivial
 simp_all [dn,ig,yK,oc]
end Go.Proofs.YtflilincnacbpaaGreat
set_option linter.unusedVariables false
set_option linter.unusedSimpArgs false
namespace Go.Proofs.YtflilincnacbpaaGreat
open K Go Go.Proofs
end Go.Proofs.YtflilincnacbpaaGreat
set_option linter.unusedVariables false
set_option linter.unusedSimpArgs false
namespace Go.Proofs.YtflilincnacbpaaGreat
open K Go Go.Proofs
theorem AI{k:Nat}{m:ae}(hk:1010≤k)(hs:Sm m):ir k m=some m:=by
 have hd:=hs.d;have hg:=hs.g;unfold ir;rw [dD (by show _≤_;grind),bs]
 have key:=fH (T:=List (List (List Int))×Int) (f:=dQ k m) (mD m) (λ(s:List (List (List Int))) j=>(s,j)) (λs j x=>s++[x]) (λj s=>s=(mD m).take j) (λs=>some s)
  (λn s j hj hs'=>by
   have hck:ck ((j:Int)+1)=some ((j:Int)+1):=dz (by omega) (by omega);have hl:s.length=j:=by grind
   have hok:cM (bN (length s+length [(mD m)[j]]))=some ():=dD (by grind [bN]);have hj':(j:Int) < (m.2.2.2.2.1.length:Int):=Int.ofNat_lt.2 hj;have hg:aG m.2.2.2.2.1 (j:Int)=some (mD m)[j]:=eh hj;have hr:=hs.r _ (List.getElem_mem hj);refine⟨?_,?_⟩
   .simp only [dQ,hj',if_true,hg,bs,tU (k:=k) (l:=(mD m)[j]) (by omega) (by omega) (λx hx=>by grind),hok,hck]
   simp_all)
  (λn s hs=>by
   unfold dQ;simp_all) (n:=k) (s0:=[]) (by omega) (by simp)
 simp_all
theorem Aq{k:Nat}{l:ba}{m:Int}{x:yC}(hl:Lo l m)(hm:0≤m/\m≤900)(hc:1≤x.1/\x.1≤5)(hd:x.2.2.2.2.1.length≤6):
 W (iq k l x) λr=>Lo r.2 (m+3)/\(0≤r.1.1/\r.1.1 < x.1)/\0≤r.1.2.1/\r.1.2.1≤(x.2.2.2.2.1.length:Int):=by
 unfold iq
 grind [W.ck,W.bind,kG,uf,W.ret]
theorem Vd.with{m:ae}(v:Vd m){gs:List an}(h8:gs.length≤8)(hg:∀g∈gs,0≤g.1/\g.1 < mC m/\0≤g.2.1/\g.2.1≤(mD m).length):Vd (m.1,m.2.1,m.2.2.1,m.2.2.2.1,m.2.2.2.2.1,gs):=
 ⟨v.c1,v.c5,v.w0,v.w3,v.s0,v.s3,v.h1,v.h3,v.d1,v.d6,v.r3,v.l5,v.x5,v.nd,h8,hg⟩
theorem yp{k:Nat}(hk:50≤k){l:ba}{m:Int}{cs ds:Int}(hl:Lo l m)(hm:0≤m/\m≤400)(hc:1≤cs/\cs≤5)(hd:1≤ds/\ds≤6):
 W (gz k l cs ds) λr=>Lo r.2 (m+270)/\Vd r.1/\(mG r.1).length≤4/\mC r.1≤cs/\((mD r.1).length:Int)≤ds:=by
 unfold gz
 refine W.bind (Cm hk (l:=(l.1,l.2.1,l.2.2)) hl hm hc hd) λr2 h2=>?_
 obtain⟨lo2,v,hg,hcs,hds⟩:=h2
 have c1:=v.c1
 have c5:=v.c5
 have d6:=v.d6
 refine W.bind (R:=λx=>Lo (x.2.1,x.2.2.1,x.2.2.2) (m+270)/\x.1.length≤4/\∀g∈x.1,0≤g.1/\g.1 < mC r2.1/\0≤g.2.1/\g.2.1≤(mD r2.1).length) ?_ λx hx=>W.ret ⟨hx.1,v.with (by omega) hx.2.2,hx.2.1,hcs,hds⟩
 refine W.bind (kG (l:=(r2.2.1,r2.2.2.1,r2.2.2.2)) lo2 (by omega) (by omega)) λr6 h6=>?_
 have b6:=h6.2.1 (by omega)
 refine W.loop (f:=eI k r2) (λq y=>∃j:Nat,y.2.2.2.1.length=j/\y.2.2.2.2=r6.1 - j/\(j:Int)≤r6.1/\q=r6.1.toNat - j/\Lo (y.1,y.2.1,y.2.2.1) (m+251+3 * j)/\∀g∈y.2.2.2.1,0≤g.1/\g.1 < mC r2.1/\0≤g.2.1/\g.2.1≤(mD r2.1).length) ?_ r6.1.toNat k _ (by omega)
  ⟨0,rfl,by simp,by omega,by omega,h6.2.2.mono (by omega),by simp⟩
 rintro aL q ⟨nums,d,s,out,y⟩ ⟨j,hj,hy,hle,hq,hlo,hr⟩ ih
 simp only at hj hy hlo hr
 subst hy
 unfold eI
 dsimp only
 refine W.ite (λhlt=>?_) (λhge=>W.ret ⟨hlo.mono (by omega),by grind,hr⟩)
 refine W.bind (Aq (l:=(nums,d,s)) (x:=(r2.1.1,r2.1.2.1,r2.1.2.2.1,r2.1.2.2.2.1,r2.1.2.2.2.2.1,())) hlo (by omega) ⟨c1,c5⟩ d6) λr9 h9=>?_
 rw [dD (by grind [bN]),bs]
 refine W.ck (by omega) (by omega) ?_
 refine ih (q - 1) (_,_,_,_,_) (by omega) ⟨j+1,by simp [hj],by grind,by omega,by omega,h9.1.mono (by omega),λg hgg=>?_⟩
 grind
theorem Sm.with{m:ae}(h:Sm m){gs:List an}(hg:gs.length≤1000):Sm (m.1,m.2.1,m.2.2.1,m.2.2.2.1,m.2.2.2.2.1,gs):=⟨h.d,h.r,hg⟩
end Go.Proofs.YtflilincnacbpaaGreat
set_option linter.unusedVariables false
set_option linter.unusedSimpArgs false
namespace Go.Proofs.YtflilincnacbpaaGreat
open K Go Go.Proofs
def kP(C:Nat):Nat->List Int->Nat->List (List Int)
 |0,b,_=>[b]
 |n+1,b,f=>b::(List.range' f (C - f)).flatMap λ(c:Nat)=>kP C n (b++[(c:Int)]) (c+1)
theorem uF{b:List Int}{c:Int}:du (b++[c])=xu (du b) c:=by
 unfold du;simp_all
theorem Am{σ:Type}{k:Nat}{Y:σ->Int->Option (σ×Bool)}{C:Nat}(hC:C≤5)(hk:10≤k)(g:σ->List Int->σ)(vQ:Nat->σ->Prop):
 ∀(n m0:Nat) (b:List Int) (f:Nat) (s:σ) (r:Nat),C - f≤n->f≤C->n < m0->jB (du b)->(∀r s,∀b'∈kP C n b f,vQ (r+1) s->Y s (du b')=some (g s b',true)/\vQ r (g s b'))->vQ ((kP C n b f).length+r) s->
  dB k Y (C:Int) m0 (du b) (f:Int) s=some (true,(kP C n b f).foldl g s)/\vQ r ((kP C n b f).foldl g s)
 |n,0,b,f,s,r,_,_,h,_,_,_=>absurd h (not_lt_zero _)
 |0,m0+1,b,f,s,r,h1,h2,_,hm,hY,hI=>by
  have hf:f=C:=by omega
  subst hf
  unfold dB
  obtain⟨k,rfl⟩:∃n,k=n+1:=⟨k - 1,by omega⟩
  have hI:vQ (r+1) s:=by rw [Nat.add_comm];exact hI
  have:=hY r s b (by simp [kP]) hI
  rw [this.1,bs,if_neg (by simp)]
  rw [dy,if_neg (Int.lt_irrefl _),oc]
  exact⟨rfl,this.2⟩
 |n+1,m0+1,b,f,s,r,h1,h2,h3,hm,hY,hI=>by
  unfold dB
  have hlen:(kP C (n+1) b f).length=((List.range' f (C - f)).flatMap λ(c:Nat)=>kP C n (b++[(c:Int)]) (c+1)).length+1:=by rw [kP,length_cons]
  rw [hlen] at hI
  have h0:=hY (((List.range' f (C - f)).flatMap λ(c:Nat)=>kP C n (b++[(c:Int)]) (c+1)).length+r) s b (by simp [kP]) (by grind)
  rw [h0.1,bs,if_neg (by simp)]
  have loop:∀(d x:Nat) (s:σ) (aL:Nat) (r:Nat),C - x=d->f≤x->x≤C->d < aL->vQ (((List.range' x (C - x)).flatMap λ(c:Nat)=>kP C n (b++[(c:Int)]) (c+1)).length+r) s->
   dy k (du b) (C:Int) (dB k Y (C:Int) m0) aL ((x:Int),s)=some (.ok (((List.range' x (C - x)).flatMap λ(c:Nat)=>kP C n (b++[(c:Int)]) (c+1)).foldl g s))/\vQ r (((List.range' x (C - x)).flatMap λ(c:Nat)=>kP C n (b++[(c:Int)]) (c+1)).foldl g s):=by
   intro d
   induction d with
   |zero=>
    intro x s aL r hd hx hx2 hfu hI;obtain⟨aL,rfl⟩:∃n,aL=n+1:=⟨aL - 1,by omega⟩;have:x=C:=by omega
    simp_all [Nat.sub_self,dy,if_neg,Int.lt_irrefl]
   |succ d ih=>
    intro x s aL r hd hx hx2 hfu hI;obtain⟨aL,rfl⟩:∃n,aL=n+1:=⟨aL - 1,by omega⟩;have hw:=nk (k:=k) hm (show(0:Int)≤(x:Int) by omega) (show(x:Int) < 8 by omega);have hck:ck ((x:Int)+1)=some (((x+1:Nat):Int)):=by grind [dz]
    have e:C - x=(C - (x+1))+1:=by omega
    rw [e,List.range'_succ,List.flatMap_cons,length_append,Nat.add_assoc] at hI
    have hsub:=Am hC hk g vQ n m0 (b++[(x:Int)]) (x+1) s _ (by omega) (by omega) (by omega) (by simp_all [uF]) (λr s b' hb'=>hY r s b' (by
     rw [kP];grind)) hI
    rw [uF] at hsub;have hih:=ih (x+1) _ aL r (by omega) (by omega) (by omega) (by omega) hsub.2;rw [dy,if_pos (show(x:Int) < (C:Int) by omega),hw.1,bs,hck,bs,hsub.1,bs,if_neg (by simp),bs,hih.1];simp_all [List.range'_succ,List.flatMap_cons,List.foldl_append]
  have hl:=loop (C - f) f _ k r rfl (Nat.le_refl _) h2 (by omega) h0.2;rw [hl.1,oc];exact⟨rfl,hl.2⟩
def Eh(m:ae)(but:Nat->Bool)(B:Int->Bool):Bool:=(mG m).zipIdx.all λg=>but g.2 || decide (g.1.2.2=decide (mS m≤mK m B g.1.2.1.toNat g.1.1))
theorem xj{α ε:Type}{p:Nat->α->Bool}{e:ε}:∀(l:List α) (j:Nat),fR (λ(_:Unit) j x=>if p j x=true then .ok () else Except.error e) j l ()=if((l.zipIdx j).all λg=>p g.2 g.1)=true then .ok () else .error e
 |[],j=>rfl
 |x::l,j=>by
  rw [fR,zipIdx_cons,all_cons]
  cases h:p j x with
  |true=>simp only [if_true,Bool.true_and];exact xj l (j+1)
  |false=>simp
theorem Ax{k:Nat}{m:ae}{S a2:Int}(v:Vd m)(hk:10≤k)(hS:jB S)(ha:jB a2):dp k m S a2=some (Eh m (λi=>decide (ek a2 i)) (ni S)):=by
 have g8:=v.g8;have d6:=v.d6;unfold dp gJ;rw [tw v hk hS,bs]
 have key:=mh (T:=Int) (f:=cF k m a2 (cr (GG m (ni S)))) (mG m) (λ(_:Unit) j=>j) (λ_ j x=>if(decide (ek a2 j) || decide (x.2.2=decide (mS m≤mK m (ni S) x.2.1.toNat x.1)))=true then .ok () else Except.error ()) (λ_ _=>True) (λr=>some (match r with | .error _=>false | .ok _=>true))
  (λn s j hj _=>by
   have hck:ck ((j:Int)+1)=some ((j:Int)+1):=dz (by omega) (by omega);have hg:=v.gl _ (List.getElem_mem hj);have hj':(j:Int) < (m.2.2.2.2.2.length:Int):=Int.ofNat_lt.2 hj;have hget:aG m.2.2.2.2.2 (j:Int)=some (mG m)[j]:=eh hj;generalize (mG m)[j]=x at *;have c5:=v.c5;have e2:x.2.1=((x.2.1.toNat:Nat):Int):=by omega
   have hrow:aG (cr (GG m (ni S))) x.2.1=some (kH (GG m (ni S) x.2.1.toNat)):=by
    grind [CX,Int.toNat_natCast]
   have hval:aG (kH (GG m (ni S) x.2.1.toNat)) x.1=some (mK m (ni S) x.2.1.toNat x.1):=by
    grind [xU,Em]
   refine⟨?_,λ_ _=>trivial⟩;have hm1:m.2.2.1=mS m:=rfl;simp only [cF,hj',if_true,hget,bs,yo (k:=k) ha (i:=j) (by omega),hrow,hval,hm1];grind)
  (λn s _=>by
   unfold cF;simp_all) (n:=k) (s0:=()) (by omega) trivial
 rw [show cF k m a2 (cr (GG m (ni S))) k 0=_ from key,xj (p:=λj (x:an)=>decide (ek a2 j) || decide (x.2.2=decide (mS m≤mK m (ni S) x.2.1.toNat x.1)))];unfold Eh;grind
end Go.Proofs.YtflilincnacbpaaGreat
set_option linter.unusedVariables false
set_option linter.unusedSimpArgs false
namespace Go.Proofs.YtflilincnacbpaaGreat
open K Go Go.Proofs
theorem xt{m:ae}(v:Vd m){A B:Int->Bool}(h:∀c,0≤c->c < mC m->A c=B c):∀(n:Nat) (c:Int),0≤c->c < mC m->mK m A n c=mK m B n c
 |0,c,h0,h1=>by simp_all [mK]
 |n+1,c,h0,h1=>by
  have ih:=xt v h n
  unfold mK
  cases e:zc m n c with
  |none=>simp_all
  |some l=>
   have hb:=(tB v e).2
   grind
theorem vq{α:Type}{l:List α}{p q:α->Bool}(h:∀x∈l,p x=q x):l.all p=l.all q:=by
 grind
theorem FI{m:ae}(v:Vd m){but:Nat->Bool}{A B:Int->Bool}(h:∀c,0≤c->c < mC m->A c=B c):Eh m but A=Eh m but B:=by
 unfold Eh;refine vq λg hg=>?_;obtain⟨x,i⟩:=g;have hx:=v.gl x (List.fst_mem_of_mem_zipIdx hg);show(but i || decide (x.2.2=decide (mS m≤mK m A x.2.1.toNat x.1)))=(but i || decide (x.2.2=decide (mS m≤mK m B x.2.1.toNat x.1)));grind [xt]
def Db(m:ae):List (List Int):=kP (mC m).toNat (mC m).toNat [] 0
theorem EB{C:Nat}:∀(n:Nat) (b:List Int) (f:Nat),Bg (C:Int) b->(∀x∈b,x < (f:Int))->∀b'∈kP C n b f,Bg (C:Int) b'
 |0,b,f,h,_,b',hb=>by
  simp_all [kP,List.mem_singleton]
 |n+1,b,f,h,hf,b',hb=>by
  rw [kP,mem_cons] at hb
  rcases hb with rfl |hb
  .
   exact h
  .
   obtain⟨c,hc,hb⟩:=List.mem_flatMap.1 hb
   rw [List.mem_range'_1] at hc
   refine EB n (b++[(c:Int)]) (c+1) ⟨λx hx=>?_,?_⟩ (λx hx=>?_) b' hb
   .
    rcases List.mem_append.1 hx with hx |hx
    .
     exact h.rng x hx
    grind
   .
    rw [pairwise_append]
    exact⟨h.asc,by simp,λa ha x hx=>by grind⟩
   grind
theorem EC{m:ae}(v:Vd m){b:List Int}(h:b∈Db m):Bg (mC m) b:=by
 have c1:=v.c1;have:=EB (C:=(mC m).toNat) (mC m).toNat [] 0 ⟨by simp,by simp⟩ (by simp) b h;grind
theorem AU{m:ae}(v:Vd m):(Db m).length≤32:=by
 have c1:=v.c1;have c5:=v.c5;have:(mC m).toNat=1\/(mC m).toNat=2\/(mC m).toNat=3\/(mC m).toNat=4\/(mC m).toNat=5:=by omega
 unfold Db;rcases this with h |h |h |h |h <;> rw [h] <;> decide
def pM(m:ae)(but:Nat->Bool):List (List Int):=(Db m).filter λb=>Eh m but λc=>decide (c∈b)
theorem pV{α β:Type}{p:α->Bool}{h:α->β}:∀(l:List α) (s:List β),l.foldl (λ(s:List β×Bool) b=>(if p b then s.1++[h b] else s.1,false)) (s,false)=(s++(l.filter p).map h,false)
 |[],s=>by simp
 |x::l,s=>by
  rw [foldl_cons,pV l]
  grind
theorem CC{k:Nat}{m:ae}{a2:Int}(v:Vd m)(hk:50≤k)(ha:jB a2):eH k m a2=some ((pM m λi=>decide (ek a2 i)).map du):=by
 have c1:=v.c1;have c5:=v.c5;unfold eH jS;have hC:m.1=(((mC m).toNat:Nat):Int):=by grind
 have h:=Am (σ:=List Int×Bool) (k:=k) (Y:=qX (λ(y5:(List Int)) (p7:Int)=>(dp k m p7 a2).bind λr9=>if r9=true then((cM (bN (length y5+length [p7]))).bind λ_=>some (y5++[p7],true)) else(some (y5,true)))) (C:=(mC m).toNat) (by omega) (by omega)
  (λs b=>(if Eh m (λi=>decide (ek a2 i)) (λc=>decide (c∈b)) then s.1++[du b] else s.1,false)) (λr s=>s.2=false/\s.1.length+r≤1000) (mC m).toNat k [] 0 ([],false) 0 (by omega) (by omega) (by omega) wW (λr s b' hb' hI=>by
   obtain⟨y,q⟩:=s;obtain⟨rfl,hI⟩:q=false/\y.length+(r+1)≤1000:=hI;have hbg:=EC v hb';have hset:=hbg.set c5;have hex:Eh m (λi=>decide (ek a2 i)) (ni (du b'))=Eh m (λi=>decide (ek a2 i)) (λc=>decide (c∈b')):=FI v λc h0 _=>hset.2 c h0;unfold qX;simp only [];rw [Ax v (by omega) hset.1 ha,hex,bs];cases Eh m (λi=>decide (ek a2 i)) (λc=>decide (c∈b')) with
   |true=>
    simp only [if_true];grind [dD,bN,bs,du]
   |false=>
    grind) ⟨rfl,by have:=AU v;grind [Db]⟩
 rw [hC,show dB k (qX (λ(y5:(List Int)) (p7:Int)=>(dp k m p7 a2).bind λr9=>if r9=true then((cM (bN (length y5+length [p7]))).bind λ_=>some (y5++[p7],true)) else(some (y5,true)))) (((mC m).toNat:Nat):Int) k 0 0 ([],false)=_ from h.1,bs,bs];rw [pV (p:=λb=>Eh m (λi=>decide (ek a2 i)) λc=>decide (c∈b)) (h:=du)];simp only [Bool.false_eq_true,if_false,nil_append];rfl
theorem C7:∀{a b:List Int},a.Pairwise (· < ·)->b.Pairwise (· < ·)->(∀x,x∈a↔x∈b)->a=b
 |[],[],_,_,_=>rfl
 |[],y::b,_,_,h=>absurd ((h y).2 mem_cons_self) (by simp)
 |x::a,[],_,_,h=>absurd ((h x).1 mem_cons_self) (by simp)
 |x::a,y::b,ha,hb,h=>by
  rw [pairwise_cons] at ha hb
  have e:x=y:=by
   grind [mem_cons_self]
  subst e;rw [C7 ha.2 hb.2 λz=>?_];grind
theorem BL{k:Nat}{C:Int}{b:List Int}(hk:10≤k)(hC:C≤5)(h:Bg C b):f8 k (du b)=some b:=by
 have hset:=h.set hC;unfold f8
 have key:=fH (T:=List Int×Int) (f:=dH k (du b)) (List.range 5) (λ(s:List Int) j=>(s,j)) (λs j _=>if decide (ek (du b) j) then s++[(j:Int)] else s) (λj s=>s.length≤j/\s.Pairwise (· < ·)/\∀x,x∈s↔x∈b/\x < (j:Int)) (λs=>some s)
  (λn s j hj hs=>by
   rw [length_range] at hj;have hck:ck ((j:Int)+1)=some ((j:Int)+1):=dz (by omega) (by omega);have hj5:(j:Int) < 5:=by omega
   have hin:=hset.2 (j:Int) (by omega);unfold ni at hin;rw [Int.toNat_natCast] at hin;refine⟨?_,?_⟩
   .simp only [dH,hj5,if_true,yo (k:=k) hset.1 (by omega:j < 8),bs];cases decide (ek (du b) j) with
    |true=>
     simp only [if_true];rw [dD (by grind [bN]),bs,bs,hck,bs]
    |false=>simp_all
   grind)
  (λn s hs=>by
   simp_all [length_range,dH,if_neg]) (n:=k) (s0:=[]) (by grind) ⟨by simp,by simp,λx=>by simp;intro hx;exact(h.rng x hx).1⟩
 rw [show dH k (du b) k ([],0)=_ from key.1,bs];have:=key.2;rw [length_range] at this;exact congrArg some (C7 this.2.1 h.asc λx=>by rw [this.2.2 x];exact⟨λhh=>hh.1,λhh=>⟨hh,by have:=h.rng x hh;omega⟩⟩)
end Go.Proofs.YtflilincnacbpaaGreat
set_option linter.unusedVariables false
set_option linter.unusedSimpArgs false
namespace Go.Proofs.YtflilincnacbpaaGreat
open K Go Go.Proofs
end Go.Proofs.YtflilincnacbpaaGreat
set_option linter.unusedVariables false
set_option linter.unusedSimpArgs false
namespace Go.Proofs.YtflilincnacbpaaGreat
open K Go Go.Proofs
def i7:Nat->Bool:=λ_=>false
theorem Ul:(λi=>decide (ek 0 i))=i7:=by
 grind [i7,ek]
theorem px{m:ae}(v:Vd m){but:Nat->Bool}{b:List Int}(h:b∈pM m but):Bg (mC m) b:=EC v (List.mem_filter.1 h).1
theorem I8{m:ae}(v:Vd m){but:Nat->Bool}:(pM m but).length≤32:=Nat.le_trans (List.length_filter_le _ _) (AU v)
theorem IP{k:Nat}{C:Int}(hC:C≤5)(hk:50≤k){L:List (List Int)}(hL:∀b∈L,Bg C b)(hl:L.length≤40):eC k (L.map du) k ([],0)=some L:=by
 have key:=fH (T:=List (List Int)×Int) (f:=eC k (L.map du)) L (λ(s:List (List Int)) j=>(s,j)) (λs _ b=>s++[b]) (λj s=>s=L.take j) (λs=>some s)
  (λn s j hj hs=>by
   have hck:ck ((j:Int)+1)=some ((j:Int)+1):=dz (by omega) (by omega);have hls:s.length=j:=by grind
   have hg:aG (L.map du) (j:Int)=some (du L[j]):=by simp_all [aG,if_pos,Int.toNat_natCast,List.getElem?_map,List.getElem?_eq_getElem]
   have hj':(j:Int) < ((L.map du).length:Int):=by simp_all
   have hok:cM (bN (length s+length [L[j]]))=some ():=dD (by grind [bN]);refine⟨?_,?_⟩
   .simp only [eC,hj',if_true,hg,bs,BL (k:=k) (by omega) hC (hL _ (List.getElem_mem hj)),hok,hck]
   simp_all)
  (λn s hs=>by
   unfold eC;simp_all) (n:=k) (s0:=[]) (by omega) (by simp)
 simp_all
theorem CE{k:Nat}{m:ae}(hs:Sm m)(hk:1010≤k):gd k m=some (if¬(qL m=0) then([],qL m) else(pM m i7,0)):=by
 unfold gd;rw [Ab hs hk (by simp) (by simp) (by simp) (by simp),bs];by_cases hc:qL m=0
 .have v:=Vd.of hc;have hb:ua (mC m) []=0:=tC.2 ⟨by simp,by simp⟩;have ho:Tm m [] [] []=true:=rfl;simp only [hc,hb,ho,not_true_eq_false,if_false,if_true,yD];rw [CC v (by omega) wW,bs,Ul,IP v.c5 (by omega) (λb h=>px v h) (by grind [I8,i7]),bs]
 simp_all [not_false_eq_true,if_true,yE]
end Go.Proofs.YtflilincnacbpaaGreat
set_option linter.unusedVariables false
set_option linter.unusedSimpArgs false
namespace Go.Proofs.YtflilincnacbpaaGreat
open K Go Go.Proofs
end Go.Proofs.YtflilincnacbpaaGreat
set_option linter.unusedVariables false
set_option linter.unusedSimpArgs false
namespace Go.Proofs.YtflilincnacbpaaGreat
open K Go Go.Proofs
end Go.Proofs.YtflilincnacbpaaGreat
set_option linter.unusedVariables false
set_option linter.unusedSimpArgs false
namespace Go.Proofs.YtflilincnacbpaaGreat
open K Go Go.Proofs
theorem AS{C:Nat}:∀(t:List Int) (n:Nat) (b:List Int) (f:Nat),C - f≤n->(∀x∈t,(f:Int)≤x/\x < C)->t.Pairwise (· < ·)->b++t∈kP C n b f
 |[],0,b,f,_,_,_=>by simp [kP]
 |[],n+1,b,f,_,_,_=>by simp [kP]
 |x::t,0,b,f,h,hx,_=>by grind [mem_cons_self]
 |x::t,n+1,b,f,h,hx,hp=>by
  have h0:=hx x (mem_cons_self ..)
  rw [pairwise_cons] at hp
  rw [kP]
  refine mem_cons_of_mem _ (List.mem_flatMap.2 ⟨x.toNat,by grind,?_⟩)
  have:=AS t n (b++[((x.toNat:Nat):Int)]) (x.toNat+1) (by omega) (λy hy=>⟨by grind,(hx y (mem_cons_of_mem _ hy)).2⟩) hp.2
  grind
theorem AT{m:ae}{b:List Int}(h:Bg (mC m) b):b∈Db m:=by
 have:=AS (C:=(mC m).toNat) b (mC m).toNat [] 0 (by omega) (λx hx=>by have:=h.rng x hx;omega) h.asc;exact this
end Go.Proofs.YtflilincnacbpaaGreat
set_option linter.unusedVariables false
set_option linter.unusedSimpArgs false
namespace Go.Proofs.YtflilincnacbpaaGreat
open K Go Go.Proofs
theorem Ew{l:List Int}{c:Int}{i:Nat}(hn:l.Nodup)(h:l[i]? =some c):qM l c=some ((if 0 < i then [l[i-1]?.getD 0] else [])++(l[i+1]?).toList):=by
 obtain⟨hi,hc⟩:=List.getElem?_eq_some_iff.1 h
 have e:l.findIdx? (λy=>decide (c=y))=some i:=by
  rw [List.findIdx?_eq_some_iff_getElem];refine⟨hi,by simp [hc],λj hj=>?_⟩;have:=(List.pairwise_iff_getElem.1 (List.nodup_iff_pairwise_ne.1 hn)) j i (by omega) hi hj;rw [hc] at this;simp;exact λh2=>this h2.symm
 unfold qM;rw [e];rfl
theorem Eu{l:List Int}{c:Int}(h:c∉l):qM l c=none:=by
 unfold qM
 have:l.findIdx? (λy=>decide (c=y))=none:=by
  rw [List.findIdx?_eq_none_iff];intro x hx;simp;intro h2;exact h (h2▸hx)
 rw [this];rfl
def sd(σ:Int->Int)(l:List Int):List Int:=l.reverse.map σ
theorem zu{σ:Int->Int}{l:List Int}(hn:l.Nodup)(hi:∀x∈l,∀y∈l,σ x=σ y->x=y):(sd σ l).Nodup:=by
 unfold sd;rw [List.nodup_iff_pairwise_ne,List.pairwise_map];have h1:l.reverse.Pairwise (· ≠ ·):=List.pairwise_reverse.2 ((List.nodup_iff_pairwise_ne.1 hn).imp λh=>Ne.symm h);refine Pairwise.imp_of_mem (λ{a b} ha hb hab h=>hab (hi a (List.mem_reverse.1 ha) b (List.mem_reverse.1 hb) h)) h1
theorem xO{σ:Int->Int}{l:List Int}{i:Nat}(h:i < l.length):(sd σ l)[l.length - 1 - i]? =(l[i]?).map σ:=by
 unfold sd;rw [List.getElem?_map,List.getElem?_reverse (by omega),show l.length - 1 - (l.length - 1 - i)=i by omega]
theorem M5{σ:Int->Int}{l:List Int}{c:Int}(hn:l.Nodup)(hi:∀x∈l,∀y∈l,σ x=σ y->x=y)(hc:∀x∈l,σ x=σ c->x=c):qM (sd σ l) (σ c)=(qM l c).map λs=>(s.reverse).map σ:=by
 by_cases hm:c∈l
 .obtain⟨i,hi2,hci⟩:=List.getElem_of_mem hm;have hg:l[i]? =some c:=by rw [List.getElem?_eq_getElem hi2,hci]
  have hg':(sd σ l)[l.length - 1 - i]? =some (σ c):=by rw [xO hi2,hg];rfl
  rw [Ew hn hg,Ew (zu hn hi) hg'];show some _=some _;congr 1;show _=List.map σ (List.reverse (_++_));rw [List.reverse_append,List.map_append]
  have e1:(if 0 < l.length - 1 - i then [(sd σ l)[l.length - 1 - i - 1]?.getD 0] else [])=((l[i+1]?).toList).reverse.map σ:=by
   by_cases h1:i+1 < l.length
   .have:=xO (σ:=σ) h1;rw [show l.length - 1 - (i+1)=l.length - 1 - i - 1 by omega] at this;rw [if_pos (by omega),this,List.getElem?_eq_getElem h1];rfl
   .rw [if_neg (by omega),List.getElem?_eq_none (by omega)];rfl
  have e2:((sd σ l)[l.length - 1 - i+1]?).toList=((if 0 < i then [l[i-1]?.getD 0] else []):List Int).reverse.map σ:=by
   by_cases h1:0 < i
   .have:=xO (σ:=σ) (show i - 1 < l.length by omega);rw [show l.length - 1 - (i - 1)=l.length - 1 - i+1 by omega] at this;rw [if_pos h1,this,List.getElem?_eq_getElem (show i - 1 < l.length by omega)];rfl
   .rw [if_neg h1,List.getElem?_eq_none (by unfold sd;simp;omega)];rfl
  rw [e1,e2]
 .have hno:σ c∉sd σ l:=λh=>by
   unfold sd at h;obtain⟨x,hx,he⟩:=List.mem_map.1 h;have hx:=List.mem_reverse.1 hx;exact hm (hc x hx he▸hx)
  rw [Eu hm,Eu hno];rfl
theorem Ey{σ:Int->Int}{c:Int}:∀{d:List (List Int)},(∀l∈d,l.Nodup/\(∀x∈l,∀y∈l,σ x=σ y->x=y)/\∀x∈l,σ x=σ c->x=c)->vp (d.map (sd σ)) (σ c)=(vp d c).map λs=>(s.reverse).map σ
 |[],_=>rfl
 |l::d,h=>by
  have h0:=h l mem_cons_self
  have ih:=Ey (d:=d) λx hx=>h x (mem_cons_of_mem _ hx)
  unfold vp at ih⊢
  rw [map_cons,findSome?_cons,findSome?_cons,M5 h0.1 h0.2.1 h0.2.2]
  cases qM l c with
  |some s=>rfl
  |none=>exact ih
structure zd(C:Int)(σ:Int->Int):Prop where
 rng:∀x,0≤x->x < C->0≤σ x/\σ x < C
 inj:∀x y,0≤x->x < C->0≤y->y < C->σ x=σ y->x=y
 sur:∀y,0≤y->y < C->∃x,0≤x/\x < C/\σ x=y
def sq(σ:Int->Int)(m:ae):ae:=(m.1,m.2.1,m.2.2.1,m.2.2.2.1,(mD m).map λd=>d.map (sd σ),(mG m).map λg=>(σ g.1,g.2.1,g.2.2))
theorem BF{σ:Int->Int}{l:List Int}{x:Int}:x∈sd σ l↔∃y∈l,σ y=x:=by
 unfold sd;simp
theorem DC{σ:Int->Int}:∀{d:List (List Int)},d.flatten.Nodup->(∀x∈d.flatten,∀y∈d.flatten,σ x=σ y->x=y)->(d.map (sd σ)).flatten.Nodup
 |[],_,_=>by simp
 |l::d,hn,hi=>by
  rw [flatten_cons,nodup_append] at hn
  obtain⟨h1,h2,h3⟩:=hn
  rw [map_cons,flatten_cons,nodup_append]
  refine⟨zu h1 λx hx y hy=>hi x (by simp [hx]) y (by simp [hy]),DC h2 λx hx y hy=>hi x (by rw [flatten_cons];exact List.mem_append_right _ hx) y (by rw [flatten_cons];exact List.mem_append_right _ hy),λa ha b hb hab=>?_⟩
  obtain⟨x,hx,rfl⟩:=BF.1 ha
  obtain⟨l',hl',hb⟩:=List.mem_flatten.1 hb
  obtain⟨l0,hl0,rfl⟩:=List.mem_map.1 hl'
  obtain⟨y,hy,rfl⟩:=BF.1 hb
  have hyf:y∈d.flatten:=List.mem_flatten.2 ⟨l0,hl0,hy⟩
  exact h3 x hx y hyf (hi x (by simp [hx]) y (by rw [flatten_cons];exact List.mem_append_right _ hyf) hab)
theorem NV{σ:Int->Int}{m:ae}(v:Vd m)(R:zd (mC m) σ):Vd (sq σ m):=by
 refine⟨v.c1,v.c5,v.w0,v.w3,v.s0,v.s3,v.h1,v.h3,?_,?_,λr hr=>?_,λr hr l hl=>?_,λr hr l hl x hx=>?_,λr hr=>?_,?_,λg hg=>?_⟩
 .have:=v.d1;show 1≤(List.map _ _).length;rw [length_map];exact this
 .have:=v.d6;show(List.map _ _).length≤6;rw [length_map];exact this
 .obtain⟨d,hd,rfl⟩:=List.mem_map.1 hr;have:=v.r3 d hd;rw [length_map];exact this
 .obtain⟨d,hd,rfl⟩:=List.mem_map.1 hr;obtain⟨l0,hl0,rfl⟩:=List.mem_map.1 hl;have:=v.l5 d hd l0 hl0;unfold sd;simp;exact this
 .obtain⟨d,hd,rfl⟩:=List.mem_map.1 hr;obtain⟨l0,hl0,rfl⟩:=List.mem_map.1 hl;obtain⟨y,hy,rfl⟩:=BF.1 hx;have:=v.x5 d hd l0 hl0 y hy;exact R.rng y this.1 this.2
 .obtain⟨d,hd,rfl⟩:=List.mem_map.1 hr;refine DC (v.nd d hd) λx hx y hy h=>?_;obtain⟨l1,hl1,hx⟩:=List.mem_flatten.1 hx;obtain⟨l2,hl2,hy⟩:=List.mem_flatten.1 hy;have a:=v.x5 d hd l1 hl1 x hx;have b:=v.x5 d hd l2 hl2 y hy;exact R.inj x y a.1 a.2 b.1 b.2 h
 .have:=v.g8;show(List.map _ _).length≤8;rw [length_map];exact this
 .obtain⟨g0,hg0,rfl⟩:=List.mem_map.1 hg;have:=v.gl g0 hg0;refine⟨(R.rng g0.1 this.1 this.2.1).1,(R.rng g0.1 this.1 this.2.1).2,this.2.2.1,?_⟩;show g0.2.1≤((List.map _ _).length:Int);rw [length_map];exact this.2.2.2
theorem C4{σ:Int->Int}{m:ae}(v:Vd m)(R:zd (mC m) σ){d:Nat}{c:Int}(h0:0≤c)(h1:c < mC m):zc (sq σ m) d (σ c)=(zc m d c).map λs=>(s.reverse).map σ:=by
 unfold zc
 have e:(mD (sq σ m))[d]?.getD []=((mD m)[d]?.getD []).map (sd σ):=by
  show((mD m).map λd=>d.map (sd σ))[d]?.getD []=_;rw [List.getElem?_map];cases(mD m)[d]? <;> rfl
 rw [e];refine Ey λl hl=>?_;cases hd:(mD m)[d]? with
 |none=>rw [hd] at hl;cases hl
 |some r=>
  rw [hd] at hl;have hr:r∈mD m:=List.mem_of_getElem? hd;have hx:=v.x5 r hr l hl;exact⟨rC (v.nd r hr) hl,λx hx1 y hy=>R.inj x y (hx x hx1).1 (hx x hx1).2 (hx y hy).1 (hx y hy).2,λx hx1=>R.inj x c (hx x hx1).1 (hx x hx1).2 h0 h1⟩
theorem En{σ:Int->Int}{m:ae}(v:Vd m)(R:zd (mC m) σ){c:Int}(h0:0≤c)(h1:c < mC m):∀d:Nat,lR (sq σ m) (σ c) d=lR m c d
 |0=>by
  rw [lR,lR,C4 v R h0 h1,Option.isSome_map]
 |d+1=>by
  rw [lR,lR,C4 v R h0 h1,Option.isSome_map,En v R h0 h1 d]
theorem C9{α:Type}{l:List α}{p q:α->Bool}(h:∀x∈l,p x=q x):l.any p=l.any q:=by
 rw [Bool.eq_iff_iff,List.any_eq_true,List.any_eq_true];exact⟨λ⟨x,hx,hp⟩=>⟨x,hx,h x hx▸hp⟩,λ⟨x,hx,hp⟩=>⟨x,hx,(h x hx).symm▸hp⟩⟩
theorem Df{σ:Int->Int}{m:ae}(v:Vd m)(R:zd (mC m) σ){B B':Int->Bool}(hB:∀c,0≤c->c < mC m->B' (σ c)=B c):∀(n:Nat) (c:Int),0≤c->c < mC m->mK (sq σ m) B' n (σ c)=mK m B n c
 |0,c,h0,h1=>by
  rw [mK,mK,hB c h0 h1];rfl
 |n+1,c,h0,h1=>by
  have ih:=Df v R hB n
  rw [mK,mK,C4 v R h0 h1,En v R h0 h1,ih c h0 h1]
  cases e:zc m n c with
  |none=>rfl
  |some s=>
   have hs:=(tB v e).2
   have:((s.reverse.map σ).any λx=>decide (mW (sq σ m)≤mK (sq σ m) B' n x))=s.any λx=>decide (mW m≤mK m B n x):=by
    rw [List.any_map,List.any_reverse];refine C9 λx hx=>?_;show decide (mW m≤mK (sq σ m) B' n (σ x))=_;rw [ih x (hs x hx).1 (hs x hx).2]
   show(if 0≤mK m B n c then _ else if((s.reverse.map σ).any λx=>decide (mW (sq σ m)≤mK (sq σ m) B' n x))=true then _ else _)=_;rw [this]
def vG(σ:Int->Int)(C:Nat)(b:List Int):List Int:=((List.range C).map λ(i:Nat)=>(i:Int)).filter λc=>b.any λx=>decide (σ x=c)
theorem DL{σ:Int->Int}{C:Nat}{b:List Int}{c:Int}:c∈vG σ C b↔(0≤c/\c < C)/\∃x∈b,σ x=c:=by
 unfold vG;rw [List.mem_filter];simp only [List.mem_map,List.mem_range,List.any_eq_true,decide_eq_true_eq];constructor
 .rintro⟨⟨i,hi,rfl⟩,h⟩;exact⟨by omega,h⟩
 .rintro⟨⟨h0,h1⟩,h⟩;exact⟨⟨c.toNat,by omega,by omega⟩,h⟩
theorem HW{σ:Int->Int}{C:Nat}{b:List Int}:Bg (C:Int) (vG σ C b):=by
 refine⟨λx hx=>(DL.1 hx).1,?_⟩;unfold vG;refine Pairwise.filter _ ?_;rw [List.pairwise_map];exact List.pairwise_lt_range.imp λh=>by omega
theorem I9{σ:Int->Int}{m:ae}(v:Vd m)(R:zd (mC m) σ){B B':Int->Bool}(hB:∀c,0≤c->c < mC m->B' (σ c)=B c):Eh (sq σ m) i7 B'=Eh m i7 B:=by
 unfold Eh;show(((mG m).map λg=>(σ g.1,g.2.1,g.2.2)).zipIdx.all _)=_;rw [List.zipIdx_map,List.all_map];refine vq λg hg=>?_;have hg':=v.gl g.1 (by have:=List.mem_zipIdx hg;grind);show(i7 g.2 || decide (g.1.2.2=decide (mS m≤mK (sq σ m) B' g.1.2.1.toNat (σ g.1.1))))=_;rw [Df v R hB _ _ hg'.1 hg'.2.1]
theorem sQ{α:Type}[DecidableEq α]:∀{l l':List α},l.Nodup->(∀x∈l,x∈l')->l.length≤l'.length
 |[],_,_,_=>zero_le _
 |x::l,l',hn,hs=>by
  rw [nodup_cons] at hn
  have hx:=hs x mem_cons_self
  have:=sQ (l:=l) (l':=l'.erase x) hn.2 λy hy=>(List.mem_erase_of_ne (λ(h:y=x)=>hn.1 (by rw [<-h];exact hy))).2 (hs y (mem_cons_of_mem _ hy))
  rw [List.length_erase_of_mem hx] at this
  have hp:=List.length_pos_of_mem hx
  rw [length_cons];omega
theorem PI:((List.range 6).all λC=>decide (kP C C [] 0).Nodup)=true:=by decide+kernel
theorem Da{m:ae}(v:Vd m):(Db m).Nodup:=by
 have c5:=v.c5;have h:=PI;rw [List.all_eq_true] at h;exact of_decide_eq_true (h (mC m).toNat (List.mem_range.2 (by omega)))
theorem vh{m:ae}(v:Vd m):(pM m i7).Nodup:=Pairwise.filter _ (Da v)
theorem Ob{C:Int}{a b:List Int}(ha:Bg C a)(hb:Bg C b)(h:∀x,x∈a↔x∈b):a=b:=C7 ha.asc hb.asc h
theorem yc{σ:Int->Int}{m:ae}(v:Vd m)(R:zd (mC m) σ){b:List Int}(hb:Bg (mC m) b){c:Int}(h0:0≤c)(h1:c < mC m):decide (σ c∈vG σ (mC m).toNat b)=decide (c∈b):=by
 rw [decide_eq_decide,DL];have hr:=R.rng c h0 h1;constructor
 .rintro⟨_,x,hx,he⟩;have:=hb.rng x hx;exact R.inj x c this.1 this.2 h0 h1 he▸hx
 .intro h;exact⟨by omega,c,h,rfl⟩
theorem MA{σ:Int->Int}{m:ae}(v:Vd m)(R:zd (mC m) σ):(pM (sq σ m) i7).length=(pM m i7).length:=by
 have c1:=v.c1;have v':=NV v R;refine Nat.le_antisymm ?_ ?_
 .let bk:List Int->List Int:=λb'=>((List.range (mC m).toNat).map λ(i:Nat)=>(i:Int)).filter λc=>decide (σ c∈b')
  have bm:∀{b':List Int} {c:Int},c∈bk b'↔(0≤c/\c < mC m)/\σ c∈b':=λ{b' c}=>by
   show c∈List.filter _ _↔_;rw [List.mem_filter];simp only [List.mem_map,List.mem_range,decide_eq_true_eq];constructor
   .rintro⟨⟨i,hi,rfl⟩,h⟩;exact⟨by omega,h⟩
   .rintro⟨⟨h0,h1⟩,h⟩;exact⟨⟨c.toNat,by omega,by omega⟩,h⟩
  have bb:∀b',Bg (mC m) (bk b'):=λb'=>⟨λx hx=>(bm.1 hx).1,by
   show Pairwise _ (List.filter _ _);refine Pairwise.filter _ ?_;rw [List.pairwise_map];exact List.pairwise_lt_range.imp λh=>by omega⟩
  have inj:∀x∈pM (sq σ m) i7,∀y∈pM (sq σ m) i7,bk x=bk y->x=y:=λx hx y hy h=>by
   have gx:=px v' hx;have gy:=px v' hy;refine Ob gx gy λz=>⟨λhz=>?_,λhz=>?_⟩
   .have:=gx.rng z hz;obtain⟨c,h0,h1,rfl⟩:=R.sur z this.1 this.2;have:c∈bk x:=bm.2 ⟨⟨h0,h1⟩,hz⟩;rw [h] at this;exact(bm.1 this).2
   .have:=gy.rng z hz;obtain⟨c,h0,h1,rfl⟩:=R.sur z this.1 this.2;have:c∈bk y:=bm.2 ⟨⟨h0,h1⟩,hz⟩;rw [<-h] at this;exact(bm.1 this).2
  have:=sQ (l:=(pM (sq σ m) i7).map bk) (l':=pM m i7) (by
   rw [List.nodup_iff_pairwise_ne,List.pairwise_map];exact Pairwise.imp_of_mem (λ{a b} ha hb hab h=>hab (inj a ha b hb h)) (List.nodup_iff_pairwise_ne.1 (vh v'))) λx hx=>by
   obtain⟨b',hb',rfl⟩:=List.mem_map.1 hx;refine List.mem_filter.2 ⟨AT (bb b'),?_⟩;have he:=(List.mem_filter.1 hb').2;rw [I9 v R (B:=λc=>decide (c∈bk b')) (λc h0 h1=>by rw [decide_eq_decide,bm];exact⟨λh=>⟨⟨h0,h1⟩,h⟩,λh=>h.2⟩)] at he;exact he
  rw [length_map] at this;exact this
 .have inj:∀x∈pM m i7,∀y∈pM m i7,vG σ (mC m).toNat x=vG σ (mC m).toNat y->x=y:=λx hx y hy h=>by
   have gx:=px v hx;have gy:=px v hy;refine Ob gx gy λz=>?_;by_cases hz:0≤z/\z < mC m
   .have a:=yc v R gx hz.1 hz.2;have b:=yc v R gy hz.1 hz.2;rw [h,b,decide_eq_decide] at a;exact a.symm
   .exact⟨λh=>absurd (gx.rng z h) hz,λh=>absurd (gy.rng z h) hz⟩
  have:=sQ (l:=(pM m i7).map (vG σ (mC m).toNat)) (l':=pM (sq σ m) i7) (by
   rw [List.nodup_iff_pairwise_ne,List.pairwise_map];exact Pairwise.imp_of_mem (λ{a b} ha hb hab h=>hab (inj a ha b hb h)) (List.nodup_iff_pairwise_ne.1 (vh v))) λx hx=>by
   obtain⟨b,hb,rfl⟩:=List.mem_map.1 hx;have gb:=px v hb;refine List.mem_filter.2 ⟨AT (m:=sq σ m) (by have:=HW (σ:=σ) (C:=(mC m).toNat) (b:=b);rwa [Int.toNat_of_nonneg (by omega)] at this),?_⟩;rw [I9 v R (B:=λc=>decide (c∈b)) (λc h0 h1=>yc v R gb h0 h1)];exact(List.mem_filter.1 hb).2
  rw [length_map] at this;exact this
end Go.Proofs.YtflilincnacbpaaGreat
set_option linter.unusedVariables false
set_option linter.unusedSimpArgs false
namespace Go.Proofs.YtflilincnacbpaaGreat
open K Go Go.Proofs
theorem IT:rK 1200=some true:=by decide+kernel
theorem W.get{α:Type}{x:Option α}{a:α}(h:W x λy=>y=a):x=some a:=by
 obtain⟨b,e,rfl⟩:=h;exact e
theorem u5{k:Nat}{m:ae}{b:List Int}(v:Vd m)(h:Bg (mC m) b)(hk:1010≤k):fj k m b=some (ig m λc=>decide (c∈b),0):=by
 have c1:=v.c1;have:=h.len ⟨by omega,v.c5⟩;rw [CB v.sm hk (by omega),if_neg (λhn=>hn v.chk),if_neg (λhn=>hn (tC.2 h))]
end Go.Proofs.YtflilincnacbpaaGreat
set_option linter.unusedVariables false
set_option linter.unusedSimpArgs false
namespace Go.Proofs.YtflilincnacbpaaGreat
open K Go Go.Proofs
theorem wX{k:Nat}{m:ae}(v:Vd m)(hk:1010≤k):gd k m=some (pM m i7,0):=by
 rw [CE v.sm hk,v.chk];rfl
