import Derived.Test.YtkncjjdpjaapaaaGreatVAF2
set_option linter.unusedVariables false
set_option linter.unusedSimpArgs false
namespace Go.Proofs.YtkncjjdpjaapaaaGreat
open K Go Go.Proofs
def W{α:Type}(x:Option α)(Q:α→Prop):Prop:=∃a,x=some a∧Q a
namespace W
variable {α β ε:Type}{Q:β→Prop}
theorem ret{a:β}(h:Q a):W (some a) Q:=⟨a,rfl,h⟩
theorem mono{x:Option β}{R:β→Prop}(h:W x R)(hq:∀a,R a→Q a):W x Q:=let ⟨a,e,r⟩:=h;⟨a,e,hq a r⟩
theorem bind{x:Option α}{f:α→Option β}{R:α→Prop}(h:W x R)(hf:∀a,R a→W (f a) Q):W (x.bind f) Q:=by
 obtain⟨a,rfl,r⟩:=h;exact hf a r
theorem ck{n:Int}{f:Int→Option β}(h1: -9223372036854775808≤n)(h2:n≤9223372036854775807)(hf:W (f n) Q):W ((K.ck n).bind f) Q:=by
 rw [K.ck,if_pos ⟨h1,h2⟩];exact hf
theorem chk{p:Prop}[Decidable p]{f:Unit→Option β}(h:p)(hf:W (f ()) Q):W ((cJ p).bind f) Q:=by
 rw [cJ,if_pos h];exact hf
theorem at_{l:List α}{i:Int}{f:α→Option β}(h0:0≤i)(h1:i < l.length)(hf:∀x,l[i.toNat]? =some x→W (f x) Q):W ((aX l i).bind f) Q:=by
 have:i.toNat < l.length:=by omega
 rw [aX,if_pos h0,List.getElem?_eq_getElem this];exact hf _ (List.getElem?_eq_getElem this)
theorem ite{p:Prop}[Decidable p]{a b:Option β}(h1:p→W a Q)(h2:¬p→W b Q):W (if p then a else b) Q:=by
 split
 ·exact h1 ‹_›
 ·exact h2 ‹_›
theorem iteB{p:Prop}[Decidable p]{a b:Option α}{f:α→Option β}(h1:p→W (a.bind f) Q)(h2:¬p→W (b.bind f) Q):W ((if p then a else b).bind f) Q:=by
 split
 ·exact h1 ‹_›
 ·exact h2 ‹_›
theorem bEE{x:Option (Except ε α)}{g:ε→Option β}{f:α→Option β}{R:Except ε α→Prop}(h:W x R)(hg:∀e,R (.error e)→W (g e) Q)(hf:∀a,R (.ok a)→W (f a) Q):W (K.bE x g f) Q:=by
 obtain⟨a,rfl,r⟩:=h;cases a with
 |error e=>exact hg e r
 |ok a=>exact hf a r
theorem loop{T:Type}{f:Nat→T→Option β}(I:Nat→T→Prop)(step:∀aL m y,I m y→(∀m' y',m' < m→I m' y'→W (f aL y') Q)→W (f (aL+1) y) Q):∀m aL y,m < aL→I m y→W (f aL y) Q:=by
 intro m
 induction m using Nat.strongRecOn with
 |_ m ih=>
  intro aL y hm hI;cases aL with
  |zero=>omega
  |succ aL=>exact step aL m y hI fun m' y' h hI'=>ih m' h aL y' (by omega) hI'
end W
theorem wrap_u64(n:Int):0≤IntKind.u64.wrap n∧IntKind.u64.wrap n < 18446744073709551616:=by
 have h1:=Int.emod_nonneg n (show(18446744073709551616:Int)≠0 by decide);have h2:=Int.emod_lt_of_pos n (show(0:Int) < 18446744073709551616 by decide)
 have e:IntKind.u64.wrap n=n % 18446744073709551616:=by
  simp [IntKind.wrap,IntKind.signed,IntKind.bits]
 rw [e];exact⟨h1,h2⟩
theorem xE{n:Int}(h0:0≤n)(h1:n < 18446744073709551616):IntKind.u64.wrap n=n:=by
 have e:IntKind.u64.wrap n=n % 18446744073709551616:=by
  simp [IntKind.wrap,IntKind.signed,IntKind.bits]
 rw [e];exact Int.emod_eq_of_lt h0 h1
def Lo(l:bR)(m:Int):Prop:=0≤l.2.1∧l.2.1≤m
theorem IZ{k:Nat}{l:bR}{m:Int}(h:Lo l m)(hm:m≤1000000000):W (gQ k l) fun r=>0≤r.1∧r.1 < 72057594037927936∧Lo r.2 (m+1):=by
 obtain⟨h0,h1⟩:=h;unfold gQ
 have fin:∀x:Int,W ((K.ck (l.2.1+1)).bind fun x4=>some (fV .u64 (pN .u64 (IntKind.u64.wrap ((pN .u64 x (fV .u64 x (29:Int))) * (2685821657736338717:Int))) (fV .u64 (IntKind.u64.wrap ((pN .u64 x (fV .u64 x (29:Int))) * (2685821657736338717:Int))) (32:Int))) (8:Int),(l.1,x4,x)))
  fun r=>0≤r.1∧r.1 < 72057594037927936∧Lo r.2 (m+1):=fun x=>by
  refine W.ck (by omega) (by omega) (W.ret ?_)
  generalize IntKind.u64.wrap ((pN .u64 x (fV .u64 x (29:Int))) * (2685821657736338717:Int))=y
  have hx:0≤pN .u64 y (fV .u64 y 32)∧pN .u64 y (fV .u64 y 32) < 18446744073709551616:=wrap_u64 _
  have e:fV .u64 (pN .u64 y (fV .u64 y 32)) 8=(pN .u64 y (fV .u64 y 32)) / 256:=by
   unfold fV;rw [Int.fdiv_eq_ediv_of_nonneg _ (by decide)];rfl
  refine⟨?_,?_,?_,?_⟩
  ·
   show 0≤fV .u64 (pN .u64 y (fV .u64 y 32)) 8;rw [e];omega
  ·
   show fV .u64 (pN .u64 y (fV .u64 y 32)) 8 < _;rw [e];omega
  ·
   show 0≤l.2.1+1;omega
  ·
   show l.2.1+1≤m+1;omega
 refine W.iteB (fun hlt=>?_) (fun _=>fin _);cases hg:aX l.1 l.2.1 with
 |some v=>exact fin _
 |none=>
  exfalso;have:l.2.1.toNat < l.1.length:=by omega
  rw [aX,if_pos h0,List.getElem?_eq_getElem this] at hg;cases hg
theorem mm{k:Nat}{l:bR}{m n:Int}(h:Lo l m)(hm:m≤1000000000)(hn:n≤1000000000):W (cR k l n) fun r=>0≤r.1∧(0≤n→r.1≤n)∧Lo r.2 (m+1):=by
 unfold cR;refine W.ite (fun h1=>W.ret ⟨Int.le_refl 0,fun h=>h,h.1,by show l.2.1≤m+1;have:=h.2;omega⟩) (fun h1=>?_);refine W.bind (IZ h hm) fun r hr=>?_;refine W.ck (by omega) (by omega) ?_;have e:IntKind.u64.wrap (n+1)=n+1:=xE (by omega) (by omega);refine W.chk (by rw [e];omega) ?_;rw [e];have h2:Int.tmod r.1 (n+1)=r.1 % (n+1):=Int.tmod_eq_emod_of_nonneg hr.1;have h3:=Int.emod_nonneg r.1 (show n+1≠0 by omega);have h4:=Int.emod_lt_of_pos r.1 (show 0 < n+1 by omega);rw [h2];refine W.ck (by omega) (by omega) (W.ret ⟨h3,fun _=>by show r.1 % (n+1)≤n;omega,hr.2.2⟩)
theorem BA{k:Nat}{l:bR}{m a b:Int}(h:Lo l m)(hm:m≤1000000000)(ha:0≤a)(hab:a≤b)(hb:b≤1000000):W (fg k l a b) fun r=>a≤r.1∧r.1≤b∧Lo r.2 (m+1):=by
 unfold fg;refine W.ck (by omega) (by omega) (W.bind (mm h hm (by omega)) fun r hr=>?_);have:=hr.2.1 (by omega);refine W.ck (by omega) (by omega) (W.ret ⟨by show a≤a+r.1;omega,by show a+r.1≤b;omega,hr.2.2⟩)
theorem wx{k:Nat}{l:bR}{m a:Int}(h:Lo l m)(hm:m≤1000000000)(ha:0≤a)(hb:a≤1000000):W (eK k l a) fun r=>Lo r.2 (m+1):=by
 unfold eK;exact W.ck (by omega) (by omega) (W.bind (mm h hm (by omega)) fun r hr=>W.ret hr.2.2)
theorem FA{k:Nat}{l:bR}{m:Int}{some_:List Int}(h:Lo l m)(hm:m≤1000000000)(h0:0 < some_.length)(h1:some_.length≤1000000):W (f9 k l some_) fun r=>r.1∈some_∧Lo r.2 (m+1):=by
 unfold f9;refine W.ck (by omega) (by omega) (W.bind (mm h hm (by omega)) fun r hr=>?_);have:=hr.2.1 (by omega);refine W.at_ hr.1 (by omega) fun x hx=>W.ret ⟨List.mem_of_getElem? hx,hr.2.2⟩
theorem ge{α:Type}{l:List α}{i:Nat}(h:i < l.length):aX l (i:Int)=some l[i]:=by
 rw [aX,if_pos (by omega)];exact List.getElem?_eq_getElem h
section
variable {α β γ ε σ T:Type}
theorem bs{a:α}{f:α→Option β}:(some a).bind f=f a:=by cases h:f a <;> simp [h]
theorem eN{n:Int}(h1: -9223372036854775808≤n)(h2:n≤9223372036854775807):K.ck n=some n:=by rw [K.ck,if_pos ⟨h1,h2⟩]
theorem eM{p:Prop}[Decidable p](h:p):cJ p=some ():=by rw [cJ,if_pos h]
theorem wP{l:List α}{i:Int}(h0:0≤i)(h:i.toNat < l.length):aX l i=some l[i.toNat]:=by rw [aX,if_pos h0];exact List.getElem?_eq_getElem h
theorem pV{a:α}{g:ε→Option β}{f:α→Option β}:K.bE (some (.ok a)) g f=f a:=by cases h:f a <;> simp [K.bE,h]
theorem qS{e:ε}{g:ε→Option β}{f:α→Option β}:K.bE (some (.error e)) g f=g e:=by cases h:g e <;> simp [K.bE,h]
theorem BQ{q:α}{a:β}{b:α→β}:fa (some q) a b=b q:=by unfold fa;exact Eq.refl _
theorem BR{a:β}{b:α→β}:fa none a b=a:=by unfold fa;exact Eq.refl _
theorem RZ{n:Nat}(h:n≤4294967296):cu n:=h
def yK(g:σ→Nat→α→σ):Nat→List α→σ→σ
 |_,[],s=>s
 |j,x::l,s=>yK g (j+1) l (g s j x)
theorem nV(l:List α)(mk:σ→Int→T)(g:σ→Nat→α→σ)(P:Nat→σ→Prop){f:Nat→T→Option β}(fin:σ→Option β)
 (step:∀n s (j:Nat) (h:j < l.length),P j s→f (n+1) (mk s j)=f n (mk (g s j l[j]) ((j:Int)+1))∧P (j+1) (g s j l[j]))
 (stop:∀n s,P l.length s→f (n+1) (mk s l.length)=fin s) {s0:σ} {n:Nat} (hn:l.length < n) (h0:P 0 s0):f n (mk s0 0)=fin (yK g 0 l s0)∧P l.length (yK g 0 l s0):=by
 have key:∀(m:List α) (pre:List α) (n:Nat) (s:σ),l=pre++m→m.length < n→P pre.length s→f n (mk s pre.length)=fin (yK g pre.length m s)∧P l.length (yK g pre.length m s):=by
  intro m
  induction m with
  |nil=>
   intro pre n s e hn hp;obtain⟨n,rfl⟩:∃n',n=n'+1:=⟨n - 1,by omega⟩;have:l.length=pre.length:=by rw [e];simp
   rw [←this] at hp⊢;exact⟨stop n s hp,hp⟩
  |cons x m ih=>
   intro pre n s e hn hp;simp only [List.length_cons] at hn;obtain⟨n,rfl⟩:∃n',n=n'+1:=⟨n - 1,by omega⟩;have hl:pre.length < l.length:=by rw [e];simp
   have hx:l[pre.length]=x:=by simp [e]
   obtain⟨h1,h2⟩:=step n s pre.length hl hp;rw [hx] at h1 h2;have:=ih (pre++[x]) n (g s pre.length x) (by rw [e];simp) (by omega) (by rw [List.length_append];exact h2);rw [List.length_append] at this;simp only [List.length_cons,List.length_nil,Nat.zero_add] at this;rw [h1];exact this
 have:=key l [] n s0 rfl hn h0
 exact this
def fQ(g:σ→Nat→α→Except ε σ):Nat→List α→σ→Except ε σ
 |_,[],s=>.ok s
 |j,x::l,s=>match g s j x with
  | .error e=>.error e
  | .ok s'=>fQ g (j+1) l s'
theorem Dq(l:List α)(mk:σ→Int→T)(g:σ→Nat→α→Except ε σ)(P:Nat→σ→Prop){f:Nat→T→Option β}(fin:Except ε σ→Option β)
 (step:∀n s (j:Nat) (h:j < l.length),P j s→(∃e,g s j l[j]= .error e∧f (n+1) (mk s j)=fin (.error e))∨(∃s',g s j l[j]= .ok s'∧f (n+1) (mk s j)=f n (mk s' ((j:Int)+1))∧P (j+1) s'))
 (stop:∀n s,P l.length s→f (n+1) (mk s l.length)=fin (.ok s)) {s0:σ} {n:Nat} (hn:l.length < n) (h0:P 0 s0):f n (mk s0 0)=fin (fQ g 0 l s0):=by
 have key:∀(m:List α) (pre:List α) (n:Nat) (s:σ),l=pre++m→m.length < n→P pre.length s→f n (mk s pre.length)=fin (fQ g pre.length m s):=by
  intro m
  induction m with
  |nil=>
   intro pre n s e hn hp;obtain⟨n,rfl⟩:∃n',n=n'+1:=⟨n - 1,by omega⟩;have:l.length=pre.length:=by rw [e];simp
   rw [←this] at hp⊢;exact stop n s hp
  |cons x m ih=>
   intro pre n s e hn hp;simp only [List.length_cons] at hn;obtain⟨n,rfl⟩:∃n',n=n'+1:=⟨n - 1,by omega⟩;have hl:pre.length < l.length:=by rw [e];simp
   have hx:l[pre.length]=x:=by simp [e]
   rcases step n s pre.length hl hp with⟨e',h1,h2⟩ |⟨s',h1,h2,h3⟩
   ·rw [hx] at h1;rw [h2,fQ,h1]
   ·rw [hx] at h1;have:=ih (pre++[x]) n s' (by rw [e];simp) (by omega) (by rw [List.length_append];exact h3);rw [List.length_append] at this;simp only [List.length_cons,List.length_nil,Nat.zero_add] at this;rw [h2,fQ,h1];exact this
 exact key l [] n s0 rfl hn h0
end
section
variable {α β ε σ T:Type}
theorem nh(l:List α)(mk:σ→Int→T)(g:σ→Nat→α→Except ε σ)(P:Nat→σ→Prop){f:Nat→T→Option β}(fin:Except ε σ→Option β)
 (step:∀n s (j:Nat) (h:j < l.length),P j s→(f (n+1) (mk s j)=match g s j l[j] with | .error e=>fin (.error e) | .ok s'=>f n (mk s' ((j:Int)+1)))∧∀s',g s j l[j]= .ok s'→P (j+1) s')
 (stop:∀n s,P l.length s→f (n+1) (mk s l.length)=fin (.ok s)) {s0:σ} {n:Nat} (hn:l.length < n) (h0:P 0 s0):f n (mk s0 0)=fin (fQ g 0 l s0):=
 Dq l mk g P fin (fun n s j h hp=>by
  obtain⟨h1,h2⟩:=step n s j h hp
  cases e:g s j l[j] with
  |error e'=>left;rw [e] at h1;exact⟨e',rfl,h1⟩
  |ok s'=>right;rw [e] at h1;exact⟨s',rfl,h1,h2 s' e⟩) stop hn h0
end
theorem t5{α:Type}(p:α→Bool):∀(l:List α) (j:Nat),fQ (fun(_:Unit) j x=>if p x then Except.error (j:Int) else .ok ()) j l ()=match l.findIdx? p with |some i=>.error ((i+j:Nat):Int) |none=>.ok ()
 |[],j=>by simp [fQ]
 |x::l,j=>by
  rw [fQ,List.findIdx?_cons]
  by_cases h:p x=true
  ·
   simp [h]
  ·
   simp only [h,if_false,Bool.false_eq_true]
   rw [t5 p l (j+1)]
   cases l.findIdx? p with
   |none=>rfl
   |some i=>simp only [Option.map_some];congr 2;omega
theorem K6{k:Nat}{l:List Int}{x:Int}(hk:l.length < k)(hl:l.length≤1000000):W (rQ k l x) fun r=>(0≤r↔x∈l):=by
 unfold rQ
 have key:=W.loop (f:=kC k l x) (Q:=fun r=>match r with | .error e=>0≤e∧x∈l | .ok _=>x∉l)
  (fun m y=>0≤y∧y≤l.length∧m=l.length - y.toNat∧∀j:Nat,(j:Int) < y→l[j]? ≠some x) (fun aL m y hI ih=>by
   obtain⟨h0,h1,hm,hj⟩:=hI;unfold kC;refine W.ite (fun hlt=>W.at_ h0 hlt fun v hv=>W.ite (fun e=>W.ret ⟨h0,?_⟩) (fun e=>W.ck (by omega) (by omega) (ih (m - 1) _ (by omega) ⟨by omega,by omega,by omega,fun j hjy=>?_⟩))) (fun hge=>W.ret ?_)
   ·rw [←e];exact List.mem_of_getElem? hv
   ·by_cases hjy':(j:Int) < y
    ·exact hj j hjy'
    ·have:j=y.toNat:=by omega
     subst this;rw [hv];exact fun h=>e (Option.some.inj h)
   ·intro hx;obtain⟨j,hj'⟩:=List.mem_iff_getElem?.1 hx
    have:j < l.length:=by
     rcases Nat.lt_or_ge j l.length with h |h
     ·exact h
     ·rw [List.getElem?_eq_none h] at hj';cases hj'
    exact hj j (by omega) hj')
 refine W.bEE (key l.length k 0 hk ⟨Int.le_refl 0,by omega,by simp,fun j hj=>by omega⟩) (fun e he=>W.ret ⟨fun _=>he.2,fun _=>he.1⟩) (fun _ ho=>W.ret ⟨fun h=>by omega,fun h=>absurd h ho⟩)
def lg(s:Int):Prop:=0≤s∧s < 256
def eg(s:Int)(i:Nat):Prop:=s.toNat.testBit i=true
instance (s:Int) (i:Nat):Decidable (eg s i):=by unfold eg;infer_instance
theorem sR{x:Nat}(h:x < 256):IntKind.u8.wrap (x:Int)=x:=by
 have e:IntKind.u8.wrap (x:Int)=(x:Int) % 256:=by simp [IntKind.wrap,IntKind.signed,IntKind.bits]
 rw [e];omega
theorem tQ{s:Int}(h:lg s):∃n:Nat,n < 256∧s=n:=⟨s.toNat,by have:=h.1;have:=h.2;omega,by have:=h.1;omega⟩
theorem zX{n:Nat}(h:n < 256):(BitVec.ofInt IntKind.u8.bits (n:Int)).toNat=n:=by
 show(BitVec.ofInt 8 (n:Int)).toNat=n;rw [BitVec.ofInt_natCast,BitVec.toNat_ofNat];exact Nat.mod_eq_of_lt h
theorem Gt{n m:Nat}(hn:n < 256)(hm:m < 256):n |||m < 256:=Nat.or_lt_two_pow (n:=8) hn hm
theorem I9{n m:Nat}(hn:n < 256):n &&& m < 256:=Nat.lt_of_le_of_lt Nat.and_le_left hn
theorem MK{a b:Int}(ha:lg a)(hb:lg b):lg (Bz .u8 a b)∧∀i,eg (Bz .u8 a b) i↔eg a i∨eg b i:=by
 obtain⟨n,hn,rfl⟩:=tQ ha;obtain⟨m,hm,rfl⟩:=tQ hb
 have e:Bz .u8 (n:Int) (m:Int)=((n |||m:Nat):Int):=by
  unfold Bz;rw [BitVec.toNat_or,zX hn,zX hm];exact sR (Gt hn hm)
 rw [e];refine⟨⟨by omega,by have:=Gt hn hm;omega⟩,fun i=>?_⟩;simp [eg,Nat.testBit_or]
theorem L0{x:Int}(h0:0≤x)(h8:x < 8):lg (nT .u8 1 x)∧∀i:Nat,eg (nT .u8 1 x) i↔(i:Int)=x:=by
 obtain⟨n,rfl⟩:=Int.eq_ofNat_of_zero_le h0;have hn:n < 8:=by omega
 have e:nT .u8 1 (n:Int)=((2 ^ n:Nat):Int):=by
  unfold nT
  have h1:min (Int.toNat (n:Int)) IntKind.u8.bits=n:=by
   show min n 8=n;omega
  rw [h1,Int.one_mul];have h2:2 ^ n < 256:=Nat.pow_lt_pow_right (by decide) hn;have h3:((2:Int) ^ n)=((2 ^ n:Nat):Int):=by simp
  rw [h3];exact sR h2
 rw [e];have h9:2 ^ n < 256:=Nat.pow_lt_pow_right (by decide) hn;refine⟨⟨Int.natCast_nonneg _,Int.ofNat_lt.2 h9⟩,fun i=>?_⟩;simp only [eg,Int.toNat_natCast,Nat.testBit_two_pow,decide_eq_true_eq];omega
theorem GH{k:Nat}{s:Int}(hs:lg s){i:Nat}(hi:i < 8):eu k s (i:Int)=some (decide (eg s i)):=by
 obtain⟨n,hn,rfl⟩:=tQ hs;unfold eu;rw [cJ,if_pos (by omega)];show some _=some _;congr 1
 have e1:fV .u8 (n:Int) (i:Int)=((n >>> i:Nat):Int):=by
  unfold fV
  have h1:min (Int.toNat (i:Int)) IntKind.u8.bits=i:=by
   show min i 8=i;omega
  have h3:((2:Int) ^ i)=((2 ^ i:Nat):Int):=by simp
  rw [h1,h3,Int.fdiv_eq_ediv_of_nonneg _ (Int.natCast_nonneg _),Nat.shiftRight_eq_div_pow];rfl
 have hlt:n >>> i < 256:=Nat.lt_of_le_of_lt (by rw [Nat.shiftRight_eq_div_pow];exact Nat.div_le_self _ _) hn
 have e2:pP .u8 ((n >>> i:Nat):Int) 1=(((n >>> i) &&& 1:Nat):Int):=by
  unfold pP;have h1:(BitVec.ofInt IntKind.u8.bits 1).toNat=1:=rfl;rw [BitVec.toNat_and,zX hlt,h1];exact sR (I9 hlt)
 rw [e1,e2]
 have e3:(((n >>> i) &&& 1:Nat):Int)=1↔eg (n:Int) i:=by
  rw [eg,Int.toNat_natCast,Nat.testBit];have h5:(n >>> i) &&& 1=1 &&& (n >>> i):=Nat.and_comm _ _;rw [h5];have h4:1 &&& (n >>> i) < 2:=Nat.lt_of_le_of_lt Nat.and_le_left (by decide);simp only [bne_iff_ne,ne_eq];omega
 exact decide_eq_decide.2 e3
end Go.Proofs.YtkncjjdpjaapaaaGreat
set_option linter.unusedVariables false
set_option linter.unusedSimpArgs false
namespace Go.Proofs.YtkncjjdpjaapaaaGreat
open K Go Go.Proofs
abbrev mC(m:ai):Int:=m.1
abbrev mW(m:ai):Int:=m.2.1
abbrev mS(m:ai):Int:=m.2.2.1
abbrev mH(m:ai):Int:=m.2.2.2.1
abbrev mD(m:ai):List (List (List Int)):=m.2.2.2.2.1
abbrev mG(m:ai):List cE:=m.2.2.2.2.2
def yZ(l:List Int)(c:Int):Option (List Int):=(l.findIdx? fun y=>decide (c=y)).map fun i=>(if 0 < i then [l[i-1]?.getD 0] else [])++(l[i+1]?).toList
def za(d:List (List Int))(c:Int):Option (List Int):=d.findSome? fun l=>yZ l c
def DU(m:ai)(d:Nat)(c:Int):Option (List Int):=za ((mD m)[d]?.getD []) c
def oS(m:ai)(c:Int):Nat→Nat
 |0=>if(DU m 0 c).isSome then 0 else 1
 |d+1=>if(DU m (d+1) c).isSome then 0 else oS m c d+1
def np(m:ai)(B:Int→Bool):Nat→Int→Int
 |0,c=>if B c then mW m else -1
 |d+1,c=>match DU m d c with
  |none=>if mH m≤(oS m c d:Int) then -1 else np m B d c
  |some l=>if 0≤np m B d c then np m B d c+1 else if l.any fun x=>decide (mW m≤np m B d x) then 0 else -1
theorem xg{m:ai}{B:Int→Bool}(hw:0≤mW m):∀{d:Nat} {c:Int}, -1≤np m B d c
 |0,c=>by unfold np;split <;> omega
 |d+1,c=>by
  have:=xg (B:=B) hw (d:=d) (c:=c)
  unfold np
  split
  ·
   split <;> omega
  ·
   split
   ·
    omega
   ·
    split <;> omega
theorem Hk{m:ai}{B:Int→Bool}(hw:mW m≤3):∀{d:Nat} {c:Int},np m B d c≤3+d
 |0,c=>by unfold np;split <;> omega
 |d+1,c=>by
  have:=Hk (B:=B) hw (d:=d) (c:=c)
  unfold np
  split
  ·
   split <;> omega
  ·
   split
   ·
    omega
   ·
    split <;> omega
theorem BY{m:ai}{A B U:Int→Bool}(hw:0≤mW m)(hU:∀c,U c=(A c || B c)):∀(d:Nat) (c:Int),np m U d c=j8 (np m A d c) (np m B d c)
 |0,c=>by
  simp only [np,hU c,j8]
  by_cases hA:A c=true <;> by_cases hB:B c=true <;> simp [hA,hB] <;> omega
 |d+1,c=>by
  have ih:=BY hw hU d
  have a1:=xg (B:=A) hw (d:=d) (c:=c)
  have b1:=xg (B:=B) hw (d:=d) (c:=c)
  have ec:=ih c
  unfold np
  split
  ·
   split
   ·
    simp [j8]
   ·
    exact ec
  ·
   rename_i l hl
   have hany:(l.any fun x=>decide (mW m≤np m U d x))=((l.any fun x=>decide (mW m≤np m A d x)) || l.any fun x=>decide (mW m≤np m B d x)):=by
    rw [Bool.eq_iff_iff];simp only [List.any_eq_true,Bool.or_eq_true,decide_eq_true_eq];constructor
    ·rintro⟨x,hx,h⟩;rw [ih x] at h;simp only [j8] at h;split at h
     ·exact .inr ⟨x,hx,h⟩
     ·exact .inl ⟨x,hx,h⟩
    ·rintro(⟨x,hx,h⟩ |⟨x,hx,h⟩)
     ·refine⟨x,hx,?_⟩;rw [ih x];simp only [j8];split <;> omega
     ·refine⟨x,hx,?_⟩;rw [ih x];simp only [j8];split <;> omega
   rw [hany,ec];generalize np m A d c=a at *;generalize np m B d c=b at *;generalize (l.any fun x=>decide (mW m≤np m A d x))=p;generalize (l.any fun x=>decide (mW m≤np m B d x))=q;simp only [j8];cases p <;> cases q <;> simp <;> (repeat' split) <;> omega
theorem Gz{k:Nat}{l:List Int}{x:Int}(hk:l.length < k)(hl:l.length≤1000000):eJ k l x=some (match l.findIdx? (fun y=>decide (x=y)) with |some i=>(i:Int) |none=> -1):=by
 unfold eJ
 have key:=nh (f:=cY k l x) l (fun(_:Unit) j=>j) (fun _ j y=>if decide (x=y)=true then Except.error (j:Int) else .ok ()) (fun _ _=>True) (fun r=>some r)
  (fun n s j hj _=>by
   have hck:ck ((j:Int)+1)=some ((j:Int)+1):=eN (by omega) (by omega);refine⟨?_,fun _ _=>trivial⟩;simp only [cY,Int.ofNat_lt,hj,if_true,ge hj,bs,decide_eq_true_eq];by_cases e:x=l[j] <;> simp [e,hck])
  (fun n s _=>by simp [cY]) (n:=k) (s0:=()) hk trivial
 rw [show cY k l x k 0=_ from key,t5 (fun y=>decide (x=y)) l 0];cases l.findIdx? (fun y=>decide (x=y)) with
 |none=>rw [pV]
 |some i=>rw [qS];simp
def my:List Int→List Int
 |[a,b]=>if b < a then [b,a] else [a,b]
 |l=>l
theorem qm{l:List Int}{x:Int}:x∈my l↔x∈l:=by
 unfold my;split
 ·split
  ·simp [Or.comm]
  ·exact Iff.rfl
 ·exact Iff.rfl
theorem Iz{k:Nat}{l:List Int}(hk:10≤k)(hl:l.length≤2):fo k l=some (my l):=by
 obtain⟨k,rfl⟩:∃n,k=n+4:=⟨k - 4,by omega⟩;have e0:oM (k+4) (IntKind.u64.wrap (0:Int))=some 0:=by kernel_rfl
 have e1:oM (k+4) (IntKind.u64.wrap (1:Int))=some 1:=by kernel_rfl
 have e2:oM (k+4) (IntKind.u64.wrap (2:Int))=some 2:=by kernel_rfl
 have c0:ck ((0:Int) - 0)=some 0:=rfl;have c1:ck ((1:Int) - 0)=some 1:=rfl;have c2:ck ((2:Int) - 0)=some 2:=rfl;have d1:ck ((0:Int)+1)=some 1:=rfl;have d2:ck ((1:Int)+1)=some 2:=rfl;have d3:ck ((1:Int) - 1)=some 0:=rfl;match l,hl with
 |[],_=>
  simp only [fo,List.length_nil,Int.ofNat_zero,e0,bs,cM,cg,bN,bb,my,c0,d1];rfl
 |[a],_=>
  have:(([a]:List Int).length:Int)=1:=rfl;simp only [fo,this,e1,bs,cM,cg,bN,bb,my,c1,d1];rfl
 |[a,b],_=>
  have:(([a,b]:List Int).length:Int)=2:=rfl;have g0:aX [a,b] (0:Int)=some a:=rfl;have g1:aX [a,b] (1:Int)=some b:=rfl;have hn:∀x:Int,kD (k+4) x=some false:=fun x=>by simp [kD]
  have hl:∀x y:Int,nY (k+4) x y=some (decide (x < y)):=fun x y=>by simp [nY,hn]
  simp only [fo,this,e2,bs,cM,cg,bN,bb,ba,c2,d1,d2,d3,g0,g1,hl];by_cases h:b < a
  ·simp [h,my,ba,bs,aX]
  ·simp [h,my,ba,bs]
end Go.Proofs.YtkncjjdpjaapaaaGreat
set_option linter.unusedVariables false
set_option linter.unusedSimpArgs false
namespace Go.Proofs.YtkncjjdpjaapaaaGreat
open K Go Go.Proofs
structure Vd(m:ai):Prop where
 c1:1≤mC m
 c5:mC m≤5
 w0:0≤mW m
 w3:mW m≤3
 s0:0≤mS m
 s3:mS m≤3
 h1:1≤mH m
 h3:mH m≤3
 d1:1≤(mD m).length
 d6:(mD m).length≤6
 r3:∀r∈mD m,r.length≤3
 l5:∀r∈mD m,∀l∈r,l.length≤5
 x5:∀r∈mD m,∀l∈r,∀x∈l,0≤x∧x < mC m
 nd:∀r∈mD m,r.flatten.Nodup
 g8:(mG m).length≤8
 gl:∀g∈mG m,0≤g.1∧g.1 < mC m∧0≤g.2.1∧g.2.1≤(mD m).length
theorem yY{l:List Int}{c:Int}{s:List Int}(h:yZ l c=some s):s.length≤2∧∀x∈s,x∈l:=by
 unfold yZ at h;cases e:l.findIdx? (fun y=>decide (c=y)) with
 |none=>rw [e] at h;cases h
 |some i=>
  rw [e] at h;obtain rfl:=Option.some.inj h;have hi:i < l.length:=(List.findIdx?_eq_some_iff_getElem.1 e).1;refine⟨?_,fun x hx=>?_⟩
  ·rw [List.length_append];have:(l[i+1]?).toList.length≤1:=by cases l[i+1]? <;> simp
   split <;> simp <;> omega
  ·rcases List.mem_append.1 hx with h |h
   ·split at h
    ·rw [List.getElem?_eq_getElem (by omega)] at h;obtain rfl:=List.mem_singleton.1 h;exact List.getElem_mem _
    ·cases h
   ·exact List.mem_of_getElem? (Option.mem_toList.1 h)
theorem Ha{d:List (List Int)}{c:Int}{s:List Int}(h:za d c=some s):∃l∈d,yZ l c=some s:=by
 unfold za at h;exact List.exists_of_findSome?_eq_some h
theorem xc{m:ai}(v:Vd m){d:Nat}{c:Int}{s:List Int}(h:DU m d c=some s):s.length≤2∧∀x∈s,0≤x∧x < mC m:=by
 obtain⟨l,hl,h2⟩:=Ha h;cases e:(mD m)[d]? with
 |none=>rw [e] at hl;cases hl
 |some r=>
  rw [e] at hl;have h3:=yY h2;exact⟨h3.1,fun x hx=>v.x5 r (List.mem_of_getElem? e) l hl x (h3.2 x hx)⟩
def NT(m:ai)(c:Int)(d:Nat):Int ⊕ List Int:=match DU m d c with
 |some s=>.inr (my s)
 |none=>.inl (oS m c d)
theorem yh{k:Nat}{c:Int}{r:List (List Int)}(hk:10≤k)(hr:r.length≤3)(hl:∀l∈r,l.length≤5):
 cp k c r k 0=some (match za r c with |some s=>.error (.inr (my s)) |none=>.ok ()):=by
 have key:=nh (f:=cp k c r) r (fun(_:Unit) j=>j) (fun _ _ l=>match yZ l c with |some s=>Except.error (Sum.inr (my s):Int ⊕ List Int) |none=>.ok ()) (fun _ _=>True) (fun x=>some x)
  (fun n s j hj _=>by
   refine⟨?_,fun _ _=>trivial⟩;have h5:=hl _ (List.getElem_mem hj);have hck:ck ((j:Int)+1)=some ((j:Int)+1):=eN (by omega) (by omega);simp only [cp,Int.ofNat_lt,hj,if_true,ge hj,bs];rw [Gz (by omega) (by omega),bs];generalize r[j]=l at *;have hb:yZ l c=(l.findIdx? fun y=>decide (c=y)).map fun i=>(if 0 < i then [l[i-1]?.getD 0] else [])++(l[i+1]?).toList:=rfl;cases e:l.findIdx? (fun y=>decide (c=y)) with
   |none=>
    rw [e] at hb;simp only [Option.map_none] at hb;rw [hb];simp [hck,bs]
   |some i=>
    rw [e] at hb;simp only [Option.map_some] at hb;have hi:i < l.length:=(List.findIdx?_eq_some_iff_getElem.1 e).1;rw [hb];have hlen:=(yY hb).1;have c1:ck ((i:Int) - 1)=some ((i:Int) - 1):=eN (by omega) (by omega);have c2:ck ((i:Int)+1)=some ((i:Int)+1):=eN (by omega) (by omega);have ok0:cJ (cu (List.length ([]:List Int)+List.length [l[i-1]?.getD 0]))=some ():=eM (by simp [cu]);simp only [show(0:Int)≤(i:Int) from Int.natCast_nonneg _,if_true,c1,c2,bs]
    have e1:(if(0:Int) < (i:Int) then((aX l ((i:Int) - 1)).bind fun x11=>(cJ (cu (List.length ([]:List Int)+List.length [x11]))).bind fun _=>some (([]:List Int)++[x11])) else some ([]:List Int))=some (if 0 < i then [l[i-1]?.getD 0] else []):=by
     by_cases h0:0 < i
     ·have g:aX l ((i:Int) - 1)=some (l[i-1]?.getD 0):=by
       have:((i:Int) - 1)=((i - 1:Nat):Int):=by omega
       rw [this,ge (by omega),List.getElem?_eq_getElem (by omega:i - 1 < l.length)];rfl
      rw [if_pos (by omega),if_pos h0,g,bs,ok0,bs];rfl
     ·rw [if_neg (by omega),if_neg h0]
    rw [e1,bs];generalize (if 0 < i then [l[i-1]?.getD 0] else [])=p at *
    have e2:(if(i:Int)+1 < (l.length:Int) then((aX l ((i:Int)+1)).bind fun x18=>(cJ (cu (List.length p+List.length [x18]))).bind fun _=>some (p++[x18])) else some p)=some (p++(l[i+1]?).toList):=by
     by_cases h1:i+1 < l.length
     ·have g:aX l ((i:Int)+1)=some l[i+1]:=by
       have:((i:Int)+1)=((i+1:Nat):Int):=by omega
       rw [this,ge h1]
      rw [if_pos (by omega),g,bs,List.getElem?_eq_getElem h1];rw [List.getElem?_eq_getElem h1] at hlen;rw [eM (by rw [List.length_append] at hlen;simp at hlen;simp [cu];omega),bs];rfl
     ·rw [if_neg (by omega),List.getElem?_eq_none (by omega)];simp
    rw [e2,bs,Iz (by omega) hlen,bs])
  (fun n s _=>by simp [cp]) (n:=k) (s0:=()) (by omega) trivial
 rw [show cp k c r k 0=_ from key]
 congr 1
 have:∀(r:List (List Int)) (j:Nat),fQ (fun(_:Unit) _ l=>match yZ l c with |some s=>Except.error (Sum.inr (my s):Int ⊕ List Int) |none=>.ok ()) j r ()=match za r c with |some s=>.error (.inr (my s)) |none=>.ok ():=by
  intro r
  induction r with
  |nil=>intro j;rfl
  |cons l r ih=>
   intro j;rw [fQ];unfold za;rw [List.findSome?_cons];cases yZ l c with
   |none=>exact ih (j+1)
   |some s=>rfl
 exact this r 0
theorem BP{m:ai}{c:Int}:∀{d:Nat},oS m c d≤d+1
 |0=>by unfold oS;split <;> omega
 |d+1=>by have:=BP (m:=m) (c:=c) (d:=d);unfold oS;split <;> omega
theorem tA{k:Nat}{m:ai}{c:Int}(v:Vd m)(hk:10≤k):∀(d m0:Nat),d < m0→d < (mD m).length→dI k m0 m c (d:Int)=some (NT m c d)
 |d,0,h,_=>absurd h (Nat.not_lt_zero _)
 |d,m0+1,h,hd=>by
  have hm:=List.getElem_mem hd
  unfold dI
  rw [ge hd,bs,yh hk (v.r3 _ hm) (v.l5 _ hm)]
  have hbes:DU m d c=za (mD m)[d] c:=by unfold DU;rw [List.getElem?_eq_getElem hd];rfl
  cases e:za (mD m)[d] c with
  |some s=>
   rw [qS]
   unfold NT
   rw [hbes,e]
  |none=>
   rw [pV]
   unfold NT
   rw [hbes,e]
   match d,hd,h with
   |0,hd,h=>
    rw [hbes.symm] at e
    simp [oS,e]
   |d+1,hd,h=>
    have h6:=v.d6
    have c1:ck (((d+1:Nat):Int) - 1)=some (d:Int):=by rw [eN (by omega) (by omega)];congr 1;omega
    have ih:=tA v hk d m0 (by omega) (by omega) (c:=c)
    rw [if_pos (by omega),c1,bs,ih,bs]
    rw [hbes.symm] at e
    have hcold:oS m c (d+1)=oS m c d+1:=by rw [oS,e];rfl
    have hle:=BP (m:=m) (c:=c) (d:=d)
    unfold NT
    cases e2:DU m d c with
    |some s=>
     simp only [IG]
     have:oS m c d=0:=by cases d <;> simp [oS,e2]
     simp [hcold,this]
    |none=>
     have c2:ck ((1:Int)+(oS m c d:Int))=some ((1:Int)+(oS m c d:Int)):=eN (by omega) (by omega)
     simp only [IG,Om,c2,bs,if_true,hcold]
     congr 2
     omega
end Go.Proofs.YtkncjjdpjaapaaaGreat
set_option linter.unusedVariables false
set_option linter.unusedSimpArgs false
namespace Go.Proofs.YtkncjjdpjaapaaaGreat
open K Go Go.Proofs
def kN(f:Int→Int):List Int:=[f 0,f 1,f 2,f 3,f 4]
def upd(f:Int→Int)(c v:Int):Int→Int:=fun x=>if x=c then v else f x
theorem RI{c:Int}(h0:0≤c)(h:c < 5):c=0∨c=1∨c=2∨c=3∨c=4:=by omega
theorem Ba{f:Int→Int}{c:Int}(h0:0≤c)(h:c < 5):aX (kN f) c=some (f c):=by
 rcases RI h0 h with rfl |rfl |rfl |rfl |rfl <;> rfl
theorem A9{f:Int→Int}{c v:Int}(h0:0≤c)(h:c < 5):List.set (kN f) (Int.toNat c) v=kN (upd f c v):=by
 rcases RI h0 h with rfl |rfl |rfl |rfl |rfl <;> rfl
theorem lY{f g:Int→Int}(h:∀c,0≤c→c < 5→f c=g c):kN f=kN g:=by
 unfold kN;rw [h 0 (by decide) (by decide),h 1 (by decide) (by decide),h 2 (by decide) (by decide),h 3 (by decide) (by decide),h 4 (by decide) (by decide)]
def Oh(m:ai)(f:Int→Int)(d:Nat)(c:Int):Int:=match DU m d c with
 |none=>if mH m≤(oS m c d:Int) then -1 else f c
 |some l=>if 0≤f c then f c+1 else if l.any fun x=>decide (mW m≤f x) then 0 else -1
def NU(m:ai)(f:Int→Int)(d:Nat):Int→Int:=fun c=>if 0≤c∧c < mC m then Oh m f d c else f c
theorem uJ{k:Nat}{m:ai}{f:Int→Int}(hw:0≤mW m){s:List Int}(hs:s.length < k)(hs2:s.length≤1000)(hx:∀x∈s,0≤x∧x < 5):
 bQ k m (kN f) s k 0=some (match s.find? (fun x=>decide (mW m≤f x)) with |some x=>.error x |none=>.ok ()):=by
 have key:=nh (f:=bQ k m (kN f) s) s (fun(_:Unit) j=>j) (fun _ _ x=>if decide (mW m≤f x)=true then Except.error x else .ok ()) (fun _ _=>True) (fun x=>some x)
  (fun n _ j hj _=>by
   refine⟨?_,fun _ _=>trivial⟩;have h5:=hx _ (List.getElem_mem hj);have hck:ck ((j:Int)+1)=some ((j:Int)+1):=eN (by omega) (by omega);have him:j8 (0:Int) m.2.1=mW m:=by show j8 0 (mW m)=mW m;unfold j8;split <;> omega
   simp only [bQ,Int.ofNat_lt,hj,if_true,ge hj,bs,eM h5,Ba h5.1 h5.2,him,hck,decide_eq_true_eq];by_cases e:mW m≤f s[j] <;> simp [e])
  (fun n s _=>by simp [bQ]) (n:=k) (s0:=()) hs trivial
 rw [show bQ k m (kN f) s k 0=_ from key]
 congr 1
 have:∀(s:List Int) (j:Nat),fQ (fun(_:Unit) _ x=>if decide (mW m≤f x)=true then Except.error x else .ok ()) j s ()=match s.find? (fun x=>decide (mW m≤f x)) with |some x=>.error x |none=>.ok ():=by
  intro s
  induction s with
  |nil=>intro j;rfl
  |cons x s ih=>
   intro j;rw [fQ,List.find?_cons];cases h:decide (mW m≤f x) with
   |true=>simp
   |false=>simp only [Bool.false_eq_true,if_false];exact ih (j+1)
 exact this s 0
theorem xY{s:List Int}:(my s).length=s.length:=by
 unfold my;split
 ·split <;> rfl
 ·rfl
def Io(m:ai)(f:Int→Int)(l:List Int):Int:=((my l).find? fun x=>decide (mW m≤f x)).getD (-1)
theorem zJ{k:Nat}{m:ai}{f:Int→Int}{c:Int}{d:Nat}(v:Vd m)(hk:10≤k)(hd:d < (mD m).length){l:List Int}(h:DU m d c=some l):
 dc k m (kN f) c (d:Int)=some (Io m f l):=by
 have h6:=v.d6
 have c5:=v.c5
 have hb:=xc v h
 unfold dc
 rw [tA v hk d k (by omega) hd,bs]
 unfold NT
 rw [h]
 have e1:G8 (Sum.inr (my l):Int ⊕ List Int) (fun n=>ia k n) (fun l=>hH k l)=some (my l):=rfl
 rw [e1,bs,uJ v.w0 (by rw [xY];omega) (by rw [xY];omega) fun x hx=>by have:=hb.2 x (qm.1 hx);omega]
 unfold Io
 cases(my l).find? fun x=>decide (mW m≤f x) with
 |none=>rw [pV];rfl
 |some x=>rw [qS];rfl
theorem Im{m:ai}{f:Int→Int}{l:List Int}(hx:∀x∈l,0≤x):0≤Io m f l↔(l.any fun x=>decide (mW m≤f x))=true:=by
 unfold Io;rw [List.any_eq_true];cases e:(my l).find? fun x=>decide (mW m≤f x) with
 |none=>
  simp only [Option.getD_none];have:=List.find?_eq_none.1 e;constructor
  ·intro h;omega
  ·rintro⟨x,hx,h⟩;exact absurd h (this x (qm.2 hx))
 |some x=>
  have h1:=List.mem_of_find?_eq_some e;have h2:=List.find?_some e;exact⟨fun _=>⟨x,qm.1 h1,h2⟩,fun _=>hx x (qm.1 h1)⟩
theorem Gf{k:Nat}{m:ai}{f:Int→Int}{d:Nat}(v:Vd m)(hk:10≤k)(hd:d < (mD m).length)(hf:∀c,0≤c→c < mC m→ -1≤f c∧f c≤1000):
 f8 k m (kN f) (d:Int)=some (kN (NU m f d)):=by
 have c5:=v.c5
 have c1:=v.c1
 have h6:=v.d6
 unfold f8
 have key:=nV (T:=List Int×Int) (f:=cf k m (kN f) (d:Int)) (List.range (mC m).toNat) (fun(g:Int→Int) j=>(kN g,j)) (fun g j _=>upd g (j:Int) (Oh m f d (j:Int))) (fun j g=>g=fun c=>if 0≤c∧c < (j:Int) then Oh m f d c else f c) (fun g=>some (kN g))
  (fun n g j hj hg=>by
   rw [List.length_range] at hj;have j0:(0:Int)≤(j:Int):=Int.natCast_nonneg _;have j1:(j:Int) < mC m:=by omega
   have j5:(j:Int) < 5:=by omega
   have hck:ck ((j:Int)+1)=some ((j:Int)+1):=eN (by omega) (by omega);have hp:cJ ((0:Int)≤(j:Int)∧(j:Int) < 5)=some ():=eM ⟨j0,j5⟩;have hgj:g (j:Int)=f (j:Int):=by rw [hg];simp
   have hfj:=hf _ j0 j1;refine⟨?_,?_⟩
   ·have hm1:(m.1:Int)=mC m:=rfl;have hm2:m.2.2.2.1=mH m:=rfl;simp only [cf,hm1,hm2,j1,if_true,tA v hk d k (by omega) hd,bs,hp,Ba j0 j5,hck,A9 j0 j5];unfold NT Oh;cases e:DU m d (j:Int) with
    |none=>
     simp only [IG,Om,if_true];by_cases hh:mH m≤(oS m (j:Int) d:Int)
     ·simp only [hh,if_true,bs]
     ·simp only [hh,if_false,bs];refine congrArg (fun r=>cf k m (kN f) (d:Int) n (r,(j:Int)+1)) (lY fun c _ _=>?_);unfold upd;split
      ·rename_i e;rw [e,hgj]
      ·rfl
    |some l=>
     have hb:=xc v e;simp only [IG,Bool.false_eq_true,if_false,not_false_eq_true,if_true];by_cases h0:0≤f (j:Int)
     ·have hck2:ck (f (j:Int)+1)=some (f (j:Int)+1):=eN (by omega) (by omega);simp only [h0,if_true,hck2,bs]
     ·simp only [h0,if_false,zJ v hk hd e,bs];have ht:=Im (m:=m) (f:=f) (l:=l) fun x hx=>(hb.2 x hx).1;by_cases hany:(l.any fun x=>decide (mW m≤f x))=true
      ·rw [if_pos (ht.2 hany),bs,if_pos hany]
      ·rw [if_neg fun h=>hany (ht.1 h),bs,if_neg hany];refine congrArg (fun r=>cf k m (kN f) (d:Int) n (r,(j:Int)+1)) (lY fun c _ _=>?_);unfold upd;split
       ·rename_i e;rw [e,hgj];omega
       ·rfl
   ·rw [hg];funext c;unfold upd;by_cases e:c=(j:Int)
    ·subst e;simp [j0];intro h;omega
    ·simp only [e,if_false];by_cases h:0≤c∧c < (j:Int)
     ·rw [if_pos h,if_pos (by omega)]
     ·rw [if_neg h,if_neg (by omega)])
  (fun n g hg=>by
   rw [List.length_range];have:((mC m).toNat:Int)=mC m:=by omega
   rw [this];unfold cf;rw [if_neg (by show¬(mC m < mC m);omega)]) (n:=k) (s0:=f) (by rw [List.length_range];omega) (by funext c;simp;intro h;omega)
 rw [show cf k m (kN f) (d:Int) k (kN f,0)=_ from key.1,bs]
 congr 1
 refine lY fun c _ _=>?_
 rw [key.2,List.length_range]
 unfold NU
 have:((mC m).toNat:Int)=mC m:=by omega
 rw [this]
end Go.Proofs.YtkncjjdpjaapaaaGreat
set_option linter.unusedVariables false
set_option linter.unusedSimpArgs false
namespace Go.Proofs.YtkncjjdpjaapaaaGreat
open K Go Go.Proofs
def cr(F:Nat→Int→Int):List (List Int):=[kN (F 0),kN (F 1),kN (F 2),kN (F 3),kN (F 4),kN (F 5),kN (F 6)]
def zF(F:Nat→Int→Int)(n:Nat)(f:Int→Int):Nat→Int→Int:=fun i=>if i=n then f else F i
theorem RH{n:Nat}(h:n < 7):n=0∨n=1∨n=2∨n=3∨n=4∨n=5∨n=6:=by omega
theorem G5{F:Nat→Int→Int}{n:Nat}(h:n < 7):aX (cr F) (n:Int)=some (kN (F n)):=by
 rcases RH h with rfl |rfl |rfl |rfl |rfl |rfl |rfl <;> rfl
theorem Nn{F:Nat→Int→Int}{n:Nat}{f:Int→Int}(h:n < 7):List.set (cr F) n (kN f)=cr (zF F n f):=by
 rcases RH h with rfl |rfl |rfl |rfl |rfl |rfl |rfl <;> rfl
def Nw(m:ai)(B:Int→Bool):Nat→Int→Int
 |0=>fun c=>if B c then mW m else -1
 |n+1=>NU m (Nw m B n) n
theorem xh{m:ai}(v:Vd m){B:Int→Bool}:∀(n:Nat) (c:Int),0≤c→c < mC m→Nw m B n c=np m B n c
 |0,c,_,_=>rfl
 |n+1,c,h0,h1=>by
  have ih:=xh v (B:=B) n
  show NU m (Nw m B n) n c=np m B (n+1) c
  unfold NU
  rw [if_pos ⟨h0,h1⟩]
  unfold Oh np
  cases e:DU m n c with
  |none=>simp only [];rw [ih c h0 h1]
  |some l=>
   have hb:=(xc v e).2
   have:(l.any fun x=>decide (mW m≤Nw m B n x))=l.any fun x=>decide (mW m≤np m B n x):=by
    rw [Bool.eq_iff_iff];simp only [List.any_eq_true,decide_eq_true_eq];constructor
    ·rintro⟨x,hx,h⟩;exact⟨x,hx,by rw [←ih x (hb x hx).1 (hb x hx).2];exact h⟩
    ·rintro⟨x,hx,h⟩;exact⟨x,hx,by rw [ih x (hb x hx).1 (hb x hx).2];exact h⟩
   simp only [];rw [ih c h0 h1,this]
def Nl(m:ai)(B:Int→Bool):Nat→Int→Int:=fun n=>if n≤(mD m).length then Nw m B n else fun _=>0
def pZ(S:Int):Int→Bool:=fun c=>decide (eg S c.toNat)
theorem E1{k:Nat}{m:ai}{S:Int}(hk:10≤k)(hS:lg S):ee k m S=some (kN fun c=>if pZ S c then mW m else -1):=by
 unfold ee
 have key:=nV (T:=List Int×Int) (f:=co k m S) (List.range 5) (fun(g:Int→Int) j=>(kN g,j)) (fun g j _=>upd g (j:Int) (if pZ S (j:Int) then mW m else -1)) (fun j g=>∀c,0≤c→c < (j:Int)→g c=if pZ S c then mW m else -1) (fun g=>some (kN g))
  (fun n g j hj hg=>by
   rw [List.length_range] at hj;have j0:(0:Int)≤(j:Int):=Int.natCast_nonneg _;have j5:(j:Int) < 5:=by omega
   have hck:ck ((j:Int)+1)=some ((j:Int)+1):=eN (by omega) (by omega);have hp:cJ ((0:Int)≤(j:Int)∧(j:Int) < 5)=some ():=eM ⟨j0,j5⟩;have hp':cJ ((0:Int)≤(j:Int)∧True)=some ():=eM ⟨j0,trivial⟩;refine⟨?_,?_⟩
   ·simp only [co,j5,if_true,hp,hp',bs,GH (k:=k) hS (by omega:j < 8),hck,A9 j0 j5];have hin:pZ S (j:Int)=decide (eg S j):=by unfold pZ;rw [Int.toNat_natCast]
    rw [hin];cases hh:decide (eg S j) with
    |true=>
     simp only [if_true,bs];refine congrArg (fun r=>co k m S n (r,(j:Int)+1)) (lY fun c _ _=>?_);unfold upd;split <;> rfl
    |false=>simp only [Bool.false_eq_true,if_false,bs]
   ·intro c hc0 hc1;unfold upd;by_cases e:c=(j:Int)
    ·rw [if_pos e,e]
    ·rw [if_neg e];exact hg c hc0 (by omega))
  (fun n g hg=>by
   rw [List.length_range];unfold co;rw [if_neg (show¬(((5:Nat):Int) < 5) by decide)]) (n:=k) (s0:=fun _=>0) (by rw [List.length_range];omega) (fun c h0 h1=>by omega)
 have e0:([(0:Int),(0:Int),(0:Int),(0:Int),(0:Int)]:List Int)=kN fun _=>0:=rfl;rw [e0,show co k m S k (kN fun _=>0,0)=_ from key.1,bs];refine congrArg some (lY fun c h0 h5=>?_);have:=key.2;rw [List.length_range] at this;exact this c h0 h5
theorem vK{k:Nat}{m:ai}{S:Int}(v:Vd m)(hk:10≤k)(hS:lg S):lu k m S=some (cr (Nl m (pZ S))):=by
 have d6:=v.d6;have d1:=v.d1;have w0:=v.w0;have w3:=v.w3;unfold lu jh;have hm:cJ (0≤S∧S < 256)=some ():=eM hS;have hp0:cJ ((0:Int)≤0∧(0:Int) < 7)=some ():=eM ⟨by omega,by omega⟩;rw [hm,bs,E1 hk hS,bs,hp0,bs]
 have key:=nV (T:=List (List Int)×Int) (f:=bL k m) (mD m) (fun(F:Nat→Int→Int) j=>(cr F,j)) (fun F j _=>zF F (j+1) (NU m (F j) j)) (fun j F=>F=fun n=>if n≤j then Nw m (pZ S) n else fun _=>0) (fun F=>some (cr F))
  (fun n F j hj hF=>by
   have j0:(0:Int)≤(j:Int):=Int.natCast_nonneg _;have hck:ck ((j:Int)+1)=some ((j:Int)+1):=eN (by omega) (by omega);have hp:cJ ((0:Int)≤(j:Int)∧(j:Int) < 7)=some ():=eM ⟨j0,by omega⟩;have hp2:cJ ((0:Int)≤(j:Int)+1∧(j:Int)+1 < 7)=some ():=eM ⟨by omega,by omega⟩;have hFj:F j=Nw m (pZ S) j:=by rw [hF];simp
   have hj':(j:Int) < (m.2.2.2.2.1.length:Int):=Int.ofNat_lt.2 hj
   have hnx:=Gf (k:=k) (f:=F j) v hk hj (fun c h0 h1=>by
    rw [hFj,xh v j c h0 h1];have:=xg (B:=pZ S) w0 (d:=j) (c:=c);have:=Hk (B:=pZ S) w3 (d:=j) (c:=c);omega)
   refine⟨?_,?_⟩
   ·simp only [bL,hj',if_true,hck,hp,bs,G5 (F:=F) (show j < 7 by omega),hnx,hp2];have e:Int.toNat ((j:Int)+1)=j+1:=by omega
    rw [e,Nn (by omega)]
   ·rw [hF];funext i;unfold zF;by_cases e:i=j+1
    ·subst e;simp only [if_true,Nat.le_refl];rfl
    ·simp only [e,if_false];by_cases h:i≤j
     ·rw [if_pos h,if_pos (by omega)]
     ·rw [if_neg h,if_neg (by omega)])
  (fun n F hF=>by
   unfold bL;rw [if_neg (by show¬((m.2.2.2.2.1.length:Int) < _);exact Int.lt_irrefl _)]) (n:=k) (s0:=zF (fun _ _=>0) 0 (fun c=>if pZ S c then mW m else -1)) (by omega) (by
   funext n;unfold zF;by_cases e:n=0
   ·subst e;rfl
   ·rw [if_neg e,if_neg (by omega)])
 have e0:List.set rX (Int.toNat 0) (kN fun c=>if pZ S c then mW m else -1)=cr (zF (fun _ _=>0) 0 (fun c=>if pZ S c then mW m else -1)):=rfl;rw [e0,show bL k m k (cr (zF (fun _ _=>0) 0 (fun c=>if pZ S c then mW m else -1)),0)=_ from key.1,bs];rw [key.2];rfl
theorem JR{m:ai}(v:Vd m){B:Int→Bool}{n:Nat}{c:Int}(hn:n≤(mD m).length)(h0:0≤c)(h1:c < mC m):Nl m B n c=np m B n c:=by
 unfold Nl;rw [if_pos hn,xh v n c h0 h1]
end Go.Proofs.YtkncjjdpjaapaaaGreat
set_option linter.unusedVariables false
set_option linter.unusedSimpArgs false
namespace Go.Proofs.YtkncjjdpjaapaaaGreat
open K Go Go.Proofs
def wk{σ:Type}(bad:σ→Int→Option Int)(add:σ→Int→σ):List Int→σ→Except Int σ
 |[],s=>.ok s
 |x::l,s=>match bad s x with
  |some e=>.error e
  |none=>wk bad add l (add s x)
theorem we{σ:Type}{bad:σ→Int→Option Int}{add:σ→Int→σ}:∀(l:List Int) (j:Nat) (s:σ),fQ (fun s _ x=>match bad s x with |some e=>Except.error e |none=>.ok (add s x)) j l s=wk bad add l s
 |[],j,s=>rfl
 |x::l,j,s=>by
  rw [fQ,wk]
  cases bad s x with
  |some e=>rfl
  |none=>exact we l (j+1) (add s x)
theorem u5{σ:Type}{bad:σ→Int→Option Int}{add:σ→Int→σ}:∀(a b:List Int) (s:σ),wk bad add (a++b) s=match wk bad add a s with | .error e=>.error e | .ok s'=>wk bad add b s'
 |[],b,s=>rfl
 |x::a,b,s=>by
  rw [List.cons_append,wk,wk]
  cases bad s x with
  |some e=>rfl
  |none=>exact u5 a b (add s x)
theorem A3{σ:Type}{bad:σ→Int→Option Int}{add:σ→Int→σ}:∀(r:List (List Int)) (j:Nat) (s:σ),fQ (fun s _ l=>wk bad add l s) j r s=wk bad add r.flatten s
 |[],j,s=>rfl
 |l::r,j,s=>by
  rw [fQ,List.flatten_cons,u5]
  cases wk bad add l s with
  |error e=>rfl
  |ok s'=>exact A3 r (j+1) s'
theorem EE{σ τ:Type}{b1:σ→Int→Option Int}{a1:σ→Int→σ}{b2:τ→Int→Option Int}{a2:τ→Int→τ}(R:σ→τ→Prop)(hb:∀s t x,R s t→b1 s x=b2 t x)(ha:∀s t x,R s t→b1 s x=none→R (a1 s x) (a2 t x)):
 ∀(l:List Int) (s:σ) (t:τ),R s t→(∃e,wk b1 a1 l s= .error e∧wk b2 a2 l t= .error e)∨∃s' t',wk b1 a1 l s= .ok s'∧wk b2 a2 l t= .ok t'∧R s' t'
 |[],s,t,h=>.inr ⟨s,t,rfl,rfl,h⟩
 |x::l,s,t,h=>by
  rw [wk,wk,←hb s t x h]
  cases e:b1 s x with
  |some c=>exact .inl ⟨c,rfl,rfl⟩
  |none=>exact EE R hb ha l _ _ (ha s t x h e)
theorem zB{σ:Type}{bad:σ→Int→Option Int}{add:σ→Int→σ}(P:σ→Prop)(hs:∀s x,P s→bad s x=none→P (add s x)):∀(l:List Int) (s s':σ),P s→wk bad add l s= .ok s'→P s'
 |[],s,s',h,e=>by cases e;exact h
 |x::l,s,s',h,e=>by
  rw [wk] at e
  cases hb:bad s x with
  |some c=>rw [hb] at e;cases e
  |none=>rw [hb] at e;exact zB P hs l _ s' (hs s x h hb) e
theorem kz{k:Nat}{a b c:Int}:dp k a b c=some (decide (b≤a∧a≤c)):=by
 unfold dp;by_cases h:b≤a <;> simp [h]
theorem P7{n:Int}(h:1≤n∧n≤5):ck (n - 1)=some (n - 1):=eN (by omega) (by omega)
def zA(C:Int)(s x:Int):Option Int:=if¬(0≤x∧x < C) then some 3 else if eg s x.toNat then some 4 else none
def uW(s x:Int):Int:=Bz .u8 s (nT .u8 1 x)
def zy(C:Int)(s:List Int)(x:Int):Option Int:=if¬(0≤x∧x < C) then some 3 else if x∈s then some 4 else none
def BZ(s:List Int)(x:Int):List Int:=s++[x]
theorem Br:lg 0:=⟨by decide,by decide⟩
theorem K4{C s x:Int}(h:zA C s x=none):0≤x∧x < C:=by
 unfold zA at h;split at h
 ·cases h
 ·rename_i h';exact Decidable.not_not.1 h'
theorem oq{k:Nat}{s x:Int}(hs:lg s)(h0:0≤x)(h8:x < 8):fy k s x=some (uW s x)∧lg (uW s x)∧∀i:Nat,eg (uW s x) i↔eg s i∨(i:Int)=x:=by
 have h1:=L0 h0 h8;have h2:=MK hs h1.1;refine⟨?_,h2.1,fun i=>?_⟩
 ·unfold fy;rw [eM h0,bs];rfl
 ·show eg (Bz .u8 s (nT .u8 1 x)) i↔_;rw [h2.2 i,h1.2 i]
theorem zb{C s x:Int}(hC:C≤5)(hs:lg s)(h:zA C s x=none):lg (uW s x):=by
 have:=K4 h;exact(oq (k:=0) hs this.1 (by omega)).2.1
def qO(C:Int)(r:List (List Int)):Int:=if 3 < r.length then 6 else match wk (zy C) BZ r.flatten [] with | .error e=>e | .ok _=>0
theorem Dx{k:Nat}{m:ai}(hC:1≤mC m∧mC m≤5){l:List Int}(hk:l.length < k)(hl:l.length≤1000){s:Int}(hs:lg s):
 cT k m l k (s,0)=some (wk (zA (mC m)) uW l s):=by
 have key:=nh (T:=Int×Int) (f:=cT k m l) l (fun(s:Int) j=>(s,j)) (fun s _ x=>match zA (mC m) s x with |some e=>Except.error e |none=>.ok (uW s x)) (fun _ s=>lg s) (fun r=>some r)
  (fun n s j hj hs=>by
   have hck:ck ((j:Int)+1)=some ((j:Int)+1):=eN (by omega) (by omega);have hc:ck (m.1 - 1)=some (m.1 - 1):=P7 hC;refine⟨?_,fun s' e=>?_⟩
   ·simp only [cT,Int.ofNat_lt,hj,if_true,ge hj,bs,hc,kz];generalize l[j]=x;by_cases h:0≤x∧x < mC m
    ·have h':0≤x∧x≤m.1 - 1:=⟨h.1,by have:x < m.1:=h.2;omega⟩;have hh:=GH (k:=k) hs (i:=x.toNat) (by omega);have ex:((x.toNat:Nat):Int)=x:=by omega
     rw [ex] at hh;simp only [h',and_self,decide_true,not_true_eq_false,if_false,hh,bs];have eb:zA (mC m) s x=if eg s x.toNat then some 4 else none:=by unfold zA;rw [if_neg (fun hn=>hn h)]
     rw [eb];by_cases h2:eg s x.toNat
     ·simp only [h2,decide_true,if_true]
     ·simp only [h2,decide_false,Bool.false_eq_true,if_false,(oq (k:=k) hs h.1 (by omega)).1,bs,hck]
    ·have h':¬(0≤x∧x≤m.1 - 1):=fun hh=>h ⟨hh.1,by show x < m.1;omega⟩;have eb:zA (mC m) s x=some 3:=by unfold zA;rw [if_pos h]
     rw [eb];simp only [h',decide_false,Bool.false_eq_true,not_false_eq_true,if_true]
   ·cases e2:zA (mC m) s l[j] with
    |some c=>rw [e2] at e;cases e
    |none=>rw [e2] at e;cases e;exact zb hC.2 hs e2)
  (fun n s _=>by simp [cT]) (n:=k) (s0:=s) hk hs
 rw [show cT k m l k (s,0)=_ from key,we]
theorem Dy{k:Nat}{m:ai}(hC:1≤mC m∧mC m≤5){r:List (List Int)}(hk:r.length < k)(hr:r.length≤1000)(hl:∀l∈r,l.length < k∧l.length≤1000):
 cU k m r k (0,0)=some (match wk (zA (mC m)) uW r.flatten 0 with | .error e=>.error e | .ok _=>.ok ()):=by
 have key:=nh (T:=Int×Int) (f:=cU k m r) r (fun(s:Int) j=>(s,j)) (fun s _ l=>wk (zA (mC m)) uW l s) (fun _ s=>lg s) (fun x=>some (match x with | .error e=>Except.error e | .ok _=>.ok ()))
  (fun n s j hj hs=>by
   have hck:ck ((j:Int)+1)=some ((j:Int)+1):=eN (by omega) (by omega);have hlj:=hl _ (List.getElem_mem hj);refine⟨?_,fun s' e=>zB lg (fun s x=>zb hC.2) _ _ _ hs e⟩;simp only [cU,Int.ofNat_lt,hj,if_true,ge hj,bs,Dx hC hlj.1 hlj.2 hs];cases wk (zA (mC m)) uW r[j] s with
   |error e=>rw [qS]
   |ok s'=>rw [pV,hck,bs])
  (fun n s _=>by simp [cU]) (n:=k) (s0:=0) hk Br
 rw [show cU k m r k (0,0)=_ from key,A3]
theorem JF{C:Int}(hC:C≤5)(l:List Int):(∃e,wk (zA C) uW l 0= .error e∧wk (zy C) BZ l []= .error e)∨∃s t,wk (zA C) uW l 0= .ok s∧wk (zy C) BZ l []= .ok t∧(lg s∧∀i:Nat,eg s i↔(i:Int)∈t):=by
 refine EE (fun s t=>lg s∧∀i:Nat,eg s i↔(i:Int)∈t) (fun s t x h=>?_) (fun s t x h hb=>?_) l 0 [] ⟨Br,fun i=>by simp [eg]⟩
 ·unfold zA zy;by_cases hx:0≤x∧x < C
  ·have e:((x.toNat:Nat):Int)=x:=by omega
   have:=h.2 x.toNat;rw [e] at this;simp only [hx,and_self,not_true_eq_false,if_false,this]
  ·rw [if_pos hx,if_pos hx]
 ·have hx:=K4 hb;have hw:=oq (k:=0) h.1 hx.1 (by omega);refine⟨hw.2.1,fun i=>?_⟩;rw [hw.2.2 i,h.2 i];unfold BZ;simp
theorem I6{k:Nat}{m:ai}(hC:1≤mC m∧mC m≤5){r:List (List Int)}(hk:1000 < k)(hr:r.length≤1000)(hl:∀l∈r,l.length≤1000):iO k m r=some (qO (mC m) r):=by
 unfold iO qO;by_cases h3:3 < r.length
 ·rw [if_pos (by omega),if_pos h3]
 ·rw [if_neg (by omega),if_neg h3,Dy hC (by omega) hr fun l hh=>⟨by have:=hl l hh;omega,hl l hh⟩];rcases JF hC.2 r.flatten with⟨e,h1,h2⟩ |⟨s,t,h1,h2,_⟩
  ·rw [h1,h2];exact qS
  ·rw [h1,h2];exact pV
end Go.Proofs.YtkncjjdpjaapaaaGreat
set_option linter.unusedVariables false
set_option linter.unusedSimpArgs false
namespace Go.Proofs.YtkncjjdpjaapaaaGreat
open K Go Go.Proofs
theorem ry:∀(n:Nat) (l:List Int),l.Nodup→(∀x∈l,0≤x∧x < (n:Int))→l.length≤n
 |0,l,_,h=>by
  cases l with
  |nil=>simp
  |cons x l=>have:=h x (by simp);omega
 |n+1,l,hn,h=>by
  have h1:=ry n (l.erase (n:Int)) (hn.erase _) (fun x hx=>by
   have h2:=(List.Nodup.mem_erase_iff hn).1 hx
   have:=h x h2.2
   have:=h2.1
   omega)
  have:l.length≤(l.erase (n:Int)).length+1:=by rw [List.length_erase];split <;> omega
  omega
theorem Pz{C:Int}{s:List Int}{x:Int}(h:zy C s x=none):(0≤x∧x < C)∧x∉s:=by
 unfold zy at h;split at h
 ·cases h
 ·rename_i h';split at h
  ·cases h
  ·rename_i h2;exact⟨Decidable.not_not.1 h',h2⟩
def Mt(C:Int)(s:List Int):Prop:=s.Nodup∧∀x∈s,0≤x∧x < C
theorem Mt.add{C:Int}{s:List Int}{x:Int}(h:Mt C s)(hb:zy C s x=none):Mt C (BZ s x):=by
 have:=Pz hb;refine⟨?_,fun y hy=>?_⟩
 ·unfold BZ;rw [List.nodup_append];exact⟨h.1,by simp,fun a ha b hb e=>by rw [List.mem_singleton.1 hb] at e;exact this.2 (e▸ha)⟩
 ·rcases List.mem_append.1 hy with hy |hy
  ·exact h.2 y hy
  ·rw [List.mem_singleton.1 hy];exact this.1
theorem Mt.len{C:Int}{s:List Int}(hC:0≤C∧C≤5)(h:Mt C s):s.length≤5:=by
 have:=ry C.toNat s h.1 fun x hx=>⟨(h.2 x hx).1,by have:=(h.2 x hx).2;omega⟩;omega
theorem EF{C:Int}:∀{l s t:List Int},wk (zy C) BZ l s= .ok t→t=s++l
 |[],s,t,e=>by cases e;simp
 |x::l,s,t,e=>by
  rw [wk] at e
  cases hb:zy C s x with
  |some c=>rw [hb] at e;cases e
  |none=>
   rw [hb] at e
   have:=EF e
   rw [this]
   simp [BZ]
theorem A4{C:Int}:∀{l s:List Int},(s++l).Nodup→(∀x∈l,0≤x∧x < C)→wk (zy C) BZ l s= .ok (s++l)
 |[],s,_,_=>by simp [wk]
 |x::l,s,hn,hr=>by
  have hx:x∉s:=by
   intro h;rw [List.nodup_append] at hn;exact hn.2.2 x h x (List.mem_cons_self) rfl
  have hb:zy C s x=none:=by
   unfold zy;rw [if_neg (fun h=>h (hr x List.mem_cons_self)),if_neg hx]
  rw [wk,hb];simp only [];rw [A4 (s:=BZ s x) (by unfold BZ;simpa using hn) fun y hy=>hr y (List.mem_cons_of_mem _ hy)];unfold BZ;simp
theorem vJ{C:Int}{r:List (List Int)}:qO C r=0↔r.length≤3∧r.flatten.Nodup∧∀x∈r.flatten,0≤x∧x < C:=by
 unfold qO;constructor
 ·intro h;split at h
  ·cases h
  ·cases e:wk (zy C) BZ r.flatten [] with
   |ok t=>
    have h1:=zB (Mt C) (fun s x=>Mt.add) _ _ _ ⟨List.nodup_nil,fun x hx=>by cases hx⟩ e;have h2:=EF e;rw [List.nil_append] at h2;subst h2;exact⟨by omega,h1.1,h1.2⟩
   |error c=>
    rw [e] at h;exfalso
    have:∀(l s:List Int),wk (zy C) BZ l s≠.error 0:=by
     intro l
     induction l with
     |nil=>intro s h;cases h
     |cons x l ih=>
      intro s h;rw [wk] at h;cases hb:zy C s x with
      |some c=>
       rw [hb] at h;obtain rfl:c=0:=by injection h
       unfold zy at hb;split at hb
       ·cases hb
       ·split at hb <;> cases hb
      |none=>rw [hb] at h;exact ih _ h
    exact this _ _ (by rw [e,show c=0 from h])
 ·rintro⟨h1,h2,h3⟩;rw [if_neg (by omega),A4 (by simpa using h2) h3]
def Eg(m:ai)(g:cE):Int:=if(0≤g.1∧g.1 < mC m)∧0≤g.2.1∧g.2.1≤(mD m).length then 0 else 3
theorem MG{k:Nat}{m:ai}(hC:1≤mC m∧mC m≤5){g:cE}:fJ k m g=some (Eg m g):=by
 have hc:ck (m.1 - 1)=some (m.1 - 1):=P7 hC;unfold fJ Eg;have e:decide (0≤g.1∧g.1≤m.1 - 1)=decide (0≤g.1∧g.1 < mC m):=decide_eq_decide.2 ⟨fun h=>⟨h.1,by show g.1 < m.1;omega⟩,fun h=>⟨h.1,by have:g.1 < m.1:=h.2;omega⟩⟩;rw [hc,bs,kz,bs,e];by_cases h1:0≤g.1∧g.1 < mC m
 ·by_cases h2:0≤g.2.1∧g.2.1≤(mD m).length <;> simp [h1,h2,kz]
 ·simp [h1]
def jp{α:Type}(f:α→Int)(l:List α):Int:=((l.map f).find? fun e=>decide (e≠0)).getD 0
theorem rS{α:Type}(f:α→Int):∀(l:List α) (j:Nat),fQ (fun(_:Unit) _ x=>if¬(f x=0) then Except.error (f x) else .ok ()) j l ()=if jp f l=0 then .ok () else .error (jp f l)
 |[],j=>by simp [fQ,jp]
 |x::l,j=>by
  rw [fQ]
  by_cases h:f x=0
  ·
   have:jp f (x::l)=jp f l:=by simp [jp,h]
   rw [this]
   simp only [h,not_true_eq_false,if_false]
   exact rS f l (j+1)
  ·
   have:jp f (x::l)=f x:=by simp [jp,h]
   rw [this]
   simp [h]
theorem oG{α:Type}{f:α→Int}{l:List α}:jp f l=0↔∀x∈l,f x=0:=by
 induction l with
 |nil=>simp [jp]
 |cons x l ih=>
  by_cases h:f x=0
  ·have:jp f (x::l)=jp f l:=by simp [jp,h]
   rw [this,ih];simp [h]
  ·have:jp f (x::l)=f x:=by simp [jp,h]
   rw [this];simp [h]
structure Sm(m:ai):Prop where
 d:(mD m).length≤1000
 r:∀r∈mD m,r.length≤1000∧∀l∈r,l.length≤1000
 g:(mG m).length≤1000
def sQ(m:ai):Int:=
 if¬((1≤mC m∧mC m≤5)∧(0≤mW m∧mW m≤3)∧(0≤mS m∧mS m≤3)∧1≤mH m∧mH m≤3) then 1
 else if(mD m).length=0 then 7 else if 6 < (mD m).length then 6 else if¬(jp (qO (mC m)) (mD m)=0) then jp (qO (mC m)) (mD m)
 else if 8 < (mG m).length then 6 else jp (Eg m) (mG m)
theorem I7{k:Nat}{m:ai}(hs:Sm m)(hk:1000 < k):ma k m=some (sQ m):=by
 unfold ma sQ;simp only [kz,bs];by_cases h1:1≤mC m∧mC m≤5
 ·by_cases h2:0≤mW m∧mW m≤3
  ·by_cases h3:0≤mS m∧mS m≤3
   ·by_cases h4:1≤mH m∧mH m≤3
    ·have e1:(1≤m.1∧m.1≤5)=True:=eq_true h1;have e2:(0≤m.2.1∧m.2.1≤3)=True:=eq_true h2;have e3:(0≤m.2.2.1∧m.2.2.1≤3)=True:=eq_true h3;have e4:(1≤m.2.2.2.1∧m.2.2.2.1≤3)=True:=eq_true h4;simp only [e1,e2,e3,e4,decide_true,not_true_eq_false,if_false,Bool.not_true,Bool.false_eq_true,bs,and_self,h1,h2,h3,h4];by_cases h5:(mD m).length=0
     ·rw [if_pos (show((m.2.2.2.2.1.length:Int) < 1) by have:m.2.2.2.2.1.length=0:=h5;omega),if_pos h5]
     ·rw [if_neg (show¬((m.2.2.2.2.1.length:Int) < 1) by have:m.2.2.2.2.1.length≠0:=h5;omega),if_neg h5];by_cases h6:6 < (mD m).length
      ·rw [if_pos (show((6:Int) < (m.2.2.2.2.1.length:Int)) by have:6 < m.2.2.2.2.1.length:=h6;omega),if_pos h6]
      ·rw [if_neg (show¬((6:Int) < (m.2.2.2.2.1.length:Int)) by have:¬6 < m.2.2.2.2.1.length:=h6;omega),if_neg h6]
       have key:=nh (f:=eE k m) (mD m) (fun(_:Unit) j=>j) (fun _ _ x=>if¬(qO (mC m) x=0) then Except.error (qO (mC m) x) else .ok ()) (fun _ _=>True) (fun r=>some r)
        (fun n s j hj _=>by
         have hck:ck ((j:Int)+1)=some ((j:Int)+1):=eN (by omega) (by omega);have hr:=hs.r _ (List.getElem_mem hj);refine⟨?_,fun _ _=>trivial⟩;have hj':(j:Int) < (m.2.2.2.2.1.length:Int):=Int.ofNat_lt.2 hj;have hg:aX m.2.2.2.2.1 (j:Int)=some (mD m)[j]:=ge hj;simp only [eE,hj',if_true,hg,bs,I6 h1 hk hr.1 hr.2];by_cases e:qO (mC m) (mD m)[j]=0 <;> simp [e,hck])
        (fun n s _=>by
         unfold eE;rw [if_neg (Int.lt_irrefl _)]) (n:=k) (s0:=()) (by have:=hs.d;omega) trivial
       rw [show eE k m k 0=_ from key,rS];by_cases h7:jp (qO (mC m)) (mD m)=0
       ·rw [if_pos h7,pV,show(if¬(jp (qO (mC m)) (mD m)=0) then jp (qO (mC m)) (mD m) else if 8 < (mG m).length then 6 else jp (Eg m) (mG m))=(if 8 < (mG m).length then 6 else jp (Eg m) (mG m)) from if_neg (fun hn=>hn h7)];by_cases h8:8 < (mG m).length
        ·rw [if_pos (show((8:Int) < (m.2.2.2.2.2.length:Int)) by have:8 < m.2.2.2.2.2.length:=h8;omega),if_pos h8]
        ·rw [if_neg (show¬((8:Int) < (m.2.2.2.2.2.length:Int)) by have:¬8 < m.2.2.2.2.2.length:=h8;omega),if_neg h8]
         have key:=nh (f:=eD k m) (mG m) (fun(_:Unit) j=>j) (fun _ _ x=>if¬(Eg m x=0) then Except.error (Eg m x) else .ok ()) (fun _ _=>True) (fun r=>some r)
          (fun n s j hj _=>by
           have hck:ck ((j:Int)+1)=some ((j:Int)+1):=eN (by omega) (by omega);refine⟨?_,fun _ _=>trivial⟩;have hj':(j:Int) < (m.2.2.2.2.2.length:Int):=Int.ofNat_lt.2 hj;have hg:aX m.2.2.2.2.2 (j:Int)=some (mG m)[j]:=ge hj;simp only [eD,hj',if_true,hg,bs,MG h1];by_cases e:Eg m (mG m)[j]=0 <;> simp [e,hck])
          (fun n s _=>by
           unfold eD;rw [if_neg (Int.lt_irrefl _)]) (n:=k) (s0:=()) (by have:=hs.g;omega) trivial
         rw [show eD k m k 0=_ from key,rS];by_cases h9:jp (Eg m) (mG m)=0
         ·rw [if_pos h9,pV,h9]
         ·rw [if_neg h9,qS]
       ·rw [if_neg h7,qS,if_pos h7]
    ·have e1:(1≤m.1∧m.1≤5)=True:=eq_true h1;have e2:(0≤m.2.1∧m.2.1≤3)=True:=eq_true h2;have e3:(0≤m.2.2.1∧m.2.2.1≤3)=True:=eq_true h3;have e4:(1≤m.2.2.2.1∧m.2.2.2.1≤3)=False:=eq_false h4;refine Eq.trans ?_ (congrArg some (if_pos fun hh=>h4 hh.2.2.2).symm);simp [e1,e2,e3,e4]
   ·have e1:(1≤m.1∧m.1≤5)=True:=eq_true h1;have e2:(0≤m.2.1∧m.2.1≤3)=True:=eq_true h2;have e3:(0≤m.2.2.1∧m.2.2.1≤3)=False:=eq_false h3;refine Eq.trans ?_ (congrArg some (if_pos fun hh=>h3 hh.2.2.1).symm);simp [e1,e2,e3]
  ·have e1:(1≤m.1∧m.1≤5)=True:=eq_true h1;have e2:(0≤m.2.1∧m.2.1≤3)=False:=eq_false h2;refine Eq.trans ?_ (congrArg some (if_pos fun hh=>h2 hh.2.1).symm);simp [e1,e2]
 ·have e1:(1≤m.1∧m.1≤5)=False:=eq_false h1;refine Eq.trans ?_ (congrArg some (if_pos fun hh=>h1 hh.1).symm);simp [e1]
end Go.Proofs.YtkncjjdpjaapaaaGreat
set_option linter.unusedVariables false
set_option linter.unusedSimpArgs false
namespace Go.Proofs.YtkncjjdpjaapaaaGreat
open K Go Go.Proofs
theorem tN{r:List (List Int)}{l:List Int}(h:r.flatten.Nodup)(hl:l∈r):l.Nodup:=by
 obtain⟨s,t,rfl⟩:=List.append_of_mem hl;rw [List.flatten_append,List.flatten_cons,List.nodup_append] at h;have:=h.2.1;rw [List.nodup_append] at this;exact this.1
theorem Ic{σ:Type}{bad:σ→Int→Option Int}{add:σ→Int→σ}{x:Int}{l:List Int}{s:σ}{e:Int}(h:bad s x=some e):wk bad add (x::l) s= .error e:=by rw [wk,h]
theorem H9{σ:Type}{bad:σ→Int→Option Int}{add:σ→Int→σ}{x:Int}{l:List Int}{s:σ}(h:bad s x=none):wk bad add (x::l) s=wk bad add l (add s x):=by rw [wk,h]
theorem Vd.of{m:ai}(h:sQ m=0):Vd m:=by
 unfold sQ at h;by_cases h1:(1≤mC m∧mC m≤5)∧(0≤mW m∧mW m≤3)∧(0≤mS m∧mS m≤3)∧1≤mH m∧mH m≤3
 ·rw [if_neg (fun hn=>hn h1)] at h;by_cases h2:(mD m).length=0
  ·rw [if_pos h2] at h;cases h
  ·rw [if_neg h2] at h;by_cases h3:6 < (mD m).length
   ·rw [if_pos h3] at h;cases h
   ·rw [if_neg h3] at h;by_cases h4:jp (qO (mC m)) (mD m)=0
    ·rw [if_neg (fun hn=>hn h4)] at h;by_cases h5:8 < (mG m).length
     ·rw [if_pos h5] at h;cases h
     ·rw [if_neg h5] at h;have hd:=fun r hr=>vJ.1 (oG.1 h4 r hr);have hx:∀r∈mD m,∀l∈r,∀x∈l,0≤x∧x < mC m:=fun r hr l hl x hx=>(hd r hr).2.2 x (List.mem_flatten.2 ⟨l,hl,hx⟩)
      exact⟨h1.1.1,h1.1.2,h1.2.1.1,h1.2.1.2,h1.2.2.1.1,h1.2.2.1.2,h1.2.2.2.1,h1.2.2.2.2,by omega,by omega,fun r hr=>(hd r hr).1,fun r hr l hl=>by
       have hn:l.Nodup:=tN (hd r hr).2.1 hl;have:=ry (mC m).toNat l hn fun x hxx=>by have:=hx r hr l hl x hxx;omega
       omega,hx,fun r hr=>(hd r hr).2.1,by omega,fun g hg=>by
        have:=oG.1 h g hg;unfold Eg at this;split at this
        ·rename_i hh;exact⟨hh.1.1,hh.1.2,hh.2.1,hh.2.2⟩
        ·cases this⟩
    ·rw [if_pos h4] at h;exact absurd h h4
 ·rw [if_pos h1] at h;cases h
theorem Vd.chk{m:ai}(v:Vd m):sQ m=0:=by
 unfold sQ;have h1:(1≤mC m∧mC m≤5)∧(0≤mW m∧mW m≤3)∧(0≤mS m∧mS m≤3)∧1≤mH m∧mH m≤3:=⟨⟨v.c1,v.c5⟩,⟨v.w0,v.w3⟩,⟨v.s0,v.s3⟩,v.h1,v.h3⟩
 have h4:jp (qO (mC m)) (mD m)=0:=oG.2 fun r hr=>vJ.2 ⟨v.r3 r hr,v.nd r hr,fun x hx=>by
  obtain⟨l,hl,hx⟩:=List.mem_flatten.1 hx;exact v.x5 r hr l hl x hx⟩
 have h9:jp (Eg m) (mG m)=0:=oG.2 fun g hg=>by
  have:=v.gl g hg;unfold Eg;rw [if_pos ⟨⟨this.1,this.2.1⟩,this.2.2⟩]
 have d1:=v.d1;have d6:=v.d6;have g8:=v.g8;rw [if_neg (fun hn=>hn h1),if_neg (by omega),if_neg (by omega),if_neg (fun hn=>hn h4),if_neg (by omega),h9]
theorem Vd.sm{m:ai}(v:Vd m):Sm m:=⟨by have:=v.d6;omega,fun r hr=>⟨by have:=v.r3 r hr;omega,fun l hl=>by have:=v.l5 r hr l hl;omega⟩,by have:=v.g8;omega⟩
def uD(C:Int)(p:Option Int)(x:Int):Option Int:=if¬(0≤x∧x < C) then some 3 else if p.any (fun y=>decide (x≤y)) then some 5 else none
def JY(C:Int)(p:Option Int×Int)(x:Int):Option Int:=uD C p.1 x
def NW(p:Option Int×Int)(x:Int):Option Int×Int:=(some x,uW p.2 x)
def J4(p:Option Int)(x:Int):Option Int:=some x
def uf(C:Int)(b:List Int):Int:=match wk (uD C) J4 b none with | .error e=>e | .ok _=>0
def ip(b:List Int):Int:=b.foldl uW 0
theorem K5{C:Int}{p:Option Int}{x:Int}(h:uD C p x=none):(0≤x∧x < C)∧p.any (fun y=>decide (x≤y))=false:=by
 unfold uD at h;split at h
 ·cases h
 ·rename_i h';split at h
  ·cases h
  ·rename_i h2;exact⟨Decidable.not_not.1 h',by simpa using h2⟩
theorem BV{C:Int}:∀(b:List Int) (p:Option Int) (s:Int),(∃e,wk (JY C) NW b (p,s)= .error e∧wk (uD C) J4 b p= .error e)∨∃q,wk (JY C) NW b (p,s)= .ok (q,b.foldl uW s)∧wk (uD C) J4 b p= .ok q
 |[],p,s=>.inr ⟨p,rfl,rfl⟩
 |x::b,p,s=>by
  cases e:uD C p x with
  |some c=>exact .inl ⟨c,Ic e,Ic e⟩
  |none=>
   rw [H9 (bad:=JY C) (s:=(p,s)) (x:=x) e,H9 e]
   exact BV (C:=C) b (some x) (uW s x)
theorem yu{k:Nat}{m:ai}(hC:1≤mC m∧mC m≤5){b:List Int}(hk:b.length < k)(hb:b.length≤1000):
 ew k m b k (0,0)=some (if uf (mC m) b=0 then .ok (ip b) else .error (none,0,uf (mC m) b)):=by
 have key:=nh (T:=Int×Int) (f:=ew k m b) b (fun(s:Option Int×Int) j=>(s.2,j)) (fun s _ x=>match JY (mC m) s x with |some e=>Except.error e |none=>.ok (NW s x)) (fun j s=>lg s.2∧s.1=if j=0 then none else b[j-1]?) (fun r=>some (match r with | .error e=>Except.error (none,0,e) | .ok s=>.ok s.2))
  (fun n s j hj hs=>by
   have hck:ck ((j:Int)+1)=some ((j:Int)+1):=eN (by omega) (by omega);have hc:ck (m.1 - 1)=some (m.1 - 1):=P7 hC;refine⟨?_,fun s' e=>?_⟩
   ·simp only [ew,Int.ofNat_lt,hj,if_true,ge hj,bs,hc,kz];generalize b[j]=x;rw [show JY (mC m) s x=uD (mC m) s.1 x from rfl];by_cases h:0≤x∧x < mC m
    ·have h':0≤x∧x≤m.1 - 1:=⟨h.1,by have:x < m.1:=h.2;omega⟩;have eb:uD (mC m) s.1 x=if s.1.any (fun y=>decide (x≤y)) then some 5 else none:=by unfold uD;rw [if_neg (fun hn=>hn h)]
     have ep:(if(0:Int) < (j:Int) then((ck ((j:Int) - 1)).bind fun x12=>(aX b x12).bind fun x13=>some (decide (x≤x13))) else some false)=some (s.1.any fun y=>decide (x≤y)):=by
      rw [hs.2];by_cases h0:j=0
      ·subst h0;simp
      ·have c1:ck ((j:Int) - 1)=some ((j - 1:Nat):Int):=by rw [eN (by omega) (by omega),show((j:Int) - 1)=((j - 1:Nat):Int) by omega]
       rw [if_pos (by omega),c1,bs,ge (by omega),bs,if_neg h0,List.getElem?_eq_getElem (by omega)];rfl
     rw [eb];simp only [h',and_self,decide_true,not_true_eq_false,if_false,bs];rw [ep,bs];cases s.1.any fun y=>decide (x≤y) with
     |true=>simp only [if_true]
     |false=>
      simp only [Bool.false_eq_true,if_false,(oq (k:=k) hs.1 h.1 (by omega)).1,bs,hck];rfl
    ·have h':¬(0≤x∧x≤m.1 - 1):=fun hh=>h ⟨hh.1,by show x < m.1;omega⟩;have eb:uD (mC m) s.1 x=some 3:=by unfold uD;rw [if_pos h]
     rw [eb];simp only [h',decide_false,Bool.false_eq_true,not_false_eq_true,if_true,bs]
   ·cases e2:JY (mC m) s b[j] with
    |some c=>rw [e2] at e;cases e
    |none=>
     rw [e2] at e;cases e;have hx:=K5 e2;exact⟨(oq (k:=0) hs.1 hx.1.1 (by omega)).2.1,by show some b[j]=if j+1=0 then none else b[j+1 - 1]?;rw [if_neg (by omega)];simp [List.getElem?_eq_getElem hj]⟩)
  (fun n s _=>by simp [ew]) (n:=k) (s0:=(none,0)) hk ⟨Br,rfl⟩
 rw [show ew k m b k (0,0)=_ from key]
 have e1:fQ (fun(s:Option Int×Int) _ x=>match JY (mC m) s x with |some e=>Except.error e |none=>.ok (NW s x)) 0 b (none,0)=wk (JY (mC m)) NW b (none,0):=we (bad:=JY (mC m)) (add:=NW) b 0 (none,0)
 rw [e1]
 unfold uf
 have z:∀(l:List Int) (p:Option Int),wk (uD (mC m)) J4 l p≠.error 0:=by
  intro l
  induction l with
  |nil=>intro p h;cases h
  |cons x l ih=>
   intro p h;rw [wk] at h;cases hb:uD (mC m) p x with
   |some c=>
    rw [hb] at h;obtain rfl:c=0:=by injection h
    unfold uD at hb;split at hb
    ·cases hb
    ·split at hb <;> cases hb
   |none=>rw [hb] at h;exact ih _ h
 rcases BV (C:=mC m) b none 0 with⟨e,h1,h2⟩ |⟨q,h1,h2⟩
 ·
  rw [h1,h2];simp only [];rw [if_neg (fun h0=>z b none (by rw [h2,h0]))]
 ·
  rw [h1,h2];rfl
end Go.Proofs.YtkncjjdpjaapaaaGreat
set_option linter.unusedVariables false
set_option linter.unusedSimpArgs false
namespace Go.Proofs.YtkncjjdpjaapaaaGreat
open K Go Go.Proofs
theorem ya{C:Int}(hC:C≤5):∀(b:List Int) (s:Int),lg s→(∀x∈b,0≤x∧x < C)→lg (b.foldl uW s)∧∀i:Nat,eg (b.foldl uW s) i↔eg s i∨(i:Int)∈b
 |[],s,hs,_=>⟨hs,fun i=>by simp⟩
 |x::b,s,hs,hb=>by
  have hx:=hb x List.mem_cons_self
  have hw:=oq (k:=0) hs hx.1 (by omega)
  have:=ya hC b (uW s x) hw.2.1 fun y hy=>hb y (List.mem_cons_of_mem _ hy)
  refine⟨this.1,fun i=>?_⟩
  show eg (b.foldl uW (uW s x)) i↔_
  rw [this.2 i,hw.2.2 i,List.mem_cons,or_assoc]
structure Bg(C:Int)(b:List Int):Prop where
 rng:∀x∈b,0≤x∧x < C
 asc:b.Pairwise (· < ·)
theorem zC{C:Int}:∀{b:List Int} {p:Option Int},(∃q,wk (uD C) J4 b p= .ok q)↔(∀x∈b,0≤x∧x < C)∧b.Pairwise (· < ·)∧∀y,p=some y→∀x∈b.head?,y < x
 |[],p=>by simp [wk]
 |x::b,p=>by
  cases e:uD C p x with
  |some c=>
   rw [Ic e]
   constructor
   ·
    rintro⟨q,h⟩;cases h
   ·
    rintro⟨h1,h2,h3⟩
    exfalso
    unfold uD at e
    rw [if_neg (fun hn=>hn (h1 x List.mem_cons_self))] at e
    cases p with
    |none=>cases e
    |some y=>
     have:=h3 y rfl x (by simp)
     rw [if_neg (by simp;omega)] at e
     cases e
  |none=>
   have hx:=K5 e
   rw [H9 e,zC (b:=b) (p:=J4 p x)]
   constructor
   ·
    rintro⟨h1,h2,h3⟩
    refine⟨fun y hy=>?_,?_,fun y hy z hz=>?_⟩
    ·
     rcases List.mem_cons.1 hy with rfl |hy
     ·
      exact hx.1
     ·
      exact h1 y hy
    ·
     rw [List.pairwise_cons]
     refine⟨fun y hy=>?_,h2⟩
     cases b with
     |nil=>cases hy
     |cons z b=>
      have hz:=h3 x rfl z (by simp)
      rcases List.mem_cons.1 hy with rfl |hy
      ·
       exact hz
      ·
       have:=(List.pairwise_cons.1 h2).1 y hy;omega
    ·
     have e2:=hx.2
     rw [hy] at e2
     simp at e2
     simp at hz
     omega
   ·
    rintro⟨h1,h2,h3⟩
    rw [List.pairwise_cons] at h2
    refine⟨fun y hy=>h1 y (List.mem_cons_of_mem _ hy),h2.2,fun y hy z hz=>?_⟩
    obtain rfl:x=y:=by simpa [J4] using hy
    exact h2.1 z (List.mem_of_mem_head? hz)
theorem BW{C:Int}:∀{l:List Int} {p:Option Int},wk (uD C) J4 l p≠.error 0
 |[],p,h=>by cases h
 |x::l,p,h=>by
  cases hb:uD C p x with
  |some c=>
   rw [Ic hb] at h
   obtain rfl:c=0:=by injection h
   unfold uD at hb
   split at hb
   ·
    cases hb
   ·
    split at hb <;> cases hb
  |none=>rw [H9 hb] at h;exact BW h
theorem vQ{C:Int}{b:List Int}:uf C b=0↔Bg C b:=by
 unfold uf;constructor
 ·intro h;cases e:wk (uD C) J4 b none with
  |error c=>rw [e] at h;exact absurd (by rw [e,show c=0 from h]) (BW (C:=C) (l:=b) (p:=none))
  |ok q=>have:=zC.1 ⟨q,e⟩;exact⟨this.1,this.2.1⟩
 ·rintro⟨h1,h2⟩;obtain⟨q,e⟩:=(zC (p:=none)).2 ⟨h1,h2,fun y hy=>by cases hy⟩;rw [e]
theorem Bg.set{C:Int}(hC:C≤5){b:List Int}(h:Bg C b):lg (ip b)∧∀c:Int,0≤c→pZ (ip b) c=decide (c∈b):=by
 have:=ya hC b 0 Br h.rng;refine⟨this.1,fun c hc=>?_⟩;unfold pZ;have e:((c.toNat:Nat):Int)=c:=by omega
 have h2:=this.2 c.toNat;rw [e] at h2;refine decide_eq_decide.2 ?_;show eg (b.foldl uW 0) c.toNat↔_;rw [h2];simp [eg]
def tU(m:ai)(i:Nat):Int:=match i with |0=>mC m - 1 |1=>((mD m).length:Int) - 1 |_=>(mD m).length
def wO(n:Int)(l:List Int):Bool:=l.all fun x=>decide (0≤x∧x≤n)
theorem pu{k:Nat}{m:ai}(v:Vd m){i:Nat}(hi:i < 3){l:List Int}(hk:l.length < k)(hl:l.length≤1000):
 di k m (i:Int) l k 0=some (if wO (tU m i) l then .ok () else .error (none,0,3)):=by
 have c1:=v.c1
 have c5:=v.c5
 have d6:=v.d6
 have d1:=v.d1
 have key:=nh (T:=Int) (f:=di k m (i:Int) l) l (fun(_:Unit) j=>j) (fun _ _ x=>if 0≤x∧x≤tU m i then .ok () else Except.error ((none,0,3):Option ai×Int×Int)) (fun _ _=>True) (fun r=>some r)
  (fun n s j hj _=>by
   have hck:ck ((j:Int)+1)=some ((j:Int)+1):=eN (by omega) (by omega);have hc:ck (m.1 - 1)=some (mC m - 1):=P7 ⟨c1,c5⟩;have hd:ck ((m.2.2.2.2.1.length:Int) - 1)=some (((mD m).length:Int) - 1):=eN (by show _≤((mD m).length:Int) - 1;omega) (by show((mD m).length:Int) - 1≤_;omega)
   have hg:aX [mC m - 1,((mD m).length:Int) - 1,((mD m).length:Int)] (i:Int)=some (tU m i):=by
    have:i=0∨i=1∨i=2:=by omega
    rcases this with rfl |rfl |rfl <;> rfl
   refine⟨?_,fun _ _=>trivial⟩;simp only [di,Int.ofNat_lt,hj,if_true,ge hj,bs,hc,hd];rw [show aX [mC m - 1,((mD m).length:Int) - 1,(m.2.2.2.2.1.length:Int)] (i:Int)=some (tU m i) from hg,bs,kz,bs];by_cases h:0≤l[j]∧l[j]≤tU m i
   ·rw [if_pos h];simp only [h,and_self,decide_true,not_true_eq_false,if_false,hck,bs]
   ·rw [if_neg h];simp only [h,decide_false,Bool.false_eq_true,not_false_eq_true,if_true])
  (fun n s _=>by simp [di]) (n:=k) (s0:=()) hk trivial
 rw [show di k m (i:Int) l k 0=_ from key]
 congr 1
 have:∀(l:List Int) (j:Nat),fQ (fun(_:Unit) _ x=>if 0≤x∧x≤tU m i then .ok () else Except.error ((none,0,3):Option ai×Int×Int)) j l ()=if wO (tU m i) l then .ok () else .error (none,0,3):=by
  intro l
  induction l with
  |nil=>intro j;rfl
  |cons x l ih=>
   intro j;rw [fQ];by_cases h:0≤x∧x≤tU m i
   ·rw [if_pos h];have:wO (tU m i) (x::l)=wO (tU m i) l:=by simp only [wO,List.all_cons,h,and_self,decide_true,Bool.true_and]
    rw [this];exact ih (j+1)
   ·rw [if_neg h];have:wO (tU m i) (x::l)=false:=by simp only [wO,List.all_cons,h,decide_false,Bool.false_and]
    rw [this];rfl
 exact this l 0
theorem xN{k:Nat}{m:ai}(v:Vd m)(hk:10≤k):∀n:Nat,n≤32→u4 k m n=some ()
 |0,_=>rfl
 |n+1,h=>by
  have e:IntKind.u8.wrap (n:Int)=(n:Int):=sR (by omega)
  unfold u4
  rw [xN v hk n (by omega),bs,e,vK v hk ⟨by omega,by omega⟩,bs]
theorem Ih{k:Nat}{m:ai}(v:Vd m)(hk:10≤k):dR k m=some ():=by
 have c1:=v.c1;have c5:=v.c5;unfold dR
 have hc:m.1=1∨m.1=2∨m.1=3∨m.1=4∨m.1=5:=by
  have h1:1≤m.1:=c1;have h2:m.1≤5:=c5;omega
 have e:0≤nT .i64 1 m.1∧nT .i64 1 m.1≤32:=by
  rcases hc with h |h |h |h |h <;> rw [h] <;> decide
 rw [if_pos ⟨by rcases hc with h |h |h |h |h <;> omega,by omega⟩];exact xN v hk _ (by omega)
def Qo(m:ai)(cs ds ns:List Int):Bool:=wO (tU m 0) cs && wO (tU m 1) ds && wO (tU m 2) ns
theorem Gm{k:Nat}{m:ai}{b cs ds ns:List Int}(hs:Sm m)(hk:1010≤k)(hb:b.length≤1000)(h1:cs.length≤1000)(h2:ds.length≤1000)(h3:ns.length≤1000):
 jG k m b cs ds ns=some (if¬(sQ m=0) then(none,0,sQ m) else if¬(uf (mC m) b=0) then(none,0,uf (mC m) b) else if Qo m cs ds ns then(some m,ip b,0) else(none,0,3)):=by
 unfold jG
 rw [I7 hs (by omega),bs]
 by_cases hc:sQ m=0
 ·
  have v:=Vd.of hc;rw [if_neg (fun hn=>hn hc),if_neg (fun hn=>hn hc),yu ⟨v.c1,v.c5⟩ (by omega) hb];by_cases hg:uf (mC m) b=0
  ·rw [if_pos hg,pV,if_neg (fun hn=>hn hg)];obtain⟨n,rfl⟩:∃n,k=n+4:=⟨k - 4,by omega⟩;have e0:=pu v (k:=n+4) (i:=0) (by omega) (l:=cs) (by omega) h1;have e1:=pu v (k:=n+4) (i:=1) (by omega) (l:=ds) (by omega) h2;have e2:=pu v (k:=n+4) (i:=2) (by omega) (l:=ns) (by omega) h3;have g0:aX [cs,ds,ns] (0:Int)=some cs:=rfl;have g1:aX [cs,ds,ns] (1:Int)=some ds:=rfl;have g2:aX [cs,ds,ns] (2:Int)=some ns:=rfl;have k0:ck ((0:Int)+1)=some 1:=rfl;have k1:ck ((1:Int)+1)=some 2:=rfl;have k2:ck ((2:Int)+1)=some 3:=rfl;have ln:(([cs,ds,ns]:List (List Int)).length:Int)=3:=rfl
   have s0:cI (n+4) m cs ds ns (n+4) 0=if wO (tU m 0) cs then cI (n+4) m cs ds ns (n+3) 1 else some (.error (none,0,3)):=by
    rw [cI,ln,if_pos (by decide),g0,bs,show di (n+4) m 0 cs (n+4) 0=_ from e0];cases wO (tU m 0) cs with
    |true=>simp only [if_true];rw [pV,k0,bs]
    |false=>simp only [Bool.false_eq_true,if_false];rw [qS]
   have s1:cI (n+4) m cs ds ns (n+3) 1=if wO (tU m 1) ds then cI (n+4) m cs ds ns (n+2) 2 else some (.error (none,0,3)):=by
    rw [cI,ln,if_pos (by decide),g1,bs,show di (n+4) m 1 ds (n+4) 0=_ from e1];cases wO (tU m 1) ds with
    |true=>simp only [if_true];rw [pV,k1,bs]
    |false=>simp only [Bool.false_eq_true,if_false];rw [qS]
   have s2:cI (n+4) m cs ds ns (n+2) 2=if wO (tU m 2) ns then cI (n+4) m cs ds ns (n+1) 3 else some (.error (none,0,3)):=by
    rw [cI,ln,if_pos (by decide),g2,bs,show di (n+4) m 2 ns (n+4) 0=_ from e2];cases wO (tU m 2) ns with
    |true=>simp only [if_true];rw [pV,k2,bs]
    |false=>simp only [Bool.false_eq_true,if_false];rw [qS]
   have s3:cI (n+4) m cs ds ns (n+1) 3=some (.ok ()):=by
    rw [cI,ln,if_neg (by decide)]
   rw [s0,s1,s2,s3];unfold Qo
   have fin:((iL (n+4) m).bind fun r32=>fa r32 none (fun q33=>(dR (n+4) q33).bind fun r35=>some (some q33,ip b,(0:Int))))=some (some m,ip b,0):=by
    unfold iL;rw [bs,BQ,Ih v (by omega),bs]
   cases wO (tU m 0) cs with
   |false=>simp only [Bool.false_eq_true,if_false,Bool.false_and];rw [qS]
   |true=>
    cases wO (tU m 1) ds with
    |false=>simp only [if_true,Bool.false_eq_true,if_false,Bool.true_and,Bool.false_and];rw [qS]
    |true=>
     cases wO (tU m 2) ns with
     |false=>simp only [if_true,Bool.false_eq_true,if_false,Bool.true_and,Bool.and_false];rw [qS]
     |true=>simp only [if_true,Bool.true_and];rw [pV];exact fin
  ·rw [if_neg hg,qS,if_pos hg]
 ·
  rw [if_pos hc,if_pos hc]
end Go.Proofs.YtkncjjdpjaapaaaGreat
set_option linter.unusedVariables false
set_option linter.unusedSimpArgs false
namespace Go.Proofs.YtkncjjdpjaapaaaGreat
open K Go Go.Proofs
def nH(m:ai)(B:Int→Bool)(n:Nat):List Int:=(List.range (mC m).toNat).map fun(c:Nat)=>np m B n (c:Int)
def fK(m:ai)(B:Int→Bool):List (List Int):=(List.range ((mD m).length+1)).map (nH m B)
theorem Fb{m:ai}{B:Int→Bool}{n:Nat}{c:Int}(h0:0≤c)(h1:c < mC m):aX (nH m B n) c=some (np m B n c):=by
 unfold nH;rw [aX,if_pos h0,List.getElem?_map,List.getElem?_range (by omega)];show some (np m B n ((c.toNat:Nat):Int))=_;rw [show((c.toNat:Nat):Int)=c by omega]
theorem vL{m:ai}{B:Int→Bool}{n:Nat}(h:n≤(mD m).length):aX (fK m B) (n:Int)=some (nH m B n):=by
 unfold fK;rw [aX,if_pos (by omega),List.getElem?_map,Int.toNat_natCast,List.getElem?_range (by omega)];rfl
theorem EU{f:Int→Int}{C:Int}(h0:0≤C)(h5:C≤5):List.take C.toNat (kN f)=(List.range C.toNat).map fun(c:Nat)=>f (c:Int):=by
 have:C=0∨C=1∨C=2∨C=3∨C=4∨C=5:=by omega
 rcases this with rfl |rfl |rfl |rfl |rfl |rfl <;> rfl
theorem Ao{k:Nat}{m:ai}{b:List Int}(hs:Sm m)(hk:1010≤k)(hb:b.length≤1000):
 fB k m b=some (if¬(sQ m=0) then([],sQ m) else if¬(uf (mC m) b=0) then([],uf (mC m) b) else(fK m fun c=>decide (c∈b),0)):=by
 unfold fB
 rw [Gm hs hk hb (by simp) (by simp) (by simp),bs]
 by_cases hc:sQ m=0
 ·
  have v:=Vd.of hc;by_cases hg:uf (mC m) b=0
  ·have hB:=(vQ.1 hg).set v.c5;have ho:Qo m [] [] []=true:=rfl;have c1:=v.c1;have c5:=v.c5;have d6:=v.d6;simp only [hc,hg,ho,not_true_eq_false,if_false,if_true,BQ];rw [vK v (by omega) hB.1,bs]
   have hd:ck ((m.2.2.2.2.1.length:Int)+1)=some (((mD m).length+1:Nat):Int):=by
    rw [eN (by show _≤((mD m).length:Int)+1;omega) (by show((mD m).length:Int)+1≤_;omega)];rfl
   rw [hd,bs]
   have key:=nV (T:=List (List Int)×Int) (f:=dP k m (cr (Nl m (pZ (ip b)))) (((mD m).length+1:Nat):Int)) (List.range ((mD m).length+1)) (fun(s:List (List Int)) j=>(s,j)) (fun s j _=>s++[nH m (pZ (ip b)) j]) (fun j s=>s=(List.range j).map (nH m (pZ (ip b)))) (fun s=>some s)
    (fun n s j hj hs=>by
     rw [List.length_range] at hj;have hck:ck ((j:Int)+1)=some ((j:Int)+1):=eN (by omega) (by omega);have hjlt:(j:Int) < (((mD m).length+1:Nat):Int):=by omega
     have hp:cJ (0≤m.1∧m.1≤5)=some ():=eM ⟨by show 0≤mC m;omega,c5⟩
     have ht:List.take (Int.toNat m.1) (kN (Nl m (pZ (ip b)) j))=nH m (pZ (ip b)) j:=by
      rw [EU (by show 0≤mC m;omega) c5];unfold nH;refine List.map_congr_left fun c hc=>?_;have:=List.mem_range.1 hc;exact JR v (by omega) (by omega) (by show _ < mC m;omega)
     have hl:(nH m (pZ (ip b)) j).length≤5:=by unfold nH;rw [List.length_map,List.length_range];omega
     have hsl:s.length=j:=by rw [hs,List.length_map,List.length_range]
     have hcl:gI k (nH m (pZ (ip b)) j)=some (nH m (pZ (ip b)) j):=by
      unfold gI;rw [eM (by show _≤_;omega),bs]
     have hok:cJ (cu (List.length s+List.length [nH m (pZ (ip b)) j]))=some ():=eM (by simp [cu];omega);refine⟨?_,?_⟩
     ·simp only [dP,hjlt,if_true,G5 (F:=Nl m (pZ (ip b))) (show j < 7 by omega),bs,hp,ht,hcl,hok,hck]
     ·rw [hs,List.range_succ,List.map_append];rfl)
    (fun n s hs=>by
     rw [List.length_range];unfold dP;rw [if_neg (Int.lt_irrefl _)]) (n:=k) (s0:=[]) (by rw [List.length_range];omega) rfl
   rw [show dP k m (cr (Nl m (pZ (ip b)))) (((mD m).length+1:Nat):Int) k ([],0)=_ from key.1,bs,key.2,List.length_range]
   have hcs:(List.range ((mD m).length+1)).map (nH m (pZ (ip b)))=fK m fun c=>decide (c∈b):=by
    unfold fK;refine List.map_congr_left fun n hn=>?_;unfold nH;refine List.map_congr_left fun c hc=>?_
    have hage:∀(n:Nat) (c:Int),0≤c→c < mC m→np m (pZ (ip b)) n c=np m (fun c=>decide (c∈b)) n c:=by
     intro n
     induction n with
     |zero=>intro c h0 h1;unfold np;rw [hB.2 c h0]
     |succ n ih=>
      intro c h0 h1;unfold np;cases e:DU m n c with
      |none=>simp only [];rw [ih c h0 h1]
      |some l=>
       have hb:=(xc v e).2
       have:(l.any fun x=>decide (mW m≤np m (pZ (ip b)) n x))=l.any fun x=>decide (mW m≤np m (fun c=>decide (c∈b)) n x):=by
        rw [Bool.eq_iff_iff];simp only [List.any_eq_true,decide_eq_true_eq];constructor
        ·rintro⟨x,hx,h⟩;exact⟨x,hx,by rw [←ih x (hb x hx).1 (hb x hx).2];exact h⟩
        ·rintro⟨x,hx,h⟩;exact⟨x,hx,by rw [ih x (hb x hx).1 (hb x hx).2];exact h⟩
       simp only [];rw [ih c h0 h1,this]
    have:=List.mem_range.1 hc;exact hage n c (by omega) (by omega)
   rw [hcs]
  ·simp only [hc,hg,not_true_eq_false,not_false_eq_true,if_false,if_true,BR]
 ·
  simp only [hc,not_false_eq_true,if_true,BR]
end Go.Proofs.YtkncjjdpjaapaaaGreat
set_option linter.unusedVariables false
set_option linter.unusedSimpArgs false
namespace Go.Proofs.YtkncjjdpjaapaaaGreat
open K Go Go.Proofs
theorem Lo.mono{l:bR}{m n:Int}(h:Lo l m)(hn:m≤n):Lo l n:=⟨h.1,Int.le_trans h.2 hn⟩
theorem RY{α:Type}{l:List α}{x:α}{n:Nat}(h:l.length≤n)(hn:n≤1000000):cu (List.length l+List.length [x]):=by
 show List.length l+List.length [x]≤4294967296;simp only [List.length_cons,List.length_nil];omega
theorem An{k:Nat}(hk:50≤k){l:bR}{m:Int}{n:Nat}(hl:Lo l m)(hm:0≤m∧m≤1000)(hn:n≤8):W (gd k l (n:Int)) fun r=>Lo r.2 (m+10)∧r.1.length=n∧(∀x∈r.1,0≤x∧x < (n:Int))∧r.1.Nodup:=by
 unfold gd;refine W.bind (R:=fun r=>Lo (r.2.1,r.2.2.1,r.2.2.2) (m+10)∧r.1.length=n∧(∀x∈r.1,0≤x∧x < (n:Int))∧r.1.Nodup) ?_ fun r h=>W.ret h
 refine W.loop (f:=dG k (n:Int)) (fun q y=>∃j:Nat,y.2.2.2.2=(j:Int)∧j≤n∧q=n - j∧Lo (y.1,y.2.1,y.2.2.1) (m+j)∧y.2.2.2.1.length=j∧(∀x∈y.2.2.2.1,0≤x∧x < (j:Int))∧y.2.2.2.1.Nodup) ?_ n k _ (by omega)
  ⟨0,rfl,by omega,by omega,by simpa using hl,rfl,by simp,by simp⟩
 rintro aL q ⟨nums,d,s,o,y⟩ ⟨j,hj,hle,hq,hlo,hlen,hx,hnd⟩ ih;simp only at hj hlo hlen hx hnd;subst hj;unfold dG;dsimp only;refine W.ite (fun hlt=>?_) (fun hge=>W.ret ⟨hlo.mono (by omega),by show o.length=n;omega,fun x hx'=>by have:=hx x hx';omega,hnd⟩);obtain⟨r5,e5,a5,b5,c5⟩:=mm (k:=k) (n:=(j:Int)) hlo (by omega) (by omega);have b5:=b5 (by omega);have ho:(o++[(j:Int)]).length=j+1:=by simp [hlen]
 have hr5:r5.1.toNat < (o++[(j:Int)]).length:=by omega
 have hjl:j < (o++[(j:Int)]).length:=by omega
 have hgj:(o++[(j:Int)])[j]=(j:Int):=by
  rw [List.getElem_append_right (by omega)];simp [hlen]
 rw [e5,bs,eM (RY (n:=8) (by omega) (by omega)),bs,wP a5 hr5,bs,ge (by omega),bs];have hgs:aX (List.set (o++[(j:Int)]) (Int.toNat (j:Int)) (o++[(j:Int)])[r5.1.toNat]) r5.1=some ((List.set (o++[(j:Int)]) (Int.toNat (j:Int)) (o++[(j:Int)])[r5.1.toNat])[r5.1.toNat]'(by rw [List.length_set];exact hr5)):=wP a5 (by rw [List.length_set];exact hr5);rw [hgs,bs,eN (by omega) (by omega),bs]
 have hp:(List.set (List.set (o++[(j:Int)]) (Int.toNat (j:Int)) (o++[(j:Int)])[r5.1.toNat]) (Int.toNat r5.1) (j:Int)).Perm (o++[(j:Int)]):=by
  have:= @List.set_set_perm Int (o++[(j:Int)]) j r5.1.toNat hjl hr5;rw [hgj] at this;exact this
 refine ih (q - 1) (_,_,_,_,(j:Int)+1) (by omega) ⟨j+1,by show(j:Int)+1=((j+1:Nat):Int);omega,by omega,by omega,c5.mono (by omega),by simp [hlen],fun x hx'=>?_,hp.nodup_iff.2 ?_⟩
 ·rcases List.mem_append.1 (hp.mem_iff.1 hx') with h |h
  ·have:=hx x h;omega
  ·rw [List.mem_singleton] at h;omega
 ·rw [List.nodup_append];exact⟨hnd,by simp,fun a ha b hb=>by rw [List.mem_singleton] at hb;subst hb;have:=hx a ha;omega⟩
theorem GU{out:List (List Int)}{i:Nat}{x:Int}(h:i < out.length):(out.set i (out[i]++[x])).flatten.Perm (out.flatten++[x]):=by
 have e1:out=out.take i++out[i]::out.drop (i+1):=by rw [←List.drop_eq_getElem_cons h,List.take_append_drop]
 have e2:out.set i (out[i]++[x])=out.take i++(out[i]++[x])::out.drop (i+1):=List.set_eq_take_append_cons_drop.trans (if_pos h);rw [e2]
 have e3:out.flatten=(out.take i).flatten++(out[i]++(out.drop (i+1)).flatten):=by
  conv=>lhs;rw [e1]
  rw [List.flatten_append,List.flatten_cons]
 rw [e3,List.flatten_append,List.flatten_cons]
 have:((out.take i).flatten++((out[i]++[x])++(out.drop (i+1)).flatten)).Perm ((out.take i).flatten++(out[i]++((out.drop (i+1)).flatten++[x]))):=by
  refine List.Perm.append_left _ ?_;rw [List.append_assoc];exact List.Perm.append_left _ (List.perm_append_comm)
 refine this.trans ?_;simp
structure Rl(C:Int)(r:List (List Int)):Prop where
 r3:r.length≤3
 x5:∀l∈r,∀x∈l,0≤x∧x < C
 nd:r.flatten.Nodup
theorem Rl.l5{C:Int}(hC:0≤C∧C≤5){r:List (List Int)}(h:Rl C r):∀l∈r,l.length≤5:=fun l hl=>by
 have:=ry C.toNat l (tN h.nd hl) fun x hx=>by have:=h.x5 l hl x hx;omega
 omega
theorem Fh{k:Nat}(hk:50≤k){l:bR}{m:Int}{n:Nat}(hl:Lo l m)(hm:0≤m∧m≤900)(hn:n≤5):
 W (jJ k l (n:Int)) fun r=>Lo r.2 (m+30)∧Rl (n:Int) r.1:=by
 unfold jJ
 refine W.bind (BA (l:=(l.1,l.2.1,l.2.2)) hl (by omega) (by omega) (by omega) (by omega)) fun r1 h1=>?_
 refine W.chk ⟨by omega,by show _≤_;omega⟩ ?_
 refine W.bind (An hk (l:=(r1.2.1,r1.2.2.1,r1.2.2.2)) (m:=m+1) (n:=n) h1.2.2 (by omega) (by omega)) fun r4 h4=>?_
 obtain⟨lo4,len4,rng4,nd4⟩:=h4
 refine W.bind (R:=fun x=>Lo (x.1,x.2.1,x.2.2.1) (m+30)∧Rl (n:Int) x.2.2.2) ?_ fun x hx=>W.ret hx
 refine W.loop (f:=eT k r4) (fun q y=>∃j:Nat,y.2.2.2.1=(j:Int)∧j≤n∧q=n - j∧Lo (y.1,y.2.1,y.2.2.1) (m+11+2 * j)∧y.2.2.2.2.length=r1.1.toNat∧(∀x∈y.2.2.2.2.flatten,x∈r4.1.take j)∧y.2.2.2.2.flatten.Nodup) ?_ n k _ (by omega)
  ⟨0,rfl,by omega,by omega,lo4.mono (by omega),by simp,by simp,by simp⟩
 rintro aL q ⟨nums,d,s,y,out⟩ ⟨j,hj,hle,hq,hlo,hlen,hx,hnd⟩ ih
 simp only at hj hlo hlen hx hnd
 subst hj
 unfold eT
 dsimp only
 refine W.ite (fun hlt=>?_) (fun hge=>W.ret ⟨hlo.mono (by omega),by show out.length≤3;omega,fun l hl x hxx=>rng4 x (List.mem_of_mem_take (hx x (List.mem_flatten.2 ⟨l,hl,hxx⟩))),hnd⟩)
 have hj:j < r4.1.length:=by omega
 have hsub:∀x∈r4.1.take j,x∈r4.1.take (j+1):=fun x hh=>by rw [List.take_add_one];exact List.mem_append_left _ hh
 refine W.bind (R:=fun x=>Lo (x.1,x.2.1,x.2.2.1) (m+11+2 * j+2)∧x.2.2.2.length=r1.1.toNat∧(∀z∈x.2.2.2.flatten,z∈r4.1.take (j+1))∧x.2.2.2.flatten.Nodup) ?_ fun x9 h9=>?_
 ·
  refine W.bind (wx (l:=(nums,d,s)) hlo (by omega) (by omega) (by omega)) fun r11 h11=>?_;refine W.ite (fun _=>W.ret ⟨h11.mono (by omega),hlen,fun z hz=>hsub z (hx z hz),hnd⟩) (fun _=>?_);refine W.ck (by omega) (by omega) ?_;refine W.bind (mm (l:=(r11.2.1,r11.2.2.1,r11.2.2.2)) h11 (by omega) (by omega)) fun r13 h13=>?_;have b13:=h13.2.1 (by omega);have hi:r13.1.toNat < out.length:=by omega
  rw [wP h13.1 hi,bs,ge hj,bs]
  have hxj:r4.1[j]∉out.flatten:=fun hin=>by
   have:=hx _ hin;obtain⟨i,hi',e⟩:=List.getElem_of_mem this;rw [List.length_take] at hi';rw [List.getElem_take] at e;have:=(List.getElem_inj nd4).1 e;omega
  have hlen2:(out[r13.1.toNat]).length≤5:=by
   have:=ry n _ (tN hnd (List.getElem_mem hi)) fun x hxx=>rng4 x (List.mem_of_mem_take (hx x (List.mem_flatten.2 ⟨_,List.getElem_mem hi,hxx⟩)));omega
  rw [eM (by simp [cu];omega),bs];have hp:=GU (x:=r4.1[j]) hi;refine W.ret ⟨h13.2.2.mono (by omega),by show(List.set _ _ _).length=_;rw [List.length_set];exact hlen,fun z hz=>?_,hp.nodup_iff.2 ?_⟩
  ·rcases List.mem_append.1 (hp.mem_iff.1 hz) with h |h
   ·exact hsub z (hx z h)
   ·rw [List.mem_singleton.1 h,List.take_add_one,List.getElem?_eq_getElem hj];exact List.mem_append_right _ (by simp)
  ·rw [List.nodup_append];exact⟨hnd,by simp,fun a ha b hb e=>by rw [List.mem_singleton.1 hb] at e;exact hxj (e▸ha)⟩
 ·
  refine W.ck (by omega) (by omega) ?_;exact ih (q - 1) (_,_,_,(j:Int)+1,_) (by omega) ⟨j+1,by show(j:Int)+1=((j+1:Nat):Int);omega,by omega,by omega,h9.1.mono (by omega),h9.2⟩
end Go.Proofs.YtkncjjdpjaapaaaGreat
set_option linter.unusedVariables false
set_option linter.unusedSimpArgs false
namespace Go.Proofs.YtkncjjdpjaapaaaGreat
open K Go Go.Proofs
theorem Kp{c w s h:Int}{ds:List (List (List Int))}(hc:1≤c∧c≤5)(hw:0≤w∧w≤3)(hs:0≤s∧s≤3)(hh:1≤h∧h≤3)(d1:1≤ds.length)(d6:ds.length≤6)(hr:∀r∈ds,Rl c r):Vd (c,w,s,h,ds,[]):=
 ⟨hc.1,hc.2,hw.1,hw.2,hs.1,hs.2,hh.1,hh.2,d1,d6,fun r h=>(hr r h).r3,fun r h=>(hr r h).l5 ⟨by omega,hc.2⟩,fun r h=>(hr r h).x5,fun r h=>(hr r h).nd,by simp [mG],fun g hg=>by cases hg⟩
theorem AI{k:Nat}{l:List Int}(h:l.length≤1000000):iS k l=some l:=by
 unfold iS;rw [eM (RZ (by simp only [List.length_nil];omega)),bs];rfl
theorem yS{k:Nat}{l:List (List Int)}(hk:l.length < k)(h1:l.length≤1000000)(h2:∀x∈l,x.length≤1000000):gR k l=some l:=by
 unfold gR
 have key:=nV (T:=List (List Int)×Int) (f:=c8 k l) l (fun(s:List (List Int)) j=>(s,j)) (fun s j x=>s++[x]) (fun j s=>s=l.take j) (fun s=>some s)
  (fun n s j hj hs=>by
   have hck:ck ((j:Int)+1)=some ((j:Int)+1):=eN (by omega) (by omega);have hl:s.length=j:=by rw [hs,List.length_take];omega
   have hok:cJ (cu (List.length s+List.length [l[j]]))=some ():=eM (by simp [cu];omega);refine⟨?_,?_⟩
   ·simp only [c8,Int.ofNat_lt,hj,if_true,ge hj,bs,AI (h2 _ (List.getElem_mem hj)),hok,hck]
   ·rw [hs,List.take_add_one,List.getElem?_eq_getElem hj];rfl)
  (fun n s hs=>by
   unfold c8;rw [if_neg (Int.lt_irrefl _)]) (n:=k) (s0:=[]) hk (by simp)
 rw [show c8 k l k ([],0)=_ from key.1,bs,key.2,List.take_length]
theorem Am{k:Nat}(hk:50≤k){l:bR}{m:Int}{cs ds:Int}(hl:Lo l m)(hm:0≤m∧m≤400)(hc:1≤cs∧cs≤5)(hd:1≤ds∧ds≤6):
 W (iu k l cs ds) fun r=>Lo r.2 (m+250)∧Vd r.1∧mG r.1=[]∧mC r.1≤cs∧((mD r.1).length:Int)≤ds:=by
 unfold iu
 refine W.bind (BA (l:=(l.1,l.2.1,l.2.2)) hl (by omega) (by omega) (by omega) (by omega)) fun r2 h2=>?_
 refine W.bind (mm (l:=(r2.2.1,r2.2.2.1,r2.2.2.2)) h2.2.2 (by omega) (by omega)) fun r3 h3=>?_
 have b3:=h3.2.1 (by omega)
 refine W.bind (FA (l:=(r3.2.1,r3.2.2.1,r3.2.2.2)) h3.2.2 (by omega) (by simp) (by simp)) fun r4 h4=>?_
 refine W.bind (mm (l:=(r4.2.1,r4.2.2.1,r4.2.2.2)) h4.2 (by omega) (by omega)) fun r5 h5=>?_
 have b5:=h5.2.1 (by omega)
 refine W.bind (FA (l:=(r5.2.1,r5.2.2.1,r5.2.2.2)) h5.2.2 (by omega) (by simp) (by simp)) fun r6 h6=>?_
 refine W.bind (BA (l:=(r6.2.1,r6.2.2.1,r6.2.2.2)) h6.2 (by omega) (by omega) (by omega) (by omega)) fun r7 h7=>?_
 refine W.bind (FA (l:=(r7.2.1,r7.2.2.1,r7.2.2.2)) h7.2.2 (by omega) (by simp) (by simp)) fun r8 h8=>?_
 have w4:0≤r4.1∧r4.1≤3:=by
  have:=h4.1;simp only [List.mem_cons,List.not_mem_nil,or_false] at this;omega
 have w6:0≤r6.1∧r6.1≤3:=by
  have:=h6.1;simp only [List.mem_cons,List.not_mem_nil,or_false] at this;omega
 have w8:1≤r8.1∧r8.1≤3:=by
  have:=h8.1;simp only [List.mem_cons,List.not_mem_nil,or_false] at this;omega
 have lo8:=h8.2
 refine W.bind (R:=fun x=>Lo (x.2.1,x.2.2.1,x.2.2.2) (m+250)∧(1≤x.1.length∧(x.1.length:Int)≤ds)∧∀r∈x.1,Rl r2.1 r) ?_ fun x hx=>W.ret ⟨hx.1,Kp (by omega) w4 w6 w8 (by omega) (by omega) hx.2.2,rfl,h2.2.1,hx.2.1.2⟩
 refine W.bind (BA (l:=(r8.2.1,r8.2.2.1,r8.2.2.2)) lo8 (by omega) (by omega) (by omega) (by omega)) fun r12 h12=>?_
 refine W.loop (f:=eU k r2) (fun q y=>∃j:Nat,y.2.2.2.1.length=j∧y.2.2.2.2=r12.1 - j∧(j:Int)≤r12.1∧q=r12.1.toNat - j∧Lo (y.1,y.2.1,y.2.2.1) (m+10+33 * j)∧∀r∈y.2.2.2.1,Rl r2.1 r) ?_ r12.1.toNat k _ (by omega)
  ⟨0,rfl,by simp,by omega,by omega,h12.2.2.mono (by omega),by simp⟩
 rintro aL q ⟨nums,d,s,out,y⟩ ⟨j,hj,hy,hle,hq,hlo,hr⟩ ih
 simp only at hj hy hlo hr
 subst hy
 unfold eU
 dsimp only
 refine W.ite (fun hlt=>?_) (fun hge=>W.ret ⟨hlo.mono (by omega),⟨by show 1≤out.length;omega,by show(out.length:Int)≤ds;omega⟩,hr⟩)
 refine W.bind (R:=fun x=>Lo (x.1,x.2.1,x.2.2.1) (m+10+33 * j+33)∧x.2.2.2.length=j+1∧∀r∈x.2.2.2,Rl r2.1 r) ?_ fun x15 h15=>?_
 ·
  refine W.bind (R:=fun x=>Lo (x.1,x.2.1,x.2.2.1) (m+10+33 * j+1)∧(x.2.2.2=true→0 < out.length)) ?_ fun x17 h17=>?_
  ·refine W.ite (fun h0=>?_) (fun h0=>W.ret ⟨hlo.mono (by omega),fun h=>by cases h⟩);exact W.bind (wx (l:=(nums,d,s)) hlo (by omega) (by omega) (by omega)) fun r19 h19=>W.ret ⟨h19,fun _=>by omega⟩
  ·refine W.ite (fun ht=>?_) (fun ht=>?_)
   ·have h0:=h17.2 ht;refine W.ck (by omega) (by omega) ?_;have hi:((out.length:Int) - 1)=((out.length - 1:Nat):Int):=by omega
    have hlt':out.length - 1 < out.length:=by omega
    rw [hi,ge hlt',bs];have hrl:=hr _ (List.getElem_mem hlt');have hl5:=hrl.l5 (by omega);have hr3:=hrl.r3;rw [yS (by omega) (by omega) (fun x hx=>by have:=hl5 x hx;omega),bs,eM (by simp [cu];omega),bs];refine W.ret ⟨h17.1.mono (by omega),by simp [hj],fun r hrr=>?_⟩;rcases List.mem_append.1 hrr with h |h
    ·exact hr r h
    ·rw [List.mem_singleton.1 h];exact hrl
   ·have hc2:((r2.1.toNat:Nat):Int)=r2.1:=by omega
    have:=Fh hk (l:=(x17.1,x17.2.1,x17.2.2.1)) (m:=m+10+33 * j+1) (n:=r2.1.toNat) h17.1 (by omega) (by omega);rw [hc2] at this;refine W.bind this fun r26 h26=>?_;rw [eM (by simp [cu];omega),bs];refine W.ret ⟨h26.1.mono (by omega),by simp [hj],fun r hrr=>?_⟩;rcases List.mem_append.1 hrr with h |h
    ·exact hr r h
    ·rw [List.mem_singleton.1 h];exact h26.2
 ·
  refine W.ck (by omega) (by omega) ?_;exact ih (q - 1) (_,_,_,_,_) (by omega) ⟨j+1,h15.2.1,by show r12.1 - j - 1=r12.1 - ((j+1:Nat):Int);omega,by omega,by omega,h15.1.mono (by omega),h15.2.2⟩
theorem ue{k:Nat}(hk:50≤k){l:bR}{m:Int}{c:Int}(hl:Lo l m)(hm:0≤m∧m≤900)(hc:1≤c∧c≤5):
 W (iv k l c) fun r=>Lo r.2 (m+10)∧Bg c r.1:=by
 unfold iv
 refine W.bind (R:=fun x=>Lo (x.2.1,x.2.2.1,x.2.2.2) (m+10)∧Bg c x.1) ?_ fun x hx=>W.ret hx
 refine W.loop (f:=eV k c) (fun q y=>∃j:Nat,y.2.2.2.2=(j:Int)∧(j:Int)≤c∧q=c.toNat - j∧Lo (y.1,y.2.1,y.2.2.1) (m+j)∧y.2.2.2.1.length≤j∧(∀x∈y.2.2.2.1,0≤x∧x < (j:Int))∧y.2.2.2.1.Pairwise (· < ·)) ?_ c.toNat k _ (by omega)
  ⟨0,rfl,by omega,by omega,by simpa using hl,by simp,by simp,by simp⟩
 rintro aL q ⟨nums,d,s,o,y⟩ ⟨j,hj,hle,hq,hlo,hlen,hx,hp⟩ ih
 simp only at hj hlo hlen hx hp
 subst hj
 unfold eV
 dsimp only
 refine W.ite (fun hlt=>?_) (fun hge=>W.ret ⟨hlo.mono (by omega),fun x hxx=>by have:=hx x hxx;omega,hp⟩)
 refine W.bind (R:=fun x=>Lo (x.1,x.2.1,x.2.2.1) (m+j+1)∧x.2.2.2.length≤j+1∧(∀z∈x.2.2.2,0≤z∧z < ((j+1:Nat):Int))∧x.2.2.2.Pairwise (· < ·)) ?_ fun x5 h5=>?_
 ·
  refine W.bind (wx (l:=(nums,d,s)) hlo (by omega) (by omega) (by omega)) fun r7 h7=>?_;refine W.ite (fun ht=>?_) (fun ht=>W.ret ⟨h7,by show o.length≤j+1;omega,fun z hz=>by have:=hx z hz;omega,hp⟩);rw [eM (by simp [cu];omega),bs];refine W.ret ⟨h7,by simp;omega,fun z hz=>?_,?_⟩
  ·rcases List.mem_append.1 hz with h |h
   ·have:=hx z h;omega
   ·rw [List.mem_singleton.1 h];omega
  ·show List.Pairwise (· < ·) (o++[(j:Int)]);rw [List.pairwise_append];exact⟨hp,by simp,fun a ha b hb=>by rw [List.mem_singleton.1 hb];exact(hx a ha).2⟩
 ·
  refine W.ck (by omega) (by omega) ?_;exact ih (q - 1) (_,_,_,_,_) (by omega) ⟨j+1,by show(j:Int)+1=((j+1:Nat):Int);omega,by omega,by omega,h5.1.mono (by omega),h5.2⟩
theorem Bg.len{C:Int}(hC:0≤C∧C≤5){b:List Int}(h:Bg C b):b.length≤5:=by
 have:=ry C.toNat b (h.asc.imp fun hab e=>by omega) fun x hx=>by have:=h.rng x hx;omega
 omega
theorem Fa{m:ai}{B:Int→Bool}{n:Nat}(h:0≤mC m):((nH m B n).length:Int)=mC m:=by
 unfold nH;rw [List.length_map,List.length_range];omega
theorem jq{m:ai}{B:Int→Bool}:(fK m B).length=(mD m).length+1:=by
 unfold fK;rw [List.length_map,List.length_range]
theorem xe{α ε:Type}:∀(l:List α) (j:Nat),fQ (fun(_:Unit) _ _=>(.ok ():Except ε Unit)) j l ()= .ok ()
 |[],_=>rfl
 |_::l,j=>xe l (j+1)
theorem EJ{k:Nat}{m:ai}{B:Int→Bool}(v:Vd m)(hk:10≤k):jl k m (fK m B)=some true:=by
 have c1:=v.c1;have d6:=v.d6;unfold jl;have hd:ck ((m.2.2.2.2.1.length:Int)+1)=some (((mD m).length:Int)+1):=eN (by show _≤((mD m).length:Int)+1;omega) (by show((mD m).length:Int)+1≤_;omega);rw [hd,bs,if_neg (fun hn=>hn (by rw [jq];omega))]
 have key:=nh (T:=Int) (f:=eG k m (fK m B)) (fK m B) (fun(_:Unit) j=>j) (fun _ _ _=>(.ok ():Except Bool Unit)) (fun _ _=>True) (fun r=>some r)
  (fun n s j hj _=>by
   have hck:ck ((j:Int)+1)=some ((j:Int)+1):=eN (by rw [jq] at hj;omega) (by rw [jq] at hj;omega);refine⟨?_,fun _ _=>trivial⟩;have hj2:j≤(mD m).length:=by rw [jq] at hj;omega
   simp only [eG,Int.ofNat_lt,hj,if_true,vL hj2,bs,hck];rw [if_neg (fun hn=>hn (Fa (by omega)))])
  (fun n s _=>by simp [eG]) (n:=k) (s0:=()) (by rw [jq];omega) trivial
 rw [show eG k m (fK m B) k 0=_ from key];rw [xe,pV]
end Go.Proofs.YtkncjjdpjaapaaaGreat
