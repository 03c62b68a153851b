import Derived.Test.YtlmopgkkijhllaaGreatVBF2
set_option linter.unusedVariables false
set_option linter.unusedSimpArgs false
namespace Go.Proofs.YtlmopgkkijhllaaGreat
open K Go Go.Proofs
def W{α:Type}(x:Option α)(Q:α→Prop):Prop:=∃a,x=some a∧Q a
namespace W
variable {α β ε:Type}{Q:β→Prop}
theorem ret{a:β}(h:Q a):W (some a) Q:=⟨a,rfl,h⟩
theorem mono{x:Option β}{R:β→Prop}(h:W x R)(hq:∀a,R a→Q a):W x Q:=let ⟨a,e,r⟩:=h;⟨a,e,hq a r⟩
theorem bind{x:Option α}{f:α→Option β}{R:α→Prop}(h:W x R)(hf:∀a,R a→W (f a) Q):W (x.bind f) Q:=by
 obtain⟨a,rfl,r⟩:=h;exact hf a r
theorem ck{n:Int}{f:Int→Option β}(h1: -9223372036854775808≤n)(h2:n≤9223372036854775807)(hf:W (f n) Q):W ((K.ck n).bind f) Q:=by
 rw [K.ck,if_pos ⟨h1,h2⟩];exact hf
theorem chk{p:Prop}[Decidable p]{f:Unit→Option β}(h:p)(hf:W (f ()) Q):W ((cF p).bind f) Q:=by
 rw [cF,if_pos h];exact hf
theorem at_{l:List α}{i:Int}{f:α→Option β}(h0:0≤i)(h1:i < l.length)(hf:∀x,l[i.toNat]? =some x→W (f x) Q):W ((aO l i).bind f) Q:=by
 have:i.toNat < l.length:=by omega
 rw [aO,if_pos h0,List.getElem?_eq_getElem this];exact hf _ (List.getElem?_eq_getElem this)
theorem ite{p:Prop}[Decidable p]{a b:Option β}(h1:p→W a Q)(h2:¬p→W b Q):W (if p then a else b) Q:=by
 split
 ·exact h1 ‹_›
 ·exact h2 ‹_›
theorem iteB{p:Prop}[Decidable p]{a b:Option α}{f:α→Option β}(h1:p→W (a.bind f) Q)(h2:¬p→W (b.bind f) Q):W ((if p then a else b).bind f) Q:=by
 split
 ·exact h1 ‹_›
 ·exact h2 ‹_›
theorem bEE{x:Option (Except ε α)}{g:ε→Option β}{f:α→Option β}{R:Except ε α→Prop}(h:W x R)(hg:∀e,R (.error e)→W (g e) Q)(hf:∀a,R (.ok a)→W (f a) Q):W (K.bE x g f) Q:=by
 obtain⟨a,rfl,r⟩:=h;cases a with
 |error e=>exact hg e r
 |ok a=>exact hf a r
theorem loop{T:Type}{f:Nat→T→Option β}(I:Nat→T→Prop)(step:∀aF m y,I m y→(∀m' y',m' < m→I m' y'→W (f aF y') Q)→W (f (aF+1) y) Q):∀m aF y,m < aF→I m y→W (f aF y) Q:=by
 intro m
 induction m using Nat.strongRecOn with
 |_ m ih=>
  intro aF y hm hI;cases aF with
  |zero=>omega
  |succ aF=>exact step aF m y hI fun m' y' h hI'=>ih m' h aF y' (by omega) hI'
end W
theorem wrap_u64(n:Int):0≤IntKind.u64.wrap n∧IntKind.u64.wrap n < 18446744073709551616:=by
 have h1:=Int.emod_nonneg n (show(18446744073709551616:Int)≠0 by decide);have h2:=Int.emod_lt_of_pos n (show(0:Int) < 18446744073709551616 by decide)
 have e:IntKind.u64.wrap n=n % 18446744073709551616:=by
  simp [IntKind.wrap,IntKind.signed,IntKind.bits]
 rw [e];exact⟨h1,h2⟩
theorem yD{n:Int}(h0:0≤n)(h1:n < 18446744073709551616):IntKind.u64.wrap n=n:=by
 have e:IntKind.u64.wrap n=n % 18446744073709551616:=by
  simp [IntKind.wrap,IntKind.signed,IntKind.bits]
 rw [e];exact Int.emod_eq_of_lt h0 h1
def Lo(l:bP)(m:Int):Prop:=0≤l.2.1∧l.2.1≤m
theorem KB{k:Nat}{l:bP}{m:Int}(h:Lo l m)(hm:m≤1000000000):W (ic k l) fun r=>0≤r.1∧r.1 < 72057594037927936∧Lo r.2 (m+1):=by
 obtain⟨h0,h1⟩:=h;unfold ic
 have fin:∀x:Int,W ((K.ck (l.2.1+1)).bind fun x4=>some (gf .u64 (ql .u64 (IntKind.u64.wrap ((ql .u64 x (gf .u64 x (29:Int))) * (2685821657736338717:Int))) (gf .u64 (IntKind.u64.wrap ((ql .u64 x (gf .u64 x (29:Int))) * (2685821657736338717:Int))) (32:Int))) (8:Int),(l.1,x4,x)))
  fun r=>0≤r.1∧r.1 < 72057594037927936∧Lo r.2 (m+1):=fun x=>by
  refine W.ck (by omega) (by omega) (W.ret ?_)
  generalize IntKind.u64.wrap ((ql .u64 x (gf .u64 x (29:Int))) * (2685821657736338717:Int))=y
  have hx:0≤ql .u64 y (gf .u64 y 32)∧ql .u64 y (gf .u64 y 32) < 18446744073709551616:=wrap_u64 _
  have e:gf .u64 (ql .u64 y (gf .u64 y 32)) 8=(ql .u64 y (gf .u64 y 32)) / 256:=by
   unfold gf;rw [Int.fdiv_eq_ediv_of_nonneg _ (by decide)];rfl
  refine⟨?_,?_,?_,?_⟩
  ·
   show 0≤gf .u64 (ql .u64 y (gf .u64 y 32)) 8;rw [e];omega
  ·
   show gf .u64 (ql .u64 y (gf .u64 y 32)) 8 < _;rw [e];omega
  ·
   show 0≤l.2.1+1;omega
  ·
   show l.2.1+1≤m+1;omega
 refine W.iteB (fun hlt=>?_) (fun _=>fin _);cases hg:aO l.1 l.2.1 with
 |some v=>exact fin _
 |none=>
  exfalso;have:l.2.1.toNat < l.1.length:=by omega
  rw [aO,if_pos h0,List.getElem?_eq_getElem this] at hg;cases hg
theorem jC{k:Nat}{l:bP}{m n:Int}(h:Lo l m)(hm:m≤1000000000)(hn:n≤1000000000):W (cf k l n) fun r=>0≤r.1∧(0≤n→r.1≤n)∧Lo r.2 (m+1):=by
 unfold cf;refine W.ite (fun h1=>W.ret ⟨Int.le_refl 0,fun h=>h,h.1,by show l.2.1≤m+1;have:=h.2;omega⟩) (fun h1=>?_);refine W.bind (KB h hm) fun r hr=>?_;refine W.ck (by omega) (by omega) ?_;have e:IntKind.u64.wrap (n+1)=n+1:=yD (by omega) (by omega);refine W.chk (by rw [e];omega) ?_;rw [e];have h2:Int.tmod r.1 (n+1)=r.1 % (n+1):=Int.tmod_eq_emod_of_nonneg hr.1;have h3:=Int.emod_nonneg r.1 (show n+1≠0 by omega);have h4:=Int.emod_lt_of_pos r.1 (show 0 < n+1 by omega);rw [h2];refine W.ck (by omega) (by omega) (W.ret ⟨h3,fun _=>by show r.1 % (n+1)≤n;omega,hr.2.2⟩)
theorem Dm{k:Nat}{l:bP}{m a b:Int}(h:Lo l m)(hm:m≤1000000000)(ha:0≤a)(hab:a≤b)(hb:b≤1000000):W (fB k l a b) fun r=>a≤r.1∧r.1≤b∧Lo r.2 (m+1):=by
 unfold fB;refine W.ck (by omega) (by omega) (W.bind (jC h hm (by omega)) fun r hr=>?_);have:=hr.2.1 (by omega);refine W.ck (by omega) (by omega) (W.ret ⟨by show a≤a+r.1;omega,by show a+r.1≤b;omega,hr.2.2⟩)
theorem xu{k:Nat}{l:bP}{m a:Int}(h:Lo l m)(hm:m≤1000000000)(ha:0≤a)(hb:a≤1000000):W (eZ k l a) fun r=>Lo r.2 (m+1):=by
 unfold eZ;exact W.ck (by omega) (by omega) (W.bind (jC h hm (by omega)) fun r hr=>W.ret hr.2.2)
theorem G9{k:Nat}{l:bP}{m:Int}{some_:List Int}(h:Lo l m)(hm:m≤1000000000)(h0:0 < some_.length)(h1:some_.length≤1000000):W (gA k l some_) fun r=>r.1∈some_∧Lo r.2 (m+1):=by
 unfold gA;refine W.ck (by omega) (by omega) (W.bind (jC h hm (by omega)) fun r hr=>?_);have:=hr.2.1 (by omega);refine W.at_ hr.1 (by omega) fun x hx=>W.ret ⟨List.mem_of_getElem? hx,hr.2.2⟩
theorem dT{α:Type}{l:List α}{i:Nat}(h:i < l.length):aO l (i:Int)=some l[i]:=by
 rw [aO,if_pos (by omega)];exact List.getElem?_eq_getElem h
section
variable {α β γ ε σ T:Type}
theorem bs{a:α}{f:α→Option β}:(some a).bind f=f a:=by cases h:f a <;> simp [h]
theorem c8{n:Int}(h1: -9223372036854775808≤n)(h2:n≤9223372036854775807):K.ck n=some n:=by rw [K.ck,if_pos ⟨h1,h2⟩]
theorem du{p:Prop}[Decidable p](h:p):cF p=some ():=by rw [cF,if_pos h]
theorem xT{l:List α}{i:Int}(h0:0≤i)(h:i.toNat < l.length):aO l i=some l[i.toNat]:=by rw [aO,if_pos h0];exact List.getElem?_eq_getElem h
theorem ma{a:α}{g:ε→Option β}{f:α→Option β}:K.bE (some (.ok a)) g f=f a:=by cases h:f a <;> simp [K.bE,h]
theorem py{e:ε}{g:ε→Option β}{f:α→Option β}:K.bE (some (.error e)) g f=g e:=by cases h:g e <;> simp [K.bE,h]
theorem rA{q:α}{a:β}{b:α→β}:fN (some q) a b=b q:=by unfold fN;exact Eq.refl _
theorem nq{a:β}{b:α→β}:fN none a b=a:=by unfold fN;exact Eq.refl _
theorem Ui{n:Nat}(h:n≤4294967296):bK n:=h
def uU(g:σ→Nat→α→σ):Nat→List α→σ→σ
 |_,[],s=>s
 |j,x::l,s=>uU g (j+1) l (g s j x)
theorem i8(l:List α)(mk:σ→Int→T)(g:σ→Nat→α→σ)(P:Nat→σ→Prop){f:Nat→T→Option β}(fin:σ→Option β)
 (step:∀n s (j:Nat) (h:j < l.length),P j s→f (n+1) (mk s j)=f n (mk (g s j l[j]) ((j:Int)+1))∧P (j+1) (g s j l[j]))
 (stop:∀n s,P l.length s→f (n+1) (mk s l.length)=fin s) {s0:σ} {n:Nat} (hn:l.length < n) (h0:P 0 s0):f n (mk s0 0)=fin (uU g 0 l s0)∧P l.length (uU g 0 l s0):=by
 have key:∀(m:List α) (pre:List α) (n:Nat) (s:σ),l=pre++m→m.length < n→P pre.length s→f n (mk s pre.length)=fin (uU g pre.length m s)∧P l.length (uU g pre.length m s):=by
  intro m
  induction m with
  |nil=>
   intro pre n s e hn hp;obtain⟨n,rfl⟩:∃n',n=n'+1:=⟨n - 1,by omega⟩;have:l.length=pre.length:=by rw [e];simp
   rw [←this] at hp⊢;exact⟨stop n s hp,hp⟩
  |cons x m ih=>
   intro pre n s e hn hp;simp only [List.length_cons] at hn;obtain⟨n,rfl⟩:∃n',n=n'+1:=⟨n - 1,by omega⟩;have hl:pre.length < l.length:=by rw [e];simp
   have hx:l[pre.length]=x:=by simp [e]
   obtain⟨h1,h2⟩:=step n s pre.length hl hp;rw [hx] at h1 h2;have:=ih (pre++[x]) n (g s pre.length x) (by rw [e];simp) (by omega) (by rw [List.length_append];exact h2);rw [List.length_append] at this;simp only [List.length_cons,List.length_nil,Nat.zero_add] at this;rw [h1];exact this
 have:=key l [] n s0 rfl hn h0
 exact this
def eg(g:σ→Nat→α→Except ε σ):Nat→List α→σ→Except ε σ
 |_,[],s=>.ok s
 |j,x::l,s=>match g s j x with
  | .error e=>.error e
  | .ok s'=>eg g (j+1) l s'
theorem wN(l:List α)(mk:σ→Int→T)(g:σ→Nat→α→Except ε σ)(P:Nat→σ→Prop){f:Nat→T→Option β}(fin:Except ε σ→Option β)
 (step:∀n s (j:Nat) (h:j < l.length),P j s→(∃e,g s j l[j]= .error e∧f (n+1) (mk s j)=fin (.error e))∨(∃s',g s j l[j]= .ok s'∧f (n+1) (mk s j)=f n (mk s' ((j:Int)+1))∧P (j+1) s'))
 (stop:∀n s,P l.length s→f (n+1) (mk s l.length)=fin (.ok s)) {s0:σ} {n:Nat} (hn:l.length < n) (h0:P 0 s0):f n (mk s0 0)=fin (eg g 0 l s0):=by
 have key:∀(m:List α) (pre:List α) (n:Nat) (s:σ),l=pre++m→m.length < n→P pre.length s→f n (mk s pre.length)=fin (eg g pre.length m s):=by
  intro m
  induction m with
  |nil=>
   intro pre n s e hn hp;obtain⟨n,rfl⟩:∃n',n=n'+1:=⟨n - 1,by omega⟩;have:l.length=pre.length:=by rw [e];simp
   rw [←this] at hp⊢;exact stop n s hp
  |cons x m ih=>
   intro pre n s e hn hp;simp only [List.length_cons] at hn;obtain⟨n,rfl⟩:∃n',n=n'+1:=⟨n - 1,by omega⟩;have hl:pre.length < l.length:=by rw [e];simp
   have hx:l[pre.length]=x:=by simp [e]
   rcases step n s pre.length hl hp with⟨e',h1,h2⟩ |⟨s',h1,h2,h3⟩
   ·rw [hx] at h1;rw [h2,eg,h1]
   ·rw [hx] at h1;have:=ih (pre++[x]) n s' (by rw [e];simp) (by omega) (by rw [List.length_append];exact h3);rw [List.length_append] at this;simp only [List.length_cons,List.length_nil,Nat.zero_add] at this;rw [h2,eg,h1];exact this
 exact key l [] n s0 rfl hn h0
end
section
variable {α β ε σ T:Type}
theorem lU(l:List α)(mk:σ→Int→T)(g:σ→Nat→α→Except ε σ)(P:Nat→σ→Prop){f:Nat→T→Option β}(fin:Except ε σ→Option β)
 (step:∀n s (j:Nat) (h:j < l.length),P j s→(f (n+1) (mk s j)=match g s j l[j] with | .error e=>fin (.error e) | .ok s'=>f n (mk s' ((j:Int)+1)))∧∀s',g s j l[j]= .ok s'→P (j+1) s')
 (stop:∀n s,P l.length s→f (n+1) (mk s l.length)=fin (.ok s)) {s0:σ} {n:Nat} (hn:l.length < n) (h0:P 0 s0):f n (mk s0 0)=fin (eg g 0 l s0):=
 wN l mk g P fin (fun n s j h hp=>by
  obtain⟨h1,h2⟩:=step n s j h hp
  cases e:g s j l[j] with
  |error e'=>left;rw [e] at h1;exact⟨e',rfl,h1⟩
  |ok s'=>right;rw [e] at h1;exact⟨s',rfl,h1,h2 s' e⟩) stop hn h0
end
theorem uV{α:Type}(p:α→Bool):∀(l:List α) (j:Nat),eg (fun(_:Unit) j x=>if p x then Except.error (j:Int) else .ok ()) j l ()=match l.findIdx? p with |some i=>.error ((i+j:Nat):Int) |none=>.ok ()
 |[],j=>by simp [eg]
 |x::l,j=>by
  rw [eg,List.findIdx?_cons]
  by_cases h:p x=true
  ·
   simp [h]
  ·
   simp only [h,if_false,Bool.false_eq_true]
   rw [uV p l (j+1)]
   cases l.findIdx? p with
   |none=>rfl
   |some i=>simp only [Option.map_some];congr 2;omega
theorem QZ{k:Nat}{l:List Int}{x:Int}(hk:l.length < k)(hl:l.length≤1000000):W (uQ k l x) fun r=>(0≤r↔x∈l):=by
 unfold uQ
 have key:=W.loop (f:=kP k l x) (Q:=fun r=>match r with | .error e=>0≤e∧x∈l | .ok _=>x∉l)
  (fun m y=>0≤y∧y≤l.length∧m=l.length - y.toNat∧∀j:Nat,(j:Int) < y→l[j]? ≠some x) (fun aF m y hI ih=>by
   obtain⟨h0,h1,hm,hj⟩:=hI;unfold kP;refine W.ite (fun hlt=>W.at_ h0 hlt fun v hv=>W.ite (fun e=>W.ret ⟨h0,?_⟩) (fun e=>W.ck (by omega) (by omega) (ih (m - 1) _ (by omega) ⟨by omega,by omega,by omega,fun j hjy=>?_⟩))) (fun hge=>W.ret ?_)
   ·rw [←e];exact List.mem_of_getElem? hv
   ·by_cases hjy':(j:Int) < y
    ·exact hj j hjy'
    ·have:j=y.toNat:=by omega
     subst this;rw [hv];exact fun h=>e (Option.some.inj h)
   ·intro hx;obtain⟨j,hj'⟩:=List.mem_iff_getElem?.1 hx
    have:j < l.length:=by
     rcases Nat.lt_or_ge j l.length with h |h
     ·exact h
     ·rw [List.getElem?_eq_none h] at hj';cases hj'
    exact hj j (by omega) hj')
 refine W.bEE (key l.length k 0 hk ⟨Int.le_refl 0,by omega,by simp,fun j hj=>by omega⟩) (fun e he=>W.ret ⟨fun _=>he.2,fun _=>he.1⟩) (fun _ ho=>W.ret ⟨fun h=>by omega,fun h=>absurd h ho⟩)
theorem s6{k:Nat}{a b:List Int}(h:a.length < k)(hk:a.length≤1000000):eW k a b=some (decide (a=b)):=by
 unfold eW;by_cases hl:a.length=b.length
 ·rw [if_neg (by simp [hl])]
  have key:=wN (f:=dq k a b) a (fun(_:Unit) j=>j) (fun _ j x=>if x=b[j]?.getD 0 then .ok () else Except.error false) (fun _ _=>True) (fun r=>some r)
   (fun n s j hj _=>by
    have hjb:j < b.length:=by omega
    have hb:b[j]?.getD 0=b[j]:=by simp [List.getElem?_eq_getElem hjb]
    have hck:ck ((j:Int)+1)=some ((j:Int)+1):=c8 (by omega) (by omega);rw [hb];simp only [dq,Int.ofNat_lt,hj,if_true,dT hj,dT hjb,bs];by_cases e:a[j]=b[j] <;> simp [e,hck])
   (fun n s _=>by simp [dq]) (n:=k) (s0:=()) h trivial
  rw [show dq k a b k 0=_ from key]
  have:∀(a:List Int) (j:Nat),a.length+j=b.length→eg (fun(_:Unit) j x=>if x=b[j]?.getD 0 then .ok () else Except.error false) j a ()=if a=b.drop j then .ok () else .error false:=by
   intro a
   induction a with
   |nil=>
    intro j hj;have:b.drop j=[]:=List.drop_eq_nil_of_le (by simp only [List.length_nil] at hj;omega);rw [this];simp [eg]
   |cons x a ih=>
    intro j hj;simp only [List.length_cons] at hj;have hjb:j < b.length:=by omega
    have hd:b.drop j=b[j]::b.drop (j+1):=List.drop_eq_getElem_cons hjb;have hb:b[j]?.getD 0=b[j]:=by simp [List.getElem?_eq_getElem hjb]
    rw [eg,hb,hd];by_cases e:x=b[j]
    ·have h2:(x::a=b[j]::b.drop (j+1))=(a=b.drop (j+1)):=propext ⟨fun h=>(List.cons.inj h).2,fun h=>by rw [h,e]⟩;rw [if_pos e];simp only [h2];exact ih (j+1) (by omega)
    ·have h2:¬(x::a=b[j]::b.drop (j+1)):=fun h=>e (List.cons.inj h).1;rw [if_neg e];simp only [h2,if_false]
  rw [this a 0 (by omega),List.drop_zero];by_cases e:a=b
  ·rw [if_pos e,ma,decide_eq_true e]
  ·rw [if_neg e,py,decide_eq_false e]
 ·rw [if_pos (by omega),decide_eq_false (fun e=>hl (by rw [e]))]
def jx(s:Int):Prop:=0≤s∧s < 256
def dO(s:Int)(i:Nat):Prop:=s.toNat.testBit i=true
instance (s:Int) (i:Nat):Decidable (dO s i):=by unfold dO;infer_instance
theorem tH{x:Nat}(h:x < 256):IntKind.u8.wrap (x:Int)=x:=by
 have e:IntKind.u8.wrap (x:Int)=(x:Int) % 256:=by simp [IntKind.wrap,IntKind.signed,IntKind.bits]
 rw [e];omega
theorem uI{s:Int}(h:jx s):∃n:Nat,n < 256∧s=n:=⟨s.toNat,by have:=h.1;have:=h.2;omega,by have:=h.1;omega⟩
theorem Bf{n:Nat}(h:n < 256):(BitVec.ofInt IntKind.u8.bits (n:Int)).toNat=n:=by
 show(BitVec.ofInt 8 (n:Int)).toNat=n;rw [BitVec.ofInt_natCast,BitVec.toNat_ofNat];exact Nat.mod_eq_of_lt h
theorem HU{n m:Nat}(hn:n < 256)(hm:m < 256):n |||m < 256:=Nat.or_lt_two_pow (n:=8) hn hm
theorem KL{n m:Nat}(hn:n < 256):n &&& m < 256:=Nat.lt_of_le_of_lt Nat.and_le_left hn
theorem On{a b:Int}(ha:jx a)(hb:jx b):jx (Dl .u8 a b)∧∀i,dO (Dl .u8 a b) i↔dO a i∨dO b i:=by
 obtain⟨n,hn,rfl⟩:=uI ha;obtain⟨m,hm,rfl⟩:=uI hb
 have e:Dl .u8 (n:Int) (m:Int)=((n |||m:Nat):Int):=by
  unfold Dl;rw [BitVec.toNat_or,Bf hn,Bf hm];exact tH (HU hn hm)
 rw [e];refine⟨⟨by omega,by have:=HU hn hm;omega⟩,fun i=>?_⟩;simp [dO,Nat.testBit_or]
theorem N3{x:Int}(h0:0≤x)(h8:x < 8):jx (oz .u8 1 x)∧∀i:Nat,dO (oz .u8 1 x) i↔(i:Int)=x:=by
 obtain⟨n,rfl⟩:=Int.eq_ofNat_of_zero_le h0;have hn:n < 8:=by omega
 have e:oz .u8 1 (n:Int)=((2 ^ n:Nat):Int):=by
  unfold oz
  have h1:min (Int.toNat (n:Int)) IntKind.u8.bits=n:=by
   show min n 8=n;omega
  rw [h1,Int.one_mul];have h2:2 ^ n < 256:=Nat.pow_lt_pow_right (by decide) hn;have h3:((2:Int) ^ n)=((2 ^ n:Nat):Int):=by simp
  rw [h3];exact tH h2
 rw [e];have h9:2 ^ n < 256:=Nat.pow_lt_pow_right (by decide) hn;refine⟨⟨Int.natCast_nonneg _,Int.ofNat_lt.2 h9⟩,fun i=>?_⟩;simp only [dO,Int.toNat_natCast,Nat.testBit_two_pow,decide_eq_true_eq];omega
theorem xQ{k:Nat}{s:Int}(hs:jx s){i:Nat}(hi:i < 8):eP k s (i:Int)=some (decide (dO s i)):=by
 obtain⟨n,hn,rfl⟩:=uI hs;unfold eP;rw [cF,if_pos (by omega)];show some _=some _;congr 1
 have e1:gf .u8 (n:Int) (i:Int)=((n >>> i:Nat):Int):=by
  unfold gf
  have h1:min (Int.toNat (i:Int)) IntKind.u8.bits=i:=by
   show min i 8=i;omega
  have h3:((2:Int) ^ i)=((2 ^ i:Nat):Int):=by simp
  rw [h1,h3,Int.fdiv_eq_ediv_of_nonneg _ (Int.natCast_nonneg _),Nat.shiftRight_eq_div_pow];rfl
 have hlt:n >>> i < 256:=Nat.lt_of_le_of_lt (by rw [Nat.shiftRight_eq_div_pow];exact Nat.div_le_self _ _) hn
 have e2:qm .u8 ((n >>> i:Nat):Int) 1=(((n >>> i) &&& 1:Nat):Int):=by
  unfold qm;have h1:(BitVec.ofInt IntKind.u8.bits 1).toNat=1:=rfl;rw [BitVec.toNat_and,Bf hlt,h1];exact tH (KL hlt)
 rw [e1,e2]
 have e3:(((n >>> i) &&& 1:Nat):Int)=1↔dO (n:Int) i:=by
  rw [dO,Int.toNat_natCast,Nat.testBit];have h5:(n >>> i) &&& 1=1 &&& (n >>> i):=Nat.and_comm _ _;rw [h5];have h4:1 &&& (n >>> i) < 2:=Nat.lt_of_le_of_lt Nat.and_le_left (by decide);simp only [bne_iff_ne,ne_eq];omega
 exact decide_eq_decide.2 e3
end Go.Proofs.YtlmopgkkijhllaaGreat
set_option linter.unusedVariables false
set_option linter.unusedSimpArgs false
namespace Go.Proofs.YtlmopgkkijhllaaGreat
open K Go Go.Proofs
abbrev mC(m:ag):Int:=m.1
abbrev mW(m:ag):Int:=m.2.1
abbrev mS(m:ag):Int:=m.2.2.1
abbrev mH(m:ag):Int:=m.2.2.2.1
abbrev mD(m:ag):List (List (List Int)):=m.2.2.2.2.1
abbrev mG(m:ag):List bu:=m.2.2.2.2.2
def Ad(l:List Int)(c:Int):Option (List Int):=(l.findIdx? fun y=>decide (c=y)).map fun i=>(if 0 < i then [l[i-1]?.getD 0] else [])++(l[i+1]?).toList
def Ae(d:List (List Int))(c:Int):Option (List Int):=d.findSome? fun l=>Ad l c
def DJ(m:ag)(d:Nat)(c:Int):Option (List Int):=Ae ((mD m)[d]?.getD []) c
def px(m:ag)(c:Int):Nat→Nat
 |0=>if(DJ m 0 c).isSome then 0 else 1
 |d+1=>if(DJ m (d+1) c).isSome then 0 else px m c d+1
def mg(m:ag)(B:Int→Bool):Nat→Int→Int
 |0,c=>if B c then mW m else -1
 |d+1,c=>match DJ m d c with
  |none=>if mH m≤(px m c d:Int) then -1 else mg m B d c
  |some l=>if 0≤mg m B d c then mg m B d c+1 else if l.any fun x=>decide (mW m≤mg m B d x) then 0 else -1
theorem IG{m:ag}{B:Int→Bool}(hw:0≤mW m):∀{d:Nat} {c:Int}, -1≤mg m B d c
 |0,c=>by unfold mg;split <;> omega
 |d+1,c=>by
  have:=IG (B:=B) hw (d:=d) (c:=c)
  unfold mg
  split
  ·
   split <;> omega
  ·
   split
   ·
    omega
   ·
    split <;> omega
theorem IF{m:ag}{B:Int→Bool}(hw:mW m≤3):∀{d:Nat} {c:Int},mg m B d c≤3+d
 |0,c=>by unfold mg;split <;> omega
 |d+1,c=>by
  have:=IF (B:=B) hw (d:=d) (c:=c)
  unfold mg
  split
  ·
   split <;> omega
  ·
   split
   ·
    omega
   ·
    split <;> omega
theorem H3{k:Nat}{l:List Int}{x:Int}(hk:l.length < k)(hl:l.length≤1000000):fY k l x=some (match l.findIdx? (fun y=>decide (x=y)) with |some i=>(i:Int) |none=> -1):=by
 unfold fY
 have key:=lU (f:=cV k l x) l (fun(_:Unit) j=>j) (fun _ j y=>if decide (x=y)=true then Except.error (j:Int) else .ok ()) (fun _ _=>True) (fun r=>some r)
  (fun n s j hj _=>by
   have hck:ck ((j:Int)+1)=some ((j:Int)+1):=c8 (by omega) (by omega);refine⟨?_,fun _ _=>trivial⟩;simp only [cV,Int.ofNat_lt,hj,if_true,dT hj,bs,decide_eq_true_eq];by_cases e:x=l[j] <;> simp [e,hck])
  (fun n s _=>by simp [cV]) (n:=k) (s0:=()) hk trivial
 rw [show cV k l x k 0=_ from key,uV (fun y=>decide (x=y)) l 0];cases l.findIdx? (fun y=>decide (x=y)) with
 |none=>rw [ma]
 |some i=>rw [py];simp
def mV:List Int→List Int
 |[a,b]=>if b < a then [b,a] else [a,b]
 |l=>l
theorem qL{l:List Int}{x:Int}:x∈mV l↔x∈l:=by
 unfold mV;split
 ·split
  ·simp [Or.comm]
  ·exact Iff.rfl
 ·exact Iff.rfl
theorem JU{k:Nat}{l:List Int}(hk:10≤k)(hl:l.length≤2):fF k l=some (mV l):=by
 obtain⟨k,rfl⟩:∃n,k=n+4:=⟨k - 4,by omega⟩;have e0:pm (k+4) (IntKind.u64.wrap (0:Int))=some 0:=by kernel_rfl
 have e1:pm (k+4) (IntKind.u64.wrap (1:Int))=some 1:=by kernel_rfl
 have e2:pm (k+4) (IntKind.u64.wrap (2:Int))=some 2:=by kernel_rfl
 have c0:ck ((0:Int) - 0)=some 0:=rfl;have c1:ck ((1:Int) - 0)=some 1:=rfl;have c2:ck ((2:Int) - 0)=some 2:=rfl;have d1:ck ((0:Int)+1)=some 1:=rfl;have d2:ck ((1:Int)+1)=some 2:=rfl;have d3:ck ((1:Int) - 1)=some 0:=rfl;match l,hl with
 |[],_=>
  simp only [fF,List.length_nil,Int.ofNat_zero,e0,bs,cM,cp,bM,bb,mV,c0,d1];rfl
 |[a],_=>
  have:(([a]:List Int).length:Int)=1:=rfl;simp only [fF,this,e1,bs,cM,cp,bM,bb,mV,c1,d1];rfl
 |[a,b],_=>
  have:(([a,b]:List Int).length:Int)=2:=rfl;have g0:aO [a,b] (0:Int)=some a:=rfl;have g1:aO [a,b] (1:Int)=some b:=rfl;have hn:∀x:Int,kQ (k+4) x=some false:=fun x=>by simp [kQ]
  have hl:∀x y:Int,oI (k+4) x y=some (decide (x < y)):=fun x y=>by simp [oI,hn]
  simp only [fF,this,e2,bs,cM,cp,bM,bb,ba,c2,d1,d2,d3,g0,g1,hl];by_cases h:b < a
  ·simp [h,mV,ba,bs,aO]
  ·simp [h,mV,ba,bs]
end Go.Proofs.YtlmopgkkijhllaaGreat
set_option linter.unusedVariables false
set_option linter.unusedSimpArgs false
namespace Go.Proofs.YtlmopgkkijhllaaGreat
open K Go Go.Proofs
structure Vd(m:ag):Prop where
 c1:1≤mC m
 c5:mC m≤5
 w0:0≤mW m
 w3:mW m≤3
 s0:0≤mS m
 s3:mS m≤3
 h1:1≤mH m
 h3:mH m≤3
 d1:1≤(mD m).length
 d6:(mD m).length≤6
 r3:∀r∈mD m,r.length≤3
 l5:∀r∈mD m,∀l∈r,l.length≤5
 x5:∀r∈mD m,∀l∈r,∀x∈l,0≤x∧x < mC m
 nd:∀r∈mD m,r.flatten.Nodup
 g8:(mG m).length≤8
 gl:∀g∈mG m,0≤g.1∧g.1 < mC m∧0≤g.2.1∧g.2.1≤(mD m).length
theorem Ac{l:List Int}{c:Int}{s:List Int}(h:Ad l c=some s):s.length≤2∧∀x∈s,x∈l:=by
 unfold Ad at h;cases e:l.findIdx? (fun y=>decide (c=y)) with
 |none=>rw [e] at h;cases h
 |some i=>
  rw [e] at h;obtain rfl:=Option.some.inj h;have hi:i < l.length:=(List.findIdx?_eq_some_iff_getElem.1 e).1;refine⟨?_,fun x hx=>?_⟩
  ·rw [List.length_append];have:(l[i+1]?).toList.length≤1:=by cases l[i+1]? <;> simp
   split <;> simp <;> omega
  ·rcases List.mem_append.1 hx with h |h
   ·split at h
    ·rw [List.getElem?_eq_getElem (by omega)] at h;obtain rfl:=List.mem_singleton.1 h;exact List.getElem_mem _
    ·cases h
   ·exact List.mem_of_getElem? (Option.mem_toList.1 h)
theorem Iz{d:List (List Int)}{c:Int}{s:List Int}(h:Ae d c=some s):∃l∈d,Ad l c=some s:=by
 unfold Ae at h;exact List.exists_of_findSome?_eq_some h
theorem va{m:ag}(v:Vd m){d:Nat}{c:Int}{s:List Int}(h:DJ m d c=some s):s.length≤2∧∀x∈s,0≤x∧x < mC m:=by
 obtain⟨l,hl,h2⟩:=Iz h;cases e:(mD m)[d]? with
 |none=>rw [e] at hl;cases hl
 |some r=>
  rw [e] at hl;have h3:=Ac h2;exact⟨h3.1,fun x hx=>v.x5 r (List.mem_of_getElem? e) l hl x (h3.2 x hx)⟩
def Pi(m:ag)(c:Int)(d:Nat):Int ⊕ List Int:=match DJ m d c with
 |some s=>.inr (mV s)
 |none=>.inl (px m c d)
theorem zd{k:Nat}{c:Int}{r:List (List Int)}(hk:10≤k)(hr:r.length≤3)(hl:∀l∈r,l.length≤5):
 cy k c r k 0=some (match Ae r c with |some s=>.error (.inr (mV s)) |none=>.ok ()):=by
 have key:=lU (f:=cy k c r) r (fun(_:Unit) j=>j) (fun _ _ l=>match Ad l c with |some s=>Except.error (Sum.inr (mV s):Int ⊕ List Int) |none=>.ok ()) (fun _ _=>True) (fun x=>some x)
  (fun n s j hj _=>by
   refine⟨?_,fun _ _=>trivial⟩;have h5:=hl _ (List.getElem_mem hj);have hck:ck ((j:Int)+1)=some ((j:Int)+1):=c8 (by omega) (by omega);simp only [cy,Int.ofNat_lt,hj,if_true,dT hj,bs];rw [H3 (by omega) (by omega),bs];generalize r[j]=l at *;have hb:Ad l c=(l.findIdx? fun y=>decide (c=y)).map fun i=>(if 0 < i then [l[i-1]?.getD 0] else [])++(l[i+1]?).toList:=rfl;cases e:l.findIdx? (fun y=>decide (c=y)) with
   |none=>
    rw [e] at hb;simp only [Option.map_none] at hb;rw [hb];simp [hck,bs]
   |some i=>
    rw [e] at hb;simp only [Option.map_some] at hb;have hi:i < l.length:=(List.findIdx?_eq_some_iff_getElem.1 e).1;rw [hb];have hlen:=(Ac hb).1;have c1:ck ((i:Int) - 1)=some ((i:Int) - 1):=c8 (by omega) (by omega);have c2:ck ((i:Int)+1)=some ((i:Int)+1):=c8 (by omega) (by omega);have ok0:cF (bK (List.length ([]:List Int)+List.length [l[i-1]?.getD 0]))=some ():=du (by simp [bK]);simp only [show(0:Int)≤(i:Int) from Int.natCast_nonneg _,if_true,c1,c2,bs]
    have e1:(if(0:Int) < (i:Int) then((aO l ((i:Int) - 1)).bind fun x11=>(cF (bK (List.length ([]:List Int)+List.length [x11]))).bind fun _=>some (([]:List Int)++[x11])) else some ([]:List Int))=some (if 0 < i then [l[i-1]?.getD 0] else []):=by
     by_cases h0:0 < i
     ·have g:aO l ((i:Int) - 1)=some (l[i-1]?.getD 0):=by
       have:((i:Int) - 1)=((i - 1:Nat):Int):=by omega
       rw [this,dT (by omega),List.getElem?_eq_getElem (by omega:i - 1 < l.length)];rfl
      rw [if_pos (by omega),if_pos h0,g,bs,ok0,bs];rfl
     ·rw [if_neg (by omega),if_neg h0]
    rw [e1,bs];generalize (if 0 < i then [l[i-1]?.getD 0] else [])=p at *
    have e2:(if(i:Int)+1 < (l.length:Int) then((aO l ((i:Int)+1)).bind fun x18=>(cF (bK (List.length p+List.length [x18]))).bind fun _=>some (p++[x18])) else some p)=some (p++(l[i+1]?).toList):=by
     by_cases h1:i+1 < l.length
     ·have g:aO l ((i:Int)+1)=some l[i+1]:=by
       have:((i:Int)+1)=((i+1:Nat):Int):=by omega
       rw [this,dT h1]
      rw [if_pos (by omega),g,bs,List.getElem?_eq_getElem h1];rw [List.getElem?_eq_getElem h1] at hlen;rw [du (by rw [List.length_append] at hlen;simp at hlen;simp [bK];omega),bs];rfl
     ·rw [if_neg (by omega),List.getElem?_eq_none (by omega)];simp
    rw [e2,bs,JU (by omega) hlen,bs])
  (fun n s _=>by simp [cy]) (n:=k) (s0:=()) (by omega) trivial
 rw [show cy k c r k 0=_ from key]
 congr 1
 have:∀(r:List (List Int)) (j:Nat),eg (fun(_:Unit) _ l=>match Ad l c with |some s=>Except.error (Sum.inr (mV s):Int ⊕ List Int) |none=>.ok ()) j r ()=match Ae r c with |some s=>.error (.inr (mV s)) |none=>.ok ():=by
  intro r
  induction r with
  |nil=>intro j;rfl
  |cons l r ih=>
   intro j;rw [eg];unfold Ae;rw [List.findSome?_cons];cases Ad l c with
   |none=>exact ih (j+1)
   |some s=>rfl
 exact this r 0
theorem DF{m:ag}{c:Int}:∀{d:Nat},px m c d≤d+1
 |0=>by unfold px;split <;> omega
 |d+1=>by have:=DF (m:=m) (c:=c) (d:=d);unfold px;split <;> omega
theorem uk{k:Nat}{m:ag}{c:Int}(v:Vd m)(hk:10≤k):∀(d m0:Nat),d < m0→d < (mD m).length→dR k m0 m c (d:Int)=some (Pi m c d)
 |d,0,h,_=>absurd h (Nat.not_lt_zero _)
 |d,m0+1,h,hd=>by
  have hm:=List.getElem_mem hd
  unfold dR
  rw [dT hd,bs,zd hk (v.r3 _ hm) (v.l5 _ hm)]
  have hbes:DJ m d c=Ae (mD m)[d] c:=by unfold DJ;rw [List.getElem?_eq_getElem hd];rfl
  cases e:Ae (mD m)[d] c with
  |some s=>
   rw [py]
   unfold Pi
   rw [hbes,e]
  |none=>
   rw [ma]
   unfold Pi
   rw [hbes,e]
   match d,hd,h with
   |0,hd,h=>
    rw [hbes.symm] at e
    simp [px,e]
   |d+1,hd,h=>
    have h6:=v.d6
    have c1:ck (((d+1:Nat):Int) - 1)=some (d:Int):=by rw [c8 (by omega) (by omega)];congr 1;omega
    have ih:=uk v hk d m0 (by omega) (by omega) (c:=c)
    rw [if_pos (by omega),c1,bs,ih,bs]
    rw [hbes.symm] at e
    have hcold:px m c (d+1)=px m c d+1:=by rw [px,e];rfl
    have hle:=DF (m:=m) (c:=c) (d:=d)
    unfold Pi
    cases e2:DJ m d c with
    |some s=>
     simp only [J3]
     have:px m c d=0:=by cases d <;> simp [px,e2]
     simp [hcold,this]
    |none=>
     have c2:ck ((1:Int)+(px m c d:Int))=some ((1:Int)+(px m c d:Int)):=c8 (by omega) (by omega)
     simp only [J3,PS,c2,bs,if_true,hcold]
     congr 2
     omega
end Go.Proofs.YtlmopgkkijhllaaGreat
set_option linter.unusedVariables false
set_option linter.unusedSimpArgs false
namespace Go.Proofs.YtlmopgkkijhllaaGreat
open K Go Go.Proofs
def kA(f:Int→Int):List Int:=[f 0,f 1,f 2,f 3,f 4]
def upd(f:Int→Int)(c v:Int):Int→Int:=fun x=>if x=c then v else f x
theorem TZ{c:Int}(h0:0≤c)(h:c < 5):c=0∨c=1∨c=2∨c=3∨c=4:=by omega
theorem xn{f:Int→Int}{c:Int}(h0:0≤c)(h:c < 5):aO (kA f) c=some (f c):=by
 rcases TZ h0 h with rfl |rfl |rfl |rfl |rfl <;> rfl
theorem CX{f:Int→Int}{c v:Int}(h0:0≤c)(h:c < 5):List.set (kA f) (Int.toNat c) v=kA (upd f c v):=by
 rcases TZ h0 h with rfl |rfl |rfl |rfl |rfl <;> rfl
theorem mz{f g:Int→Int}(h:∀c,0≤c→c < 5→f c=g c):kA f=kA g:=by
 unfold kA;rw [h 0 (by decide) (by decide),h 1 (by decide) (by decide),h 2 (by decide) (by decide),h 3 (by decide) (by decide),h 4 (by decide) (by decide)]
def PP(m:ag)(f:Int→Int)(d:Nat)(c:Int):Int:=match DJ m d c with
 |none=>if mH m≤(px m c d:Int) then -1 else f c
 |some l=>if 0≤f c then f c+1 else if l.any fun x=>decide (mW m≤f x) then 0 else -1
def Pj(m:ag)(f:Int→Int)(d:Nat):Int→Int:=fun c=>if 0≤c∧c < mC m then PP m f d c else f c
theorem vF{k:Nat}{m:ag}{f:Int→Int}(hw:0≤mW m){s:List Int}(hs:s.length < k)(hs2:s.length≤1000)(hx:∀x∈s,0≤x∧x < 5):
 bN k m (kA f) s k 0=some (match s.find? (fun x=>decide (mW m≤f x)) with |some x=>.error x |none=>.ok ()):=by
 have key:=lU (f:=bN k m (kA f) s) s (fun(_:Unit) j=>j) (fun _ _ x=>if decide (mW m≤f x)=true then Except.error x else .ok ()) (fun _ _=>True) (fun x=>some x)
  (fun n _ j hj _=>by
   refine⟨?_,fun _ _=>trivial⟩;have h5:=hx _ (List.getElem_mem hj);have hck:ck ((j:Int)+1)=some ((j:Int)+1):=c8 (by omega) (by omega);have him:sF (0:Int) m.2.1=mW m:=by show sF 0 (mW m)=mW m;unfold sF;split <;> omega
   simp only [bN,Int.ofNat_lt,hj,if_true,dT hj,bs,du h5,xn h5.1 h5.2,him,hck,decide_eq_true_eq];by_cases e:mW m≤f s[j] <;> simp [e])
  (fun n s _=>by simp [bN]) (n:=k) (s0:=()) hs trivial
 rw [show bN k m (kA f) s k 0=_ from key]
 congr 1
 have:∀(s:List Int) (j:Nat),eg (fun(_:Unit) _ x=>if decide (mW m≤f x)=true then Except.error x else .ok ()) j s ()=match s.find? (fun x=>decide (mW m≤f x)) with |some x=>.error x |none=>.ok ():=by
  intro s
  induction s with
  |nil=>intro j;rfl
  |cons x s ih=>
   intro j;rw [eg,List.find?_cons];cases h:decide (mW m≤f x) with
   |true=>simp
   |false=>simp only [Bool.false_eq_true,if_false];exact ih (j+1)
 exact this s 0
theorem yU{s:List Int}:(mV s).length=s.length:=by
 unfold mV;split
 ·split <;> rfl
 ·rfl
def JF(m:ag)(f:Int→Int)(l:List Int):Int:=((mV l).find? fun x=>decide (mW m≤f x)).getD (-1)
theorem AY{k:Nat}{m:ag}{f:Int→Int}{c:Int}{d:Nat}(v:Vd m)(hk:10≤k)(hd:d < (mD m).length){l:List Int}(h:DJ m d c=some l):
 di k m (kA f) c (d:Int)=some (JF m f l):=by
 have h6:=v.d6
 have c5:=v.c5
 have hb:=va v h
 unfold di
 rw [uk v hk d k (by omega) hd,bs]
 unfold Pi
 rw [h]
 have e1:Ix (Sum.inr (mV l):Int ⊕ List Int) (fun n=>iq k n) (fun l=>io k l)=some (mV l):=rfl
 rw [e1,bs,vF v.w0 (by rw [yU];omega) (by rw [yU];omega) fun x hx=>by have:=hb.2 x (qL.1 hx);omega]
 unfold JF
 cases(mV l).find? fun x=>decide (mW m≤f x) with
 |none=>rw [ma];rfl
 |some x=>rw [py];rfl
theorem JE{m:ag}{f:Int→Int}{l:List Int}(hx:∀x∈l,0≤x):0≤JF m f l↔(l.any fun x=>decide (mW m≤f x))=true:=by
 unfold JF;rw [List.any_eq_true];cases e:(mV l).find? fun x=>decide (mW m≤f x) with
 |none=>
  simp only [Option.getD_none];have:=List.find?_eq_none.1 e;constructor
  ·intro h;omega
  ·rintro⟨x,hx,h⟩;exact absurd h (this x (qL.2 hx))
 |some x=>
  have h1:=List.mem_of_find?_eq_some e;have h2:=List.find?_some e;exact⟨fun _=>⟨x,qL.1 h1,h2⟩,fun _=>hx x (qL.1 h1)⟩
theorem HJ{k:Nat}{m:ag}{f:Int→Int}{d:Nat}(v:Vd m)(hk:10≤k)(hd:d < (mD m).length)(hf:∀c,0≤c→c < mC m→ -1≤f c∧f c≤1000):
 gz k m (kA f) (d:Int)=some (kA (Pj m f d)):=by
 have c5:=v.c5
 have c1:=v.c1
 have h6:=v.d6
 unfold gz
 have key:=i8 (T:=List Int×Int) (f:=ce k m (kA f) (d:Int)) (List.range (mC m).toNat) (fun(g:Int→Int) j=>(kA g,j)) (fun g j _=>upd g (j:Int) (PP m f d (j:Int))) (fun j g=>g=fun c=>if 0≤c∧c < (j:Int) then PP m f d c else f c) (fun g=>some (kA g))
  (fun n g j hj hg=>by
   rw [List.length_range] at hj;have j0:(0:Int)≤(j:Int):=Int.natCast_nonneg _;have j1:(j:Int) < mC m:=by omega
   have j5:(j:Int) < 5:=by omega
   have hck:ck ((j:Int)+1)=some ((j:Int)+1):=c8 (by omega) (by omega);have hp:cF ((0:Int)≤(j:Int)∧(j:Int) < 5)=some ():=du ⟨j0,j5⟩;have hgj:g (j:Int)=f (j:Int):=by rw [hg];simp
   have hfj:=hf _ j0 j1;refine⟨?_,?_⟩
   ·have hm1:(m.1:Int)=mC m:=rfl;have hm2:m.2.2.2.1=mH m:=rfl;simp only [ce,hm1,hm2,j1,if_true,uk v hk d k (by omega) hd,bs,hp,xn j0 j5,hck,CX j0 j5];unfold Pi PP;cases e:DJ m d (j:Int) with
    |none=>
     simp only [J3,PS,if_true];by_cases hh:mH m≤(px m (j:Int) d:Int)
     ·simp only [hh,if_true,bs]
     ·simp only [hh,if_false,bs];refine congrArg (fun r=>ce k m (kA f) (d:Int) n (r,(j:Int)+1)) (mz fun c _ _=>?_);unfold upd;split
      ·rename_i e;rw [e,hgj]
      ·rfl
    |some l=>
     have hb:=va v e;simp only [J3,Bool.false_eq_true,if_false,not_false_eq_true,if_true];by_cases h0:0≤f (j:Int)
     ·have hck2:ck (f (j:Int)+1)=some (f (j:Int)+1):=c8 (by omega) (by omega);simp only [h0,if_true,hck2,bs]
     ·simp only [h0,if_false,AY v hk hd e,bs];have ht:=JE (m:=m) (f:=f) (l:=l) fun x hx=>(hb.2 x hx).1;by_cases hany:(l.any fun x=>decide (mW m≤f x))=true
      ·rw [if_pos (ht.2 hany),bs,if_pos hany]
      ·rw [if_neg fun h=>hany (ht.1 h),bs,if_neg hany];refine congrArg (fun r=>ce k m (kA f) (d:Int) n (r,(j:Int)+1)) (mz fun c _ _=>?_);unfold upd;split
       ·rename_i e;rw [e,hgj];omega
       ·rfl
   ·rw [hg];funext c;unfold upd;by_cases e:c=(j:Int)
    ·subst e;simp [j0];intro h;omega
    ·simp only [e,if_false];by_cases h:0≤c∧c < (j:Int)
     ·rw [if_pos h,if_pos (by omega)]
     ·rw [if_neg h,if_neg (by omega)])
  (fun n g hg=>by
   rw [List.length_range];have:((mC m).toNat:Int)=mC m:=by omega
   rw [this];unfold ce;rw [if_neg (by show¬(mC m < mC m);omega)]) (n:=k) (s0:=f) (by rw [List.length_range];omega) (by funext c;simp;intro h;omega)
 rw [show ce k m (kA f) (d:Int) k (kA f,0)=_ from key.1,bs]
 congr 1
 refine mz fun c _ _=>?_
 rw [key.2,List.length_range]
 unfold Pj
 have:((mC m).toNat:Int)=mC m:=by omega
 rw [this]
end Go.Proofs.YtlmopgkkijhllaaGreat
set_option linter.unusedVariables false
set_option linter.unusedSimpArgs false
namespace Go.Proofs.YtlmopgkkijhllaaGreat
open K Go Go.Proofs
def cr(F:Nat→Int→Int):List (List Int):=[kA (F 0),kA (F 1),kA (F 2),kA (F 3),kA (F 4),kA (F 5),kA (F 6)]
def AU(F:Nat→Int→Int)(n:Nat)(f:Int→Int):Nat→Int→Int:=fun i=>if i=n then f else F i
theorem TY{n:Nat}(h:n < 7):n=0∨n=1∨n=2∨n=3∨n=4∨n=5∨n=6:=by omega
theorem BX{F:Nat→Int→Int}{n:Nat}(h:n < 7):aO (cr F) (n:Int)=some (kA (F n)):=by
 rcases TY h with rfl |rfl |rfl |rfl |rfl |rfl |rfl <;> rfl
theorem OK{F:Nat→Int→Int}{n:Nat}{f:Int→Int}(h:n < 7):List.set (cr F) n (kA f)=cr (AU F n f):=by
 rcases TY h with rfl |rfl |rfl |rfl |rfl |rfl |rfl <;> rfl
def OP(m:ag)(B:Int→Bool):Nat→Int→Int
 |0=>fun c=>if B c then mW m else -1
 |n+1=>Pj m (OP m B n) n
theorem ym{m:ag}(v:Vd m){B:Int→Bool}:∀(n:Nat) (c:Int),0≤c→c < mC m→OP m B n c=mg m B n c
 |0,c,_,_=>rfl
 |n+1,c,h0,h1=>by
  have ih:=ym v (B:=B) n
  show Pj m (OP m B n) n c=mg m B (n+1) c
  unfold Pj
  rw [if_pos ⟨h0,h1⟩]
  unfold PP mg
  cases e:DJ m n c with
  |none=>simp only [];rw [ih c h0 h1]
  |some l=>
   have hb:=(va v e).2
   have:(l.any fun x=>decide (mW m≤OP m B n x))=l.any fun x=>decide (mW m≤mg m B n x):=by
    rw [Bool.eq_iff_iff];simp only [List.any_eq_true,decide_eq_true_eq];constructor
    ·rintro⟨x,hx,h⟩;exact⟨x,hx,by rw [←ih x (hb x hx).1 (hb x hx).2];exact h⟩
    ·rintro⟨x,hx,h⟩;exact⟨x,hx,by rw [ih x (hb x hx).1 (hb x hx).2];exact h⟩
   simp only [];rw [ih c h0 h1,this]
def FK(m:ag)(B:Int→Bool):Nat→Int→Int:=fun n=>if n≤(mD m).length then OP m B n else fun _=>0
def l9(S:Int):Int→Bool:=fun c=>decide (dO S c.toNat)
theorem GF{k:Nat}{m:ag}{S:Int}(hk:10≤k)(hS:jx S):eK k m S=some (kA fun c=>if l9 S c then mW m else -1):=by
 unfold eK
 have key:=i8 (T:=List Int×Int) (f:=cx k m S) (List.range 5) (fun(g:Int→Int) j=>(kA g,j)) (fun g j _=>upd g (j:Int) (if l9 S (j:Int) then mW m else -1)) (fun j g=>∀c,0≤c→c < (j:Int)→g c=if l9 S c then mW m else -1) (fun g=>some (kA g))
  (fun n g j hj hg=>by
   rw [List.length_range] at hj;have j0:(0:Int)≤(j:Int):=Int.natCast_nonneg _;have j5:(j:Int) < 5:=by omega
   have hck:ck ((j:Int)+1)=some ((j:Int)+1):=c8 (by omega) (by omega);have hp:cF ((0:Int)≤(j:Int)∧(j:Int) < 5)=some ():=du ⟨j0,j5⟩;have hp':cF ((0:Int)≤(j:Int)∧True)=some ():=du ⟨j0,trivial⟩;refine⟨?_,?_⟩
   ·simp only [cx,j5,if_true,hp,hp',bs,xQ (k:=k) hS (by omega:j < 8),hck,CX j0 j5];have hin:l9 S (j:Int)=decide (dO S j):=by unfold l9;rw [Int.toNat_natCast]
    rw [hin];cases hh:decide (dO S j) with
    |true=>
     simp only [if_true,bs];refine congrArg (fun r=>cx k m S n (r,(j:Int)+1)) (mz fun c _ _=>?_);unfold upd;split <;> rfl
    |false=>simp only [Bool.false_eq_true,if_false,bs]
   ·intro c hc0 hc1;unfold upd;by_cases e:c=(j:Int)
    ·rw [if_pos e,e]
    ·rw [if_neg e];exact hg c hc0 (by omega))
  (fun n g hg=>by
   rw [List.length_range];unfold cx;rw [if_neg (show¬(((5:Nat):Int) < 5) by decide)]) (n:=k) (s0:=fun _=>0) (by rw [List.length_range];omega) (fun c h0 h1=>by omega)
 have e0:([(0:Int),(0:Int),(0:Int),(0:Int),(0:Int)]:List Int)=kA fun _=>0:=rfl;rw [e0,show cx k m S k (kA fun _=>0,0)=_ from key.1,bs];refine congrArg some (mz fun c h0 h5=>?_);have:=key.2;rw [List.length_range] at this;exact this c h0 h5
theorem sR{k:Nat}{m:ag}{S:Int}(v:Vd m)(hk:10≤k)(hS:jx S):lI k m S=some (cr (FK m (l9 S))):=by
 have d6:=v.d6;have d1:=v.d1;have w0:=v.w0;have w3:=v.w3;unfold lI jm;have hm:cF (0≤S∧S < 256)=some ():=du hS;have hp0:cF ((0:Int)≤0∧(0:Int) < 7)=some ():=du ⟨by omega,by omega⟩;rw [hm,bs,GF hk hS,bs,hp0,bs]
 have key:=i8 (T:=List (List Int)×Int) (f:=bH k m) (mD m) (fun(F:Nat→Int→Int) j=>(cr F,j)) (fun F j _=>AU F (j+1) (Pj m (F j) j)) (fun j F=>F=fun n=>if n≤j then OP m (l9 S) n else fun _=>0) (fun F=>some (cr F))
  (fun n F j hj hF=>by
   have j0:(0:Int)≤(j:Int):=Int.natCast_nonneg _;have hck:ck ((j:Int)+1)=some ((j:Int)+1):=c8 (by omega) (by omega);have hp:cF ((0:Int)≤(j:Int)∧(j:Int) < 7)=some ():=du ⟨j0,by omega⟩;have hp2:cF ((0:Int)≤(j:Int)+1∧(j:Int)+1 < 7)=some ():=du ⟨by omega,by omega⟩;have hFj:F j=OP m (l9 S) j:=by rw [hF];simp
   have hj':(j:Int) < (m.2.2.2.2.1.length:Int):=Int.ofNat_lt.2 hj
   have hnx:=HJ (k:=k) (f:=F j) v hk hj (fun c h0 h1=>by
    rw [hFj,ym v j c h0 h1];have:=IG (B:=l9 S) w0 (d:=j) (c:=c);have:=IF (B:=l9 S) w3 (d:=j) (c:=c);omega)
   refine⟨?_,?_⟩
   ·simp only [bH,hj',if_true,hck,hp,bs,BX (F:=F) (show j < 7 by omega),hnx,hp2];have e:Int.toNat ((j:Int)+1)=j+1:=by omega
    rw [e,OK (by omega)]
   ·rw [hF];funext i;unfold AU;by_cases e:i=j+1
    ·subst e;simp only [if_true,Nat.le_refl];rfl
    ·simp only [e,if_false];by_cases h:i≤j
     ·rw [if_pos h,if_pos (by omega)]
     ·rw [if_neg h,if_neg (by omega)])
  (fun n F hF=>by
   unfold bH;rw [if_neg (by show¬((m.2.2.2.2.1.length:Int) < _);exact Int.lt_irrefl _)]) (n:=k) (s0:=AU (fun _ _=>0) 0 (fun c=>if l9 S c then mW m else -1)) (by omega) (by
   funext n;unfold AU;by_cases e:n=0
   ·subst e;rfl
   ·rw [if_neg e,if_neg (by omega)])
 have e0:List.set sP (Int.toNat 0) (kA fun c=>if l9 S c then mW m else -1)=cr (AU (fun _ _=>0) 0 (fun c=>if l9 S c then mW m else -1)):=rfl;rw [e0,show bH k m k (cr (AU (fun _ _=>0) 0 (fun c=>if l9 S c then mW m else -1)),0)=_ from key.1,bs];rw [key.2];rfl
theorem DD{m:ag}(v:Vd m){B:Int→Bool}{n:Nat}{c:Int}(hn:n≤(mD m).length)(h0:0≤c)(h1:c < mC m):FK m B n c=mg m B n c:=by
 unfold FK;rw [if_pos hn,ym v n c h0 h1]
end Go.Proofs.YtlmopgkkijhllaaGreat
set_option linter.unusedVariables false
set_option linter.unusedSimpArgs false
namespace Go.Proofs.YtlmopgkkijhllaaGreat
open K Go Go.Proofs
def wk{σ:Type}(bad:σ→Int→Option Int)(add:σ→Int→σ):List Int→σ→Except Int σ
 |[],s=>.ok s
 |x::l,s=>match bad s x with
  |some e=>.error e
  |none=>wk bad add l (add s x)
theorem xh{σ:Type}{bad:σ→Int→Option Int}{add:σ→Int→σ}:∀(l:List Int) (j:Nat) (s:σ),eg (fun s _ x=>match bad s x with |some e=>Except.error e |none=>.ok (add s x)) j l s=wk bad add l s
 |[],j,s=>rfl
 |x::l,j,s=>by
  rw [eg,wk]
  cases bad s x with
  |some e=>rfl
  |none=>exact xh l (j+1) (add s x)
theorem wa{σ:Type}{bad:σ→Int→Option Int}{add:σ→Int→σ}:∀(a b:List Int) (s:σ),wk bad add (a++b) s=match wk bad add a s with | .error e=>.error e | .ok s'=>wk bad add b s'
 |[],b,s=>rfl
 |x::a,b,s=>by
  rw [List.cons_append,wk,wk]
  cases bad s x with
  |some e=>rfl
  |none=>exact wa a b (add s x)
theorem CN{σ:Type}{bad:σ→Int→Option Int}{add:σ→Int→σ}:∀(r:List (List Int)) (j:Nat) (s:σ),eg (fun s _ l=>wk bad add l s) j r s=wk bad add r.flatten s
 |[],j,s=>rfl
 |l::r,j,s=>by
  rw [eg,List.flatten_cons,wa]
  cases wk bad add l s with
  |error e=>rfl
  |ok s'=>exact CN r (j+1) s'
theorem F6{σ τ:Type}{b1:σ→Int→Option Int}{a1:σ→Int→σ}{b2:τ→Int→Option Int}{a2:τ→Int→τ}(R:σ→τ→Prop)(hb:∀s t x,R s t→b1 s x=b2 t x)(ha:∀s t x,R s t→b1 s x=none→R (a1 s x) (a2 t x)):
 ∀(l:List Int) (s:σ) (t:τ),R s t→(∃e,wk b1 a1 l s= .error e∧wk b2 a2 l t= .error e)∨∃s' t',wk b1 a1 l s= .ok s'∧wk b2 a2 l t= .ok t'∧R s' t'
 |[],s,t,h=>.inr ⟨s,t,rfl,rfl,h⟩
 |x::l,s,t,h=>by
  rw [wk,wk,←hb s t x h]
  cases e:b1 s x with
  |some c=>exact .inl ⟨c,rfl,rfl⟩
  |none=>exact F6 R hb ha l _ _ (ha s t x h e)
theorem AP{σ:Type}{bad:σ→Int→Option Int}{add:σ→Int→σ}(P:σ→Prop)(hs:∀s x,P s→bad s x=none→P (add s x)):∀(l:List Int) (s s':σ),P s→wk bad add l s= .ok s'→P s'
 |[],s,s',h,e=>by cases e;exact h
 |x::l,s,s',h,e=>by
  rw [wk] at e
  cases hb:bad s x with
  |some c=>rw [hb] at e;cases e
  |none=>rw [hb] at e;exact AP P hs l _ s' (hs s x h hb) e
theorem kM{k:Nat}{a b c:Int}:dz k a b c=some (decide (b≤a∧a≤c)):=by
 unfold dz;by_cases h:b≤a <;> simp [h]
theorem Rx{n:Int}(h:1≤n∧n≤5):ck (n - 1)=some (n - 1):=c8 (by omega) (by omega)
def AL(C:Int)(s x:Int):Option Int:=if¬(0≤x∧x < C) then some 3 else if dO s x.toNat then some 4 else none
def vy(s x:Int):Int:=Dl .u8 s (oz .u8 1 x)
def AK(C:Int)(s:List Int)(x:Int):Option Int:=if¬(0≤x∧x < C) then some 3 else if x∈s then some 4 else none
def DU(s:List Int)(x:Int):List Int:=s++[x]
theorem uJ:jx 0:=⟨by decide,by decide⟩
theorem M4{C s x:Int}(h:AL C s x=none):0≤x∧x < C:=by
 unfold AL at h;split at h
 ·cases h
 ·rename_i h';exact Decidable.not_not.1 h'
theorem mQ{k:Nat}{s x:Int}(hs:jx s)(h0:0≤x)(h8:x < 8):fL k s x=some (vy s x)∧jx (vy s x)∧∀i:Nat,dO (vy s x) i↔dO s i∨(i:Int)=x:=by
 have h1:=N3 h0 h8;have h2:=On hs h1.1;refine⟨?_,h2.1,fun i=>?_⟩
 ·unfold fL;rw [du h0,bs];rfl
 ·show dO (Dl .u8 s (oz .u8 1 x)) i↔_;rw [h2.2 i,h1.2 i]
theorem Af{C s x:Int}(hC:C≤5)(hs:jx s)(h:AL C s x=none):jx (vy s x):=by
 have:=M4 h;exact(mQ (k:=0) hs this.1 (by omega)).2.1
def rz(C:Int)(r:List (List Int)):Int:=if 3 < r.length then 6 else match wk (AK C) DU r.flatten [] with | .error e=>e | .ok _=>0
theorem EV{k:Nat}{m:ag}(hC:1≤mC m∧mC m≤5){l:List Int}(hk:l.length < k)(hl:l.length≤1000){s:Int}(hs:jx s):
 cQ k m l k (s,0)=some (wk (AL (mC m)) vy l s):=by
 have key:=lU (T:=Int×Int) (f:=cQ k m l) l (fun(s:Int) j=>(s,j)) (fun s _ x=>match AL (mC m) s x with |some e=>Except.error e |none=>.ok (vy s x)) (fun _ s=>jx s) (fun r=>some r)
  (fun n s j hj hs=>by
   have hck:ck ((j:Int)+1)=some ((j:Int)+1):=c8 (by omega) (by omega);have hc:ck (m.1 - 1)=some (m.1 - 1):=Rx hC;refine⟨?_,fun s' e=>?_⟩
   ·simp only [cQ,Int.ofNat_lt,hj,if_true,dT hj,bs,hc,kM];generalize l[j]=x;by_cases h:0≤x∧x < mC m
    ·have h':0≤x∧x≤m.1 - 1:=⟨h.1,by have:x < m.1:=h.2;omega⟩;have hh:=xQ (k:=k) hs (i:=x.toNat) (by omega);have ex:((x.toNat:Nat):Int)=x:=by omega
     rw [ex] at hh;simp only [h',and_self,decide_true,not_true_eq_false,if_false,hh,bs];have eb:AL (mC m) s x=if dO s x.toNat then some 4 else none:=by unfold AL;rw [if_neg (fun hn=>hn h)]
     rw [eb];by_cases h2:dO s x.toNat
     ·simp only [h2,decide_true,if_true]
     ·simp only [h2,decide_false,Bool.false_eq_true,if_false,(mQ (k:=k) hs h.1 (by omega)).1,bs,hck]
    ·have h':¬(0≤x∧x≤m.1 - 1):=fun hh=>h ⟨hh.1,by show x < m.1;omega⟩;have eb:AL (mC m) s x=some 3:=by unfold AL;rw [if_pos h]
     rw [eb];simp only [h',decide_false,Bool.false_eq_true,not_false_eq_true,if_true]
   ·cases e2:AL (mC m) s l[j] with
    |some c=>rw [e2] at e;cases e
    |none=>rw [e2] at e;cases e;exact Af hC.2 hs e2)
  (fun n s _=>by simp [cQ]) (n:=k) (s0:=s) hk hs
 rw [show cQ k m l k (s,0)=_ from key,xh]
theorem EW{k:Nat}{m:ag}(hC:1≤mC m∧mC m≤5){r:List (List Int)}(hk:r.length < k)(hr:r.length≤1000)(hl:∀l∈r,l.length < k∧l.length≤1000):
 cR k m r k (0,0)=some (match wk (AL (mC m)) vy r.flatten 0 with | .error e=>.error e | .ok _=>.ok ()):=by
 have key:=lU (T:=Int×Int) (f:=cR k m r) r (fun(s:Int) j=>(s,j)) (fun s _ l=>wk (AL (mC m)) vy l s) (fun _ s=>jx s) (fun x=>some (match x with | .error e=>Except.error e | .ok _=>.ok ()))
  (fun n s j hj hs=>by
   have hck:ck ((j:Int)+1)=some ((j:Int)+1):=c8 (by omega) (by omega);have hlj:=hl _ (List.getElem_mem hj);refine⟨?_,fun s' e=>AP jx (fun s x=>Af hC.2) _ _ _ hs e⟩;simp only [cR,Int.ofNat_lt,hj,if_true,dT hj,bs,EV hC hlj.1 hlj.2 hs];cases wk (AL (mC m)) vy r[j] s with
   |error e=>rw [py]
   |ok s'=>rw [ma,hck,bs])
  (fun n s _=>by simp [cR]) (n:=k) (s0:=0) hk uJ
 rw [show cR k m r k (0,0)=_ from key,CN]
theorem Lh{C:Int}(hC:C≤5)(l:List Int):(∃e,wk (AL C) vy l 0= .error e∧wk (AK C) DU l []= .error e)∨∃s t,wk (AL C) vy l 0= .ok s∧wk (AK C) DU l []= .ok t∧(jx s∧∀i:Nat,dO s i↔(i:Int)∈t):=by
 refine F6 (fun s t=>jx s∧∀i:Nat,dO s i↔(i:Int)∈t) (fun s t x h=>?_) (fun s t x h hb=>?_) l 0 [] ⟨uJ,fun i=>by simp [dO]⟩
 ·unfold AL AK;by_cases hx:0≤x∧x < C
  ·have e:((x.toNat:Nat):Int)=x:=by omega
   have:=h.2 x.toNat;rw [e] at this;simp only [hx,and_self,not_true_eq_false,if_false,this]
  ·rw [if_pos hx,if_pos hx]
 ·have hx:=M4 hb;have hw:=mQ (k:=0) h.1 hx.1 (by omega);refine⟨hw.2.1,fun i=>?_⟩;rw [hw.2.2 i,h.2 i];unfold DU;simp
theorem KH{k:Nat}{m:ag}(hC:1≤mC m∧mC m≤5){r:List (List Int)}(hk:1000 < k)(hr:r.length≤1000)(hl:∀l∈r,l.length≤1000):iU k m r=some (rz (mC m) r):=by
 unfold iU rz;by_cases h3:3 < r.length
 ·rw [if_pos (by omega),if_pos h3]
 ·rw [if_neg (by omega),if_neg h3,EW hC (by omega) hr fun l hh=>⟨by have:=hl l hh;omega,hl l hh⟩];rcases Lh hC.2 r.flatten with⟨e,h1,h2⟩ |⟨s,t,h1,h2,_⟩
  ·rw [h1,h2];exact py
  ·rw [h1,h2];exact ma
end Go.Proofs.YtlmopgkkijhllaaGreat
set_option linter.unusedVariables false
set_option linter.unusedSimpArgs false
namespace Go.Proofs.YtlmopgkkijhllaaGreat
open K Go Go.Proofs
theorem rU:∀(n:Nat) (l:List Int),l.Nodup→(∀x∈l,0≤x∧x < (n:Int))→l.length≤n
 |0,l,_,h=>by
  cases l with
  |nil=>simp
  |cons x l=>have:=h x (by simp);omega
 |n+1,l,hn,h=>by
  have h1:=rU n (l.erase (n:Int)) (hn.erase _) (fun x hx=>by
   have h2:=(List.Nodup.mem_erase_iff hn).1 hx
   have:=h x h2.2
   have:=h2.1
   omega)
  have:l.length≤(l.erase (n:Int)).length+1:=by rw [List.length_erase];split <;> omega
  omega
theorem QY{C:Int}{s:List Int}{x:Int}(h:AK C s x=none):(0≤x∧x < C)∧x∉s:=by
 unfold AK at h;split at h
 ·cases h
 ·rename_i h';split at h
  ·cases h
  ·rename_i h2;exact⟨Decidable.not_not.1 h',h2⟩
def Mt(C:Int)(s:List Int):Prop:=s.Nodup∧∀x∈s,0≤x∧x < C
theorem Mt.add{C:Int}{s:List Int}{x:Int}(h:Mt C s)(hb:AK C s x=none):Mt C (DU s x):=by
 have:=QY hb;refine⟨?_,fun y hy=>?_⟩
 ·unfold DU;rw [List.nodup_append];exact⟨h.1,by simp,fun a ha b hb e=>by rw [List.mem_singleton.1 hb] at e;exact this.2 (e▸ha)⟩
 ·rcases List.mem_append.1 hy with hy |hy
  ·exact h.2 y hy
  ·rw [List.mem_singleton.1 hy];exact this.1
theorem Mt.len{C:Int}{s:List Int}(hC:0≤C∧C≤5)(h:Mt C s):s.length≤5:=by
 have:=rU C.toNat s h.1 fun x hx=>⟨(h.2 x hx).1,by have:=(h.2 x hx).2;omega⟩;omega
theorem F7{C:Int}:∀{l s t:List Int},wk (AK C) DU l s= .ok t→t=s++l
 |[],s,t,e=>by cases e;simp
 |x::l,s,t,e=>by
  rw [wk] at e
  cases hb:AK C s x with
  |some c=>rw [hb] at e;cases e
  |none=>
   rw [hb] at e
   have:=F7 e
   rw [this]
   simp [DU]
theorem CO{C:Int}:∀{l s:List Int},(s++l).Nodup→(∀x∈l,0≤x∧x < C)→wk (AK C) DU l s= .ok (s++l)
 |[],s,_,_=>by simp [wk]
 |x::l,s,hn,hr=>by
  have hx:x∉s:=by
   intro h;rw [List.nodup_append] at hn;exact hn.2.2 x h x (List.mem_cons_self) rfl
  have hb:AK C s x=none:=by
   unfold AK;rw [if_neg (fun h=>h (hr x List.mem_cons_self)),if_neg hx]
  rw [wk,hb];simp only [];rw [CO (s:=DU s x) (by unfold DU;simpa using hn) fun y hy=>hr y (List.mem_cons_of_mem _ hy)];unfold DU;simp
theorem wR{C:Int}{r:List (List Int)}:rz C r=0↔r.length≤3∧r.flatten.Nodup∧∀x∈r.flatten,0≤x∧x < C:=by
 unfold rz;constructor
 ·intro h;split at h
  ·cases h
  ·cases e:wk (AK C) DU r.flatten [] with
   |ok t=>
    have h1:=AP (Mt C) (fun s x=>Mt.add) _ _ _ ⟨List.nodup_nil,fun x hx=>by cases hx⟩ e;have h2:=F7 e;rw [List.nil_append] at h2;subst h2;exact⟨by omega,h1.1,h1.2⟩
   |error c=>
    rw [e] at h;exfalso
    have:∀(l s:List Int),wk (AK C) DU l s≠.error 0:=by
     intro l
     induction l with
     |nil=>intro s h;cases h
     |cons x l ih=>
      intro s h;rw [wk] at h;cases hb:AK C s x with
      |some c=>
       rw [hb] at h;obtain rfl:c=0:=by injection h
       unfold AK at hb;split at hb
       ·cases hb
       ·split at hb <;> cases hb
      |none=>rw [hb] at h;exact ih _ h
    exact this _ _ (by rw [e,show c=0 from h])
 ·rintro⟨h1,h2,h3⟩;rw [if_neg (by omega),CO (by simpa using h2) h3]
def FI(m:ag)(g:bu):Int:=if(0≤g.1∧g.1 < mC m)∧0≤g.2.1∧g.2.1≤(mD m).length then 0 else 3
theorem Oi{k:Nat}{m:ag}(hC:1≤mC m∧mC m≤5){g:bu}:fV k m g=some (FI m g):=by
 have hc:ck (m.1 - 1)=some (m.1 - 1):=Rx hC;unfold fV FI;have e:decide (0≤g.1∧g.1≤m.1 - 1)=decide (0≤g.1∧g.1 < mC m):=decide_eq_decide.2 ⟨fun h=>⟨h.1,by show g.1 < m.1;omega⟩,fun h=>⟨h.1,by have:g.1 < m.1:=h.2;omega⟩⟩;rw [hc,bs,kM,bs,e];by_cases h1:0≤g.1∧g.1 < mC m
 ·by_cases h2:0≤g.2.1∧g.2.1≤(mD m).length <;> simp [h1,h2,kM]
 ·simp [h1]
def jv{α:Type}(f:α→Int)(l:List α):Int:=((l.map f).find? fun e=>decide (e≠0)).getD 0
theorem sH{α:Type}(f:α→Int):∀(l:List α) (j:Nat),eg (fun(_:Unit) _ x=>if¬(f x=0) then Except.error (f x) else .ok ()) j l ()=if jv f l=0 then .ok () else .error (jv f l)
 |[],j=>by simp [eg,jv]
 |x::l,j=>by
  rw [eg]
  by_cases h:f x=0
  ·
   have:jv f (x::l)=jv f l:=by simp [jv,h]
   rw [this]
   simp only [h,not_true_eq_false,if_false]
   exact sH f l (j+1)
  ·
   have:jv f (x::l)=f x:=by simp [jv,h]
   rw [this]
   simp [h]
theorem o7{α:Type}{f:α→Int}{l:List α}:jv f l=0↔∀x∈l,f x=0:=by
 induction l with
 |nil=>simp [jv]
 |cons x l ih=>
  by_cases h:f x=0
  ·have:jv f (x::l)=jv f l:=by simp [jv,h]
   rw [this,ih];simp [h]
  ·have:jv f (x::l)=f x:=by simp [jv,h]
   rw [this];simp [h]
structure Sm(m:ag):Prop where
 d:(mD m).length≤1000
 r:∀r∈mD m,r.length≤1000∧∀l∈r,l.length≤1000
 g:(mG m).length≤1000
def jX(m:ag):Int:=
 if¬((1≤mC m∧mC m≤5)∧(0≤mW m∧mW m≤3)∧(0≤mS m∧mS m≤3)∧1≤mH m∧mH m≤3) then 1
 else if(mD m).length=0 then 7 else if 6 < (mD m).length then 6 else if¬(jv (rz (mC m)) (mD m)=0) then jv (rz (mC m)) (mD m)
 else if 8 < (mG m).length then 6 else jv (FI m) (mG m)
theorem KI{k:Nat}{m:ag}(hs:Sm m)(hk:1000 < k):mE k m=some (jX m):=by
 unfold mE jX;simp only [kM,bs];by_cases h1:1≤mC m∧mC m≤5
 ·by_cases h2:0≤mW m∧mW m≤3
  ·by_cases h3:0≤mS m∧mS m≤3
   ·by_cases h4:1≤mH m∧mH m≤3
    ·have e1:(1≤m.1∧m.1≤5)=True:=eq_true h1;have e2:(0≤m.2.1∧m.2.1≤3)=True:=eq_true h2;have e3:(0≤m.2.2.1∧m.2.2.1≤3)=True:=eq_true h3;have e4:(1≤m.2.2.2.1∧m.2.2.2.1≤3)=True:=eq_true h4;simp only [e1,e2,e3,e4,decide_true,not_true_eq_false,if_false,Bool.not_true,Bool.false_eq_true,bs,and_self,h1,h2,h3,h4];by_cases h5:(mD m).length=0
     ·rw [if_pos (show((m.2.2.2.2.1.length:Int) < 1) by have:m.2.2.2.2.1.length=0:=h5;omega),if_pos h5]
     ·rw [if_neg (show¬((m.2.2.2.2.1.length:Int) < 1) by have:m.2.2.2.2.1.length≠0:=h5;omega),if_neg h5];by_cases h6:6 < (mD m).length
      ·rw [if_pos (show((6:Int) < (m.2.2.2.2.1.length:Int)) by have:6 < m.2.2.2.2.1.length:=h6;omega),if_pos h6]
      ·rw [if_neg (show¬((6:Int) < (m.2.2.2.2.1.length:Int)) by have:¬6 < m.2.2.2.2.1.length:=h6;omega),if_neg h6]
       have key:=lU (f:=eU k m) (mD m) (fun(_:Unit) j=>j) (fun _ _ x=>if¬(rz (mC m) x=0) then Except.error (rz (mC m) x) else .ok ()) (fun _ _=>True) (fun r=>some r)
        (fun n s j hj _=>by
         have hck:ck ((j:Int)+1)=some ((j:Int)+1):=c8 (by omega) (by omega);have hr:=hs.r _ (List.getElem_mem hj);refine⟨?_,fun _ _=>trivial⟩;have hj':(j:Int) < (m.2.2.2.2.1.length:Int):=Int.ofNat_lt.2 hj;have hg:aO m.2.2.2.2.1 (j:Int)=some (mD m)[j]:=dT hj;simp only [eU,hj',if_true,hg,bs,KH h1 hk hr.1 hr.2];by_cases e:rz (mC m) (mD m)[j]=0 <;> simp [e,hck])
        (fun n s _=>by
         unfold eU;rw [if_neg (Int.lt_irrefl _)]) (n:=k) (s0:=()) (by have:=hs.d;omega) trivial
       rw [show eU k m k 0=_ from key,sH];by_cases h7:jv (rz (mC m)) (mD m)=0
       ·rw [if_pos h7,ma,show(if¬(jv (rz (mC m)) (mD m)=0) then jv (rz (mC m)) (mD m) else if 8 < (mG m).length then 6 else jv (FI m) (mG m))=(if 8 < (mG m).length then 6 else jv (FI m) (mG m)) from if_neg (fun hn=>hn h7)];by_cases h8:8 < (mG m).length
        ·rw [if_pos (show((8:Int) < (m.2.2.2.2.2.length:Int)) by have:8 < m.2.2.2.2.2.length:=h8;omega),if_pos h8]
        ·rw [if_neg (show¬((8:Int) < (m.2.2.2.2.2.length:Int)) by have:¬8 < m.2.2.2.2.2.length:=h8;omega),if_neg h8]
         have key:=lU (f:=eT k m) (mG m) (fun(_:Unit) j=>j) (fun _ _ x=>if¬(FI m x=0) then Except.error (FI m x) else .ok ()) (fun _ _=>True) (fun r=>some r)
          (fun n s j hj _=>by
           have hck:ck ((j:Int)+1)=some ((j:Int)+1):=c8 (by omega) (by omega);refine⟨?_,fun _ _=>trivial⟩;have hj':(j:Int) < (m.2.2.2.2.2.length:Int):=Int.ofNat_lt.2 hj;have hg:aO m.2.2.2.2.2 (j:Int)=some (mG m)[j]:=dT hj;simp only [eT,hj',if_true,hg,bs,Oi h1];by_cases e:FI m (mG m)[j]=0 <;> simp [e,hck])
          (fun n s _=>by
           unfold eT;rw [if_neg (Int.lt_irrefl _)]) (n:=k) (s0:=()) (by have:=hs.g;omega) trivial
         rw [show eT k m k 0=_ from key,sH];by_cases h9:jv (FI m) (mG m)=0
         ·rw [if_pos h9,ma,h9]
         ·rw [if_neg h9,py]
       ·rw [if_neg h7,py,if_pos h7]
    ·have e1:(1≤m.1∧m.1≤5)=True:=eq_true h1;have e2:(0≤m.2.1∧m.2.1≤3)=True:=eq_true h2;have e3:(0≤m.2.2.1∧m.2.2.1≤3)=True:=eq_true h3;have e4:(1≤m.2.2.2.1∧m.2.2.2.1≤3)=False:=eq_false h4;refine Eq.trans ?_ (congrArg some (if_pos fun hh=>h4 hh.2.2.2).symm);simp [e1,e2,e3,e4]
   ·have e1:(1≤m.1∧m.1≤5)=True:=eq_true h1;have e2:(0≤m.2.1∧m.2.1≤3)=True:=eq_true h2;have e3:(0≤m.2.2.1∧m.2.2.1≤3)=False:=eq_false h3;refine Eq.trans ?_ (congrArg some (if_pos fun hh=>h3 hh.2.2.1).symm);simp [e1,e2,e3]
  ·have e1:(1≤m.1∧m.1≤5)=True:=eq_true h1;have e2:(0≤m.2.1∧m.2.1≤3)=False:=eq_false h2;refine Eq.trans ?_ (congrArg some (if_pos fun hh=>h2 hh.2.1).symm);simp [e1,e2]
 ·have e1:(1≤m.1∧m.1≤5)=False:=eq_false h1;refine Eq.trans ?_ (congrArg some (if_pos fun hh=>h1 hh.1).symm);simp [e1]
end Go.Proofs.YtlmopgkkijhllaaGreat
set_option linter.unusedVariables false
set_option linter.unusedSimpArgs false
namespace Go.Proofs.YtlmopgkkijhllaaGreat
open K Go Go.Proofs
theorem uC{r:List (List Int)}{l:List Int}(h:r.flatten.Nodup)(hl:l∈r):l.Nodup:=by
 obtain⟨s,t,rfl⟩:=List.append_of_mem hl;rw [List.flatten_append,List.flatten_cons,List.nodup_append] at h;have:=h.2.1;rw [List.nodup_append] at this;exact this.1
theorem Jt{σ:Type}{bad:σ→Int→Option Int}{add:σ→Int→σ}{x:Int}{l:List Int}{s:σ}{e:Int}(h:bad s x=some e):wk bad add (x::l) s= .error e:=by rw [wk,h]
theorem Jq{σ:Type}{bad:σ→Int→Option Int}{add:σ→Int→σ}{x:Int}{l:List Int}{s:σ}(h:bad s x=none):wk bad add (x::l) s=wk bad add l (add s x):=by rw [wk,h]
theorem Vd.of{m:ag}(h:jX m=0):Vd m:=by
 unfold jX at h;by_cases h1:(1≤mC m∧mC m≤5)∧(0≤mW m∧mW m≤3)∧(0≤mS m∧mS m≤3)∧1≤mH m∧mH m≤3
 ·rw [if_neg (fun hn=>hn h1)] at h;by_cases h2:(mD m).length=0
  ·rw [if_pos h2] at h;cases h
  ·rw [if_neg h2] at h;by_cases h3:6 < (mD m).length
   ·rw [if_pos h3] at h;cases h
   ·rw [if_neg h3] at h;by_cases h4:jv (rz (mC m)) (mD m)=0
    ·rw [if_neg (fun hn=>hn h4)] at h;by_cases h5:8 < (mG m).length
     ·rw [if_pos h5] at h;cases h
     ·rw [if_neg h5] at h;have hd:=fun r hr=>wR.1 (o7.1 h4 r hr);have hx:∀r∈mD m,∀l∈r,∀x∈l,0≤x∧x < mC m:=fun r hr l hl x hx=>(hd r hr).2.2 x (List.mem_flatten.2 ⟨l,hl,hx⟩)
      exact⟨h1.1.1,h1.1.2,h1.2.1.1,h1.2.1.2,h1.2.2.1.1,h1.2.2.1.2,h1.2.2.2.1,h1.2.2.2.2,by omega,by omega,fun r hr=>(hd r hr).1,fun r hr l hl=>by
       have hn:l.Nodup:=uC (hd r hr).2.1 hl;have:=rU (mC m).toNat l hn fun x hxx=>by have:=hx r hr l hl x hxx;omega
       omega,hx,fun r hr=>(hd r hr).2.1,by omega,fun g hg=>by
        have:=o7.1 h g hg;unfold FI at this;split at this
        ·rename_i hh;exact⟨hh.1.1,hh.1.2,hh.2.1,hh.2.2⟩
        ·cases this⟩
    ·rw [if_pos h4] at h;exact absurd h h4
 ·rw [if_pos h1] at h;cases h
theorem Vd.chk{m:ag}(v:Vd m):jX m=0:=by
 unfold jX;have h1:(1≤mC m∧mC m≤5)∧(0≤mW m∧mW m≤3)∧(0≤mS m∧mS m≤3)∧1≤mH m∧mH m≤3:=⟨⟨v.c1,v.c5⟩,⟨v.w0,v.w3⟩,⟨v.s0,v.s3⟩,v.h1,v.h3⟩
 have h4:jv (rz (mC m)) (mD m)=0:=o7.2 fun r hr=>wR.2 ⟨v.r3 r hr,v.nd r hr,fun x hx=>by
  obtain⟨l,hl,hx⟩:=List.mem_flatten.1 hx;exact v.x5 r hr l hl x hx⟩
 have h9:jv (FI m) (mG m)=0:=o7.2 fun g hg=>by
  have:=v.gl g hg;unfold FI;rw [if_pos ⟨⟨this.1,this.2.1⟩,this.2.2⟩]
 have d1:=v.d1;have d6:=v.d6;have g8:=v.g8;rw [if_neg (fun hn=>hn h1),if_neg (by omega),if_neg (by omega),if_neg (fun hn=>hn h4),if_neg (by omega),h9]
theorem Vd.sm{m:ag}(v:Vd m):Sm m:=⟨by have:=v.d6;omega,fun r hr=>⟨by have:=v.r3 r hr;omega,fun l hl=>by have:=v.l5 r hr l hl;omega⟩,by have:=v.g8;omega⟩
def vx(C:Int)(p:Option Int)(x:Int):Option Int:=if¬(0≤x∧x < C) then some 3 else if p.any (fun y=>decide (x≤y)) then some 5 else none
def LD(C:Int)(p:Option Int×Int)(x:Int):Option Int:=vx C p.1 x
def Pn(p:Option Int×Int)(x:Int):Option Int×Int:=(some x,vy p.2 x)
def LL(p:Option Int)(x:Int):Option Int:=some x
def sU(C:Int)(b:List Int):Int:=match wk (vx C) LL b none with | .error e=>e | .ok _=>0
def bO(b:List Int):Int:=b.foldl vy 0
theorem M5{C:Int}{p:Option Int}{x:Int}(h:vx C p x=none):(0≤x∧x < C)∧p.any (fun y=>decide (x≤y))=false:=by
 unfold vx at h;split at h
 ·cases h
 ·rename_i h';split at h
  ·cases h
  ·rename_i h2;exact⟨Decidable.not_not.1 h',by simpa using h2⟩
theorem DK{C:Int}:∀(b:List Int) (p:Option Int) (s:Int),(∃e,wk (LD C) Pn b (p,s)= .error e∧wk (vx C) LL b p= .error e)∨∃q,wk (LD C) Pn b (p,s)= .ok (q,b.foldl vy s)∧wk (vx C) LL b p= .ok q
 |[],p,s=>.inr ⟨p,rfl,rfl⟩
 |x::b,p,s=>by
  cases e:vx C p x with
  |some c=>exact .inl ⟨c,Jt e,Jt e⟩
  |none=>
   rw [Jq (bad:=LD C) (s:=(p,s)) (x:=x) e,Jq e]
   exact DK (C:=C) b (some x) (vy s x)
theorem zq{k:Nat}{m:ag}(hC:1≤mC m∧mC m≤5){b:List Int}(hk:b.length < k)(hb:b.length≤1000):
 eQ k m b k (0,0)=some (if sU (mC m) b=0 then .ok (bO b) else .error (none,0,sU (mC m) b)):=by
 have key:=lU (T:=Int×Int) (f:=eQ k m b) b (fun(s:Option Int×Int) j=>(s.2,j)) (fun s _ x=>match LD (mC m) s x with |some e=>Except.error e |none=>.ok (Pn s x)) (fun j s=>jx s.2∧s.1=if j=0 then none else b[j-1]?) (fun r=>some (match r with | .error e=>Except.error (none,0,e) | .ok s=>.ok s.2))
  (fun n s j hj hs=>by
   have hck:ck ((j:Int)+1)=some ((j:Int)+1):=c8 (by omega) (by omega);have hc:ck (m.1 - 1)=some (m.1 - 1):=Rx hC;refine⟨?_,fun s' e=>?_⟩
   ·simp only [eQ,Int.ofNat_lt,hj,if_true,dT hj,bs,hc,kM];generalize b[j]=x;rw [show LD (mC m) s x=vx (mC m) s.1 x from rfl];by_cases h:0≤x∧x < mC m
    ·have h':0≤x∧x≤m.1 - 1:=⟨h.1,by have:x < m.1:=h.2;omega⟩;have eb:vx (mC m) s.1 x=if s.1.any (fun y=>decide (x≤y)) then some 5 else none:=by unfold vx;rw [if_neg (fun hn=>hn h)]
     have ep:(if(0:Int) < (j:Int) then((ck ((j:Int) - 1)).bind fun x12=>(aO b x12).bind fun x13=>some (decide (x≤x13))) else some false)=some (s.1.any fun y=>decide (x≤y)):=by
      rw [hs.2];by_cases h0:j=0
      ·subst h0;simp
      ·have c1:ck ((j:Int) - 1)=some ((j - 1:Nat):Int):=by rw [c8 (by omega) (by omega),show((j:Int) - 1)=((j - 1:Nat):Int) by omega]
       rw [if_pos (by omega),c1,bs,dT (by omega),bs,if_neg h0,List.getElem?_eq_getElem (by omega)];rfl
     rw [eb];simp only [h',and_self,decide_true,not_true_eq_false,if_false,bs];rw [ep,bs];cases s.1.any fun y=>decide (x≤y) with
     |true=>simp only [if_true]
     |false=>
      simp only [Bool.false_eq_true,if_false,(mQ (k:=k) hs.1 h.1 (by omega)).1,bs,hck];rfl
    ·have h':¬(0≤x∧x≤m.1 - 1):=fun hh=>h ⟨hh.1,by show x < m.1;omega⟩;have eb:vx (mC m) s.1 x=some 3:=by unfold vx;rw [if_pos h]
     rw [eb];simp only [h',decide_false,Bool.false_eq_true,not_false_eq_true,if_true,bs]
   ·cases e2:LD (mC m) s b[j] with
    |some c=>rw [e2] at e;cases e
    |none=>
     rw [e2] at e;cases e;have hx:=M5 e2;exact⟨(mQ (k:=0) hs.1 hx.1.1 (by omega)).2.1,by show some b[j]=if j+1=0 then none else b[j+1 - 1]?;rw [if_neg (by omega)];simp [List.getElem?_eq_getElem hj]⟩)
  (fun n s _=>by simp [eQ]) (n:=k) (s0:=(none,0)) hk ⟨uJ,rfl⟩
 rw [show eQ k m b k (0,0)=_ from key]
 have e1:eg (fun(s:Option Int×Int) _ x=>match LD (mC m) s x with |some e=>Except.error e |none=>.ok (Pn s x)) 0 b (none,0)=wk (LD (mC m)) Pn b (none,0):=xh (bad:=LD (mC m)) (add:=Pn) b 0 (none,0)
 rw [e1]
 unfold sU
 have z:∀(l:List Int) (p:Option Int),wk (vx (mC m)) LL l p≠.error 0:=by
  intro l
  induction l with
  |nil=>intro p h;cases h
  |cons x l ih=>
   intro p h;rw [wk] at h;cases hb:vx (mC m) p x with
   |some c=>
    rw [hb] at h;obtain rfl:c=0:=by injection h
    unfold vx at hb;split at hb
    ·cases hb
    ·split at hb <;> cases hb
   |none=>rw [hb] at h;exact ih _ h
 rcases DK (C:=mC m) b none 0 with⟨e,h1,h2⟩ |⟨q,h1,h2⟩
 ·
  rw [h1,h2];simp only [];rw [if_neg (fun h0=>z b none (by rw [h2,h0]))]
 ·
  rw [h1,h2];rfl
end Go.Proofs.YtlmopgkkijhllaaGreat
set_option linter.unusedVariables false
set_option linter.unusedSimpArgs false
namespace Go.Proofs.YtlmopgkkijhllaaGreat
open K Go Go.Proofs
theorem yW{C:Int}(hC:C≤5):∀(b:List Int) (s:Int),jx s→(∀x∈b,0≤x∧x < C)→jx (b.foldl vy s)∧∀i:Nat,dO (b.foldl vy s) i↔dO s i∨(i:Int)∈b
 |[],s,hs,_=>⟨hs,fun i=>by simp⟩
 |x::b,s,hs,hb=>by
  have hx:=hb x List.mem_cons_self
  have hw:=mQ (k:=0) hs hx.1 (by omega)
  have:=yW hC b (vy s x) hw.2.1 fun y hy=>hb y (List.mem_cons_of_mem _ hy)
  refine⟨this.1,fun i=>?_⟩
  show dO (b.foldl vy (vy s x)) i↔_
  rw [this.2 i,hw.2.2 i,List.mem_cons,or_assoc]
structure Bg(C:Int)(b:List Int):Prop where
 rng:∀x∈b,0≤x∧x < C
 asc:b.Pairwise (· < ·)
theorem AQ{C:Int}:∀{b:List Int} {p:Option Int},(∃q,wk (vx C) LL b p= .ok q)↔(∀x∈b,0≤x∧x < C)∧b.Pairwise (· < ·)∧∀y,p=some y→∀x∈b.head?,y < x
 |[],p=>by simp [wk]
 |x::b,p=>by
  cases e:vx C p x with
  |some c=>
   rw [Jt e]
   constructor
   ·
    rintro⟨q,h⟩;cases h
   ·
    rintro⟨h1,h2,h3⟩
    exfalso
    unfold vx at e
    rw [if_neg (fun hn=>hn (h1 x List.mem_cons_self))] at e
    cases p with
    |none=>cases e
    |some y=>
     have:=h3 y rfl x (by simp)
     rw [if_neg (by simp;omega)] at e
     cases e
  |none=>
   have hx:=M5 e
   rw [Jq e,AQ (b:=b) (p:=LL p x)]
   constructor
   ·
    rintro⟨h1,h2,h3⟩
    refine⟨fun y hy=>?_,?_,fun y hy z hz=>?_⟩
    ·
     rcases List.mem_cons.1 hy with rfl |hy
     ·
      exact hx.1
     ·
      exact h1 y hy
    ·
     rw [List.pairwise_cons]
     refine⟨fun y hy=>?_,h2⟩
     cases b with
     |nil=>cases hy
     |cons z b=>
      have hz:=h3 x rfl z (by simp)
      rcases List.mem_cons.1 hy with rfl |hy
      ·
       exact hz
      ·
       have:=(List.pairwise_cons.1 h2).1 y hy;omega
    ·
     have e2:=hx.2
     rw [hy] at e2
     simp at e2
     simp at hz
     omega
   ·
    rintro⟨h1,h2,h3⟩
    rw [List.pairwise_cons] at h2
    refine⟨fun y hy=>h1 y (List.mem_cons_of_mem _ hy),h2.2,fun y hy z hz=>?_⟩
    obtain rfl:x=y:=by simpa [LL] using hy
    exact h2.1 z (List.mem_of_mem_head? hz)
theorem DL{C:Int}:∀{l:List Int} {p:Option Int},wk (vx C) LL l p≠.error 0
 |[],p,h=>by cases h
 |x::l,p,h=>by
  cases hb:vx C p x with
  |some c=>
   rw [Jt hb] at h
   obtain rfl:c=0:=by injection h
   unfold vx at hb
   split at hb
   ·
    cases hb
   ·
    split at hb <;> cases hb
  |none=>rw [Jq hb] at h;exact DL h
theorem pn{C:Int}{b:List Int}:sU C b=0↔Bg C b:=by
 unfold sU;constructor
 ·intro h;cases e:wk (vx C) LL b none with
  |error c=>rw [e] at h;exact absurd (by rw [e,show c=0 from h]) (DL (C:=C) (l:=b) (p:=none))
  |ok q=>have:=AQ.1 ⟨q,e⟩;exact⟨this.1,this.2.1⟩
 ·rintro⟨h1,h2⟩;obtain⟨q,e⟩:=(AQ (p:=none)).2 ⟨h1,h2,fun y hy=>by cases hy⟩;rw [e]
theorem Bg.set{C:Int}(hC:C≤5){b:List Int}(h:Bg C b):jx (bO b)∧∀c:Int,0≤c→l9 (bO b) c=decide (c∈b):=by
 have:=yW hC b 0 uJ h.rng;refine⟨this.1,fun c hc=>?_⟩;unfold l9;have e:((c.toNat:Nat):Int)=c:=by omega
 have h2:=this.2 c.toNat;rw [e] at h2;refine decide_eq_decide.2 ?_;show dO (b.foldl vy 0) c.toNat↔_;rw [h2];simp [dO]
def uL(m:ag)(i:Nat):Int:=match i with |0=>mC m - 1 |1=>((mD m).length:Int) - 1 |_=>(mD m).length
def xP(n:Int)(l:List Int):Bool:=l.all fun x=>decide (0≤x∧x≤n)
theorem pS{k:Nat}{m:ag}(v:Vd m){i:Nat}(hi:i < 3){l:List Int}(hk:l.length < k)(hl:l.length≤1000):
 dn k m (i:Int) l k 0=some (if xP (uL m i) l then .ok () else .error (none,0,3)):=by
 have c1:=v.c1
 have c5:=v.c5
 have d6:=v.d6
 have d1:=v.d1
 have key:=lU (T:=Int) (f:=dn k m (i:Int) l) l (fun(_:Unit) j=>j) (fun _ _ x=>if 0≤x∧x≤uL m i then .ok () else Except.error ((none,0,3):Option ag×Int×Int)) (fun _ _=>True) (fun r=>some r)
  (fun n s j hj _=>by
   have hck:ck ((j:Int)+1)=some ((j:Int)+1):=c8 (by omega) (by omega);have hc:ck (m.1 - 1)=some (mC m - 1):=Rx ⟨c1,c5⟩;have hd:ck ((m.2.2.2.2.1.length:Int) - 1)=some (((mD m).length:Int) - 1):=c8 (by show _≤((mD m).length:Int) - 1;omega) (by show((mD m).length:Int) - 1≤_;omega)
   have hg:aO [mC m - 1,((mD m).length:Int) - 1,((mD m).length:Int)] (i:Int)=some (uL m i):=by
    have:i=0∨i=1∨i=2:=by omega
    rcases this with rfl |rfl |rfl <;> rfl
   refine⟨?_,fun _ _=>trivial⟩;simp only [dn,Int.ofNat_lt,hj,if_true,dT hj,bs,hc,hd];rw [show aO [mC m - 1,((mD m).length:Int) - 1,(m.2.2.2.2.1.length:Int)] (i:Int)=some (uL m i) from hg,bs,kM,bs];by_cases h:0≤l[j]∧l[j]≤uL m i
   ·rw [if_pos h];simp only [h,and_self,decide_true,not_true_eq_false,if_false,hck,bs]
   ·rw [if_neg h];simp only [h,decide_false,Bool.false_eq_true,not_false_eq_true,if_true])
  (fun n s _=>by simp [dn]) (n:=k) (s0:=()) hk trivial
 rw [show dn k m (i:Int) l k 0=_ from key]
 congr 1
 have:∀(l:List Int) (j:Nat),eg (fun(_:Unit) _ x=>if 0≤x∧x≤uL m i then .ok () else Except.error ((none,0,3):Option ag×Int×Int)) j l ()=if xP (uL m i) l then .ok () else .error (none,0,3):=by
  intro l
  induction l with
  |nil=>intro j;rfl
  |cons x l ih=>
   intro j;rw [eg];by_cases h:0≤x∧x≤uL m i
   ·rw [if_pos h];have:xP (uL m i) (x::l)=xP (uL m i) l:=by simp only [xP,List.all_cons,h,and_self,decide_true,Bool.true_and]
    rw [this];exact ih (j+1)
   ·rw [if_neg h];have:xP (uL m i) (x::l)=false:=by simp only [xP,List.all_cons,h,decide_false,Bool.false_and]
    rw [this];rfl
 exact this l 0
theorem yL{k:Nat}{m:ag}(v:Vd m)(hk:10≤k):∀n:Nat,n≤32→vZ k m n=some ()
 |0,_=>rfl
 |n+1,h=>by
  have e:IntKind.u8.wrap (n:Int)=(n:Int):=tH (by omega)
  unfold vZ
  rw [yL v hk n (by omega),bs,e,sR v hk ⟨by omega,by omega⟩,bs]
theorem Jx{k:Nat}{m:ag}(v:Vd m)(hk:10≤k):ew k m=some ():=by
 have c1:=v.c1;have c5:=v.c5;unfold ew
 have hc:m.1=1∨m.1=2∨m.1=3∨m.1=4∨m.1=5:=by
  have h1:1≤m.1:=c1;have h2:m.1≤5:=c5;omega
 have e:0≤oz .i64 1 m.1∧oz .i64 1 m.1≤32:=by
  rcases hc with h |h |h |h |h <;> rw [h] <;> decide
 rw [if_pos ⟨by rcases hc with h |h |h |h |h <;> omega,by omega⟩];exact yL v hk _ (by omega)
def NZ(m:ag)(cs ds ns:List Int):Bool:=xP (uL m 0) cs && xP (uL m 1) ds && xP (uL m 2) ns
theorem uF{k:Nat}{m:ag}{b cs ds ns:List Int}(hs:Sm m)(hk:1010≤k)(hb:b.length≤1000)(h1:cs.length≤1000)(h2:ds.length≤1000)(h3:ns.length≤1000):
 jN k m b cs ds ns=some (if¬(jX m=0) then(none,0,jX m) else if¬(sU (mC m) b=0) then(none,0,sU (mC m) b) else if NZ m cs ds ns then(some m,bO b,0) else(none,0,3)):=by
 unfold jN
 rw [KI hs (by omega),bs]
 by_cases hc:jX m=0
 ·
  have v:=Vd.of hc;rw [if_neg (fun hn=>hn hc),if_neg (fun hn=>hn hc),zq ⟨v.c1,v.c5⟩ (by omega) hb];by_cases hg:sU (mC m) b=0
  ·rw [if_pos hg,ma,if_neg (fun hn=>hn hg)];obtain⟨n,rfl⟩:∃n,k=n+4:=⟨k - 4,by omega⟩;have e0:=pS v (k:=n+4) (i:=0) (by omega) (l:=cs) (by omega) h1;have e1:=pS v (k:=n+4) (i:=1) (by omega) (l:=ds) (by omega) h2;have e2:=pS v (k:=n+4) (i:=2) (by omega) (l:=ns) (by omega) h3;have g0:aO [cs,ds,ns] (0:Int)=some cs:=rfl;have g1:aO [cs,ds,ns] (1:Int)=some ds:=rfl;have g2:aO [cs,ds,ns] (2:Int)=some ns:=rfl;have k0:ck ((0:Int)+1)=some 1:=rfl;have k1:ck ((1:Int)+1)=some 2:=rfl;have k2:ck ((2:Int)+1)=some 3:=rfl;have ln:(([cs,ds,ns]:List (List Int)).length:Int)=3:=rfl
   have s0:cJ (n+4) m cs ds ns (n+4) 0=if xP (uL m 0) cs then cJ (n+4) m cs ds ns (n+3) 1 else some (.error (none,0,3)):=by
    rw [cJ,ln,if_pos (by decide),g0,bs,show dn (n+4) m 0 cs (n+4) 0=_ from e0];cases xP (uL m 0) cs with
    |true=>simp only [if_true];rw [ma,k0,bs]
    |false=>simp only [Bool.false_eq_true,if_false];rw [py]
   have s1:cJ (n+4) m cs ds ns (n+3) 1=if xP (uL m 1) ds then cJ (n+4) m cs ds ns (n+2) 2 else some (.error (none,0,3)):=by
    rw [cJ,ln,if_pos (by decide),g1,bs,show dn (n+4) m 1 ds (n+4) 0=_ from e1];cases xP (uL m 1) ds with
    |true=>simp only [if_true];rw [ma,k1,bs]
    |false=>simp only [Bool.false_eq_true,if_false];rw [py]
   have s2:cJ (n+4) m cs ds ns (n+2) 2=if xP (uL m 2) ns then cJ (n+4) m cs ds ns (n+1) 3 else some (.error (none,0,3)):=by
    rw [cJ,ln,if_pos (by decide),g2,bs,show dn (n+4) m 2 ns (n+4) 0=_ from e2];cases xP (uL m 2) ns with
    |true=>simp only [if_true];rw [ma,k2,bs]
    |false=>simp only [Bool.false_eq_true,if_false];rw [py]
   have s3:cJ (n+4) m cs ds ns (n+1) 3=some (.ok ()):=by
    rw [cJ,ln,if_neg (by decide)]
   rw [s0,s1,s2,s3];unfold NZ
   have fin:((iS (n+4) m).bind fun r32=>fN r32 none (fun q33=>(ew (n+4) q33).bind fun r35=>some (some q33,bO b,(0:Int))))=some (some m,bO b,0):=by
    unfold iS;rw [bs,rA,Jx v (by omega),bs]
   cases xP (uL m 0) cs with
   |false=>simp only [Bool.false_eq_true,if_false,Bool.false_and];rw [py]
   |true=>
    cases xP (uL m 1) ds with
    |false=>simp only [if_true,Bool.false_eq_true,if_false,Bool.true_and,Bool.false_and];rw [py]
    |true=>
     cases xP (uL m 2) ns with
     |false=>simp only [if_true,Bool.false_eq_true,if_false,Bool.true_and,Bool.and_false];rw [py]
     |true=>simp only [if_true,Bool.true_and];rw [ma];exact fin
  ·rw [if_neg hg,py,if_pos hg]
 ·
  rw [if_pos hc,if_pos hc]
end Go.Proofs.YtlmopgkkijhllaaGreat
set_option linter.unusedVariables false
set_option linter.unusedSimpArgs false
namespace Go.Proofs.YtlmopgkkijhllaaGreat
open K Go Go.Proofs
def nH(m:ag)(B:Int→Bool)(n:Nat):List Int:=(List.range (mC m).toNat).map fun(c:Nat)=>mg m B n (c:Int)
def lx(m:ag)(B:Int→Bool):List (List Int):=(List.range ((mD m).length+1)).map (nH m B)
theorem GQ{m:ag}{B:Int→Bool}{n:Nat}{c:Int}(h0:0≤c)(h1:c < mC m):aO (nH m B n) c=some (mg m B n c):=by
 unfold nH;rw [aO,if_pos h0,List.getElem?_map,List.getElem?_range (by omega)];show some (mg m B n ((c.toNat:Nat):Int))=_;rw [show((c.toNat:Nat):Int)=c by omega]
theorem wS{m:ag}{B:Int→Bool}{n:Nat}(h:n≤(mD m).length):aO (lx m B) (n:Int)=some (nH m B n):=by
 unfold lx;rw [aO,if_pos (by omega),List.getElem?_map,Int.toNat_natCast,List.getElem?_range (by omega)];rfl
theorem Gw{f:Int→Int}{C:Int}(h0:0≤C)(h5:C≤5):List.take C.toNat (kA f)=(List.range C.toNat).map fun(c:Nat)=>f (c:Int):=by
 have:C=0∨C=1∨C=2∨C=3∨C=4∨C=5:=by omega
 rcases this with rfl |rfl |rfl |rfl |rfl |rfl <;> rfl
theorem BD{k:Nat}{m:ag}{b:List Int}(hs:Sm m)(hk:1010≤k)(hb:b.length≤1000):
 iz k m b=some (if¬(jX m=0) then([],jX m) else if¬(sU (mC m) b=0) then([],sU (mC m) b) else(lx m fun c=>decide (c∈b),0)):=by
 unfold iz
 rw [uF hs hk hb (by simp) (by simp) (by simp),bs]
 by_cases hc:jX m=0
 ·
  have v:=Vd.of hc;by_cases hg:sU (mC m) b=0
  ·have hB:=(pn.1 hg).set v.c5;have ho:NZ m [] [] []=true:=rfl;have c1:=v.c1;have c5:=v.c5;have d6:=v.d6;simp only [hc,hg,ho,not_true_eq_false,if_false,if_true,rA];rw [sR v (by omega) hB.1,bs]
   have hd:ck ((m.2.2.2.2.1.length:Int)+1)=some (((mD m).length+1:Nat):Int):=by
    rw [c8 (by show _≤((mD m).length:Int)+1;omega) (by show((mD m).length:Int)+1≤_;omega)];rfl
   rw [hd,bs]
   have key:=i8 (T:=List (List Int)×Int) (f:=ec k m (cr (FK m (l9 (bO b)))) (((mD m).length+1:Nat):Int)) (List.range ((mD m).length+1)) (fun(s:List (List Int)) j=>(s,j)) (fun s j _=>s++[nH m (l9 (bO b)) j]) (fun j s=>s=(List.range j).map (nH m (l9 (bO b)))) (fun s=>some s)
    (fun n s j hj hs=>by
     rw [List.length_range] at hj;have hck:ck ((j:Int)+1)=some ((j:Int)+1):=c8 (by omega) (by omega);have hjlt:(j:Int) < (((mD m).length+1:Nat):Int):=by omega
     have hp:cF (0≤m.1∧m.1≤5)=some ():=du ⟨by show 0≤mC m;omega,c5⟩
     have ht:List.take (Int.toNat m.1) (kA (FK m (l9 (bO b)) j))=nH m (l9 (bO b)) j:=by
      rw [Gw (by show 0≤mC m;omega) c5];unfold nH;refine List.map_congr_left fun c hc=>?_;have:=List.mem_range.1 hc;exact DD v (by omega) (by omega) (by show _ < mC m;omega)
     have hl:(nH m (l9 (bO b)) j).length≤5:=by unfold nH;rw [List.length_map,List.length_range];omega
     have hsl:s.length=j:=by rw [hs,List.length_map,List.length_range]
     have hcl:hH k (nH m (l9 (bO b)) j)=some (nH m (l9 (bO b)) j):=by
      unfold hH;rw [du (by show _≤_;omega),bs]
     have hok:cF (bK (List.length s+List.length [nH m (l9 (bO b)) j]))=some ():=du (by simp [bK];omega);refine⟨?_,?_⟩
     ·simp only [ec,hjlt,if_true,BX (F:=FK m (l9 (bO b))) (show j < 7 by omega),bs,hp,ht,hcl,hok,hck]
     ·rw [hs,List.range_succ,List.map_append];rfl)
    (fun n s hs=>by
     rw [List.length_range];unfold ec;rw [if_neg (Int.lt_irrefl _)]) (n:=k) (s0:=[]) (by rw [List.length_range];omega) rfl
   rw [show ec k m (cr (FK m (l9 (bO b)))) (((mD m).length+1:Nat):Int) k ([],0)=_ from key.1,bs,key.2,List.length_range]
   have hcs:(List.range ((mD m).length+1)).map (nH m (l9 (bO b)))=lx m fun c=>decide (c∈b):=by
    unfold lx;refine List.map_congr_left fun n hn=>?_;unfold nH;refine List.map_congr_left fun c hc=>?_
    have hage:∀(n:Nat) (c:Int),0≤c→c < mC m→mg m (l9 (bO b)) n c=mg m (fun c=>decide (c∈b)) n c:=by
     intro n
     induction n with
     |zero=>intro c h0 h1;unfold mg;rw [hB.2 c h0]
     |succ n ih=>
      intro c h0 h1;unfold mg;cases e:DJ m n c with
      |none=>simp only [];rw [ih c h0 h1]
      |some l=>
       have hb:=(va v e).2
       have:(l.any fun x=>decide (mW m≤mg m (l9 (bO b)) n x))=l.any fun x=>decide (mW m≤mg m (fun c=>decide (c∈b)) n x):=by
        rw [Bool.eq_iff_iff];simp only [List.any_eq_true,decide_eq_true_eq];constructor
        ·rintro⟨x,hx,h⟩;exact⟨x,hx,by rw [←ih x (hb x hx).1 (hb x hx).2];exact h⟩
        ·rintro⟨x,hx,h⟩;exact⟨x,hx,by rw [ih x (hb x hx).1 (hb x hx).2];exact h⟩
       simp only [];rw [ih c h0 h1,this]
    have:=List.mem_range.1 hc;exact hage n c (by omega) (by omega)
   rw [hcs]
  ·simp only [hc,hg,not_true_eq_false,not_false_eq_true,if_false,if_true,nq]
 ·
  simp only [hc,not_false_eq_true,if_true,nq]
end Go.Proofs.YtlmopgkkijhllaaGreat
set_option linter.unusedVariables false
set_option linter.unusedSimpArgs false
namespace Go.Proofs.YtlmopgkkijhllaaGreat
open K Go Go.Proofs
theorem Lo.mono{l:bP}{m n:Int}(h:Lo l m)(hn:m≤n):Lo l n:=⟨h.1,Int.le_trans h.2 hn⟩
theorem Uh{α:Type}{l:List α}{x:α}{n:Nat}(h:l.length≤n)(hn:n≤1000000):bK (List.length l+List.length [x]):=by
 show List.length l+List.length [x]≤4294967296;simp only [List.length_cons,List.length_nil];omega
theorem BB{k:Nat}(hk:50≤k){l:bP}{m:Int}{n:Nat}(hl:Lo l m)(hm:0≤m∧m≤1000)(hn:n≤8):W (gB k l (n:Int)) fun r=>Lo r.2 (m+10)∧r.1.length=n∧(∀x∈r.1,0≤x∧x < (n:Int))∧r.1.Nodup:=by
 unfold gB;refine W.bind (R:=fun r=>Lo (r.2.1,r.2.2.1,r.2.2.2) (m+10)∧r.1.length=n∧(∀x∈r.1,0≤x∧x < (n:Int))∧r.1.Nodup) ?_ fun r h=>W.ret h
 refine W.loop (f:=dQ k (n:Int)) (fun q y=>∃j:Nat,y.2.2.2.2=(j:Int)∧j≤n∧q=n - j∧Lo (y.1,y.2.1,y.2.2.1) (m+j)∧y.2.2.2.1.length=j∧(∀x∈y.2.2.2.1,0≤x∧x < (j:Int))∧y.2.2.2.1.Nodup) ?_ n k _ (by omega)
  ⟨0,rfl,by omega,by omega,by simpa using hl,rfl,by simp,by simp⟩
 rintro aF q ⟨nums,d,s,o,y⟩ ⟨j,hj,hle,hq,hlo,hlen,hx,hnd⟩ ih;simp only at hj hlo hlen hx hnd;subst hj;unfold dQ;dsimp only;refine W.ite (fun hlt=>?_) (fun hge=>W.ret ⟨hlo.mono (by omega),by show o.length=n;omega,fun x hx'=>by have:=hx x hx';omega,hnd⟩);obtain⟨r5,e5,a5,b5,c5⟩:=jC (k:=k) (n:=(j:Int)) hlo (by omega) (by omega);have b5:=b5 (by omega);have ho:(o++[(j:Int)]).length=j+1:=by simp [hlen]
 have hr5:r5.1.toNat < (o++[(j:Int)]).length:=by omega
 have hjl:j < (o++[(j:Int)]).length:=by omega
 have hgj:(o++[(j:Int)])[j]=(j:Int):=by
  rw [List.getElem_append_right (by omega)];simp [hlen]
 rw [e5,bs,du (Uh (n:=8) (by omega) (by omega)),bs,xT a5 hr5,bs,dT (by omega),bs];have hgs:aO (List.set (o++[(j:Int)]) (Int.toNat (j:Int)) (o++[(j:Int)])[r5.1.toNat]) r5.1=some ((List.set (o++[(j:Int)]) (Int.toNat (j:Int)) (o++[(j:Int)])[r5.1.toNat])[r5.1.toNat]'(by rw [List.length_set];exact hr5)):=xT a5 (by rw [List.length_set];exact hr5);rw [hgs,bs,c8 (by omega) (by omega),bs]
 have hp:(List.set (List.set (o++[(j:Int)]) (Int.toNat (j:Int)) (o++[(j:Int)])[r5.1.toNat]) (Int.toNat r5.1) (j:Int)).Perm (o++[(j:Int)]):=by
  have:= @List.set_set_perm Int (o++[(j:Int)]) j r5.1.toNat hjl hr5;rw [hgj] at this;exact this
 refine ih (q - 1) (_,_,_,_,(j:Int)+1) (by omega) ⟨j+1,by show(j:Int)+1=((j+1:Nat):Int);omega,by omega,by omega,c5.mono (by omega),by simp [hlen],fun x hx'=>?_,hp.nodup_iff.2 ?_⟩
 ·rcases List.mem_append.1 (hp.mem_iff.1 hx') with h |h
  ·have:=hx x h;omega
  ·rw [List.mem_singleton] at h;omega
 ·rw [List.nodup_append];exact⟨hnd,by simp,fun a ha b hb=>by rw [List.mem_singleton] at hb;subst hb;have:=hx a ha;omega⟩
theorem Ih{out:List (List Int)}{i:Nat}{x:Int}(h:i < out.length):(out.set i (out[i]++[x])).flatten.Perm (out.flatten++[x]):=by
 have e1:out=out.take i++out[i]::out.drop (i+1):=by rw [←List.drop_eq_getElem_cons h,List.take_append_drop]
 have e2:out.set i (out[i]++[x])=out.take i++(out[i]++[x])::out.drop (i+1):=List.set_eq_take_append_cons_drop.trans (if_pos h);rw [e2]
 have e3:out.flatten=(out.take i).flatten++(out[i]++(out.drop (i+1)).flatten):=by
  conv=>lhs;rw [e1]
  rw [List.flatten_append,List.flatten_cons]
 rw [e3,List.flatten_append,List.flatten_cons]
 have:((out.take i).flatten++((out[i]++[x])++(out.drop (i+1)).flatten)).Perm ((out.take i).flatten++(out[i]++((out.drop (i+1)).flatten++[x]))):=by
  refine List.Perm.append_left _ ?_;rw [List.append_assoc];exact List.Perm.append_left _ (List.perm_append_comm)
 refine this.trans ?_;simp
structure Rl(C:Int)(r:List (List Int)):Prop where
 r3:r.length≤3
 x5:∀l∈r,∀x∈l,0≤x∧x < C
 nd:r.flatten.Nodup
theorem Rl.l5{C:Int}(hC:0≤C∧C≤5){r:List (List Int)}(h:Rl C r):∀l∈r,l.length≤5:=fun l hl=>by
 have:=rU C.toNat l (uC h.nd hl) fun x hx=>by have:=h.x5 l hl x hx;omega
 omega
theorem GY{k:Nat}(hk:50≤k){l:bP}{m:Int}{n:Nat}(hl:Lo l m)(hm:0≤m∧m≤900)(hn:n≤5):
 W (jR k l (n:Int)) fun r=>Lo r.2 (m+30)∧Rl (n:Int) r.1:=by
 unfold jR
 refine W.bind (Dm (l:=(l.1,l.2.1,l.2.2)) hl (by omega) (by omega) (by omega) (by omega)) fun r1 h1=>?_
 refine W.chk ⟨by omega,by show _≤_;omega⟩ ?_
 refine W.bind (BB hk (l:=(r1.2.1,r1.2.2.1,r1.2.2.2)) (m:=m+1) (n:=n) h1.2.2 (by omega) (by omega)) fun r4 h4=>?_
 obtain⟨lo4,len4,rng4,nd4⟩:=h4
 refine W.bind (R:=fun x=>Lo (x.1,x.2.1,x.2.2.1) (m+30)∧Rl (n:Int) x.2.2.2) ?_ fun x hx=>W.ret hx
 refine W.loop (f:=fj k r4) (fun q y=>∃j:Nat,y.2.2.2.1=(j:Int)∧j≤n∧q=n - j∧Lo (y.1,y.2.1,y.2.2.1) (m+11+2 * j)∧y.2.2.2.2.length=r1.1.toNat∧(∀x∈y.2.2.2.2.flatten,x∈r4.1.take j)∧y.2.2.2.2.flatten.Nodup) ?_ n k _ (by omega)
  ⟨0,rfl,by omega,by omega,lo4.mono (by omega),by simp,by simp,by simp⟩
 rintro aF q ⟨nums,d,s,y,out⟩ ⟨j,hj,hle,hq,hlo,hlen,hx,hnd⟩ ih
 simp only at hj hlo hlen hx hnd
 subst hj
 unfold fj
 dsimp only
 refine W.ite (fun hlt=>?_) (fun hge=>W.ret ⟨hlo.mono (by omega),by show out.length≤3;omega,fun l hl x hxx=>rng4 x (List.mem_of_mem_take (hx x (List.mem_flatten.2 ⟨l,hl,hxx⟩))),hnd⟩)
 have hj:j < r4.1.length:=by omega
 have hsub:∀x∈r4.1.take j,x∈r4.1.take (j+1):=fun x hh=>by rw [List.take_add_one];exact List.mem_append_left _ hh
 refine W.bind (R:=fun x=>Lo (x.1,x.2.1,x.2.2.1) (m+11+2 * j+2)∧x.2.2.2.length=r1.1.toNat∧(∀z∈x.2.2.2.flatten,z∈r4.1.take (j+1))∧x.2.2.2.flatten.Nodup) ?_ fun x9 h9=>?_
 ·
  refine W.bind (xu (l:=(nums,d,s)) hlo (by omega) (by omega) (by omega)) fun r11 h11=>?_;refine W.ite (fun _=>W.ret ⟨h11.mono (by omega),hlen,fun z hz=>hsub z (hx z hz),hnd⟩) (fun _=>?_);refine W.ck (by omega) (by omega) ?_;refine W.bind (jC (l:=(r11.2.1,r11.2.2.1,r11.2.2.2)) h11 (by omega) (by omega)) fun r13 h13=>?_;have b13:=h13.2.1 (by omega);have hi:r13.1.toNat < out.length:=by omega
  rw [xT h13.1 hi,bs,dT hj,bs]
  have hxj:r4.1[j]∉out.flatten:=fun hin=>by
   have:=hx _ hin;obtain⟨i,hi',e⟩:=List.getElem_of_mem this;rw [List.length_take] at hi';rw [List.getElem_take] at e;have:=(List.getElem_inj nd4).1 e;omega
  have hlen2:(out[r13.1.toNat]).length≤5:=by
   have:=rU n _ (uC hnd (List.getElem_mem hi)) fun x hxx=>rng4 x (List.mem_of_mem_take (hx x (List.mem_flatten.2 ⟨_,List.getElem_mem hi,hxx⟩)));omega
  rw [du (by simp [bK];omega),bs];have hp:=Ih (x:=r4.1[j]) hi;refine W.ret ⟨h13.2.2.mono (by omega),by show(List.set _ _ _).length=_;rw [List.length_set];exact hlen,fun z hz=>?_,hp.nodup_iff.2 ?_⟩
  ·rcases List.mem_append.1 (hp.mem_iff.1 hz) with h |h
   ·exact hsub z (hx z h)
   ·rw [List.mem_singleton.1 h,List.take_add_one,List.getElem?_eq_getElem hj];exact List.mem_append_right _ (by simp)
  ·rw [List.nodup_append];exact⟨hnd,by simp,fun a ha b hb e=>by rw [List.mem_singleton.1 hb] at e;exact hxj (e▸ha)⟩
 ·
  refine W.ck (by omega) (by omega) ?_;exact ih (q - 1) (_,_,_,(j:Int)+1,_) (by omega) ⟨j+1,by show(j:Int)+1=((j+1:Nat):Int);omega,by omega,by omega,h9.1.mono (by omega),h9.2⟩
end Go.Proofs.YtlmopgkkijhllaaGreat
set_option linter.unusedVariables false
set_option linter.unusedSimpArgs false
namespace Go.Proofs.YtlmopgkkijhllaaGreat
open K Go Go.Proofs
theorem LS{c w s h:Int}{ds:List (List (List Int))}(hc:1≤c∧c≤5)(hw:0≤w∧w≤3)(hs:0≤s∧s≤3)(hh:1≤h∧h≤3)(d1:1≤ds.length)(d6:ds.length≤6)(hr:∀r∈ds,Rl c r):Vd (c,w,s,h,ds,[]):=
 ⟨hc.1,hc.2,hw.1,hw.2,hs.1,hs.2,hh.1,hh.2,d1,d6,fun r h=>(hr r h).r3,fun r h=>(hr r h).l5 ⟨by omega,hc.2⟩,fun r h=>(hr r h).x5,fun r h=>(hr r h).nd,by simp [mG],fun g hg=>by cases hg⟩
theorem BZ{k:Nat}{l:List Int}(h:l.length≤1000000):i7 k l=some l:=by
 unfold i7;rw [du (Ui (by simp only [List.length_nil];omega)),bs];rfl
theorem zW{k:Nat}{l:List (List Int)}(hk:l.length < k)(h1:l.length≤1000000)(h2:∀x∈l,x.length≤1000000):ig k l=some l:=by
 unfold ig
 have key:=i8 (T:=List (List Int)×Int) (f:=c7 k l) l (fun(s:List (List Int)) j=>(s,j)) (fun s j x=>s++[x]) (fun j s=>s=l.take j) (fun s=>some s)
  (fun n s j hj hs=>by
   have hck:ck ((j:Int)+1)=some ((j:Int)+1):=c8 (by omega) (by omega);have hl:s.length=j:=by rw [hs,List.length_take];omega
   have hok:cF (bK (List.length s+List.length [l[j]]))=some ():=du (by simp [bK];omega);refine⟨?_,?_⟩
   ·simp only [c7,Int.ofNat_lt,hj,if_true,dT hj,bs,BZ (h2 _ (List.getElem_mem hj)),hok,hck]
   ·rw [hs,List.take_add_one,List.getElem?_eq_getElem hj];rfl)
  (fun n s hs=>by
   unfold c7;rw [if_neg (Int.lt_irrefl _)]) (n:=k) (s0:=[]) hk (by simp)
 rw [show c7 k l k ([],0)=_ from key.1,bs,key.2,List.take_length]
theorem BA{k:Nat}(hk:50≤k){l:bP}{m:Int}{cs ds:Int}(hl:Lo l m)(hm:0≤m∧m≤400)(hc:1≤cs∧cs≤5)(hd:1≤ds∧ds≤6):
 W (jS k l cs ds) fun r=>Lo r.2 (m+250)∧Vd r.1∧mG r.1=[]∧mC r.1≤cs∧((mD r.1).length:Int)≤ds:=by
 unfold jS
 refine W.bind (Dm (l:=(l.1,l.2.1,l.2.2)) hl (by omega) (by omega) (by omega) (by omega)) fun r2 h2=>?_
 refine W.bind (jC (l:=(r2.2.1,r2.2.2.1,r2.2.2.2)) h2.2.2 (by omega) (by omega)) fun r3 h3=>?_
 have b3:=h3.2.1 (by omega)
 refine W.bind (G9 (l:=(r3.2.1,r3.2.2.1,r3.2.2.2)) h3.2.2 (by omega) (by simp) (by simp)) fun r4 h4=>?_
 refine W.bind (jC (l:=(r4.2.1,r4.2.2.1,r4.2.2.2)) h4.2 (by omega) (by omega)) fun r5 h5=>?_
 have b5:=h5.2.1 (by omega)
 refine W.bind (G9 (l:=(r5.2.1,r5.2.2.1,r5.2.2.2)) h5.2.2 (by omega) (by simp) (by simp)) fun r6 h6=>?_
 refine W.bind (Dm (l:=(r6.2.1,r6.2.2.1,r6.2.2.2)) h6.2 (by omega) (by omega) (by omega) (by omega)) fun r7 h7=>?_
 refine W.bind (G9 (l:=(r7.2.1,r7.2.2.1,r7.2.2.2)) h7.2.2 (by omega) (by simp) (by simp)) fun r8 h8=>?_
 have w4:0≤r4.1∧r4.1≤3:=by
  have:=h4.1;simp only [List.mem_cons,List.not_mem_nil,or_false] at this;omega
 have w6:0≤r6.1∧r6.1≤3:=by
  have:=h6.1;simp only [List.mem_cons,List.not_mem_nil,or_false] at this;omega
 have w8:1≤r8.1∧r8.1≤3:=by
  have:=h8.1;simp only [List.mem_cons,List.not_mem_nil,or_false] at this;omega
 have lo8:=h8.2
 refine W.bind (R:=fun x=>Lo (x.2.1,x.2.2.1,x.2.2.2) (m+250)∧(1≤x.1.length∧(x.1.length:Int)≤ds)∧∀r∈x.1,Rl r2.1 r) ?_ fun x hx=>W.ret ⟨hx.1,LS (by omega) w4 w6 w8 (by omega) (by omega) hx.2.2,rfl,h2.2.1,hx.2.1.2⟩
 refine W.bind (Dm (l:=(r8.2.1,r8.2.2.1,r8.2.2.2)) lo8 (by omega) (by omega) (by omega) (by omega)) fun r12 h12=>?_
 refine W.loop (f:=fo k r2) (fun q y=>∃j:Nat,y.2.2.2.1.length=j∧y.2.2.2.2=r12.1 - j∧(j:Int)≤r12.1∧q=r12.1.toNat - j∧Lo (y.1,y.2.1,y.2.2.1) (m+10+33 * j)∧∀r∈y.2.2.2.1,Rl r2.1 r) ?_ r12.1.toNat k _ (by omega)
  ⟨0,rfl,by simp,by omega,by omega,h12.2.2.mono (by omega),by simp⟩
 rintro aF q ⟨nums,d,s,out,y⟩ ⟨j,hj,hy,hle,hq,hlo,hr⟩ ih
 simp only at hj hy hlo hr
 subst hy
 unfold fo
 dsimp only
 refine W.ite (fun hlt=>?_) (fun hge=>W.ret ⟨hlo.mono (by omega),⟨by show 1≤out.length;omega,by show(out.length:Int)≤ds;omega⟩,hr⟩)
 refine W.bind (R:=fun x=>Lo (x.1,x.2.1,x.2.2.1) (m+10+33 * j+33)∧x.2.2.2.length=j+1∧∀r∈x.2.2.2,Rl r2.1 r) ?_ fun x15 h15=>?_
 ·
  refine W.bind (R:=fun x=>Lo (x.1,x.2.1,x.2.2.1) (m+10+33 * j+1)∧(x.2.2.2=true→0 < out.length)) ?_ fun x17 h17=>?_
  ·refine W.ite (fun h0=>?_) (fun h0=>W.ret ⟨hlo.mono (by omega),fun h=>by cases h⟩);exact W.bind (xu (l:=(nums,d,s)) hlo (by omega) (by omega) (by omega)) fun r19 h19=>W.ret ⟨h19,fun _=>by omega⟩
  ·refine W.ite (fun ht=>?_) (fun ht=>?_)
   ·have h0:=h17.2 ht;refine W.ck (by omega) (by omega) ?_;have hi:((out.length:Int) - 1)=((out.length - 1:Nat):Int):=by omega
    have hlt':out.length - 1 < out.length:=by omega
    rw [hi,dT hlt',bs];have hrl:=hr _ (List.getElem_mem hlt');have hl5:=hrl.l5 (by omega);have hr3:=hrl.r3;rw [zW (by omega) (by omega) (fun x hx=>by have:=hl5 x hx;omega),bs,du (by simp [bK];omega),bs];refine W.ret ⟨h17.1.mono (by omega),by simp [hj],fun r hrr=>?_⟩;rcases List.mem_append.1 hrr with h |h
    ·exact hr r h
    ·rw [List.mem_singleton.1 h];exact hrl
   ·have hc2:((r2.1.toNat:Nat):Int)=r2.1:=by omega
    have:=GY hk (l:=(x17.1,x17.2.1,x17.2.2.1)) (m:=m+10+33 * j+1) (n:=r2.1.toNat) h17.1 (by omega) (by omega);rw [hc2] at this;refine W.bind this fun r26 h26=>?_;rw [du (by simp [bK];omega),bs];refine W.ret ⟨h26.1.mono (by omega),by simp [hj],fun r hrr=>?_⟩;rcases List.mem_append.1 hrr with h |h
    ·exact hr r h
    ·rw [List.mem_singleton.1 h];exact h26.2
 ·
  refine W.ck (by omega) (by omega) ?_;exact ih (q - 1) (_,_,_,_,_) (by omega) ⟨j+1,h15.2.1,by show r12.1 - j - 1=r12.1 - ((j+1:Nat):Int);omega,by omega,by omega,h15.1.mono (by omega),h15.2.2⟩
theorem Bg.len{C:Int}(hC:0≤C∧C≤5){b:List Int}(h:Bg C b):b.length≤5:=by
 have:=rU C.toNat b (h.asc.imp fun hab e=>by omega) fun x hx=>by have:=h.rng x hx;omega
 omega
theorem GP{m:ag}{B:Int→Bool}{n:Nat}(h:0≤mC m):((nH m B n).length:Int)=mC m:=by
 unfold nH;rw [List.length_map,List.length_range];omega
theorem mK{m:ag}{B:Int→Bool}:(lx m B).length=(mD m).length+1:=by
 unfold lx;rw [List.length_map,List.length_range]
theorem Cc{α ε:Type}:∀(l:List α) (j:Nat),eg (fun(_:Unit) _ _=>(.ok ():Except ε Unit)) j l ()= .ok ()
 |[],_=>rfl
 |_::l,j=>Cc l (j+1)
theorem Gg{k:Nat}{m:ag}{B:Int→Bool}(v:Vd m)(hk:10≤k):mF k m (lx m B)=some true:=by
 have c1:=v.c1;have d6:=v.d6;unfold mF;have hd:ck ((m.2.2.2.2.1.length:Int)+1)=some (((mD m).length:Int)+1):=c8 (by show _≤((mD m).length:Int)+1;omega) (by show((mD m).length:Int)+1≤_;omega);rw [hd,bs,if_neg (fun hn=>hn (by rw [mK];omega))]
 have key:=lU (T:=Int) (f:=eV k m (lx m B)) (lx m B) (fun(_:Unit) j=>j) (fun _ _ _=>(.ok ():Except Bool Unit)) (fun _ _=>True) (fun r=>some r)
  (fun n s j hj _=>by
   have hck:ck ((j:Int)+1)=some ((j:Int)+1):=c8 (by rw [mK] at hj;omega) (by rw [mK] at hj;omega);refine⟨?_,fun _ _=>trivial⟩;have hj2:j≤(mD m).length:=by rw [mK] at hj;omega
   simp only [eV,Int.ofNat_lt,hj,if_true,wS hj2,bs,hck];rw [if_neg (fun hn=>hn (GP (by omega)))])
  (fun n s _=>by simp [eV]) (n:=k) (s0:=()) (by rw [mK];omega) trivial
 rw [show eV k m (lx m B) k 0=_ from key];rw [Cc,ma]
end Go.Proofs.YtlmopgkkijhllaaGreat
set_option linter.unusedVariables false
set_option linter.unusedSimpArgs false
namespace Go.Proofs.YtlmopgkkijhllaaGreat
open K Go Go.Proofs
end Go.Proofs.YtlmopgkkijhllaaGreat
set_option linter.unusedVariables false
set_option linter.unusedSimpArgs false
namespace Go.Proofs.YtlmopgkkijhllaaGreat
open K Go Go.Proofs
theorem nZ{k:Nat}{l:List (List Int)}(hk:l.length < k)(hl:l.length≤1000000)(hx:∀x∈l,x.length < k∧x.length≤1000000):ee k l l=some true:=by
 unfold ee;rw [if_neg (fun hn=>hn rfl)]
 have key:=lU (T:=Int) (f:=c6 k l l) l (fun(_:Unit) j=>j) (fun _ _ _=>(.ok ():Except Bool Unit)) (fun _ _=>True) (fun r=>some r)
  (fun n s j hj _=>by
   have hck:ck ((j:Int)+1)=some ((j:Int)+1):=c8 (by omega) (by omega);have h5:=hx _ (List.getElem_mem hj);refine⟨?_,fun _ _=>trivial⟩;simp only [c6,Int.ofNat_lt,hj,if_true,dT hj,bs,s6 h5.1 h5.2,decide_true,not_true_eq_false,if_false,hck])
  (fun n s _=>by simp [c6]) (n:=k) (s0:=()) hk trivial
 rw [show c6 k l l k 0=_ from key,Cc,ma]
theorem zG{k:Nat}{l:bP}{m:Int}{x:yf}(hl:Lo l m)(hm:0≤m∧m≤900)(hc:1≤x.1∧x.1≤5)(hd:x.2.2.2.2.1.length≤6):
 W (ie k l x) fun r=>Lo r.2 (m+3)∧(0≤r.1.1∧r.1.1 < x.1)∧0≤r.1.2.1∧r.1.2.1≤(x.2.2.2.2.1.length:Int):=by
 unfold ie
 refine W.ck (by omega) (by omega) ?_
 refine W.bind (jC (l:=(l.1,l.2.1,l.2.2)) hl (by omega) (by omega)) fun r4 h4=>?_
 refine W.bind (jC (l:=(r4.2.1,r4.2.2.1,r4.2.2.2)) h4.2.2 (by omega) (by omega)) fun r5 h5=>?_
 refine W.bind (xu (l:=(r5.2.1,r5.2.2.1,r5.2.2.2)) h5.2.2 (by omega) (by omega) (by omega)) fun r6 h6=>?_
 have b4:=h4.2.1 (by omega)
 have b5:=h5.2.1 (by omega)
 exact W.ret ⟨h6.mono (by omega),⟨h4.1,by show r4.1 < x.1;omega⟩,h5.1,b5⟩
theorem Vd.with{m:ag}(v:Vd m){gs:List bu}(h8:gs.length≤8)(hg:∀g∈gs,0≤g.1∧g.1 < mC m∧0≤g.2.1∧g.2.1≤(mD m).length):Vd (m.1,m.2.1,m.2.2.1,m.2.2.2.1,m.2.2.2.2.1,gs):=
 ⟨v.c1,v.c5,v.w0,v.w3,v.s0,v.s3,v.h1,v.h3,v.d1,v.d6,v.r3,v.l5,v.x5,v.nd,h8,hg⟩
theorem xR{k:Nat}(hk:50≤k){l:bP}{m:Int}{cs ds:Int}(hl:Lo l m)(hm:0≤m∧m≤400)(hc:1≤cs∧cs≤5)(hd:1≤ds∧ds≤6):
 W (fZ k l cs ds) fun r=>Lo r.2 (m+270)∧Vd r.1∧(mG r.1).length≤4∧mC r.1≤cs∧((mD r.1).length:Int)≤ds:=by
 unfold fZ
 refine W.bind (BA hk (l:=(l.1,l.2.1,l.2.2)) hl hm hc hd) fun r2 h2=>?_
 obtain⟨lo2,v,hg,hcs,hds⟩:=h2
 have c1:=v.c1
 have c5:=v.c5
 have d6:=v.d6
 refine W.bind (R:=fun x=>Lo (x.2.1,x.2.2.1,x.2.2.2) (m+270)∧x.1.length≤4∧∀g∈x.1,0≤g.1∧g.1 < mC r2.1∧0≤g.2.1∧g.2.1≤(mD r2.1).length) ?_ fun x hx=>W.ret ⟨hx.1,v.with (by omega) hx.2.2,hx.2.1,hcs,hds⟩
 refine W.bind (jC (l:=(r2.2.1,r2.2.2.1,r2.2.2.2)) lo2 (by omega) (by omega)) fun r6 h6=>?_
 have b6:=h6.2.1 (by omega)
 refine W.loop (f:=eo k r2) (fun q y=>∃j:Nat,y.2.2.2.1.length=j∧y.2.2.2.2=r6.1 - j∧(j:Int)≤r6.1∧q=r6.1.toNat - j∧Lo (y.1,y.2.1,y.2.2.1) (m+251+3 * j)∧∀g∈y.2.2.2.1,0≤g.1∧g.1 < mC r2.1∧0≤g.2.1∧g.2.1≤(mD r2.1).length) ?_ r6.1.toNat k _ (by omega)
  ⟨0,rfl,by simp,by omega,by omega,h6.2.2.mono (by omega),by simp⟩
 rintro aF q ⟨nums,d,s,out,y⟩ ⟨j,hj,hy,hle,hq,hlo,hr⟩ ih
 simp only at hj hy hlo hr
 subst hy
 unfold eo
 dsimp only
 refine W.ite (fun hlt=>?_) (fun hge=>W.ret ⟨hlo.mono (by omega),by show out.length≤4;omega,hr⟩)
 refine W.bind (zG (l:=(nums,d,s)) (x:=(r2.1.1,r2.1.2.1,r2.1.2.2.1,r2.1.2.2.2.1,r2.1.2.2.2.2.1,())) hlo (by omega) ⟨c1,c5⟩ d6) fun r9 h9=>?_
 rw [du (by simp [bK];omega),bs]
 refine W.ck (by omega) (by omega) ?_
 refine ih (q - 1) (_,_,_,_,_) (by omega) ⟨j+1,by simp [hj],by show r6.1 - j - 1=r6.1 - ((j+1:Nat):Int);omega,by omega,by omega,h9.1.mono (by omega),fun g hgg=>?_⟩
 rcases List.mem_append.1 hgg with h |h
 ·
  exact hr g h
 ·
  rw [List.mem_singleton.1 h];exact⟨h9.2.1.1,h9.2.1.2,h9.2.2⟩
theorem Sm.with{m:ag}(h:Sm m){gs:List bu}(hg:gs.length≤1000):Sm (m.1,m.2.1,m.2.2.1,m.2.2.2.1,m.2.2.2.2.1,gs):=⟨h.d,h.r,hg⟩
end Go.Proofs.YtlmopgkkijhllaaGreat
set_option linter.unusedVariables false
set_option linter.unusedSimpArgs false
namespace Go.Proofs.YtlmopgkkijhllaaGreat
open K Go Go.Proofs
def iM(C:Nat):Nat→List Int→Nat→List (List Int)
 |0,b,_=>[b]
 |n+1,b,f=>b::(List.range' f (C - f)).flatMap fun(c:Nat)=>iM C n (b++[(c:Int)]) (c+1)
theorem ue{b:List Int}{c:Int}:bO (b++[c])=vy (bO b) c:=by
 unfold bO;rw [List.foldl_append];rfl
theorem zC{σ:Type}{k:Nat}{Y:σ→Int→Option (σ×Bool)}{C:Nat}(hC:C≤5)(hk:10≤k)(g:σ→List Int→σ)(vC:Nat→σ→Prop):
 ∀(n m0:Nat) (b:List Int) (f:Nat) (s:σ) (r:Nat),C - f≤n→f≤C→n < m0→jx (bO b)→(∀r s,∀b'∈iM C n b f,vC (r+1) s→Y s (bO b')=some (g s b',true)∧vC r (g s b'))→vC ((iM C n b f).length+r) s→
  dh k Y (C:Int) m0 (bO b) (f:Int) s=some (true,(iM C n b f).foldl g s)∧vC r ((iM C n b f).foldl g s)
 |n,0,b,f,s,r,_,_,h,_,_,_=>absurd h (Nat.not_lt_zero _)
 |0,m0+1,b,f,s,r,h1,h2,_,hm,hY,hI=>by
  have hf:f=C:=by omega
  subst hf
  unfold dh
  obtain⟨k,rfl⟩:∃n,k=n+1:=⟨k - 1,by omega⟩
  have hI:vC (r+1) s:=by rw [Nat.add_comm];exact hI
  have:=hY r s b (by simp [iM]) hI
  rw [this.1,bs,if_neg (by simp)]
  rw [cZ,if_neg (Int.lt_irrefl _),ma]
  exact⟨rfl,this.2⟩
 |n+1,m0+1,b,f,s,r,h1,h2,h3,hm,hY,hI=>by
  unfold dh
  have hlen:(iM C (n+1) b f).length=((List.range' f (C - f)).flatMap fun(c:Nat)=>iM C n (b++[(c:Int)]) (c+1)).length+1:=by rw [iM,List.length_cons]
  rw [hlen] at hI
  have h0:=hY (((List.range' f (C - f)).flatMap fun(c:Nat)=>iM C n (b++[(c:Int)]) (c+1)).length+r) s b (by simp [iM]) (by rw [Nat.add_right_comm] at hI;exact hI)
  rw [h0.1,bs,if_neg (by simp)]
  have loop:∀(d x:Nat) (s:σ) (aF:Nat) (r:Nat),C - x=d→f≤x→x≤C→d < aF→vC (((List.range' x (C - x)).flatMap fun(c:Nat)=>iM C n (b++[(c:Int)]) (c+1)).length+r) s→
   cZ k (bO b) (C:Int) (dh k Y (C:Int) m0) aF ((x:Int),s)=some (.ok (((List.range' x (C - x)).flatMap fun(c:Nat)=>iM C n (b++[(c:Int)]) (c+1)).foldl g s))∧vC r (((List.range' x (C - x)).flatMap fun(c:Nat)=>iM C n (b++[(c:Int)]) (c+1)).foldl g s):=by
   intro d
   induction d with
   |zero=>
    intro x s aF r hd hx hx2 hfu hI;obtain⟨aF,rfl⟩:∃n,aF=n+1:=⟨aF - 1,by omega⟩;have:x=C:=by omega
    subst this;rw [Nat.sub_self] at hI⊢;rw [cZ,if_neg (Int.lt_irrefl _)];exact⟨rfl,by simpa using hI⟩
   |succ d ih=>
    intro x s aF r hd hx hx2 hfu hI;obtain⟨aF,rfl⟩:∃n,aF=n+1:=⟨aF - 1,by omega⟩;have hw:=mQ (k:=k) hm (show(0:Int)≤(x:Int) by omega) (show(x:Int) < 8 by omega);have hck:ck ((x:Int)+1)=some (((x+1:Nat):Int)):=by rw [c8 (by omega) (by omega)];rfl
    have e:C - x=(C - (x+1))+1:=by omega
    rw [e,List.range'_succ,List.flatMap_cons,List.length_append,Nat.add_assoc] at hI
    have hsub:=zC hC hk g vC n m0 (b++[(x:Int)]) (x+1) s _ (by omega) (by omega) (by omega) (by rw [ue];exact hw.2.1) (fun r s b' hb'=>hY r s b' (by
     rw [iM];refine List.mem_cons_of_mem _ (List.mem_flatMap.2 ⟨x,?_,hb'⟩);rw [List.mem_range'_1];omega)) hI
    rw [ue] at hsub;have hih:=ih (x+1) _ aF r (by omega) (by omega) (by omega) (by omega) hsub.2;rw [cZ,if_pos (show(x:Int) < (C:Int) by omega),hw.1,bs,hck,bs,hsub.1,bs,if_neg (by simp),bs,hih.1];rw [e,List.range'_succ,List.flatMap_cons,List.foldl_append];exact⟨rfl,hih.2⟩
  have hl:=loop (C - f) f _ k r rfl (Nat.le_refl _) h2 (by omega) h0.2;rw [hl.1,ma];exact⟨rfl,hl.2⟩
def yd(m:ag)(but:Nat→Bool)(B:Int→Bool):Bool:=(mG m).zipIdx.all fun g=>but g.2 || decide (g.1.2.2=decide (mS m≤mg m B g.1.2.1.toNat g.1.1))
theorem sK{α ε:Type}{p:Nat→α→Bool}{e:ε}:∀(l:List α) (j:Nat),eg (fun(_:Unit) j x=>if p j x=true then .ok () else Except.error e) j l ()=if((l.zipIdx j).all fun g=>p g.2 g.1)=true then .ok () else .error e
 |[],j=>rfl
 |x::l,j=>by
  rw [eg,List.zipIdx_cons,List.all_cons]
  cases h:p j x with
  |true=>simp only [if_true,Bool.true_and];exact sK l (j+1)
  |false=>simp
theorem zN{k:Nat}{m:ag}{S a2:Int}(v:Vd m)(hk:10≤k)(hS:jx S)(ha:jx a2):cT k m S a2=some (yd m (fun i=>decide (dO a2 i)) (l9 S)):=by
 have g8:=v.g8;have d6:=v.d6;unfold cT f7;rw [sR v hk hS,bs]
 have key:=lU (T:=Int) (f:=co k m a2 (cr (FK m (l9 S)))) (mG m) (fun(_:Unit) j=>j) (fun _ j x=>if(decide (dO a2 j) || decide (x.2.2=decide (mS m≤mg m (l9 S) x.2.1.toNat x.1)))=true then .ok () else Except.error ()) (fun _ _=>True) (fun r=>some (match r with | .error _=>false | .ok _=>true))
  (fun n s j hj _=>by
   have hck:ck ((j:Int)+1)=some ((j:Int)+1):=c8 (by omega) (by omega);have hg:=v.gl _ (List.getElem_mem hj);have hj':(j:Int) < (m.2.2.2.2.2.length:Int):=Int.ofNat_lt.2 hj;have hget:aO m.2.2.2.2.2 (j:Int)=some (mG m)[j]:=dT hj;generalize (mG m)[j]=x at *;have c5:=v.c5;have e2:x.2.1=((x.2.1.toNat:Nat):Int):=by omega
   have hrow:aO (cr (FK m (l9 S))) x.2.1=some (kA (FK m (l9 S) x.2.1.toNat)):=by
    rw [e2,BX (by omega),Int.toNat_natCast]
   have hval:aO (kA (FK m (l9 S) x.2.1.toNat)) x.1=some (mg m (l9 S) x.2.1.toNat x.1):=by
    rw [xn hg.1 (by omega),DD v (by omega) hg.1 hg.2.1]
   refine⟨?_,fun _ _=>trivial⟩;have hm1:m.2.2.1=mS m:=rfl;simp only [co,hj',if_true,hget,bs,xQ (k:=k) ha (i:=j) (by omega),hrow,hval,hm1];cases hh:decide (dO a2 j) with
   |true=>simp only [not_true_eq_false,if_false,bs,Bool.false_eq_true,hck,Bool.true_or,if_true]
   |false=>
    simp only [Bool.false_eq_true,not_false_eq_true,if_true,bs,Bool.false_or];by_cases e:(decide (mS m≤mg m (l9 S) x.2.1.toNat x.1))=x.2.2
    ·rw [if_neg (by simp [e]),hck,bs,if_pos (by simp [e])]
    ·rw [if_pos (by simp [e]),if_neg (by simp;exact fun h=>e h.symm)])
  (fun n s _=>by
   unfold co;rw [if_neg (Int.lt_irrefl _)]) (n:=k) (s0:=()) (by omega) trivial
 rw [show co k m a2 (cr (FK m (l9 S))) k 0=_ from key,sK (p:=fun j (x:bu)=>decide (dO a2 j) || decide (x.2.2=decide (mS m≤mg m (l9 S) x.2.1.toNat x.1)))];unfold yd;cases((mG m).zipIdx 0).all fun g=>decide (dO a2 g.2) || decide (g.1.2.2=decide (mS m≤mg m (l9 S) g.1.2.1.toNat g.1.1)) with
 |true=>rfl
 |false=>rfl
end Go.Proofs.YtlmopgkkijhllaaGreat
set_option linter.unusedVariables false
set_option linter.unusedSimpArgs false
namespace Go.Proofs.YtlmopgkkijhllaaGreat
open K Go Go.Proofs
theorem wY{m:ag}(v:Vd m){A B:Int→Bool}(h:∀c,0≤c→c < mC m→A c=B c):∀(n:Nat) (c:Int),0≤c→c < mC m→mg m A n c=mg m B n c
 |0,c,h0,h1=>by unfold mg;rw [h c h0 h1]
 |n+1,c,h0,h1=>by
  have ih:=wY v h n
  unfold mg
  cases e:DJ m n c with
  |none=>simp only [];rw [ih c h0 h1]
  |some l=>
   have hb:=(va v e).2
   have:(l.any fun x=>decide (mW m≤mg m A n x))=l.any fun x=>decide (mW m≤mg m B n x):=by
    rw [Bool.eq_iff_iff];simp only [List.any_eq_true,decide_eq_true_eq];constructor
    ·rintro⟨x,hx,h⟩;exact⟨x,hx,by rw [←ih x (hb x hx).1 (hb x hx).2];exact h⟩
    ·rintro⟨x,hx,h⟩;exact⟨x,hx,by rw [ih x (hb x hx).1 (hb x hx).2];exact h⟩
   simp only [];rw [ih c h0 h1,this]
theorem Cd{α:Type}{l:List α}{p q:α→Bool}(h:∀x∈l,p x=q x):l.all p=l.all q:=by
 induction l with
 |nil=>rfl
 |cons x l ih=>rw [List.all_cons,List.all_cons,h x List.mem_cons_self,ih fun y hy=>h y (List.mem_cons_of_mem _ hy)]
theorem ER{m:ag}(v:Vd m){but:Nat→Bool}{A B:Int→Bool}(h:∀c,0≤c→c < mC m→A c=B c):yd m but A=yd m but B:=by
 unfold yd;refine Cd fun g hg=>?_;obtain⟨x,i⟩:=g;have hx:=v.gl x (List.fst_mem_of_mem_zipIdx hg);show(but i || decide (x.2.2=decide (mS m≤mg m A x.2.1.toNat x.1)))=(but i || decide (x.2.2=decide (mS m≤mg m B x.2.1.toNat x.1)));rw [wY v h _ _ hx.1 hx.2.1]
def vc(m:ag):List (List Int):=iM (mC m).toNat (mC m).toNat [] 0
theorem DO{C:Nat}:∀(n:Nat) (b:List Int) (f:Nat),Bg (C:Int) b→(∀x∈b,x < (f:Int))→∀b'∈iM C n b f,Bg (C:Int) b'
 |0,b,f,h,_,b',hb=>by
  rw [iM,List.mem_singleton] at hb
  rw [hb];exact h
 |n+1,b,f,h,hf,b',hb=>by
  rw [iM,List.mem_cons] at hb
  rcases hb with rfl |hb
  ·
   exact h
  ·
   obtain⟨c,hc,hb⟩:=List.mem_flatMap.1 hb
   rw [List.mem_range'_1] at hc
   refine DO n (b++[(c:Int)]) (c+1) ⟨fun x hx=>?_,?_⟩ (fun x hx=>?_) b' hb
   ·
    rcases List.mem_append.1 hx with hx |hx
    ·
     exact h.rng x hx
    ·
     rw [List.mem_singleton.1 hx];omega
   ·
    rw [List.pairwise_append]
    exact⟨h.asc,by simp,fun a ha x hx=>by rw [List.mem_singleton.1 hx];have:=hf a ha;omega⟩
   ·
    rcases List.mem_append.1 hx with hx |hx
    ·
     have:=hf x hx;omega
    ·
     rw [List.mem_singleton.1 hx];omega
theorem yk{m:ag}(v:Vd m){b:List Int}(h:b∈vc m):Bg (mC m) b:=by
 have c1:=v.c1;have:=DO (C:=(mC m).toNat) (mC m).toNat [] 0 ⟨by simp,by simp⟩ (by simp) b h;rwa [show(((mC m).toNat:Nat):Int)=mC m by omega] at this
theorem vb{m:ag}(v:Vd m):(vc m).length≤32:=by
 have c1:=v.c1;have c5:=v.c5;have:(mC m).toNat=1∨(mC m).toNat=2∨(mC m).toNat=3∨(mC m).toNat=4∨(mC m).toNat=5:=by omega
 unfold vc;rcases this with h |h |h |h |h <;> rw [h] <;> decide
def mJ(m:ag)(but:Nat→Bool):List (List Int):=(vc m).filter fun b=>yd m but fun c=>decide (c∈b)
theorem pH{α β:Type}{p:α→Bool}{h:α→β}:∀(l:List α) (s:List β),l.foldl (fun(s:List β×Bool) b=>(if p b then s.1++[h b] else s.1,false)) (s,false)=(s++(l.filter p).map h,false)
 |[],s=>by simp
 |x::l,s=>by
  rw [List.foldl_cons,pH l]
  cases e:p x with
  |true=>simp [e]
  |false=>simp [e]
theorem uH{k:Nat}{m:ag}{a2:Int}(v:Vd m)(hk:50≤k)(ha:jx a2):ek k m a2=some ((mJ m fun i=>decide (dO a2 i)).map bO):=by
 have c1:=v.c1;have c5:=v.c5;unfold ek jP;have hC:m.1=(((mC m).toNat:Nat):Int):=by show mC m=_;omega
 have h:=zC (σ:=List Int×Bool) (k:=k) (Y:=qJ (fun(y5:(List Int)) (p7:Int)=>(cT k m p7 a2).bind fun r9=>if r9=true then((cF (bK (List.length y5+List.length [p7]))).bind fun _=>some (y5++[p7],true)) else(some (y5,true)))) (C:=(mC m).toNat) (by omega) (by omega)
  (fun s b=>(if yd m (fun i=>decide (dO a2 i)) (fun c=>decide (c∈b)) then s.1++[bO b] else s.1,false)) (fun r s=>s.2=false∧s.1.length+r≤1000) (mC m).toNat k [] 0 ([],false) 0 (by omega) (by omega) (by omega) uJ (fun r s b' hb' hI=>by
   obtain⟨y,q⟩:=s;obtain⟨rfl,hI⟩:q=false∧y.length+(r+1)≤1000:=hI;have hbg:=yk v hb';have hset:=hbg.set c5;have hex:yd m (fun i=>decide (dO a2 i)) (l9 (bO b'))=yd m (fun i=>decide (dO a2 i)) (fun c=>decide (c∈b')):=ER v fun c h0 _=>hset.2 c h0;unfold qJ;simp only [];rw [zN v (by omega) hset.1 ha,hex,bs];cases yd m (fun i=>decide (dO a2 i)) (fun c=>decide (c∈b')) with
   |true=>
    simp only [if_true];rw [du (by simp [bK];omega),bs,bs];exact⟨by first |rfl |trivial,by first |rfl |trivial,by show(y++[bO b']).length+r≤1000;simp;omega⟩
   |false=>
    simp only [Bool.false_eq_true,if_false];rw [bs];exact⟨by first |rfl |trivial,by first |rfl |trivial,by show y.length+r≤1000;omega⟩) ⟨rfl,by have:=vb v;unfold vc at this;simp;omega⟩
 rw [hC,show dh k (qJ (fun(y5:(List Int)) (p7:Int)=>(cT k m p7 a2).bind fun r9=>if r9=true then((cF (bK (List.length y5+List.length [p7]))).bind fun _=>some (y5++[p7],true)) else(some (y5,true)))) (((mC m).toNat:Nat):Int) k 0 0 ([],false)=_ from h.1,bs,bs];rw [pH (p:=fun b=>yd m (fun i=>decide (dO a2 i)) fun c=>decide (c∈b)) (h:=bO)];simp only [Bool.false_eq_true,if_false,List.nil_append];rfl
theorem IA:∀{a b:List Int},a.Pairwise (· < ·)→b.Pairwise (· < ·)→(∀x,x∈a↔x∈b)→a=b
 |[],[],_,_,_=>rfl
 |[],y::b,_,_,h=>absurd ((h y).2 List.mem_cons_self) (by simp)
 |x::a,[],_,_,h=>absurd ((h x).1 List.mem_cons_self) (by simp)
 |x::a,y::b,ha,hb,h=>by
  rw [List.pairwise_cons] at ha hb
  have e:x=y:=by
   rcases List.mem_cons.1 ((h x).1 List.mem_cons_self) with e |hx
   ·exact e
   ·rcases List.mem_cons.1 ((h y).2 List.mem_cons_self) with e |hy
    ·exact e.symm
    ·have h1:=hb.1 x hx;have h2:=ha.1 y hy;omega
  subst e;rw [IA ha.2 hb.2 fun z=>?_];have:=h z;simp only [List.mem_cons] at this;constructor
  ·intro hz;rcases this.1 (.inr hz) with rfl |h'
   ·exact absurd (ha.1 z hz) (Int.lt_irrefl _)
   ·exact h'
  ·intro hz;rcases this.2 (.inr hz) with rfl |h'
   ·exact absurd (hb.1 z hz) (Int.lt_irrefl _)
   ·exact h'
theorem mX{k:Nat}{C:Int}{b:List Int}(hk:10≤k)(hC:C≤5)(h:Bg C b):dX k (bO b)=some b:=by
 have hset:=h.set hC;unfold dX
 have key:=i8 (T:=List Int×Int) (f:=dk k (bO b)) (List.range 5) (fun(s:List Int) j=>(s,j)) (fun s j _=>if decide (dO (bO b) j) then s++[(j:Int)] else s) (fun j s=>s.length≤j∧s.Pairwise (· < ·)∧∀x,x∈s↔x∈b∧x < (j:Int)) (fun s=>some s)
  (fun n s j hj hs=>by
   rw [List.length_range] at hj;have hck:ck ((j:Int)+1)=some ((j:Int)+1):=c8 (by omega) (by omega);have hj5:(j:Int) < 5:=by omega
   have hin:=hset.2 (j:Int) (by omega);unfold l9 at hin;rw [Int.toNat_natCast] at hin;refine⟨?_,?_⟩
   ·simp only [dk,hj5,if_true,xQ (k:=k) hset.1 (by omega:j < 8),bs];cases decide (dO (bO b) j) with
    |true=>
     simp only [if_true];rw [du (by simp [bK];omega),bs,bs,hck,bs]
    |false=>simp only [Bool.false_eq_true,if_false,bs,hck]
   ·rw [hin];by_cases hb:(j:Int)∈b
    ·rw [decide_eq_true hb];simp only [if_true];refine⟨by simp;omega,?_,fun x=>?_⟩
     ·rw [List.pairwise_append];exact⟨hs.2.1,by simp,fun a ha x hx=>by rw [List.mem_singleton.1 hx];exact((hs.2.2 a).1 ha).2⟩
     ·rw [List.mem_append,hs.2.2 x,List.mem_singleton];constructor
      ·rintro(⟨h1,h2⟩ |rfl)
       ·exact⟨h1,by omega⟩
       ·exact⟨hb,by omega⟩
      ·rintro⟨h1,h2⟩;by_cases e:x=(j:Int)
       ·exact .inr e
       ·exact .inl ⟨h1,by omega⟩
    ·rw [decide_eq_false hb];simp only [Bool.false_eq_true,if_false];refine⟨by omega,hs.2.1,fun x=>?_⟩;rw [hs.2.2 x];constructor
     ·rintro⟨h1,h2⟩;exact⟨h1,by omega⟩
     ·rintro⟨h1,h2⟩;by_cases e:x=(j:Int)
      ·subst e;exact absurd h1 hb
      ·exact⟨h1,by omega⟩)
  (fun n s hs=>by
   rw [List.length_range];unfold dk;rw [if_neg (show¬(((5:Nat):Int) < 5) by decide)]) (n:=k) (s0:=[]) (by rw [List.length_range];omega) ⟨by simp,by simp,fun x=>by simp;intro hx;exact(h.rng x hx).1⟩
 rw [show dk k (bO b) k ([],0)=_ from key.1,bs];have:=key.2;rw [List.length_range] at this;exact congrArg some (IA this.2.1 h.asc fun x=>by rw [this.2.2 x];exact⟨fun hh=>hh.1,fun hh=>⟨hh,by have:=h.rng x hh;omega⟩⟩)
end Go.Proofs.YtlmopgkkijhllaaGreat
set_option linter.unusedVariables false
set_option linter.unusedSimpArgs false
namespace Go.Proofs.YtlmopgkkijhllaaGreat
open K Go Go.Proofs
def FD(b:List Int):Nat:=match b.getLast? with |some x=>x.toNat+1 |none=>0
theorem wX{C:Nat}(hC:C≤5):∀(n:Nat) (b:List Int) (f:Nat),(iM C n b f).length≤6 ^ n
 |0,b,f=>by simp [iM]
 |n+1,b,f=>by
  have fl:∀l:List Nat,(l.flatMap fun(c:Nat)=>iM C n (b++[(c:Int)]) (c+1)).length≤l.length * 6 ^ n:=by
   intro l
   induction l with
   |nil=>simp
   |cons c l ih=>
    rw [List.flatMap_cons,List.length_append,List.length_cons,Nat.add_mul];have:=wX hC n (b++[(c:Int)]) (c+1);omega
  have:=fl (List.range' f (C - f));rw [List.length_range'] at this;rw [iM,List.length_cons,Nat.pow_succ];have h1:(C - f) * 6 ^ n≤5 * 6 ^ n:=Nat.mul_le_mul_right _ (by omega);have h2:1≤6 ^ n:=Nat.one_le_pow _ _ (by decide);omega
theorem uv{b:List Int}{c:Nat}:FD (b++[(c:Int)])=c+1:=by
 unfold FD;rw [List.getLast?_append];simp
theorem CY{k C:Nat}(hC:C≤5)(hk:10≤k):∀(n m0:Nat) (b:List Int),n≤5→C - FD b≤n→FD b≤C→n < m0→b.length+n≤5→(∀x∈b,0≤x∧x < 5)→kB k m0 (C:Int) b=some (iM C n b (FD b))
 |n,0,b,_,_,_,h,_,_=>absurd h (Nat.not_lt_zero _)
 |n,m0+1,b,h5,h1,h2,h3,hb,hx=>by
  unfold kB
  have hn:((if(0:Int) < (b.length:Int) then((ck ((b.length:Int) - (1:Int))).bind fun x4=>(aO b x4).bind fun x5=>(ck (x5+(1:Int))).bind fun x6=>some x6) else(some (0:Int))):Option Int)=some ((FD b:Nat):Int):=by
   by_cases h0:b=[]
   ·subst h0;rfl
   ·have hl:0 < b.length:=List.length_pos_iff.2 h0;have c1:ck ((b.length:Int) - 1)=some (((b.length - 1:Nat):Int)):=by rw [c8 (by omega) (by omega),show((b.length:Int) - 1)=((b.length - 1:Nat):Int) by omega]
    have hg:=dT (l:=b) (i:=b.length - 1) (by omega);have hxx:=hx _ (List.getElem_mem (l:=b) (n:=b.length - 1) (by omega));have hla:b.getLast? =some b[b.length - 1]:=by rw [List.getLast?_eq_getElem?,List.getElem?_eq_getElem (by omega)]
    have c2:ck (b[b.length - 1]+1)=some (b[b.length - 1]+1):=c8 (by omega) (by omega);rw [if_pos (by omega),c1,bs,hg,bs,c2,bs];unfold FD;rw [hla];show some (b[b.length - 1]+1)=some (((b[b.length - 1].toNat+1:Nat)):Int);congr 1;omega
  rw [hn,bs];cases n with
  |zero=>
   have hf:FD b=C:=by omega
   rw [hf];obtain⟨k,rfl⟩:∃n,k=n+1:=⟨k - 1,by omega⟩;rw [gi,if_neg (Int.lt_irrefl _),bs];rfl
  |succ n=>
   have loop:∀(d x:Nat) (acc:List (List Int)) (aF:Nat),C - x=d→FD b≤x→x≤C→d < aF→acc.length+((List.range' x (C - x)).flatMap fun(c:Nat)=>iM C n (b++[(c:Int)]) (c+1)).length≤100000→
    gi k (C:Int) b (kB k m0) aF (acc,(x:Int))=some (acc++(List.range' x (C - x)).flatMap fun(c:Nat)=>iM C n (b++[(c:Int)]) (c+1)):=by
    intro d
    induction d with
    |zero=>
     intro x acc aF hd hx1 hx2 hfu hl;obtain⟨aF,rfl⟩:∃n,aF=n+1:=⟨aF - 1,by omega⟩;have:x=C:=by omega
     subst this;rw [gi,if_neg (Int.lt_irrefl _),Nat.sub_self];simp
    |succ d ih=>
     intro x acc aF hd hx1 hx2 hfu hl;obtain⟨aF,rfl⟩:∃n,aF=n+1:=⟨aF - 1,by omega⟩;have e:C - x=(C - (x+1))+1:=by omega
     rw [e,List.range'_succ,List.flatMap_cons,List.length_append] at hl;have hck:ck ((x:Int)+1)=some (((x+1:Nat):Int)):=by rw [c8 (by omega) (by omega)];rfl
     have hsub:=CY hC hk n m0 (b++[(x:Int)]) (by omega) (by rw [uv];omega) (by rw [uv];omega) (by omega) (by simp;omega) (fun y hy=>by
      rcases List.mem_append.1 hy with h |h
      ·exact hx y h
      ·rw [List.mem_singleton.1 h];omega)
     rw [uv] at hsub;have e0:([]:List Int)++b=b:=rfl;have hok:cF (bK (acc.length+(iM C n (b++[(x:Int)]) (x+1)).length))=some ():=du (show acc.length+(iM C n (b++[(x:Int)]) (x+1)).length≤4294967296 by omega);rw [gi,if_pos (show(x:Int) < (C:Int) by omega),du (by simp [bK];omega),bs,e0,du (by simp [bK];omega),bs,hsub,bs];dsimp only;rw [hok,bs,hck,bs];rw [ih (x+1) _ aF (by omega) (by omega) (by omega) (by omega) (by rw [List.length_append];omega)];rw [e,List.range'_succ,List.flatMap_cons,List.append_assoc]
   have hlen:=wX hC (n+1) b (FD b);rw [iM,List.length_cons] at hlen;have h6:6 ^ (n+1)≤6 ^ 5:=Nat.pow_le_pow_right (by decide) h5;have h7:(6:Nat) ^ 5=7776:=by decide
   have h1l:([b]:List (List Int)).length=1:=rfl;rw [loop (C - FD b) (FD b) [b] k rfl (Nat.le_refl _) h2 (by omega) (by omega),bs,iM];rfl
theorem GX{k:Nat}{m:ag}(v:Vd m)(hk:10≤k):kB k k m.1 []=some (vc m):=by
 have c1:=v.c1;have c5:=v.c5;have:=CY (k:=k) (C:=(mC m).toNat) (by omega) hk (mC m).toNat k [] (by omega) (by show _ - 0≤_;omega) (Nat.zero_le _) (by omega) (by simp;omega) (by simp);rw [show(((mC m).toNat:Nat):Int)=m.1 by show _=mC m;omega] at this;exact this
