import Derived.Test.YtemmlkadbaajcaaGreatVPF2
open Nat
open List hiding mem_of_getElem?
open Array hiding mem_of_getElem? mk
set_option linter.unusedVariables false
set_option linter.unusedSimpArgs false
namespace Go.Proofs.YtemmlkadbaajcaaGreat
open K Go Go.Proofs
def W{α:Type}(x:Option α)(Q:α->Prop):Prop:=∃a,x=some a/\Q a
namespace W
variable {α β ε:Type}{Q:β->Prop}
theorem ret{a:β}(h:Q a):W (some a) Q:=⟨a,rfl,h⟩
theorem mono{x:Option β}{R:β->Prop}(h:W x R)(hq:∀a,R a->Q a):W x Q:=let ⟨a,e,r⟩:=h;⟨a,e,hq a r⟩
theorem bind{x:Option α}{f:α->Option β}{R:α->Prop}(h:W x R)(hf:∀a,R a->W (f a) Q):W (x.bind f) Q:=by
 obtain⟨a,rfl,r⟩:=h;grind
theorem ck{n:Int}{f:Int->Option β}(h1: -9223372036854775808≤n)(h2:n≤9223372036854775807)(hf:W (f n) Q):W ((K.ck n).bind f) Q:=by
 simp_all [K.ck,if_pos]
theorem chk{p:Prop}[Decidable p]{f:Unit->Option β}(h:p)(hf:W (f ()) Q):W ((bV p).bind f) Q:=by
 simp_all [bV,if_pos]
theorem at_{l:List α}{i:Int}{f:α->Option β}(h0:0≤i)(h1:i < l.length)(hf:∀x,l[i.toNat]? =some x->W (f x) Q):W ((aH l i).bind f) Q:=by
 simp_all [aH,if_pos,List.getElem?_eq_getElem]
theorem ite{p:Prop}[Decidable p]{a b:Option β}(h1:p->W a Q)(h2:¬p->W b Q):W (if p then a else b) Q:=by
 grind
theorem iteB{p:Prop}[Decidable p]{a b:Option α}{f:α->Option β}(h1:p->W (a.bind f) Q)(h2:¬p->W (b.bind f) Q):W ((if p then a else b).bind f) Q:=by
 grind
theorem bEE{x:Option (Except ε α)}{g:ε->Option β}{f:α->Option β}{R:Except ε α->Prop}(h:W x R)(hg:∀e,R (.error e)->W (g e) Q)(hf:∀a,R (.ok a)->W (f a) Q):W (K.bE x g f) Q:=by
 obtain⟨a,rfl,r⟩:=h;cases a with
 |error e=>exact hg e r
 |ok a=>exact hf a r
theorem loop{T:Type}{f:Nat->T->Option β}(I:Nat->T->Prop)(step:∀aO m y,I m y->(∀m' y',m' < m->I m' y'->W (f aO y') Q)->W (f (aO+1) y) Q):∀m aO y,m < aO->I m y->W (f aO y) Q:=by
 intro m
 induction m using Nat.strongRecOn with
 |_ m ih=>
  intro aO y hm hI;cases aO with
  |zero=>omega
  |succ aO=>grind
end W
theorem wrap_u64(n:Int):0≤IntKind.u64.wrap n/\IntKind.u64.wrap n < 18446744073709551616:=by
 simp_all [Int.emod_nonneg,Int.emod_lt_of_pos,IntKind.wrap,IntKind.signed,IntKind.bits]
theorem A1{n:Int}(h0:0≤n)(h1:n < 18446744073709551616):IntKind.u64.wrap n=n:=by
 simp_all [IntKind.wrap,IntKind.signed,IntKind.bits,Int.emod_eq_of_lt]
def Lo(l:bL)(m:Int):Prop:=0≤l.2.1/\l.2.1≤m
theorem Nw{k:Nat}{l:bL}{m:Int}(h:Lo l m)(hm:m≤1000000000):W (jp k l) λr=>0≤r.1/\r.1 < 72057594037927936/\Lo r.2 (m+1):=by
 obtain⟨h0,h1⟩:=h;unfold jp
 have fin:∀x:Int,W ((K.ck (l.2.1+1)).bind λx4=>some (jt .u64 (uu .u64 (IntKind.u64.wrap ((uu .u64 x (jt .u64 x (29:Int))) * (2685821657736338717:Int))) (jt .u64 (IntKind.u64.wrap ((uu .u64 x (jt .u64 x (29:Int))) * (2685821657736338717:Int))) (32:Int))) (8:Int),(l.1,x4,x)))
  λr=>0≤r.1/\r.1 < 72057594037927936/\Lo r.2 (m+1):=λx=>by
  refine W.ck (by omega) (by omega) (W.ret ?_)
  generalize IntKind.u64.wrap ((uu .u64 x (jt .u64 x (29:Int))) * (2685821657736338717:Int))=y
  have hx:0≤uu .u64 y (jt .u64 y 32)/\uu .u64 y (jt .u64 y 32) < 18446744073709551616:=wrap_u64 _
  have e:jt .u64 (uu .u64 y (jt .u64 y 32)) 8=(uu .u64 y (jt .u64 y 32)) / 256:=by
   unfold jt;rw [Int.fdiv_eq_ediv_of_nonneg _ (by decide)];rfl
  refine⟨?_,?_,?_,?_⟩
  .
   omega
  .
   omega
  .
   grind
  simp_all
 refine W.iteB (λhlt=>?_) (λ_=>fin _);simp_all [aH,if_pos,List.getElem?_eq_getElem]
theorem kQ{k:Nat}{l:bL}{m n:Int}(h:Lo l m)(hm:m≤1000000000)(hn:n≤1000000000):W (cD k l n) λr=>0≤r.1/\(0≤n->r.1≤n)/\Lo r.2 (m+1):=by
 unfold cD;refine W.ite (λh1=>W.ret ⟨Int.le_refl 0,λh=>h,h.1,by show l.2.1≤m+1;have:=h.2;omega⟩) (λh1=>?_);refine W.bind (Nw h hm) λr hr=>?_;refine W.ck (by omega) (by omega) ?_;have e:IntKind.u64.wrap (n+1)=n+1:=A1 (by omega) (by omega);refine W.chk (by omega) ?_;rw [e];have h2:Int.tmod r.1 (n+1)=r.1 % (n+1):=Int.tmod_eq_emod_of_nonneg hr.1;have h3:=Int.emod_nonneg r.1 (show n+1≠0 by omega);have h4:=Int.emod_lt_of_pos r.1 (show 0 < n+1 by omega);grind [W.ck,W.ret]
theorem FU{k:Nat}{l:bL}{m a b:Int}(h:Lo l m)(hm:m≤1000000000)(ha:0≤a)(hab:a≤b)(hb:b≤1000000):W (gX k l a b) λr=>a≤r.1/\r.1≤b/\Lo r.2 (m+1):=by
 grind [gX,W.ck,W.bind,kQ,W.ret]
theorem vu{k:Nat}{l:bL}{m a:Int}(h:Lo l m)(hm:m≤1000000000)(ha:0≤a)(hb:a≤1000000):W (fg k l a) λr=>Lo r.2 (m+1):=by
 grind [fg,W.ck,W.bind,kQ,W.ret]
theorem Jt{k:Nat}{l:bL}{m:Int}{some_:List Int}(h:Lo l m)(hm:m≤1000000000)(h0:0 < some_.length)(h1:some_.length≤1000000):W (iS k l some_) λr=>r.1∈some_/\Lo r.2 (m+1):=by
 grind [iS,W.ck,W.bind,kQ,W.at_,W.ret,List.mem_of_getElem?]
theorem ce{α:Type}{l:List α}{i:Nat}(h:i < l.length):aH l (i:Int)=some l[i]:=by
 rw [aH,if_pos (by omega)];simp_all
section
variable {α β γ ε σ T:Type}
theorem bs{a:α}{f:α->Option β}:(some a).bind f=f a:=by simp_all
theorem bM{n:Int}(h1: -9223372036854775808≤n)(h2:n≤9223372036854775807):K.ck n=some n:=by simp_all [K.ck,if_pos]
theorem cK{p:Prop}[Decidable p](h:p):bV p=some ():=by rw [bV,if_pos h]
theorem Ae{l:List α}{i:Int}(h0:0≤i)(h:i.toNat < l.length):aH l i=some l[i.toNat]:=by rw [aH,if_pos h0];simp_all
theorem Ad{l:List α}{i:Int}{x:α}(h0:0≤i)(h:l[i.toNat]? =some x):aH l i=some x:=by simp_all [aH,if_pos]
theorem jX{a:α}{g:ε->Option β}{f:α->Option β}:K.bE (some (.ok a)) g f=f a:=by simp_all [K.bE]
theorem lA{e:ε}{g:ε->Option β}{f:α->Option β}:K.bE (some (.error e)) g f=g e:=by simp_all [K.bE]
theorem vD{q:α}{a:β}{b:α->β}:ib (some q) a b=b q:=by simp_all [ib]
theorem nH{a:β}{b:α->β}:ib none a b=a:=by simp_all [ib]
theorem W4{n:Nat}(h:n≤4294967296):bb n:=h
def io(g:σ->Nat->α->σ):Nat->List α->σ->σ
 |_,[],s=>s
 |j,x::l,s=>io g (j+1) l (g s j x)
theorem eO(l:List α)(mk:σ->Int->T)(g:σ->Nat->α->σ)(P:Nat->σ->Prop){f:Nat->T->Option β}(fin:σ->Option β)
 (step:∀n s (j:Nat) (h:j < l.length),P j s->f (n+1) (mk s j)=f n (mk (g s j l[j]) ((j:Int)+1))/\P (j+1) (g s j l[j]))
 (stop:∀n s,P l.length s->f (n+1) (mk s l.length)=fin s) {s0:σ} {n:Nat} (hn:l.length < n) (h0:P 0 s0):f n (mk s0 0)=fin (io g 0 l s0)/\P l.length (io g 0 l s0):=by
 have key:∀(m:List α) (pre:List α) (n:Nat) (s:σ),l=pre++m->m.length < n->P pre.length s->f n (mk s pre.length)=fin (io g pre.length m s)/\P l.length (io g pre.length m s):=by
  intro m
  induction m with
  |nil=>
   intro pre n s e hn hp;obtain⟨n,rfl⟩:∃n',n=n'+1:=⟨n - 1,by omega⟩;have:l.length=pre.length:=by grind
   rw [<-this] at hp⊢;exact⟨stop n s hp,hp⟩
  |cons x m ih=>
   intro pre n s e hn hp;simp only [length_cons] at hn;obtain⟨n,rfl⟩:∃n',n=n'+1:=⟨n - 1,by omega⟩;have hl:pre.length < l.length:=by grind
   have hx:l[pre.length]=x:=by simp [e]
   obtain⟨h1,h2⟩:=step n s pre.length hl hp;rw [hx] at h1 h2;have:=ih (pre++[x]) n (g s pre.length x) (by grind) (by omega) (by simp_all);rw [length_append] at this;simp only [length_cons,length_nil,Nat.zero_add] at this;rw [h1];exact this
 have:=key l [] n s0 rfl hn h0
 exact this
def eh(g:σ->Nat->α->Except ε σ):Nat->List α->σ->Except ε σ
 |_,[],s=>.ok s
 |j,x::l,s=>match g s j x with
  | .error e=>.error e
  | .ok s'=>eh g (j+1) l s'
theorem yY(l:List α)(mk:σ->Int->T)(g:σ->Nat->α->Except ε σ)(P:Nat->σ->Prop){f:Nat->T->Option β}(fin:Except ε σ->Option β)
 (step:∀n s (j:Nat) (h:j < l.length),P j s->(∃e,g s j l[j]= .error e/\f (n+1) (mk s j)=fin (.error e))\/(∃s',g s j l[j]= .ok s'/\f (n+1) (mk s j)=f n (mk s' ((j:Int)+1))/\P (j+1) s'))
 (stop:∀n s,P l.length s->f (n+1) (mk s l.length)=fin (.ok s)) {s0:σ} {n:Nat} (hn:l.length < n) (h0:P 0 s0):f n (mk s0 0)=fin (eh g 0 l s0):=by
 have key:∀(m:List α) (pre:List α) (n:Nat) (s:σ),l=pre++m->m.length < n->P pre.length s->f n (mk s pre.length)=fin (eh g pre.length m s):=by
  intro m
  induction m with
  |nil=>
   intro pre n s e hn hp;obtain⟨n,rfl⟩:∃n',n=n'+1:=⟨n - 1,by omega⟩;have:l.length=pre.length:=by grind
   rw [<-this] at hp⊢;exact stop n s hp
  |cons x m ih=>
   intro pre n s e hn hp;simp only [length_cons] at hn;obtain⟨n,rfl⟩:∃n',n=n'+1:=⟨n - 1,by omega⟩;have hl:pre.length < l.length:=by grind
   have hx:l[pre.length]=x:=by simp [e]
   rcases step n s pre.length hl hp with⟨e',h1,h2⟩ |⟨s',h1,h2,h3⟩
   .grind [eh]
   .rw [hx] at h1;have:=ih (pre++[x]) n s' (by grind) (by omega) (by simp_all);simp_all [length_append,length_cons,length_nil,Nat.zero_add,eh]
 exact key l [] n s0 rfl hn h0
end
section
variable {α β ε σ T:Type}
theorem je(l:List α)(mk:σ->Int->T)(g:σ->Nat->α->Except ε σ)(P:Nat->σ->Prop){f:Nat->T->Option β}(fin:Except ε σ->Option β)
 (step:∀n s (j:Nat) (h:j < l.length),P j s->(f (n+1) (mk s j)=match g s j l[j] with | .error e=>fin (.error e) | .ok s'=>f n (mk s' ((j:Int)+1)))/\∀s',g s j l[j]= .ok s'->P (j+1) s')
 (stop:∀n s,P l.length s->f (n+1) (mk s l.length)=fin (.ok s)) {s0:σ} {n:Nat} (hn:l.length < n) (h0:P 0 s0):f n (mk s0 0)=fin (eh g 0 l s0):=
 yY l mk g P fin (λn s j h hp=>by
  obtain⟨h1,h2⟩:=step n s j h hp
  grind) stop hn h0
end
theorem sj{α:Type}(p:α->Bool):∀(l:List α) (j:Nat),eh (λ(_:Unit) j x=>if p x then Except.error (j:Int) else .ok ()) j l ()=match l.findIdx? p with |some i=>.error ((i+j:Nat):Int) |none=>.ok ()
 |[],j=>by simp [eh]
 |x::l,j=>by
  rw [eh,findIdx?_cons]
  by_cases h:p x=true
  .
   simp [h]
  .
   simp only [h,if_false,Bool.false_eq_true]
   rw [sj p l (j+1)]
   grind
theorem nq{k:Nat}{a b:List Int}(h:a.length < k)(hk:a.length≤1000000):eJ k a b=some (decide (a=b)):=by
 unfold eJ;by_cases hl:a.length=b.length
 .rw [if_neg (by simp [hl])]
  have key:=yY (f:=ee k a b) a (λ(_:Unit) j=>j) (λ_ j x=>if x=b[j]?.getD 0 then .ok () else Except.error false) (λ_ _=>True) (λr=>some r)
   (λn s j hj _=>by
    have hjb:j < b.length:=by omega
    have hb:b[j]?.getD 0=b[j]:=by simp_all
    have hck:ck ((j:Int)+1)=some ((j:Int)+1):=bM (by omega) (by omega);rw [hb];simp only [ee,Int.ofNat_lt,hj,if_true,ce hj,ce hjb,bs];by_cases e:a[j]=b[j] <;> simp [e,hck])
   (λn s _=>by simp [ee]) (n:=k) (s0:=()) h trivial
  rw [show ee k a b k 0=_ from key]
  have:∀(a:List Int) (j:Nat),a.length+j=b.length->eh (λ(_:Unit) j x=>if x=b[j]?.getD 0 then .ok () else Except.error false) j a ()=if a=b.drop j then .ok () else .error false:=by
   intro a
   induction a with
   |nil=>
    simp_all [drop_eq_nil_of_le,length_nil,eh]
   |cons x a ih=>
    intro j hj;simp only [length_cons] at hj;have hjb:j < b.length:=by omega
    have hd:b.drop j=b[j]::b.drop (j+1):=drop_eq_getElem_cons hjb;have hb:b[j]?.getD 0=b[j]:=by simp_all
    rw [eh,hb,hd];grind
  rw [this a 0 (by omega),drop_zero];by_cases e:a=b
  .rw [if_pos e,jX,decide_eq_true e]
  .rw [if_neg e,lA,decide_eq_false e]
 .rw [if_pos (by omega),decide_eq_false (λe=>hl (by rw [e]))]
def jx(s:Int):Prop:=0≤s/\s < 256
def eo(s:Int)(i:Nat):Prop:=s.toNat.testBit i=true
instance (s:Int) (i:Nat):Decidable (eo s i):=by unfold eo;infer_instance
theorem vl{x:Nat}(h:x < 256):IntKind.u8.wrap (x:Int)=x:=by
 grind [IntKind.wrap,IntKind.signed,IntKind.bits]
theorem pZ{s:Int}(h:jx s):∃n:Nat,n < 256/\s=n:=⟨s.toNat,by have:=h.1;have:=h.2;omega,by have:=h.1;omega⟩
theorem Ju{n:Nat}(h:n < 256):(BitVec.ofInt IntKind.u8.bits (n:Int)).toNat=n:=by
 show(BitVec.ofInt 8 (n:Int)).toNat=n;simp_all
theorem Kp{n m:Nat}(hn:n < 256)(hm:m < 256):n |||m < 256:=or_lt_two_pow (n:=8) hn hm
theorem NJ{n m:Nat}(hn:n < 256):n &&& m < 256:=Nat.lt_of_le_of_lt and_le_left hn
theorem Kt{a b:Int}(ha:jx a)(hb:jx b):jx (yT .u8 a b)/\∀i,eo (yT .u8 a b) i↔eo a i\/eo b i:=by
 obtain⟨n,hn,rfl⟩:=pZ ha;obtain⟨m,hm,rfl⟩:=pZ hb
 have e:yT .u8 (n:Int) (m:Int)=((n |||m:Nat):Int):=by
  grind [yT,BitVec.toNat_or,Ju,vl,Kp]
 rw [e];refine⟨⟨by omega,by grind [Kp]⟩,λi=>?_⟩;simp [eo,testBit_or]
theorem QK{x:Int}(h0:0≤x)(h8:x < 8):jx (qf .u8 1 x)/\∀i:Nat,eo (qf .u8 1 x) i↔(i:Int)=x:=by
 obtain⟨n,rfl⟩:=Int.eq_ofNat_of_zero_le h0;have hn:n < 8:=by omega
 have e:qf .u8 1 (n:Int)=((2 ^ n:Nat):Int):=by
  unfold qf
  have h1:min (Int.toNat (n:Int)) IntKind.u8.bits=n:=by
   show min n 8=n;omega
  rw [h1,Int.one_mul];have h2:2 ^ n < 256:=Nat.pow_lt_pow_right (by decide) hn;grind [vl]
 rw [e];have h9:2 ^ n < 256:=Nat.pow_lt_pow_right (by decide) hn;refine⟨⟨Int.natCast_nonneg _,Int.ofNat_lt.2 h9⟩,λi=>?_⟩;simp only [eo,Int.toNat_natCast,testBit_two_pow,decide_eq_true_eq];omega
theorem Ab{k:Nat}{s:Int}(hs:jx s){i:Nat}(hi:i < 8):fW k s (i:Int)=some (decide (eo s i)):=by
 obtain⟨n,hn,rfl⟩:=pZ hs;unfold fW;rw [bV,if_pos (by omega)];show some _=some _;congr 1
 have e1:jt .u8 (n:Int) (i:Int)=((n >>> i:Nat):Int):=by
  unfold jt
  have h1:min (Int.toNat (i:Int)) IntKind.u8.bits=i:=by
   show min i 8=i;omega
  grind [Int.fdiv_eq_ediv_of_nonneg,Int.natCast_nonneg,Nat.shiftRight_eq_div_pow]
 have hlt:n >>> i < 256:=Nat.lt_of_le_of_lt (by rw [Nat.shiftRight_eq_div_pow];exact div_le_self _ _) hn
 have e2:sd .u8 ((n >>> i:Nat):Int) 1=(((n >>> i) &&& 1:Nat):Int):=by
  grind [sd,BitVec.ofInt,BitVec.toNat_and,Ju,vl,NJ]
 rw [e1,e2]
 have e3:(((n >>> i) &&& 1:Nat):Int)=1↔eo (n:Int) i:=by
  rw [eo,Int.toNat_natCast,testBit];grind
 simp_all
end Go.Proofs.YtemmlkadbaajcaaGreat
set_option linter.unusedVariables false
set_option linter.unusedSimpArgs false
namespace Go.Proofs.YtemmlkadbaajcaaGreat
open K Go Go.Proofs
abbrev mC(m:ab):Int:=m.1
abbrev mW(m:ab):Int:=m.2.1
abbrev mS(m:ab):Int:=m.2.2.1
abbrev mH(m:ab):Int:=m.2.2.2.1
abbrev mD(m:ab):List (List (List Int)):=m.2.2.2.2.1
abbrev mG(m:ab):List aQ:=m.2.2.2.2.2
def tB(l:List Int)(c:Int):Option (List Int):=(l.findIdx? λy=>decide (c=y)).map λi=>(if 0 < i then [l[i-1]?.getD 0] else [])++(l[i+1]?).toList
def vi(d:List (List Int))(c:Int):Option (List Int):=d.findSome? λl=>tB l c
def xE(m:ab)(d:Nat)(c:Int):Option (List Int):=vi ((mD m)[d]?.getD []) c
def nj(m:ab)(c:Int):Nat->Nat
 |0=>if(xE m 0 c).isSome then 0 else 1
 |d+1=>if(xE m (d+1) c).isSome then 0 else nj m c d+1
def gJ(m:ab)(B:Int->Bool):Nat->Int->Int
 |0,c=>if B c then mW m else -1
 |d+1,c=>match xE m d c with
  |none=>if mH m≤(nj m c d:Int) then -1 else gJ m B d c
  |some l=>if 0≤gJ m B d c then gJ m B d c+1 else if l.any λx=>decide (mW m≤gJ m B d x) then 0 else -1
theorem EZ{m:ab}{B:Int->Bool}(hw:0≤mW m):∀{d:Nat} {c:Int}, -1≤gJ m B d c
 |0,c=>by grind [gJ]
 |d+1,c=>by
  have:=EZ (B:=B) hw (d:=d) (c:=c)
  grind [gJ]
theorem EY{m:ab}{B:Int->Bool}(hw:mW m≤3):∀{d:Nat} {c:Int},gJ m B d c≤3+d
 |0,c=>by grind [gJ]
 |d+1,c=>by
  have:=EY (B:=B) hw (d:=d) (c:=c)
  grind [gJ]
theorem Ku{k:Nat}{l:List Int}{x:Int}(hk:l.length < k)(hl:l.length≤1000000):ir k l x=some (match l.findIdx? (λy=>decide (x=y)) with |some i=>(i:Int) |none=> -1):=by
 unfold ir
 have key:=je (f:=dG k l x) l (λ(_:Unit) j=>j) (λ_ j y=>if decide (x=y)=true then Except.error (j:Int) else .ok ()) (λ_ _=>True) (λr=>some r)
  (λn s j hj _=>by
   have hck:ck ((j:Int)+1)=some ((j:Int)+1):=bM (by omega) (by omega);refine⟨?_,λ_ _=>trivial⟩;simp only [dG,Int.ofNat_lt,hj,if_true,ce hj,bs,decide_eq_true_eq];grind)
  (λn s _=>by simp [dG]) (n:=k) (s0:=()) hk trivial
 rw [show dG k l x k 0=_ from key,sj (λy=>decide (x=y)) l 0];grind [decide,jX,lA]
def nO:List Int->List Int
 |[a,b]=>if b < a then [b,a] else [a,b]
 |l=>l
theorem pC{l:List Int}{x:Int}:x∈nO l↔x∈l:=by
 unfold nO;grind
theorem MN{k:Nat}{l:List Int}(hk:10≤k)(hl:l.length≤2):g9 k l=some (nO l):=by
 obtain⟨k,rfl⟩:∃n,k=n+4:=⟨k - 4,by omega⟩;have e0:qW (k+4) (IntKind.u64.wrap (0:Int))=some 0:=by kernel_rfl
 have e1:qW (k+4) (IntKind.u64.wrap (1:Int))=some 1:=by kernel_rfl
 have e2:qW (k+4) (IntKind.u64.wrap (2:Int))=some 2:=by kernel_rfl
 have c0:ck ((0:Int) - 0)=some 0:=rfl;have c1:ck ((1:Int) - 0)=some 1:=rfl;have c2:ck ((2:Int) - 0)=some 2:=rfl;have d1:ck ((0:Int)+1)=some 1:=rfl;have d2:ck ((1:Int)+1)=some 2:=rfl;have d3:ck ((1:Int) - 1)=some 0:=rfl;match l,hl with
 |[],_=>
  simp only [g9,length_nil,Int.ofNat_zero,e0,bs,dh,cR,cp,bB,nO,c0,d1];rfl
 |[a],_=>
  simp_all [g9,bs,dh,cR,cp,bB,nO]
 |[a,b],_=>
  have:(([a,b]:List Int).length:Int)=2:=rfl;have g0:aH [a,b] (0:Int)=some a:=rfl;have g1:aH [a,b] (1:Int)=some b:=rfl;have hn:∀x:Int,mi (k+4) x=some false:=λx=>by simp [mi]
  have hl:∀x y:Int,qi (k+4) x y=some (decide (x < y)):=λx y=>by simp [qi,hn]
  simp only [g9,this,e2,bs,dh,cR,cp,bB,bR,c2,d1,d2,d3,g0,g1,hl];grind [nO,bR,bs,aH]
end Go.Proofs.YtemmlkadbaajcaaGreat
set_option linter.unusedVariables false
set_option linter.unusedSimpArgs false
namespace Go.Proofs.YtemmlkadbaajcaaGreat
open K Go Go.Proofs
structure Vd(m:ab):Prop where
 c1:1≤mC m
 c5:mC m≤5
 w0:0≤mW m
 w3:mW m≤3
 s0:0≤mS m
 s3:mS m≤3
 h1:1≤mH m
 h3:mH m≤3
 d1:1≤(mD m).length
 d6:(mD m).length≤6
 r3:∀r∈mD m,r.length≤3
 l5:∀r∈mD m,∀l∈r,l.length≤5
 x5:∀r∈mD m,∀l∈r,∀x∈l,0≤x/\x < mC m
 nd:∀r∈mD m,r.flatten.Nodup
 g8:(mG m).length≤8
 gl:∀g∈mG m,0≤g.1/\g.1 < mC m/\0≤g.2.1/\g.2.1≤(mD m).length
theorem C7{l:List Int}{c:Int}{s:List Int}(h:tB l c=some s):s.length≤2/\∀x∈s,x∈l:=by
 unfold tB at h;cases e:l.findIdx? (λy=>decide (c=y)) with
 |none=>simp_all
 |some i=>
  rw [e] at h;obtain rfl:=Option.some.inj h;have hi:i < l.length:=(List.findIdx?_eq_some_iff_getElem.1 e).1;grind
theorem K0{d:List (List Int)}{c:Int}{s:List Int}(h:vi d c=some s):∃l∈d,tB l c=some s:=by
 simp_all [vi,List.exists_of_findSome?_eq_some]
theorem qm{m:ab}(v:Vd m){d:Nat}{c:Int}{s:List Int}(h:xE m d c=some s):s.length≤2/\∀x∈s,0≤x/\x < mC m:=by
 obtain⟨l,hl,h2⟩:=K0 h;cases e:(mD m)[d]? with
 |none=>simp_all
 |some r=>
  rw [e] at hl;have h3:=C7 h2;exact⟨h3.1,λx hx=>v.x5 r (List.mem_of_getElem? e) l hl x (h3.2 x hx)⟩
def SA(m:ab)(c:Int)(d:Nat):Int ⊕ List Int:=match xE m d c with
 |some s=>.inr (nO s)
 |none=>.inl (nj m c d)
theorem BG{k:Nat}{c:Int}{r:List (List Int)}(hk:10≤k)(hr:r.length≤3)(hl:∀l∈r,l.length≤5):
 cV k c r k 0=some (match vi r c with |some s=>.error (.inr (nO s)) |none=>.ok ()):=by
 have key:=je (f:=cV k c r) r (λ(_:Unit) j=>j) (λ_ _ l=>match tB l c with |some s=>Except.error (Sum.inr (nO s):Int ⊕ List Int) |none=>.ok ()) (λ_ _=>True) (λx=>some x)
  (λn s j hj _=>by
   refine⟨?_,λ_ _=>trivial⟩;have h5:=hl _ (List.getElem_mem hj);have hck:ck ((j:Int)+1)=some ((j:Int)+1):=bM (by omega) (by omega);simp only [cV,Int.ofNat_lt,hj,if_true,ce hj,bs];rw [Ku (by omega) (by omega),bs];generalize r[j]=l at *;have hb:tB l c=(l.findIdx? λy=>decide (c=y)).map λi=>(if 0 < i then [l[i-1]?.getD 0] else [])++(l[i+1]?).toList:=rfl;cases e:l.findIdx? (λy=>decide (c=y)) with
   |none=>
    simp_all
   |some i=>
    rw [e] at hb;simp only [Option.map_some] at hb;have hi:i < l.length:=(List.findIdx?_eq_some_iff_getElem.1 e).1;rw [hb];have hlen:=(C7 hb).1;have c1:ck ((i:Int) - 1)=some ((i:Int) - 1):=bM (by omega) (by omega);have c2:ck ((i:Int)+1)=some ((i:Int)+1):=bM (by omega) (by omega);have ok0:bV (bb (length ([]:List Int)+length [l[i-1]?.getD 0]))=some ():=cK (by simp [bb]);simp only [show(0:Int)≤(i:Int) from Int.natCast_nonneg _,if_true,c1,c2,bs]
    have e1:(if(0:Int) < (i:Int) then((aH l ((i:Int) - 1)).bind λx11=>(bV (bb (length ([]:List Int)+length [x11]))).bind λ_=>some (([]:List Int)++[x11])) else some ([]:List Int))=some (if 0 < i then [l[i-1]?.getD 0] else []):=by
     by_cases h0:0 < i
     .have g:aH l ((i:Int) - 1)=some (l[i-1]?.getD 0):=by
       grind [ce,List.getElem?_eq_getElem]
      simp_all
     simp_all
    rw [e1,bs];generalize (if 0 < i then [l[i-1]?.getD 0] else [])=p at *
    have e2:(if(i:Int)+1 < (l.length:Int) then((aH l ((i:Int)+1)).bind λx18=>(bV (bb (length p+length [x18]))).bind λ_=>some (p++[x18])) else some p)=some (p++(l[i+1]?).toList):=by
     by_cases h1:i+1 < l.length
     .have g:aH l ((i:Int)+1)=some l[i+1]:=by
       have:((i:Int)+1)=((i+1:Nat):Int):=by omega
       rw [this,ce h1]
      rw [if_pos (by omega),g,bs,List.getElem?_eq_getElem h1];grind [List.getElem?_eq_getElem,cK,length_append,bb,bs]
     grind
    simp_all [bs,MN])
  (λn s _=>by simp [cV]) (n:=k) (s0:=()) (by omega) trivial
 rw [show cV k c r k 0=_ from key]
 congr 1
 have:∀(r:List (List Int)) (j:Nat),eh (λ(_:Unit) _ l=>match tB l c with |some s=>Except.error (Sum.inr (nO s):Int ⊕ List Int) |none=>.ok ()) j r ()=match vi r c with |some s=>.error (.inr (nO s)) |none=>.ok ():=by
  intro r
  induction r with
  |nil=>intro j;rfl
  |cons l r ih=>
   intro j;rw [eh];unfold vi;rw [findSome?_cons];cases tB l c with
   |none=>exact ih (j+1)
   |some s=>rfl
 simp_all
theorem Gh{m:ab}{c:Int}:∀{d:Nat},nj m c d≤d+1
 |0=>by grind [nj]
 |d+1=>by have:=Gh (m:=m) (c:=c) (d:=d);grind [nj]
theorem wo{k:Nat}{m:ab}{c:Int}(v:Vd m)(hk:10≤k):∀(d m0:Nat),d < m0->d < (mD m).length->eV k m0 m c (d:Int)=some (SA m c d)
 |d,0,h,_=>absurd h (not_lt_zero _)
 |d,m0+1,h,hd=>by
  have hm:=List.getElem_mem hd
  unfold eV
  rw [ce hd,bs,BG hk (v.r3 _ hm) (v.l5 _ hm)]
  have hbes:xE m d c=vi (mD m)[d] c:=by unfold xE;simp_all
  cases e:vi (mD m)[d] c with
  |some s=>
   simp_all [lA,SA]
  |none=>
   rw [jX]
   unfold SA
   rw [hbes,e]
   match d,hd,h with
   |0,hd,h=>
    simp_all [nj]
   |d+1,hd,h=>
    have h6:=v.d6
    have c1:ck (((d+1:Nat):Int) - 1)=some (d:Int):=by grind [bM]
    have ih:=wo v hk d m0 (by omega) (by omega) (c:=c)
    rw [if_pos (by omega),c1,bs,ih,bs]
    rw [hbes.symm] at e
    have hcold:nj m c (d+1)=nj m c d+1:=by grind [nj]
    have hle:=Gh (m:=m) (c:=c) (d:=d)
    unfold SA
    cases e2:xE m d c with
    |some s=>
     simp only [M4]
     have:nj m c d=0:=by cases d <;> simp [nj,e2]
     simp_all
    |none=>
     have c2:ck ((1:Int)+(nj m c d:Int))=some ((1:Int)+(nj m c d:Int)):=bM (by omega) (by omega)
     simp only [M4,Tm,c2,bs,if_true,hcold]
     grind
end Go.Proofs.YtemmlkadbaajcaaGreat
set_option linter.unusedVariables false
set_option linter.unusedSimpArgs false
namespace Go.Proofs.YtemmlkadbaajcaaGreat
open K Go Go.Proofs
def l9(f:Int->Int):List Int:=[f 0,f 1,f 2,f 3,f 4]
def upd(f:Int->Int)(c v:Int):Int->Int:=λx=>if x=c then v else f x
theorem W7{c:Int}(h0:0≤c)(h:c < 5):c=0\/c=1\/c=2\/c=3\/c=4:=by omega
theorem sW{f:Int->Int}{c:Int}(h0:0≤c)(h:c < 5):aH (l9 f) c=some (f c):=by
 rcases W7 h0 h with rfl |rfl |rfl |rfl |rfl <;> rfl
theorem Fq{f:Int->Int}{c v:Int}(h0:0≤c)(h:c < 5):List.set (l9 f) (Int.toNat c) v=l9 (upd f c v):=by
 rcases W7 h0 h with rfl |rfl |rfl |rfl |rfl <;> rfl
theorem od{f g:Int->Int}(h:∀c,0≤c->c < 5->f c=g c):l9 f=l9 g:=by
 simp_all [l9]
def Td(m:ab)(f:Int->Int)(d:Nat)(c:Int):Int:=match xE m d c with
 |none=>if mH m≤(nj m c d:Int) then -1 else f c
 |some l=>if 0≤f c then f c+1 else if l.any λx=>decide (mW m≤f x) then 0 else -1
def SB(m:ab)(f:Int->Int)(d:Nat):Int->Int:=λc=>if 0≤c/\c < mC m then Td m f d c else f c
theorem xP{k:Nat}{m:ab}{f:Int->Int}(hw:0≤mW m){s:List Int}(hs:s.length < k)(hs2:s.length≤1000)(hx:∀x∈s,0≤x/\x < 5):
 cy k m (l9 f) s k 0=some (match s.find? (λx=>decide (mW m≤f x)) with |some x=>.error x |none=>.ok ()):=by
 have key:=je (f:=cy k m (l9 f) s) s (λ(_:Unit) j=>j) (λ_ _ x=>if decide (mW m≤f x)=true then Except.error x else .ok ()) (λ_ _=>True) (λx=>some x)
  (λn _ j hj _=>by
   refine⟨?_,λ_ _=>trivial⟩;have h5:=hx _ (List.getElem_mem hj);have hck:ck ((j:Int)+1)=some ((j:Int)+1):=bM (by omega) (by omega);have him:uw (0:Int) m.2.1=mW m:=by show uw 0 (mW m)=mW m;grind [uw]
   simp only [cy,Int.ofNat_lt,hj,if_true,ce hj,bs,cK h5,sW h5.1 h5.2,him,hck,decide_eq_true_eq];grind)
  (λn s _=>by simp [cy]) (n:=k) (s0:=()) hs trivial
 rw [show cy k m (l9 f) s k 0=_ from key]
 congr 1
 have:∀(s:List Int) (j:Nat),eh (λ(_:Unit) _ x=>if decide (mW m≤f x)=true then Except.error x else .ok ()) j s ()=match s.find? (λx=>decide (mW m≤f x)) with |some x=>.error x |none=>.ok ():=by
  intro s
  induction s with
  |nil=>intro j;rfl
  |cons x s ih=>
   intro j;rw [eh,find?_cons];grind
 simp_all
theorem Bm{s:List Int}:(nO s).length=s.length:=by
 unfold nO;grind
def vP(m:ab)(f:Int->Int)(l:List Int):Int:=((nO l).find? λx=>decide (mW m≤f x)).getD (-1)
theorem vK{k:Nat}{m:ab}{f:Int->Int}{c:Int}{d:Nat}(v:Vd m)(hk:10≤k)(hd:d < (mD m).length){l:List Int}(h:xE m d c=some l):
 dr k m (l9 f) c (d:Int)=some (vP m f l):=by
 have h6:=v.d6
 have c5:=v.c5
 have hb:=qm v h
 unfold dr
 rw [wo v hk d k (by omega) hd,bs]
 unfold SA
 rw [h]
 have e1:KY (Sum.inr (nO l):Int ⊕ List Int) (λn=>jE k n) (λl=>jD k l)=some (nO l):=rfl
 rw [e1,bs,xP v.w0 (by rw [Bm];omega) (by rw [Bm];omega) λx hx=>by grind [pC]]
 unfold vP
 cases(nO l).find? λx=>decide (mW m≤f x) with
 |none=>rw [jX];rfl
 |some x=>rw [lA];rfl
theorem Fg{m:ab}{f:Int->Int}{l:List Int}(hx:∀x∈l,0≤x):0≤vP m f l↔(l.any λx=>decide (mW m≤f x))=true:=by
 unfold vP;rw [List.any_eq_true];cases e:(nO l).find? λx=>decide (mW m≤f x) with
 |none=>
  simp_all [Option.getD_none,List.find?_eq_none,pC]
 |some x=>
  grind [List.mem_of_find?_eq_some,pC]
theorem J1{k:Nat}{m:ab}{f:Int->Int}{d:Nat}(v:Vd m)(hk:10≤k)(hd:d < (mD m).length)(hf:∀c,0≤c->c < mC m-> -1≤f c/\f c≤1000):
 iP k m (l9 f) (d:Int)=some (l9 (SB m f d)):=by
 have c5:=v.c5
 have c1:=v.c1
 have h6:=v.d6
 unfold iP
 have key:=eO (T:=List Int×Int) (f:=cN k m (l9 f) (d:Int)) (List.range (mC m).toNat) (λ(g:Int->Int) j=>(l9 g,j)) (λg j _=>upd g (j:Int) (Td m f d (j:Int))) (λj g=>g=λc=>if 0≤c/\c < (j:Int) then Td m f d c else f c) (λg=>some (l9 g))
  (λn g j hj hg=>by
   rw [length_range] at hj;have j0:(0:Int)≤(j:Int):=Int.natCast_nonneg _;have j1:(j:Int) < mC m:=by omega
   have j5:(j:Int) < 5:=by omega
   have hck:ck ((j:Int)+1)=some ((j:Int)+1):=bM (by omega) (by omega);have hp:bV ((0:Int)≤(j:Int)/\(j:Int) < 5)=some ():=cK ⟨j0,j5⟩;have hgj:g (j:Int)=f (j:Int):=by simp_all
   have hfj:=hf _ j0 j1;refine⟨?_,?_⟩
   .have hm1:(m.1:Int)=mC m:=rfl;have hm2:m.2.2.2.1=mH m:=rfl;simp only [cN,hm1,hm2,j1,if_true,wo v hk d k (by omega) hd,bs,hp,sW j0 j5,hck,Fq j0 j5];unfold SA Td;cases e:xE m d (j:Int) with
    |none=>
     simp only [M4,Tm,if_true];by_cases hh:mH m≤(nj m (j:Int) d:Int)
     .simp_all
     .simp only [hh,if_false,bs];refine congrArg (λr=>cN k m (l9 f) (d:Int) n (r,(j:Int)+1)) (od λc _ _=>?_);simp_all [upd]
    |some l=>
     have hb:=qm v e;simp only [M4,Bool.false_eq_true,if_false,not_false_eq_true,if_true];by_cases h0:0≤f (j:Int)
     .have hck2:ck (f (j:Int)+1)=some (f (j:Int)+1):=bM (by omega) (by omega);simp_all
     .simp only [h0,if_false,vK v hk hd e,bs];have ht:=Fg (m:=m) (f:=f) (l:=l) λx hx=>(hb.2 x hx).1;by_cases hany:(l.any λx=>decide (mW m≤f x))=true
      .simp_all
      .rw [if_neg λh=>hany (ht.1 h),bs,if_neg hany];refine congrArg (λr=>cN k m (l9 f) (d:Int) n (r,(j:Int)+1)) (od λc _ _=>?_);grind [upd]
   .rw [hg];funext c;unfold upd;grind)
  (λn g hg=>by
   rw [length_range];have:((mC m).toNat:Int)=mC m:=by omega
   simp_all [cN,if_neg,mC]) (n:=k) (s0:=f) (by grind) (by grind)
 rw [show cN k m (l9 f) (d:Int) k (l9 f,0)=_ from key.1,bs]
 congr 1
 refine od λc _ _=>?_
 rw [key.2,length_range]
 unfold SB
 grind
end Go.Proofs.YtemmlkadbaajcaaGreat
set_option linter.unusedVariables false
set_option linter.unusedSimpArgs false
namespace Go.Proofs.YtemmlkadbaajcaaGreat
open K Go Go.Proofs
def cr(F:Nat->Int->Int):List (List Int):=[l9 (F 0),l9 (F 1),l9 (F 2),l9 (F 3),l9 (F 4),l9 (F 5),l9 (F 6)]
def DT(F:Nat->Int->Int)(n:Nat)(f:Int->Int):Nat->Int->Int:=λi=>if i=n then f else F i
theorem W6{n:Nat}(h:n < 7):n=0\/n=1\/n=2\/n=3\/n=4\/n=5\/n=6:=by omega
theorem wX{F:Nat->Int->Int}{n:Nat}(h:n < 7):aH (cr F) (n:Int)=some (l9 (F n)):=by
 rcases W6 h with rfl |rfl |rfl |rfl |rfl |rfl |rfl <;> rfl
theorem Rz{F:Nat->Int->Int}{n:Nat}{f:Int->Int}(h:n < 7):List.set (cr F) n (l9 f)=cr (DT F n f):=by
 rcases W6 h with rfl |rfl |rfl |rfl |rfl |rfl |rfl <;> rfl
def SI(m:ab)(B:Int->Bool):Nat->Int->Int
 |0=>λc=>if B c then mW m else -1
 |n+1=>SB m (SI m B n) n
theorem AD{m:ab}(v:Vd m){B:Int->Bool}:∀(n:Nat) (c:Int),0≤c->c < mC m->SI m B n c=gJ m B n c
 |0,c,_,_=>rfl
 |n+1,c,h0,h1=>by
  have ih:=AD v (B:=B) n
  show SB m (SI m B n) n c=gJ m B (n+1) c
  unfold SB
  rw [if_pos ⟨h0,h1⟩]
  unfold Td gJ
  cases e:xE m n c with
  |none=>simp_all
  |some l=>
   have hb:=(qm v e).2
   grind
def PV(m:ab)(B:Int->Bool):Nat->Int->Int:=λn=>if n≤(mD m).length then SI m B n else λ_=>0
def uv(S:Int):Int->Bool:=λc=>decide (eo S c.toNat)
theorem IV{k:Nat}{m:ab}{S:Int}(hk:10≤k)(hS:jx S):fK k m S=some (l9 λc=>if uv S c then mW m else -1):=by
 unfold fK
 have key:=eO (T:=List Int×Int) (f:=cU k m S) (List.range 5) (λ(g:Int->Int) j=>(l9 g,j)) (λg j _=>upd g (j:Int) (if uv S (j:Int) then mW m else -1)) (λj g=>∀c,0≤c->c < (j:Int)->g c=if uv S c then mW m else -1) (λg=>some (l9 g))
  (λn g j hj hg=>by
   rw [length_range] at hj;have j0:(0:Int)≤(j:Int):=Int.natCast_nonneg _;have j5:(j:Int) < 5:=by omega
   have hck:ck ((j:Int)+1)=some ((j:Int)+1):=bM (by omega) (by omega);have hp:bV ((0:Int)≤(j:Int)/\(j:Int) < 5)=some ():=cK ⟨j0,j5⟩;have hp':bV ((0:Int)≤(j:Int)/\True)=some ():=cK ⟨j0,trivial⟩;refine⟨?_,?_⟩
   .simp only [cU,j5,if_true,hp,hp',bs,Ab (k:=k) hS (by omega:j < 8),hck,Fq j0 j5];have hin:uv S (j:Int)=decide (eo S j):=by unfold uv;simp_all
    rw [hin];cases hh:decide (eo S j) with
    |true=>
     simp only [if_true,bs];refine congrArg (λr=>cU k m S n (r,(j:Int)+1)) (od λc _ _=>?_);simp_all [upd]
    |false=>simp_all
   .intro c hc0 hc1;unfold upd;grind)
  (λn g hg=>by
   simp_all [length_range,cU,if_neg]) (n:=k) (s0:=λ_=>0) (by grind) (λc h0 h1=>by omega)
 have e0:([(0:Int),(0:Int),(0:Int),(0:Int),(0:Int)]:List Int)=l9 λ_=>0:=rfl;rw [e0,show cU k m S k (l9 λ_=>0,0)=_ from key.1,bs];refine congrArg some (od λc h0 h5=>?_);simp_all
theorem uI{k:Nat}{m:ab}{S:Int}(v:Vd m)(hk:10≤k)(hS:jx S):mV k m S=some (cr (PV m (uv S))):=by
 have d6:=v.d6;have d1:=v.d1;have w0:=v.w0;have w3:=v.w3;unfold mV kG;have hm:bV (0≤S/\S < 256)=some ():=cK hS;have hp0:bV ((0:Int)≤0/\(0:Int) < 7)=some ():=cK ⟨by omega,by omega⟩;rw [hm,bs,IV hk hS,bs,hp0,bs]
 have key:=eO (T:=List (List Int)×Int) (f:=cg k m) (mD m) (λ(F:Nat->Int->Int) j=>(cr F,j)) (λF j _=>DT F (j+1) (SB m (F j) j)) (λj F=>F=λn=>if n≤j then SI m (uv S) n else λ_=>0) (λF=>some (cr F))
  (λn F j hj hF=>by
   have j0:(0:Int)≤(j:Int):=Int.natCast_nonneg _;have hck:ck ((j:Int)+1)=some ((j:Int)+1):=bM (by omega) (by omega);have hp:bV ((0:Int)≤(j:Int)/\(j:Int) < 7)=some ():=cK ⟨j0,by omega⟩;have hp2:bV ((0:Int)≤(j:Int)+1/\(j:Int)+1 < 7)=some ():=cK ⟨by omega,by omega⟩;have hFj:F j=SI m (uv S) j:=by simp_all
   have hj':(j:Int) < (m.2.2.2.2.1.length:Int):=Int.ofNat_lt.2 hj
   have hnx:=J1 (k:=k) (f:=F j) v hk hj (λc h0 h1=>by
    rw [hFj,AD v j c h0 h1];have:=EZ (B:=uv S) w0 (d:=j) (c:=c);have:=EY (B:=uv S) w3 (d:=j) (c:=c);omega)
   refine⟨?_,?_⟩
   .simp only [cg,hj',if_true,hck,hp,bs,wX (F:=F) (show j < 7 by omega),hnx,hp2];grind [Int.toNat,Rz]
   .rw [hF];funext i;unfold DT;by_cases e:i=j+1
    .subst e;simp only [if_true,Nat.le_refl];rfl
    grind)
  (λn F hF=>by
   unfold cg;simp_all) (n:=k) (s0:=DT (λ_ _=>0) 0 (λc=>if uv S c then mW m else -1)) (by omega) (by
   funext n;unfold DT;by_cases e:n=0
   .subst e;rfl
   simp_all)
 have e0:List.set uG (Int.toNat 0) (l9 λc=>if uv S c then mW m else -1)=cr (DT (λ_ _=>0) 0 (λc=>if uv S c then mW m else -1)):=rfl;rw [e0,show cg k m k (cr (DT (λ_ _=>0) 0 (λc=>if uv S c then mW m else -1)),0)=_ from key.1,bs];rw [key.2];rfl
theorem Gf{m:ab}(v:Vd m){B:Int->Bool}{n:Nat}{c:Int}(hn:n≤(mD m).length)(h0:0≤c)(h1:c < mC m):PV m B n c=gJ m B n c:=by
 simp_all [PV,if_pos,AD]
end Go.Proofs.YtemmlkadbaajcaaGreat
set_option linter.unusedVariables false
set_option linter.unusedSimpArgs false
namespace Go.Proofs.YtemmlkadbaajcaaGreat
open K Go Go.Proofs
def wk{σ:Type}(bad:σ->Int->Option Int)(add:σ->Int->σ):List Int->σ->Except Int σ
 |[],s=>.ok s
 |x::l,s=>match bad s x with
  |some e=>.error e
  |none=>wk bad add l (add s x)
theorem sL{σ:Type}{bad:σ->Int->Option Int}{add:σ->Int->σ}:∀(l:List Int) (j:Nat) (s:σ),eh (λs _ x=>match bad s x with |some e=>Except.error e |none=>.ok (add s x)) j l s=wk bad add l s
 |[],j,s=>rfl
 |x::l,j,s=>by
  rw [eh,wk]
  cases bad s x with
  |some e=>rfl
  |none=>exact sL l (j+1) (add s x)
theorem yp{σ:Type}{bad:σ->Int->Option Int}{add:σ->Int->σ}:∀(a b:List Int) (s:σ),wk bad add (a++b) s=match wk bad add a s with | .error e=>.error e | .ok s'=>wk bad add b s'
 |[],b,s=>rfl
 |x::a,b,s=>by
  rw [cons_append,wk,wk]
  cases bad s x with
  |some e=>rfl
  |none=>exact yp a b (add s x)
theorem zu{σ:Type}{bad:σ->Int->Option Int}{add:σ->Int->σ}:∀(r:List (List Int)) (j:Nat) (s:σ),eh (λs _ l=>wk bad add l s) j r s=wk bad add r.flatten s
 |[],j,s=>rfl
 |l::r,j,s=>by
  rw [eh,flatten_cons,yp]
  cases wk bad add l s with
  |error e=>rfl
  |ok s'=>exact zu r (j+1) s'
theorem IC{σ τ:Type}{b1:σ->Int->Option Int}{a1:σ->Int->σ}{b2:τ->Int->Option Int}{a2:τ->Int->τ}(R:σ->τ->Prop)(hb:∀s t x,R s t->b1 s x=b2 t x)(ha:∀s t x,R s t->b1 s x=none->R (a1 s x) (a2 t x)):
 ∀(l:List Int) (s:σ) (t:τ),R s t->(∃e,wk b1 a1 l s= .error e/\wk b2 a2 l t= .error e)\/∃s' t',wk b1 a1 l s= .ok s'/\wk b2 a2 l t= .ok t'/\R s' t'
 |[],s,t,h=>.inr ⟨s,t,rfl,rfl,h⟩
 |x::l,s,t,h=>by
  rw [wk,wk,<-hb s t x h]
  cases e:b1 s x with
  |some c=>simp_all
  |none=>exact IC R hb ha l _ _ (ha s t x h e)
theorem zx{σ:Type}{bad:σ->Int->Option Int}{add:σ->Int->σ}(P:σ->Prop)(hs:∀s x,P s->bad s x=none->P (add s x)):∀(l:List Int) (s s':σ),P s->wk bad add l s= .ok s'->P s'
 |[],s,s',h,e=>by cases e;exact h
 |x::l,s,s',h,e=>by
  rw [wk] at e
  cases hb:bad s x with
  |some c=>simp_all
  |none=>rw [hb] at e;exact zx P hs l _ s' (hs s x h hb) e
theorem l8{k:Nat}{a b c:Int}:eB k a b c=some (decide (b≤a/\a≤c)):=by
 grind [eB]
theorem qM{k:Nat}{a b c:Int}:gd k a b c=some (decide (b≤a/\a≤c)):=by
 grind [gd]
theorem UJ{n:Int}(h:1≤n/\n≤5):ck (n - 1)=some (n - 1):=by grind [bM]
theorem wO{k:Nat}{m:ab}{x:Int}(h:1≤mC m/\mC m≤5):dz k m x=some (decide (0≤x/\x < mC m)):=by
 have h':IntKind.i64.wrap (m.1 - 1)=m.1 - 1:=vE (UJ h);unfold dz;rw [h',qM,bs];grind
theorem Uh{k:Nat}{m:ab}{x:Int}:∃q,dz k m x=some q:=by
 simp_all [dz,qM]
theorem Q3{k:Nat}{m:ab}{x:Int}:jj k m x=some (decide (0≤x/\x≤(mD m).length)):=by
 grind [jj,qM,bs]
theorem vo{k:Nat}{l:List Int}{x:Int}(hk:l.length < k)(hl:l.length≤1000000):ny k l x=some (decide (x∈l)):=by
 unfold ny
 have key:=je (f:=iG k l x) l (λ(_:Unit) j=>j) (λ_ j y=>if decide (y=x)=true then Except.error true else .ok ()) (λ_ _=>True) (λr=>some r)
  (λn s j hj _=>by
   have hck:ck ((j:Int)+1)=some ((j:Int)+1):=bM (by omega) (by omega);refine⟨?_,λ_ _=>trivial⟩;simp only [iG,Int.ofNat_lt,hj,if_true,ce hj,bs,decide_eq_true_eq];grind)
  (λn s _=>by simp [iG]) (n:=k) (s0:=()) hk trivial
 rw [show iG k l x k 0=_ from key]
 have:∀(l:List Int) (j:Nat),eh (λ(_:Unit) _ y=>if decide (y=x)=true then Except.error true else .ok ()) j l ()=if x∈l then .error true else .ok ():=by
  intro l
  induction l with
  |nil=>simp_all [eh]
  |cons y l ih=>
   intro j;rw [eh];grind
 grind [lA,jX]
def DG(C:Int)(s x:Int):Option Int:=if¬(0≤x/\x < C) then some 3 else if eo s x.toNat then some 4 else none
def xG(s x:Int):Int:=yT .u8 s (qf .u8 1 x)
def vk(C:Int)(s:List Int)(x:Int):Option Int:=if¬(0≤x/\x < C) then some 3 else if x∈s then some 4 else none
def AG(s:List Int)(x:Int):List Int:=s++[x]
theorem ru:jx 0:=⟨by decide,by decide⟩
theorem PW{C s x:Int}(h:DG C s x=none):0≤x/\x < C:=by
 unfold DG at h;grind
theorem nn{k:Nat}{s x:Int}(hs:jx s)(h0:0≤x)(h8:x < 8):fU k s x=some (xG s x)/\jx (xG s x)/\∀i:Nat,eo (xG s x) i↔eo s i\/(i:Int)=x:=by
 have h1:=QK h0 h8;have h2:=Kt hs h1.1;refine⟨?_,h2.1,λi=>?_⟩
 .unfold fU;rw [cK h0,bs];rfl
 .show eo (yT .u8 s (qf .u8 1 x)) i↔_;simp_all
theorem C9{C s x:Int}(hC:C≤5)(hs:jx s)(h:DG C s x=none):jx (xG s x):=by
 have:=PW h;exact(nn (k:=0) hs this.1 (by omega)).2.1
def ox(C:Int)(r:List (List Int)):Int:=if 3 < r.length then 6 else match wk (vk C) AG r.flatten [] with | .error e=>e | .ok _=>0
theorem HH{k:Nat}{m:ab}(hC:1≤mC m/\mC m≤5){l:List Int}(hk:l.length < k)(hl:l.length≤1000){s:Int}(hs:jx s):
 dB k m l k (s,0)=some (wk (DG (mC m)) xG l s):=by
 have key:=je (T:=Int×Int) (f:=dB k m l) l (λ(s:Int) j=>(s,j)) (λs _ x=>match DG (mC m) s x with |some e=>Except.error e |none=>.ok (xG s x)) (λ_ s=>jx s) (λr=>some r)
  (λn s j hj hs=>by
   have hck:ck ((j:Int)+1)=some ((j:Int)+1):=bM (by omega) (by omega);have hc:ck (m.1 - 1)=some (m.1 - 1):=UJ hC;refine⟨?_,λs' e=>?_⟩
   .simp only [dB,Int.ofNat_lt,hj,if_true,ce hj,bs,hc,l8];generalize l[j]=x;by_cases h:0≤x/\x < mC m
    .have h':0≤x/\x≤m.1 - 1:=⟨h.1,by grind⟩;have hh:=Ab (k:=k) hs (i:=x.toNat) (by omega);have ex:((x.toNat:Nat):Int)=x:=by omega
     rw [ex] at hh;simp only [h',and_self,decide_true,not_true_eq_false,if_false,hh,bs];have eb:DG (mC m) s x=if eo s x.toNat then some 4 else none:=by unfold DG;simp_all
     rw [eb];by_cases h2:eo s x.toNat
     .simp_all
     .simp only [h2,decide_false,Bool.false_eq_true,if_false,(nn (k:=k) hs h.1 (by omega)).1,bs,hck]
    .have h':¬(0≤x/\x≤m.1 - 1):=λhh=>h ⟨hh.1,by grind⟩;have eb:DG (mC m) s x=some 3:=by unfold DG;simp_all
     simp_all
   .cases e2:DG (mC m) s l[j] with
    |some c=>simp_all
    |none=>grind [C9])
  (λn s _=>by simp [dB]) (n:=k) (s0:=s) hk hs
 simp_all [dB,sL]
theorem HI{k:Nat}{m:ab}(hC:1≤mC m/\mC m≤5){r:List (List Int)}(hk:r.length < k)(hr:r.length≤1000)(hl:∀l∈r,l.length < k/\l.length≤1000):
 dC k m r k (0,0)=some (match wk (DG (mC m)) xG r.flatten 0 with | .error e=>.error e | .ok _=>.ok ()):=by
 have key:=je (T:=Int×Int) (f:=dC k m r) r (λ(s:Int) j=>(s,j)) (λs _ l=>wk (DG (mC m)) xG l s) (λ_ s=>jx s) (λx=>some (match x with | .error e=>Except.error e | .ok _=>.ok ()))
  (λn s j hj hs=>by
   have hck:ck ((j:Int)+1)=some ((j:Int)+1):=bM (by omega) (by omega);have hlj:=hl _ (List.getElem_mem hj);refine⟨?_,λs' e=>zx jx (λs x=>C9 hC.2) _ _ _ hs e⟩;simp only [dC,Int.ofNat_lt,hj,if_true,ce hj,bs,HH hC hlj.1 hlj.2 hs];cases wk (DG (mC m)) xG r[j] s with
   |error e=>rw [lA]
   |ok s'=>rw [jX,hck,bs])
  (λn s _=>by simp [dC]) (n:=k) (s0:=0) hk ru
 simp_all [dC,zu]
theorem Ol{C:Int}(hC:C≤5)(l:List Int):(∃e,wk (DG C) xG l 0= .error e/\wk (vk C) AG l []= .error e)\/∃s t,wk (DG C) xG l 0= .ok s/\wk (vk C) AG l []= .ok t/\(jx s/\∀i:Nat,eo s i↔(i:Int)∈t):=by
 refine IC (λs t=>jx s/\∀i:Nat,eo s i↔(i:Int)∈t) (λs t x h=>?_) (λs t x h hb=>?_) l 0 [] ⟨ru,λi=>by simp [eo]⟩
 .unfold DG vk;grind
 .have hx:=PW hb;have hw:=nn (k:=0) h.1 hx.1 (by omega);simp_all [AG]
theorem ND{k:Nat}{m:ab}(hC:1≤mC m/\mC m≤5){r:List (List Int)}(hk:1000 < k)(hr:r.length≤1000)(hl:∀l∈r,l.length≤1000):ko k m r=some (ox (mC m) r):=by
 unfold ko ox;by_cases h3:3 < r.length
 .grind
 .rw [if_neg (by omega),if_neg h3,HI hC (by omega) hr λl hh=>⟨by grind,hl l hh⟩];rcases Ol hC.2 r.flatten with⟨e,h1,h2⟩ |⟨s,t,h1,h2,_⟩
  .simp_all [lA]
  simp_all [jX]
end Go.Proofs.YtemmlkadbaajcaaGreat
set_option linter.unusedVariables false
set_option linter.unusedSimpArgs false
namespace Go.Proofs.YtemmlkadbaajcaaGreat
open K Go Go.Proofs
theorem t5:∀(n:Nat) (l:List Int),l.Nodup->(∀x∈l,0≤x/\x < (n:Int))->l.length≤n
 |0,l,_,h=>by
  cases l with
  |nil=>simp
  |cons x l=>have:=h x (by simp);omega
 |n+1,l,hn,h=>by
  have h1:=t5 n (l.erase (n:Int)) (hn.erase _) (λx hx=>by
   grind)
  grind
theorem UL{C:Int}{s:List Int}{x:Int}(h:vk C s x=none):(0≤x/\x < C)/\x∉s:=by
 unfold vk at h;grind
def Mt(C:Int)(s:List Int):Prop:=s.Nodup/\∀x∈s,0≤x/\x < C
theorem Mt.add{C:Int}{s:List Int}{x:Int}(h:Mt C s)(hb:vk C s x=none):Mt C (AG s x):=by
 have:=UL hb;refine⟨?_,λy hy=>?_⟩
 .unfold AG;rw [nodup_append];exact⟨h.1,by simp,λa ha b hb e=>by simp_all⟩
 .rcases List.mem_append.1 hy with hy |hy
  .exact h.2 y hy
  simp_all
theorem Mt.len{C:Int}{s:List Int}(hC:0≤C/\C≤5)(h:Mt C s):s.length≤5:=by
 have:=t5 C.toNat s h.1 λx hx=>⟨(h.2 x hx).1,by have:=(h.2 x hx).2;omega⟩;omega
theorem Eb{k:Nat}{m:ab}(hC:1≤mC m/\mC m≤5){r:List (List Int)}{y:List Int×Int}{l:List Int}(hy:aH r y.2=some l)(h6:10≤k)(hk:l.length < k)(hl:l.length≤1000){s:List Int}(hs:Mt (mC m) s):
 dX k m r y k (s,0)=some (wk (vk (mC m)) AG l s):=by
 have key:=je (T:=List Int×Int) (f:=dX k m r y) l (λ(s:List Int) j=>(s,j)) (λs _ x=>match vk (mC m) s x with |some e=>Except.error e |none=>.ok (AG s x)) (λ_ s=>Mt (mC m) s) (λr=>some r)
  (λn s j hj hs=>by
   have hck:ck ((j:Int)+1)=some ((j:Int)+1):=bM (by omega) (by omega);have h5:=hs.len ⟨by omega,hC.2⟩;refine⟨?_,λs' e=>?_⟩
   .simp only [dX,hy,Int.ofNat_lt,hj,if_true,ce hj,bs,wO hC];generalize l[j]=x;by_cases h:0≤x/\x < mC m
    .have eb:vk (mC m) s x=if x∈s then some 4 else none:=by unfold vk;simp_all
     rw [eb];simp only [h,and_self,decide_true,not_true_eq_false,if_false,vo (k:=k) (l:=s) (x:=x) (by omega) (by omega),bs];by_cases h2:x∈s
     .simp_all
     .have hok:bV (bb (length s+length [x]))=some ():=cK (by grind [bb]);simp only [h2,decide_false,Bool.false_eq_true,if_false,hok,bs,hck];rfl
    .have eb:vk (mC m) s x=some 3:=by unfold vk;simp_all
     simp_all
   .cases e2:vk (mC m) s l[j] with
    |some c=>simp_all
    |none=>rw [e2] at e;cases e;exact hs.add e2)
  (λn s _=>by simp [dX,hy,bs]) (n:=k) (s0:=s) hk hs
 exact key.trans (congrArg some (sL l 0 s))
theorem MS{k:Nat}{m:ab}(hC:1≤mC m/\mC m≤5){r:List (List Int)}(hk:1000 < k)(hr:r.length≤1000)(hl:∀l∈r,l.length≤1000):j8 k m r=some (ox (mC m) r):=by
 unfold j8 ox;by_cases h3:3 < r.length
 .grind
 .rw [if_neg (by omega),if_neg h3]
  have key:=je (T:=List Int×Int) (f:=dY k m r) r (λ(s:List Int) j=>(s,j)) (λs _ l=>wk (vk (mC m)) AG l s) (λ_ s=>Mt (mC m) s) (λx=>some (match x with | .error e=>Except.error e | .ok _=>.ok ()))
   (λn s j hj hs=>by
    have hck:ck ((j:Int)+1)=some ((j:Int)+1):=bM (by omega) (by omega);have hlj:=hl _ (List.getElem_mem hj);refine⟨?_,λs' e=>zx (Mt (mC m)) (λs x=>Mt.add) _ _ _ hs e⟩;have hg:aH r ((s,(j:Int)).2)=some r[j]:=ce hj;simp only [dY,Int.ofNat_lt,hj,if_true];rw [Eb hC hg (by omega) (by omega) hlj hs];cases wk (vk (mC m)) AG r[j] s with
    |error e=>rw [lA]
    |ok s'=>rw [jX,hck,bs])
   (λn s _=>by simp [dY]) (n:=k) (s0:=[]) (by omega) ⟨nodup_nil,λx hx=>by cases hx⟩
  rw [show dY k m r k ([],0)=_ from key,zu];cases wk (vk (mC m)) AG r.flatten [] with
  |error e=>exact lA
  |ok s=>exact jX
theorem ID{C:Int}:∀{l s t:List Int},wk (vk C) AG l s= .ok t->t=s++l
 |[],s,t,e=>by cases e;simp
 |x::l,s,t,e=>by
  rw [wk] at e
  cases hb:vk C s x with
  |some c=>simp_all
  |none=>
   rw [hb] at e
   have:=ID e
   simp_all [AG]
theorem Fe{C:Int}:∀{l s:List Int},(s++l).Nodup->(∀x∈l,0≤x/\x < C)->wk (vk C) AG l s= .ok (s++l)
 |[],s,_,_=>by simp [wk]
 |x::l,s,hn,hr=>by
  have hx:x∉s:=by
   grind
  have hb:vk C s x=none:=by
   unfold vk;simp_all
  rw [wk,hb];simp only [];rw [Fe (s:=AG s x) (by simp_all [AG]) λy hy=>hr y (mem_cons_of_mem _ hy)];simp_all [AG]
theorem zf{C:Int}{r:List (List Int)}:ox C r=0↔r.length≤3/\r.flatten.Nodup/\∀x∈r.flatten,0≤x/\x < C:=by
 unfold ox;constructor
 .intro h;split at h
  .cases h
  .cases e:wk (vk C) AG r.flatten [] with
   |ok t=>
    have h1:=zx (Mt C) (λs x=>Mt.add) _ _ _ ⟨nodup_nil,λx hx=>by cases hx⟩ e;have h2:=ID e;rw [nil_append] at h2;subst h2;exact⟨by omega,h1.1,h1.2⟩
   |error c=>
    rw [e] at h;exfalso
    have:∀(l s:List Int),wk (vk C) AG l s≠.error 0:=by
     intro l
     induction l with
     |nil=>intro s h;cases h
     |cons x l ih=>
      grind [wk,vk]
    simp_all
 .rintro⟨h1,h2,h3⟩;rw [if_neg (by omega),Fe (by simp_all) h3]
def AU(m:ab)(g:aQ):Int:=if(0≤g.1/\g.1 < mC m)/\0≤g.2.1/\g.2.1≤(mD m).length then 0 else 3
theorem Q1{k:Nat}{m:ab}(hC:1≤mC m/\mC m≤5){g:aQ}:im k m g=some (AU m g):=by
 have hc:ck (m.1 - 1)=some (m.1 - 1):=UJ hC;unfold im AU;have e:decide (0≤g.1/\g.1≤m.1 - 1)=decide (0≤g.1/\g.1 < mC m):=decide_eq_decide.2 ⟨λh=>⟨h.1,by grind⟩,λh=>⟨h.1,by grind⟩⟩;rw [hc,bs,l8,bs,e];by_cases h1:0≤g.1/\g.1 < mC m
 .by_cases h2:0≤g.2.1/\g.2.1≤(mD m).length <;> simp [h1,h2,l8]
 grind
theorem QB{k:Nat}{m:ab}(hC:1≤mC m/\mC m≤5){g:aQ}:ik k m g=some (AU m g):=by
 unfold ik AU;rw [wO hC,bs];by_cases h1:0≤g.1/\g.1 < mC m
 .by_cases h2:0≤g.2.1/\g.2.1≤(mD m).length <;> simp [h1,h2,Q3]
 grind
def kD{α:Type}(f:α->Int)(l:List α):Int:=((l.map f).find? λe=>decide (e≠0)).getD 0
theorem ot{α:Type}(f:α->Int):∀(l:List α) (j:Nat),eh (λ(_:Unit) _ x=>if¬(f x=0) then Except.error (f x) else .ok ()) j l ()=if kD f l=0 then .ok () else .error (kD f l)
 |[],j=>by simp [eh,kD]
 |x::l,j=>by
  rw [eh]
  by_cases h:f x=0
  .
   have:kD f (x::l)=kD f l:=by simp [kD,h]
   rw [this]
   simp only [h,not_true_eq_false,if_false]
   exact ot f l (j+1)
  simp_all [kD]
theorem qO{α:Type}{f:α->Int}{l:List α}:kD f l=0↔∀x∈l,f x=0:=by
 induction l with
 |nil=>simp [kD]
 |cons x l ih=>
  grind [kD]
structure Sm(m:ab):Prop where
 d:(mD m).length≤1000
 r:∀r∈mD m,r.length≤1000/\∀l∈r,l.length≤1000
 g:(mG m).length≤1000
def lN(m:ab):Int:=
 if¬((1≤mC m/\mC m≤5)/\(0≤mW m/\mW m≤3)/\(0≤mS m/\mS m≤3)/\1≤mH m/\mH m≤3) then 1
 else if(mD m).length=0 then 7 else if 6 < (mD m).length then 6 else if¬(kD (ox (mC m)) (mD m)=0) then kD (ox (mC m)) (mD m)
 else if 8 < (mG m).length then 6 else kD (AU m) (mG m)
theorem NE{k:Nat}{m:ab}(hs:Sm m)(hk:1000 < k):oq k m=some (lN m):=by
 unfold oq lN;simp only [l8,bs];by_cases h1:1≤mC m/\mC m≤5
 .by_cases h2:0≤mW m/\mW m≤3
  .by_cases h3:0≤mS m/\mS m≤3
   .by_cases h4:1≤mH m/\mH m≤3
    .have e1:(1≤m.1/\m.1≤5)=True:=eq_true h1;have e2:(0≤m.2.1/\m.2.1≤3)=True:=eq_true h2;have e3:(0≤m.2.2.1/\m.2.2.1≤3)=True:=eq_true h3;have e4:(1≤m.2.2.2.1/\m.2.2.2.1≤3)=True:=eq_true h4;simp only [e1,e2,e3,e4,decide_true,not_true_eq_false,if_false,Bool.not_true,Bool.false_eq_true,bs,and_self,h1,h2,h3,h4];by_cases h5:(mD m).length=0
     .simp_all
     .rw [if_neg (show¬((m.2.2.2.2.1.length:Int) < 1) by grind),if_neg h5];by_cases h6:6 < (mD m).length
      .grind
      .rw [if_neg (show¬((6:Int) < (m.2.2.2.2.1.length:Int)) by grind),if_neg h6]
       have key:=je (f:=f6 k m) (mD m) (λ(_:Unit) j=>j) (λ_ _ x=>if¬(ox (mC m) x=0) then Except.error (ox (mC m) x) else .ok ()) (λ_ _=>True) (λr=>some r)
        (λn s j hj _=>by
         have hck:ck ((j:Int)+1)=some ((j:Int)+1):=bM (by omega) (by omega);have hr:=hs.r _ (List.getElem_mem hj);refine⟨?_,λ_ _=>trivial⟩;have hj':(j:Int) < (m.2.2.2.2.1.length:Int):=Int.ofNat_lt.2 hj;have hg:aH m.2.2.2.2.1 (j:Int)=some (mD m)[j]:=ce hj;simp only [f6,hj',if_true,hg,bs,ND h1 hk hr.1 hr.2];grind)
        (λn s _=>by
         unfold f6;simp_all) (n:=k) (s0:=()) (by omega) trivial
       rw [show f6 k m k 0=_ from key,ot];by_cases h7:kD (ox (mC m)) (mD m)=0
       .rw [if_pos h7,jX,show(if¬(kD (ox (mC m)) (mD m)=0) then kD (ox (mC m)) (mD m) else if 8 < (mG m).length then 6 else kD (AU m) (mG m))=(if 8 < (mG m).length then 6 else kD (AU m) (mG m)) from if_neg (λhn=>hn h7)];by_cases h8:8 < (mG m).length
        .grind
        .rw [if_neg (show¬((8:Int) < (m.2.2.2.2.2.length:Int)) by grind),if_neg h8]
         have key:=je (f:=f5 k m) (mG m) (λ(_:Unit) j=>j) (λ_ _ x=>if¬(AU m x=0) then Except.error (AU m x) else .ok ()) (λ_ _=>True) (λr=>some r)
          (λn s j hj _=>by
           have hck:ck ((j:Int)+1)=some ((j:Int)+1):=bM (by omega) (by omega);refine⟨?_,λ_ _=>trivial⟩;have hj':(j:Int) < (m.2.2.2.2.2.length:Int):=Int.ofNat_lt.2 hj;have hg:aH m.2.2.2.2.2 (j:Int)=some (mG m)[j]:=ce hj;simp only [f5,hj',if_true,hg,bs,Q1 h1];grind)
          (λn s _=>by
           simp_all [f5,if_neg,Int.lt_irrefl]) (n:=k) (s0:=()) (by omega) trivial
         rw [show f5 k m k 0=_ from key,ot];by_cases h9:kD (AU m) (mG m)=0
         .rw [if_pos h9,jX,h9]
         .rw [if_neg h9,lA]
       .rw [if_neg h7,lA,if_pos h7]
    grind
   grind
  grind
 grind
theorem Ft{k:Nat}{m:ab}(hs:Sm m)(hk:1000 < k):me k m=some (lN m):=by
 unfold me lN;simp only [qM,bs];by_cases h1:1≤mC m/\mC m≤5
 .by_cases h2:0≤mW m/\mW m≤3
  .by_cases h3:0≤mS m/\mS m≤3
   .by_cases h4:1≤mH m/\mH m≤3
    .have e1:(1≤m.1/\m.1≤5)=True:=eq_true h1;have e2:(0≤m.2.1/\m.2.1≤3)=True:=eq_true h2;have e3:(0≤m.2.2.1/\m.2.2.1≤3)=True:=eq_true h3;have e4:(1≤m.2.2.2.1/\m.2.2.2.1≤3)=True:=eq_true h4;simp only [e1,e2,e3,e4,decide_true,not_true_eq_false,if_false,Bool.not_true,Bool.false_eq_true,bs,and_self,h1,h2,h3,h4];by_cases h5:(mD m).length=0
     .simp_all
     .rw [if_neg (show¬((m.2.2.2.2.1.length:Int)=0) by simp_all),if_neg h5];by_cases h6:6 < (mD m).length
      .grind
      .rw [if_neg (show¬((6:Int) < (m.2.2.2.2.1.length:Int)) by grind),if_neg h6]
       have key:=je (f:=fQ k m) (mD m) (λ(_:Unit) j=>j) (λ_ _ x=>if¬(ox (mC m) x=0) then Except.error (ox (mC m) x) else .ok ()) (λ_ _=>True) (λr=>some r)
        (λn s j hj _=>by
         have hck:ck ((j:Int)+1)=some ((j:Int)+1):=bM (by omega) (by omega);have hr:=hs.r _ (List.getElem_mem hj);refine⟨?_,λ_ _=>trivial⟩;have hj':(j:Int) < (m.2.2.2.2.1.length:Int):=Int.ofNat_lt.2 hj;have hg:aH m.2.2.2.2.1 (j:Int)=some (mD m)[j]:=ce hj;simp only [fQ,hj',if_true,hg,bs,MS h1 hk hr.1 hr.2];grind)
        (λn s _=>by
         unfold fQ;simp_all) (n:=k) (s0:=()) (by omega) trivial
       rw [show fQ k m k 0=_ from key,ot];by_cases h7:kD (ox (mC m)) (mD m)=0
       .rw [if_pos h7,jX,show(if¬(kD (ox (mC m)) (mD m)=0) then kD (ox (mC m)) (mD m) else if 8 < (mG m).length then 6 else kD (AU m) (mG m))=(if 8 < (mG m).length then 6 else kD (AU m) (mG m)) from if_neg (λhn=>hn h7)];by_cases h8:8 < (mG m).length
        .grind
        .rw [if_neg (show¬((8:Int) < (m.2.2.2.2.2.length:Int)) by grind),if_neg h8]
         have key:=je (f:=fP k m) (mG m) (λ(_:Unit) j=>j) (λ_ _ x=>if¬(AU m x=0) then Except.error (AU m x) else .ok ()) (λ_ _=>True) (λr=>some r)
          (λn s j hj _=>by
           have hck:ck ((j:Int)+1)=some ((j:Int)+1):=bM (by omega) (by omega);refine⟨?_,λ_ _=>trivial⟩;have hj':(j:Int) < (m.2.2.2.2.2.length:Int):=Int.ofNat_lt.2 hj;have hg:aH m.2.2.2.2.2 (j:Int)=some (mG m)[j]:=ce hj;simp only [fP,hj',if_true,hg,bs,QB h1];grind)
          (λn s _=>by
           simp_all [fP,if_neg,Int.lt_irrefl]) (n:=k) (s0:=()) (by omega) trivial
         rw [show fP k m k 0=_ from key,ot];by_cases h9:kD (AU m) (mG m)=0
         .rw [if_pos h9,jX,h9]
         .rw [if_neg h9,lA]
       .rw [if_neg h7,lA,if_pos h7]
    grind
   grind
  grind
 grind
end Go.Proofs.YtemmlkadbaajcaaGreat
set_option linter.unusedVariables false
set_option linter.unusedSimpArgs false
namespace Go.Proofs.YtemmlkadbaajcaaGreat
open K Go Go.Proofs
theorem wC{r:List (List Int)}{l:List Int}(h:r.flatten.Nodup)(hl:l∈r):l.Nodup:=by
 grind
theorem L1{σ:Type}{bad:σ->Int->Option Int}{add:σ->Int->σ}{x:Int}{l:List Int}{s:σ}{e:Int}(h:bad s x=some e):wk bad add (x::l) s= .error e:=by rw [wk,h]
theorem LY{σ:Type}{bad:σ->Int->Option Int}{add:σ->Int->σ}{x:Int}{l:List Int}{s:σ}(h:bad s x=none):wk bad add (x::l) s=wk bad add l (add s x):=by rw [wk,h]
theorem Vd.of{m:ab}(h:lN m=0):Vd m:=by
 unfold lN at h;by_cases h1:(1≤mC m/\mC m≤5)/\(0≤mW m/\mW m≤3)/\(0≤mS m/\mS m≤3)/\1≤mH m/\mH m≤3
 .rw [if_neg (λhn=>hn h1)] at h;by_cases h2:(mD m).length=0
  .omega
  .rw [if_neg h2] at h;by_cases h3:6 < (mD m).length
   .omega
   .rw [if_neg h3] at h;by_cases h4:kD (ox (mC m)) (mD m)=0
    .rw [if_neg (λhn=>hn h4)] at h;by_cases h5:8 < (mG m).length
     .omega
     .rw [if_neg h5] at h;have hd:=λr hr=>zf.1 (qO.1 h4 r hr);have hx:∀r∈mD m,∀l∈r,∀x∈l,0≤x/\x < mC m:=λr hr l hl x hx=>(hd r hr).2.2 x (List.mem_flatten.2 ⟨l,hl,hx⟩)
      exact⟨h1.1.1,h1.1.2,h1.2.1.1,h1.2.1.2,h1.2.2.1.1,h1.2.2.1.2,h1.2.2.2.1,h1.2.2.2.2,by omega,by omega,λr hr=>(hd r hr).1,λr hr l hl=>by
       have hn:l.Nodup:=wC (hd r hr).2.1 hl;have:=t5 (mC m).toNat l hn λx hxx=>by grind
       omega,hx,λr hr=>(hd r hr).2.1,by omega,λg hg=>by
        grind [qO,AU]⟩
    omega
 omega
theorem Vd.chk{m:ab}(v:Vd m):lN m=0:=by
 unfold lN;have h1:(1≤mC m/\mC m≤5)/\(0≤mW m/\mW m≤3)/\(0≤mS m/\mS m≤3)/\1≤mH m/\mH m≤3:=⟨⟨v.c1,v.c5⟩,⟨v.w0,v.w3⟩,⟨v.s0,v.s3⟩,v.h1,v.h3⟩
 have h4:kD (ox (mC m)) (mD m)=0:=qO.2 λr hr=>zf.2 ⟨v.r3 r hr,v.nd r hr,λx hx=>by
  obtain⟨l,hl,hx⟩:=List.mem_flatten.1 hx;exact v.x5 r hr l hl x hx⟩
 have h9:kD (AU m) (mG m)=0:=qO.2 λg hg=>by
  have:=v.gl g hg;unfold AU;omega
 have d1:=v.d1;have d6:=v.d6;have g8:=v.g8;omega
theorem Vd.sm{m:ab}(v:Vd m):Sm m:=⟨by have:=v.d6;omega,λr hr=>⟨by have:=v.r3 r hr;omega,λl hl=>by have:=v.l5 r hr l hl;omega⟩,by have:=v.g8;omega⟩
def rz(C:Int)(p:Option Int)(x:Int):Option Int:=if¬(0≤x/\x < C) then some 3 else if p.any (λy=>decide (x≤y)) then some 5 else none
def OJ(C:Int)(p:Option Int×Int)(x:Int):Option Int:=rz C p.1 x
def SJ(p:Option Int×Int)(x:Int):Option Int×Int:=(some x,xG p.2 x)
def Gt(p:Option Int)(x:Int):Option Int:=some x
def sF(C:Int)(b:List Int):Int:=match wk (rz C) Gt b none with | .error e=>e | .ok _=>0
def er(b:List Int):Int:=b.foldl xG 0
theorem PX{C:Int}{p:Option Int}{x:Int}(h:rz C p x=none):(0≤x/\x < C)/\p.any (λy=>decide (x≤y))=false:=by
 unfold rz at h;grind
theorem Gk{C:Int}:∀(b:List Int) (p:Option Int) (s:Int),(∃e,wk (OJ C) SJ b (p,s)= .error e/\wk (rz C) Gt b p= .error e)\/∃q,wk (OJ C) SJ b (p,s)= .ok (q,b.foldl xG s)/\wk (rz C) Gt b p= .ok q
 |[],p,s=>.inr ⟨p,rfl,rfl⟩
 |x::b,p,s=>by
  cases e:rz C p x with
  |some c=>exact .inl ⟨c,L1 e,L1 e⟩
  |none=>
   rw [LY (bad:=OJ C) (s:=(p,s)) (x:=x) e,LY e]
   exact Gk (C:=C) b (some x) (xG s x)
theorem BY{k:Nat}{m:ab}(hC:1≤mC m/\mC m≤5){b:List Int}(hk:b.length < k)(hb:b.length≤1000):
 fX k m b k (0,0)=some (if sF (mC m) b=0 then .ok (er b) else .error (none,0,sF (mC m) b)):=by
 have key:=je (T:=Int×Int) (f:=fX k m b) b (λ(s:Option Int×Int) j=>(s.2,j)) (λs _ x=>match OJ (mC m) s x with |some e=>Except.error e |none=>.ok (SJ s x)) (λj s=>jx s.2/\s.1=if j=0 then none else b[j-1]?) (λr=>some (match r with | .error e=>Except.error (none,0,e) | .ok s=>.ok s.2))
  (λn s j hj hs=>by
   have hck:ck ((j:Int)+1)=some ((j:Int)+1):=bM (by omega) (by omega);have hc:ck (m.1 - 1)=some (m.1 - 1):=UJ hC;refine⟨?_,λs' e=>?_⟩
   .simp only [fX,Int.ofNat_lt,hj,if_true,ce hj,bs,hc,l8];generalize b[j]=x;rw [show OJ (mC m) s x=rz (mC m) s.1 x from rfl];by_cases h:0≤x/\x < mC m
    .have h':0≤x/\x≤m.1 - 1:=⟨h.1,by grind⟩;have eb:rz (mC m) s.1 x=if s.1.any (λy=>decide (x≤y)) then some 5 else none:=by unfold rz;simp_all
     have ep:(if(0:Int) < (j:Int) then((ck ((j:Int) - 1)).bind λx12=>(aH b x12).bind λx13=>some (decide (x≤x13))) else some false)=some (s.1.any λy=>decide (x≤y)):=by
      rw [hs.2];by_cases h0:j=0
      .simp_all
      .have c1:ck ((j:Int) - 1)=some ((j - 1:Nat):Int):=by grind [bM]
       rw [if_pos (by omega),c1,bs,ce (by omega),bs,if_neg h0,List.getElem?_eq_getElem (by omega)];rfl
     rw [eb];simp only [h',and_self,decide_true,not_true_eq_false,if_false,bs];rw [ep,bs];cases s.1.any λy=>decide (x≤y) with
     |true=>simp_all
     |false=>
      simp only [Bool.false_eq_true,if_false,(nn (k:=k) hs.1 h.1 (by omega)).1,bs,hck];rfl
    .have h':¬(0≤x/\x≤m.1 - 1):=λhh=>h ⟨hh.1,by grind⟩;have eb:rz (mC m) s.1 x=some 3:=by unfold rz;simp_all
     simp_all
   .cases e2:OJ (mC m) s b[j] with
    |some c=>simp_all
    |none=>
     rw [e2] at e;cases e;have hx:=PX e2;exact⟨(nn (k:=0) hs.1 hx.1.1 (by omega)).2.1,by show some b[j]=if j+1=0 then none else b[j+1 - 1]?;simp_all⟩)
  (λn s _=>by simp [fX]) (n:=k) (s0:=(none,0)) hk ⟨ru,rfl⟩
 rw [show fX k m b k (0,0)=_ from key]
 have e1:eh (λ(s:Option Int×Int) _ x=>match OJ (mC m) s x with |some e=>Except.error e |none=>.ok (SJ s x)) 0 b (none,0)=wk (OJ (mC m)) SJ b (none,0):=sL (bad:=OJ (mC m)) (add:=SJ) b 0 (none,0)
 rw [e1]
 unfold sF
 have z:∀(l:List Int) (p:Option Int),wk (rz (mC m)) Gt l p≠.error 0:=by
  intro l
  induction l with
  |nil=>intro p h;cases h
  |cons x l ih=>
   intro p h;rw [wk] at h;cases hb:rz (mC m) p x with
   |some c=>
    grind [rz]
   |none=>grind
 rcases Gk (C:=mC m) b none 0 with⟨e,h1,h2⟩ |⟨q,h1,h2⟩
 .
  grind
 .
  rw [h1,h2];rfl
theorem MU{k:Nat}{m:ab}(hC:1≤mC m/\mC m≤5){b:List Int}(hk:b.length < k)(hb:b.length≤1000):iH k m b=some (sF (mC m) b):=by
 unfold iH
 have key:=je (T:=Int) (f:=dq k m b) b (λ(s:Option Int) j=>j) (λs _ x=>match rz (mC m) s x with |some e=>Except.error e |none=>.ok (Gt s x)) (λj s=>s=if j=0 then none else b[j-1]?) (λr=>some (match r with | .error e=>Except.error e | .ok s=>.ok ()))
  (λn s j hj hs=>by
   have hck:ck ((j:Int)+1)=some ((j:Int)+1):=bM (by omega) (by omega);refine⟨?_,λs' e=>?_⟩
   .simp only [dq,Int.ofNat_lt,hj,if_true,ce hj,bs,wO hC];generalize b[j]=x;by_cases h:0≤x/\x < mC m
    .have eb:rz (mC m) s x=if s.any (λy=>decide (x≤y)) then some 5 else none:=by unfold rz;simp_all
     have ep:(if(0:Int) < (j:Int) then((ck ((j:Int) - 1)).bind λx12=>(aH b x12).bind λx13=>some (decide (x≤x13))) else some false)=some (s.any λy=>decide (x≤y)):=by
      rw [hs];by_cases h0:j=0
      .simp_all
      .have c1:ck ((j:Int) - 1)=some ((j - 1:Nat):Int):=by grind [bM]
       rw [if_pos (by omega),c1,bs,ce (by omega),bs,if_neg h0,List.getElem?_eq_getElem (by omega)];rfl
     grind
    .have eb:rz (mC m) s x=some 3:=by unfold rz;simp_all
     simp_all
   .cases e2:rz (mC m) s b[j] with
    |some c=>simp_all
    |none=>
     rw [e2] at e;cases e;show some b[j]=if j+1=0 then none else b[j+1 - 1]?;simp_all)
  (λn s _=>by simp [dq]) (n:=k) (s0:=none) hk rfl
 rw [show dq k m b k 0=_ from key];have e1:eh (λ(s:Option Int) _ x=>match rz (mC m) s x with |some e=>Except.error e |none=>.ok (Gt s x)) 0 b none=wk (rz (mC m)) Gt b none:=sL (bad:=rz (mC m)) (add:=Gt) b 0 none;rw [e1];unfold sF;cases wk (rz (mC m)) Gt b none with
 |error e=>exact lA
 |ok s=>exact jX
end Go.Proofs.YtemmlkadbaajcaaGreat
set_option linter.unusedVariables false
set_option linter.unusedSimpArgs false
namespace Go.Proofs.YtemmlkadbaajcaaGreat
open K Go Go.Proofs
theorem sU{C:Int}(hC:C≤5):∀(b:List Int) (s:Int),jx s->(∀x∈b,0≤x/\x < C)->jx (b.foldl xG s)/\∀i:Nat,eo (b.foldl xG s) i↔eo s i\/(i:Int)∈b
 |[],s,hs,_=>⟨hs,λi=>by simp⟩
 |x::b,s,hs,hb=>by
  have hx:=hb x mem_cons_self
  have hw:=nn (k:=0) hs hx.1 (by omega)
  have:=sU hC b (xG s x) hw.2.1 λy hy=>hb y (mem_cons_of_mem _ hy)
  grind
structure Bg(C:Int)(b:List Int):Prop where
 rng:∀x∈b,0≤x/\x < C
 asc:b.Pairwise (· < ·)
theorem DK{C:Int}:∀{b:List Int} {p:Option Int},(∃q,wk (rz C) Gt b p= .ok q)↔(∀x∈b,0≤x/\x < C)/\b.Pairwise (· < ·)/\∀y,p=some y->∀x∈b.head?,y < x
 |[],p=>by simp [wk]
 |x::b,p=>by
  cases e:rz C p x with
  |some c=>
   rw [L1 e]
   constructor
   .
    simp_all
   .
    rintro⟨h1,h2,h3⟩
    exfalso
    unfold rz at e
    rw [if_neg (λhn=>hn (h1 x mem_cons_self))] at e
    cases p with
    |none=>cases e
    |some y=>
     have:=h3 y rfl x (by simp)
     grind
  |none=>
   have hx:=PX e
   rw [LY e,DK (b:=b) (p:=Gt p x)]
   constructor
   .
    rintro⟨h1,h2,h3⟩
    refine⟨λy hy=>?_,?_,λy hy z hz=>?_⟩
    .
     grind
    .
     rw [pairwise_cons]
     refine⟨λy hy=>?_,h2⟩
     cases b with
     |nil=>cases hy
     |cons z b=>
      have hz:=h3 x rfl z (by simp)
      grind [pairwise_cons]
    simp_all
   simp_all [pairwise_cons,mem_cons_of_mem,Gt,mem_of_mem_head?]
theorem Gm{C:Int}:∀{l:List Int} {p:Option Int},wk (rz C) Gt l p≠.error 0
 |[],p,h=>by cases h
 |x::l,p,h=>by
  cases hb:rz C p x with
  |some c=>
   rw [L1 hb] at h
   grind [rz]
  |none=>rw [LY hb] at h;exact Gm h
theorem uK{C:Int}{b:List Int}:sF C b=0↔Bg C b:=by
 unfold sF;constructor
 .intro h;cases e:wk (rz C) Gt b none with
  |error c=>simp_all [Gm]
  |ok q=>have:=DK.1 ⟨q,e⟩;exact⟨this.1,this.2.1⟩
 .rintro⟨h1,h2⟩;obtain⟨q,e⟩:=(DK (p:=none)).2 ⟨h1,h2,λy hy=>by cases hy⟩;rw [e]
theorem Bg.set{C:Int}(hC:C≤5){b:List Int}(h:Bg C b):jx (er b)/\∀c:Int,0≤c->uv (er b) c=decide (c∈b):=by
 have:=sU hC b 0 ru h.rng;refine⟨this.1,λc hc=>?_⟩;unfold uv;have e:((c.toNat:Nat):Int)=c:=by omega
 have h2:=this.2 c.toNat;rw [e] at h2;refine decide_eq_decide.2 ?_;show eo (b.foldl xG 0) c.toNat↔_;simp_all [eo]
def xC(m:ab)(i:Nat):Int:=match i with |0=>mC m - 1 |1=>((mD m).length:Int) - 1 |_=>(mD m).length
def AT(n:Int)(l:List Int):Bool:=l.all λx=>decide (0≤x/\x≤n)
theorem rK{k:Nat}{m:ab}(v:Vd m){i:Nat}(hi:i < 3){l:List Int}(hk:l.length < k)(hl:l.length≤1000):
 ec k m (i:Int) l k 0=some (if AT (xC m i) l then .ok () else .error (none,0,3)):=by
 have c1:=v.c1
 have c5:=v.c5
 have d6:=v.d6
 have d1:=v.d1
 have key:=je (T:=Int) (f:=ec k m (i:Int) l) l (λ(_:Unit) j=>j) (λ_ _ x=>if 0≤x/\x≤xC m i then .ok () else Except.error ((none,0,3):Option ab×Int×Int)) (λ_ _=>True) (λr=>some r)
  (λn s j hj _=>by
   have hck:ck ((j:Int)+1)=some ((j:Int)+1):=bM (by omega) (by omega);have hc:ck (m.1 - 1)=some (mC m - 1):=UJ ⟨c1,c5⟩;have hd:ck ((m.2.2.2.2.1.length:Int) - 1)=some (((mD m).length:Int) - 1):=bM (by omega) (by grind)
   have hg:aH [mC m - 1,((mD m).length:Int) - 1,((mD m).length:Int)] (i:Int)=some (xC m i):=by
    have:i=0\/i=1\/i=2:=by omega
    rcases this with rfl |rfl |rfl <;> rfl
   refine⟨?_,λ_ _=>trivial⟩;simp only [ec,Int.ofNat_lt,hj,if_true,ce hj,bs,hc,hd];rw [show aH [mC m - 1,((mD m).length:Int) - 1,(m.2.2.2.2.1.length:Int)] (i:Int)=some (xC m i) from hg,bs,l8,bs];grind)
  (λn s _=>by simp [ec]) (n:=k) (s0:=()) hk trivial
 rw [show ec k m (i:Int) l k 0=_ from key]
 congr 1
 have:∀(l:List Int) (j:Nat),eh (λ(_:Unit) _ x=>if 0≤x/\x≤xC m i then .ok () else Except.error ((none,0,3):Option ab×Int×Int)) j l ()=if AT (xC m i) l then .ok () else .error (none,0,3):=by
  intro l
  induction l with
  |nil=>intro j;rfl
  |cons x l ih=>
   intro j;rw [eh];by_cases h:0≤x/\x≤xC m i
   .simp_all [if_pos,AT,xC,all_cons,and_self,decide_true,Bool.true_and]
   .rw [if_neg h];have:AT (xC m i) (x::l)=false:=by simp only [AT,all_cons,h,decide_false,Bool.false_and]
    simp_all
 simp_all
theorem A9{k:Nat}{m:ab}(v:Vd m)(hk:10≤k):∀n:Nat,n≤32->yo k m n=some ()
 |0,_=>rfl
 |n+1,h=>by
  have e:IntKind.u8.wrap (n:Int)=(n:Int):=vl (by omega)
  unfold yo
  rw [A9 v hk n (by omega),bs,e,uI v hk ⟨by omega,by omega⟩,bs]
theorem L9{k:Nat}{m:ab}(v:Vd m)(hk:10≤k):fu k m=some ():=by
 have c1:=v.c1;have c5:=v.c5;unfold fu
 have hc:m.1=1\/m.1=2\/m.1=3\/m.1=4\/m.1=5:=by
  grind
 have e:0≤qf .i64 1 m.1/\qf .i64 1 m.1≤32:=by
  rcases hc with h |h |h |h |h <;> rw [h] <;> decide
 rw [if_pos ⟨by omega,by omega⟩];simp_all [A9]
def PK(m:ab)(cs ds ns:List Int):Bool:=AT (xC m 0) cs && AT (xC m 1) ds && AT (xC m 2) ns
theorem BX{k:Nat}{m:ab}{b cs ds ns:List Int}(hs:Sm m)(hk:1010≤k)(hb:b.length≤1000)(h1:cs.length≤1000)(h2:ds.length≤1000)(h3:ns.length≤1000):
 li k m b cs ds ns=some (if¬(lN m=0) then(none,0,lN m) else if¬(sF (mC m) b=0) then(none,0,sF (mC m) b) else if PK m cs ds ns then(some m,er b,0) else(none,0,3)):=by
 unfold li
 rw [NE hs (by omega),bs]
 by_cases hc:lN m=0
 .
  have v:=Vd.of hc;rw [if_neg (λhn=>hn hc),if_neg (λhn=>hn hc),BY ⟨v.c1,v.c5⟩ (by omega) hb];by_cases hg:sF (mC m) b=0
  .rw [if_pos hg,jX,if_neg (λhn=>hn hg)];obtain⟨n,rfl⟩:∃n,k=n+4:=⟨k - 4,by omega⟩;have e0:=rK v (k:=n+4) (i:=0) (by omega) (l:=cs) (by omega) h1;have e1:=rK v (k:=n+4) (i:=1) (by omega) (l:=ds) (by omega) h2;have e2:=rK v (k:=n+4) (i:=2) (by omega) (l:=ns) (by omega) h3;have g0:aH [cs,ds,ns] (0:Int)=some cs:=rfl;have g1:aH [cs,ds,ns] (1:Int)=some ds:=rfl;have g2:aH [cs,ds,ns] (2:Int)=some ns:=rfl;have k0:ck ((0:Int)+1)=some 1:=rfl;have k1:ck ((1:Int)+1)=some 2:=rfl;have k2:ck ((2:Int)+1)=some 3:=rfl;have ln:(([cs,ds,ns]:List (List Int)).length:Int)=3:=rfl
   have s0:c8 (n+4) m cs ds ns (n+4) 0=if AT (xC m 0) cs then c8 (n+4) m cs ds ns (n+3) 1 else some (.error (none,0,3)):=by
    rw [c8,ln,if_pos (by decide),g0,bs,show ec (n+4) m 0 cs (n+4) 0=_ from e0];cases AT (xC m 0) cs with
    |true=>simp_all [if_true,jX,bs]
    |false=>simp_all [Bool.false_eq_true,if_false,lA]
   have s1:c8 (n+4) m cs ds ns (n+3) 1=if AT (xC m 1) ds then c8 (n+4) m cs ds ns (n+2) 2 else some (.error (none,0,3)):=by
    rw [c8,ln,if_pos (by decide),g1,bs,show ec (n+4) m 1 ds (n+4) 0=_ from e1];cases AT (xC m 1) ds with
    |true=>simp_all [if_true,jX,bs]
    |false=>simp_all [Bool.false_eq_true,if_false,lA]
   have s2:c8 (n+4) m cs ds ns (n+2) 2=if AT (xC m 2) ns then c8 (n+4) m cs ds ns (n+1) 3 else some (.error (none,0,3)):=by
    rw [c8,ln,if_pos (by decide),g2,bs,show ec (n+4) m 2 ns (n+4) 0=_ from e2];cases AT (xC m 2) ns with
    |true=>simp_all [if_true,jX,bs]
    |false=>simp_all [Bool.false_eq_true,if_false,lA]
   have s3:c8 (n+4) m cs ds ns (n+1) 3=some (.ok ()):=by
    rw [c8,ln,if_neg (by decide)]
   rw [s0,s1,s2,s3];unfold PK
   have fin:((kj (n+4) m).bind λr32=>ib r32 none (λq33=>(fu (n+4) q33).bind λr35=>some (some q33,er b,(0:Int))))=some (some m,er b,0):=by
    grind [kj,bs,vD,L9]
   cases AT (xC m 0) cs with
   |false=>simp_all [Bool.false_eq_true,if_false,Bool.false_and,lA]
   |true=>
    cases AT (xC m 1) ds with
    |false=>simp_all [if_true,Bool.false_eq_true,if_false,Bool.true_and,Bool.false_and,lA]
    |true=>
     cases AT (xC m 2) ns with
     |false=>simp_all [if_true,Bool.false_eq_true,if_false,Bool.true_and,Bool.and_false,lA]
     |true=>simp_all [if_true,Bool.true_and,jX]
  .rw [if_neg hg,lA,if_pos hg]
 simp_all
end Go.Proofs.YtemmlkadbaajcaaGreat
set_option linter.unusedVariables false
set_option linter.unusedSimpArgs false
namespace Go.Proofs.YtemmlkadbaajcaaGreat
open K Go Go.Proofs
def pK(m:ab)(B:Int->Bool)(n:Nat):List Int:=(List.range (mC m).toNat).map λ(c:Nat)=>gJ m B n (c:Int)
def kx(m:ab)(B:Int->Bool):List (List Int):=(List.range ((mD m).length+1)).map (pK m B)
theorem mE{m:ab}{B:Int->Bool}{n:Nat}{c:Int}(h0:0≤c)(h1:c < mC m):aH (pK m B n) c=some (gJ m B n c):=by
 unfold pK;rw [aH,if_pos h0,List.getElem?_map,List.getElem?_range (by omega)];grind
theorem qR{m:ab}{B:Int->Bool}{n:Nat}(h:n≤(mD m).length):aH (kx m B) (n:Int)=some (pK m B n):=by
 unfold kx;rw [aH,if_pos (by omega),List.getElem?_map,Int.toNat_natCast,List.getElem?_range (by omega)];rfl
end Go.Proofs.YtemmlkadbaajcaaGreat
set_option linter.unusedVariables false
set_option linter.unusedSimpArgs false
namespace Go.Proofs.YtemmlkadbaajcaaGreat
open K Go Go.Proofs
theorem Lo.mono{l:bL}{m n:Int}(h:Lo l m)(hn:m≤n):Lo l n:=⟨h.1,Int.le_trans h.2 hn⟩
theorem Vb{α:Type}{l:List α}{x:α}{n:Nat}(h:l.length≤n)(hn:n≤1000000):bb (length l+length [x]):=by
 show length l+length [x]≤4294967296;grind
theorem ED{k:Nat}(hk:50≤k){l:bL}{m:Int}{n:Nat}(hl:Lo l m)(hm:0≤m/\m≤1000)(hn:n≤8):W (iT k l (n:Int)) λr=>Lo r.2 (m+10)/\r.1.length=n/\(∀x∈r.1,0≤x/\x < (n:Int))/\r.1.Nodup:=by
 unfold iT;refine W.bind (R:=λr=>Lo (r.2.1,r.2.2.1,r.2.2.2) (m+10)/\r.1.length=n/\(∀x∈r.1,0≤x/\x < (n:Int))/\r.1.Nodup) ?_ λr h=>W.ret h
 refine W.loop (f:=eT k (n:Int)) (λq y=>∃j:Nat,y.2.2.2.2=(j:Int)/\j≤n/\q=n - j/\Lo (y.1,y.2.1,y.2.2.1) (m+j)/\y.2.2.2.1.length=j/\(∀x∈y.2.2.2.1,0≤x/\x < (j:Int))/\y.2.2.2.1.Nodup) ?_ n k _ (by omega)
  ⟨0,rfl,by omega,by omega,by simp_all,rfl,by simp,by simp⟩
 rintro aO q ⟨nums,d,s,o,y⟩ ⟨j,hj,hle,hq,hlo,hlen,hx,hnd⟩ ih;simp only at hj hlo hlen hx hnd;subst hj;unfold eT;dsimp only;refine W.ite (λhlt=>?_) (λhge=>W.ret ⟨hlo.mono (by omega),by grind,λx hx'=>by grind,hnd⟩);obtain⟨r5,e5,a5,b5,c5⟩:=kQ (k:=k) (n:=(j:Int)) hlo (by omega) (by omega);have b5:=b5 (by omega);have ho:(o++[(j:Int)]).length=j+1:=by simp [hlen]
 have hr5:r5.1.toNat < (o++[(j:Int)]).length:=by omega
 have hjl:j < (o++[(j:Int)]).length:=by omega
 have hgj:(o++[(j:Int)])[j]=(j:Int):=by
  grind
 rw [e5,bs,cK (Vb (n:=8) (by omega) (by omega)),bs,Ae a5 hr5,bs,ce (by omega),bs];have hgs:aH (List.set (o++[(j:Int)]) (Int.toNat (j:Int)) (o++[(j:Int)])[r5.1.toNat]) r5.1=some ((List.set (o++[(j:Int)]) (Int.toNat (j:Int)) (o++[(j:Int)])[r5.1.toNat])[r5.1.toNat]'(by grind)):=Ae a5 (by grind);rw [hgs,bs,bM (by omega) (by omega),bs]
 have hp:(List.set (List.set (o++[(j:Int)]) (Int.toNat (j:Int)) (o++[(j:Int)])[r5.1.toNat]) (Int.toNat r5.1) (j:Int)).Perm (o++[(j:Int)]):=by
  have:= @set_set_perm Int (o++[(j:Int)]) j r5.1.toNat hjl hr5;rw [hgj] at this;exact this
 refine ih (q - 1) (_,_,_,_,(j:Int)+1) (by omega) ⟨j+1,by grind,by omega,by omega,c5.mono (by omega),by simp [hlen],λx hx'=>?_,hp.nodup_iff.2 ?_⟩
 .grind
 grind
theorem KI{out:List (List Int)}{i:Nat}{x:Int}(h:i < out.length):(out.set i (out[i]++[x])).flatten.Perm (out.flatten++[x]):=by
 have e1:out=out.take i++out[i]::out.drop (i+1):=by simp_all
 grind
structure Rl(C:Int)(r:List (List Int)):Prop where
 r3:r.length≤3
 x5:∀l∈r,∀x∈l,0≤x/\x < C
 nd:r.flatten.Nodup
theorem Rl.l5{C:Int}(hC:0≤C/\C≤5){r:List (List Int)}(h:Rl C r):∀l∈r,l.length≤5:=λl hl=>by
 have:=t5 C.toNat l (wC h.nd hl) λx hx=>by have:=h.x5 l hl x hx;omega
 omega
theorem Jg{k:Nat}(hk:50≤k){l:bL}{m:Int}{n:Nat}(hl:Lo l m)(hm:0≤m/\m≤900)(hn:n≤5):
 W (lq k l (n:Int)) λr=>Lo r.2 (m+30)/\Rl (n:Int) r.1:=by
 unfold lq
 refine W.bind (FU (l:=(l.1,l.2.1,l.2.2)) hl (by omega) (by omega) (by omega) (by omega)) λr1 h1=>?_
 refine W.chk ⟨by omega,by show _≤_;omega⟩ ?_
 refine W.bind (ED hk (l:=(r1.2.1,r1.2.2.1,r1.2.2.2)) (m:=m+1) (n:=n) h1.2.2 (by omega) (by omega)) λr4 h4=>?_
 obtain⟨lo4,len4,rng4,nd4⟩:=h4
 refine W.bind (R:=λx=>Lo (x.1,x.2.1,x.2.2.1) (m+30)/\Rl (n:Int) x.2.2.2) ?_ λx hx=>W.ret hx
 refine W.loop (f:=gy k r4) (λq y=>∃j:Nat,y.2.2.2.1=(j:Int)/\j≤n/\q=n - j/\Lo (y.1,y.2.1,y.2.2.1) (m+11+2 * j)/\y.2.2.2.2.length=r1.1.toNat/\(∀x∈y.2.2.2.2.flatten,x∈r4.1.take j)/\y.2.2.2.2.flatten.Nodup) ?_ n k _ (by omega)
  ⟨0,rfl,by omega,by omega,lo4.mono (by omega),by simp,by simp,by simp⟩
 rintro aO q ⟨nums,d,s,y,out⟩ ⟨j,hj,hle,hq,hlo,hlen,hx,hnd⟩ ih
 simp only at hj hlo hlen hx hnd
 subst hj
 unfold gy
 dsimp only
 refine W.ite (λhlt=>?_) (λhge=>W.ret ⟨hlo.mono (by omega),by grind,λl hl x hxx=>rng4 x (mem_of_mem_take (hx x (List.mem_flatten.2 ⟨l,hl,hxx⟩))),hnd⟩)
 have hj:j < r4.1.length:=by omega
 have hsub:∀x∈r4.1.take j,x∈r4.1.take (j+1):=λx hh=>by grind
 refine W.bind (R:=λx=>Lo (x.1,x.2.1,x.2.2.1) (m+11+2 * j+2)/\x.2.2.2.length=r1.1.toNat/\(∀z∈x.2.2.2.flatten,z∈r4.1.take (j+1))/\x.2.2.2.flatten.Nodup) ?_ λx9 h9=>?_
 .
  refine W.bind (vu (l:=(nums,d,s)) hlo (by omega) (by omega) (by omega)) λr11 h11=>?_;refine W.ite (λ_=>W.ret ⟨h11.mono (by omega),hlen,λz hz=>hsub z (hx z hz),hnd⟩) (λ_=>?_);refine W.ck (by omega) (by omega) ?_;refine W.bind (kQ (l:=(r11.2.1,r11.2.2.1,r11.2.2.2)) h11 (by omega) (by omega)) λr13 h13=>?_;have b13:=h13.2.1 (by omega);have hi:r13.1.toNat < out.length:=by omega
  rw [Ae h13.1 hi,bs,ce hj,bs]
  have hxj:r4.1[j]∉out.flatten:=λhin=>by
   grind [List.getElem_of_mem,length_take,getElem_inj]
  have hlen2:(out[r13.1.toNat]).length≤5:=by
   have:=t5 n _ (wC hnd (List.getElem_mem hi)) λx hxx=>rng4 x (mem_of_mem_take (hx x (List.mem_flatten.2 ⟨_,List.getElem_mem hi,hxx⟩)));omega
  rw [cK (by grind [bb]),bs];have hp:=KI (x:=r4.1[j]) hi;refine W.ret ⟨h13.2.2.mono (by omega),by grind,λz hz=>?_,hp.nodup_iff.2 ?_⟩
  .grind [List.mem_singleton,take_add_one,List.getElem?_eq_getElem,List.mem_append_right]
  grind
 .
  refine W.ck (by omega) (by omega) ?_;exact ih (q - 1) (_,_,_,(j:Int)+1,_) (by omega) ⟨j+1,by grind,by omega,by omega,h9.1.mono (by omega),h9.2⟩
end Go.Proofs.YtemmlkadbaajcaaGreat
set_option linter.unusedVariables false
set_option linter.unusedSimpArgs false
namespace Go.Proofs.YtemmlkadbaajcaaGreat
open K Go Go.Proofs
theorem OX{c w s h:Int}{ds:List (List (List Int))}(hc:1≤c/\c≤5)(hw:0≤w/\w≤3)(hs:0≤s/\s≤3)(hh:1≤h/\h≤3)(d1:1≤ds.length)(d6:ds.length≤6)(hr:∀r∈ds,Rl c r):Vd (c,w,s,h,ds,[]):=
 ⟨hc.1,hc.2,hw.1,hw.2,hs.1,hs.2,hh.1,hh.2,d1,d6,λr h=>(hr r h).r3,λr h=>(hr r h).l5 ⟨by omega,hc.2⟩,λr h=>(hr r h).x5,λr h=>(hr r h).nd,by simp [mG],λg hg=>by cases hg⟩
theorem wY{k:Nat}{l:List Int}(h:l.length≤1000000):i8 k l=some l:=by
 grind [i8,cK,W4,length_nil,bs]
theorem uX{k:Nat}{l:List (List Int)}(hk:l.length < k)(h1:l.length≤1000000)(h2:∀x∈l,x.length≤1000000):iw k l=some l:=by
 unfold iw
 have key:=eO (T:=List (List Int)×Int) (f:=eD k l) l (λ(s:List (List Int)) j=>(s,j)) (λs j x=>s++[x]) (λj s=>s=l.take j) (λs=>some s)
  (λn s j hj hs=>by
   have hck:ck ((j:Int)+1)=some ((j:Int)+1):=bM (by omega) (by omega);have hl:s.length=j:=by grind
   have hok:bV (bb (length s+length [l[j]]))=some ():=cK (by grind [bb]);refine⟨?_,?_⟩
   .simp_all [eD,Int.ofNat_lt,if_true,ce,bs,wY,List.getElem_mem]
   simp_all)
  (λn s hs=>by
   unfold eD;simp_all) (n:=k) (s0:=[]) hk (by simp)
 simp_all
theorem EC{k:Nat}(hk:50≤k){l:bL}{m:Int}{cs ds:Int}(hl:Lo l m)(hm:0≤m/\m≤400)(hc:1≤cs/\cs≤5)(hd:1≤ds/\ds≤6):
 W (lr k l cs ds) λr=>Lo r.2 (m+250)/\Vd r.1/\mG r.1=[]/\mC r.1≤cs/\((mD r.1).length:Int)≤ds:=by
 unfold lr
 refine W.bind (FU (l:=(l.1,l.2.1,l.2.2)) hl (by omega) (by omega) (by omega) (by omega)) λr2 h2=>?_
 refine W.bind (kQ (l:=(r2.2.1,r2.2.2.1,r2.2.2.2)) h2.2.2 (by omega) (by omega)) λr3 h3=>?_
 have b3:=h3.2.1 (by omega)
 refine W.bind (Jt (l:=(r3.2.1,r3.2.2.1,r3.2.2.2)) h3.2.2 (by omega) (by simp) (by simp)) λr4 h4=>?_
 refine W.bind (kQ (l:=(r4.2.1,r4.2.2.1,r4.2.2.2)) h4.2 (by omega) (by omega)) λr5 h5=>?_
 have b5:=h5.2.1 (by omega)
 refine W.bind (Jt (l:=(r5.2.1,r5.2.2.1,r5.2.2.2)) h5.2.2 (by omega) (by simp) (by simp)) λr6 h6=>?_
 refine W.bind (FU (l:=(r6.2.1,r6.2.2.1,r6.2.2.2)) h6.2 (by omega) (by omega) (by omega) (by omega)) λr7 h7=>?_
 refine W.bind (Jt (l:=(r7.2.1,r7.2.2.1,r7.2.2.2)) h7.2.2 (by omega) (by simp) (by simp)) λr8 h8=>?_
 have w4:0≤r4.1/\r4.1≤3:=by
  grind
 have w6:0≤r6.1/\r6.1≤3:=by
  grind
 have w8:1≤r8.1/\r8.1≤3:=by
  grind
 have lo8:=h8.2
 refine W.bind (R:=λx=>Lo (x.2.1,x.2.2.1,x.2.2.2) (m+250)/\(1≤x.1.length/\(x.1.length:Int)≤ds)/\∀r∈x.1,Rl r2.1 r) ?_ λx hx=>W.ret ⟨hx.1,OX (by omega) w4 w6 w8 (by omega) (by omega) hx.2.2,rfl,h2.2.1,hx.2.1.2⟩
 refine W.bind (FU (l:=(r8.2.1,r8.2.2.1,r8.2.2.2)) lo8 (by omega) (by omega) (by omega) (by omega)) λr12 h12=>?_
 refine W.loop (f:=gz k r2) (λq y=>∃j:Nat,y.2.2.2.1.length=j/\y.2.2.2.2=r12.1 - j/\(j:Int)≤r12.1/\q=r12.1.toNat - j/\Lo (y.1,y.2.1,y.2.2.1) (m+10+33 * j)/\∀r∈y.2.2.2.1,Rl r2.1 r) ?_ r12.1.toNat k _ (by omega)
  ⟨0,rfl,by simp,by omega,by omega,h12.2.2.mono (by omega),by simp⟩
 rintro aO q ⟨nums,d,s,out,y⟩ ⟨j,hj,hy,hle,hq,hlo,hr⟩ ih
 simp only at hj hy hlo hr
 subst hy
 unfold gz
 dsimp only
 refine W.ite (λhlt=>?_) (λhge=>W.ret ⟨hlo.mono (by omega),⟨by grind,by grind⟩,hr⟩)
 refine W.bind (R:=λx=>Lo (x.1,x.2.1,x.2.2.1) (m+10+33 * j+33)/\x.2.2.2.length=j+1/\∀r∈x.2.2.2,Rl r2.1 r) ?_ λx15 h15=>?_
 .
  refine W.bind (R:=λx=>Lo (x.1,x.2.1,x.2.2.1) (m+10+33 * j+1)/\(x.2.2.2=true->0 < out.length)) ?_ λx17 h17=>?_
  .refine W.ite (λh0=>?_) (λh0=>W.ret ⟨hlo.mono (by omega),λh=>by cases h⟩);grind [W.bind,vu,W.ret]
  .refine W.ite (λht=>?_) (λht=>?_)
   .have h0:=h17.2 ht;refine W.ck (by omega) (by omega) ?_;have hi:((out.length:Int) - 1)=((out.length - 1:Nat):Int):=by omega
    have hlt':out.length - 1 < out.length:=by omega
    rw [hi,ce hlt',bs];have hrl:=hr _ (List.getElem_mem hlt');have hl5:=hrl.l5 (by omega);have hr3:=hrl.r3;rw [uX (by omega) (by omega) (λx hx=>by grind),bs,cK (by grind [bb]),bs];refine W.ret ⟨h17.1.mono (by omega),by simp [hj],λr hrr=>?_⟩;grind
   .have hc2:((r2.1.toNat:Nat):Int)=r2.1:=by omega
    have:=Jg hk (l:=(x17.1,x17.2.1,x17.2.2.1)) (m:=m+10+33 * j+1) (n:=r2.1.toNat) h17.1 (by omega) (by omega);rw [hc2] at this;refine W.bind this λr26 h26=>?_;rw [cK (by grind [bb]),bs];refine W.ret ⟨h26.1.mono (by omega),by simp [hj],λr hrr=>?_⟩;grind
 .
  refine W.ck (by omega) (by omega) ?_;exact ih (q - 1) (_,_,_,_,_) (by omega) ⟨j+1,h15.2.1,by grind,by omega,by omega,h15.1.mono (by omega),h15.2.2⟩
theorem EW{k:Nat}(hk:50≤k){l:bL}{m:Int}{c:Int}(hl:Lo l m)(hm:0≤m/\m≤900)(hc:1≤c/\c≤5):
 W (lu k l c) λr=>Lo r.2 (m+10)/\Bg c r.1:=by
 unfold lu
 refine W.bind (R:=λx=>Lo (x.2.1,x.2.2.1,x.2.2.2) (m+10)/\Bg c x.1) ?_ λx hx=>W.ret hx
 refine W.loop (f:=gA k c) (λq y=>∃j:Nat,y.2.2.2.2=(j:Int)/\(j:Int)≤c/\q=c.toNat - j/\Lo (y.1,y.2.1,y.2.2.1) (m+j)/\y.2.2.2.1.length≤j/\(∀x∈y.2.2.2.1,0≤x/\x < (j:Int))/\y.2.2.2.1.Pairwise (· < ·)) ?_ c.toNat k _ (by omega)
  ⟨0,rfl,by omega,by omega,by simp_all,by simp,by simp,by simp⟩
 rintro aO q ⟨nums,d,s,o,y⟩ ⟨j,hj,hle,hq,hlo,hlen,hx,hp⟩ ih
 simp only at hj hlo hlen hx hp
 subst hj
 unfold gA
 dsimp only
 refine W.ite (λhlt=>?_) (λhge=>W.ret ⟨hlo.mono (by omega),λx hxx=>by grind,hp⟩)
 refine W.bind (R:=λx=>Lo (x.1,x.2.1,x.2.2.1) (m+j+1)/\x.2.2.2.length≤j+1/\(∀z∈x.2.2.2,0≤z/\z < ((j+1:Nat):Int))/\x.2.2.2.Pairwise (· < ·)) ?_ λx5 h5=>?_
 .
  refine W.bind (vu (l:=(nums,d,s)) hlo (by omega) (by omega) (by omega)) λr7 h7=>?_;refine W.ite (λht=>?_) (λht=>W.ret ⟨h7,by grind,λz hz=>by grind,hp⟩);grind [cK,bb,bs,W.ret,List.mem_singleton]
 .
  refine W.ck (by omega) (by omega) ?_;exact ih (q - 1) (_,_,_,_,_) (by omega) ⟨j+1,by grind,by omega,by omega,h5.1.mono (by omega),h5.2⟩
theorem Bg.len{C:Int}(hC:0≤C/\C≤5){b:List Int}(h:Bg C b):b.length≤5:=by
 have:=t5 C.toNat b (h.asc.imp λhab e=>by omega) λx hx=>by have:=h.rng x hx;omega
 omega
theorem HS{m:ab}{B:Int->Bool}:(kx m B).length=(mD m).length+1:=by
 unfold kx;simp_all
theorem AA{α ε:Type}:∀(l:List α) (j:Nat),eh (λ(_:Unit) _ _=>(.ok ():Except ε Unit)) j l ()= .ok ()
 |[],_=>rfl
 |_::l,j=>AA l (j+1)
end Go.Proofs.YtemmlkadbaajcaaGreat
set_option linter.unusedVariables false
set_option linter.unusedSimpArgs false
namespace Go.Proofs.YtemmlkadbaajcaaGreat
open K Go Go.Proofs
theorem Ee{k:Nat}{c:Int}{l:List Int}(hk:l.length < k)(hl:l.length≤1000):
 eG k c l k 0=some (match tB l c with |some s=>.error (s,true) |none=>.ok ()):=by
 have key:=je (T:=Int) (f:=eG k c l) l (λ(_:Unit) j=>j) (λ_ j x=>if decide (c=x)=true then Except.error (((if 0 < j then [l[j-1]?.getD 0] else [])++(l[j+1]?).toList:List Int),true) else .ok ()) (λ_ _=>True) (λx=>some x)
  (λn s j hj _=>by
   refine⟨?_,λ_ _=>trivial⟩;have hck:ck ((j:Int)+1)=some ((j:Int)+1):=bM (by omega) (by omega);have c1:ck ((j:Int) - 1)=some ((j:Int) - 1):=bM (by omega) (by omega);simp only [eG,Int.ofNat_lt,hj,if_true,ce hj,bs,decide_eq_true_eq];by_cases e:l[j]=c
   .rw [if_neg (λhn=>hn e),if_pos e.symm]
    have e1:(if(0:Int) < (j:Int) then((ck ((j:Int) - 1)).bind λx17=>(aH l x17).bind λx18=>(bV (bb (length ([]:List Int)+length [x18]))).bind λ_=>some (([]:List Int)++[x18])) else some ([]:List Int))=some (if 0 < j then [l[j-1]?.getD 0] else []):=by
     by_cases h0:0 < j
     .have g:aH l ((j:Int) - 1)=some (l[j-1]?.getD 0):=by
       grind [ce,List.getElem?_eq_getElem]
      simp_all [if_pos,bs,cK,bb]
     simp_all
    rw [e1,bs];have hp:(if 0 < j then [l[j-1]?.getD 0] else []).length≤1:=by grind
    generalize (if 0 < j then [l[j-1]?.getD 0] else [])=p at *
    have e2:((ck ((j:Int)+1)).bind λx23=>if x23 < (l.length:Int) then((ck ((j:Int)+1)).bind λx24=>(aH l x24).bind λx25=>(bV (bb (length p+length [x25]))).bind λ_=>some (p++[x25])) else some p)=some (p++(l[j+1]?).toList):=by
     rw [hck,bs];by_cases h1:j+1 < l.length
     .have g:aH l ((j:Int)+1)=some l[j+1]:=by
       have:((j:Int)+1)=((j+1:Nat):Int):=by omega
       rw [this,ce h1]
      rw [if_pos (by omega),bs,g,bs,List.getElem?_eq_getElem h1,cK (by grind [bb]),bs];rfl
     grind
    rw [e2,bs]
   grind)
  (λn s _=>by simp [eG]) (n:=k) (s0:=()) hk trivial
 rw [show eG k c l k 0=_ from key]
 refine congrArg some ?_
 have:∀(m:List Int) (j:Nat),(∃p,l=p++m/\p.length=j)->eh (λ(_:Unit) j x=>if decide (c=x)=true then Except.error (((if 0 < j then [l[j-1]?.getD 0] else [])++(l[j+1]?).toList:List Int),true) else .ok ()) j m ()=match m.findIdx? λy=>decide (c=y) with |some i=>.error (((if 0 < i+j then [l[i+j-1]?.getD 0] else [])++(l[i+j+1]?).toList:List Int),true) |none=>.ok ():=by
  intro m
  induction m with
  |nil=>simp_all [eh]
  |cons x m ih=>
   rintro j ⟨p,hp,hl⟩;rw [eh,findIdx?_cons];by_cases h:decide (c=x)=true
   .simp [h]
   .simp only [h,if_false,Bool.false_eq_true];rw [ih (j+1) ⟨p++[x],by grind,by simp [hl]⟩];cases m.findIdx? λy=>decide (c=y) with
    |none=>rfl
    |some i=>
     grind
 rw [this l 0 ⟨[],rfl,rfl⟩]
 unfold tB
 grind
theorem vq{k:Nat}{m:ab}{c:Int}{d:Nat}(v:Vd m)(hk:10≤k)(hd:d < (mD m).length):
 jI k m (d:Int) c=some (match xE m d c with |some s=>(s,true) |none=>([],false)):=by
 have hm:=List.getElem_mem hd
 have hr:=v.r3 _ hm
 have hl:=v.l5 _ hm
 have hbes:xE m d c=vi (mD m)[d] c:=by unfold xE;simp_all
 have hg:aH m.2.2.2.2.1 (d:Int)=some (mD m)[d]:=ce hd
 generalize (mD m)[d]=r at *
 unfold jI
 have key:=je (T:=Int) (f:=ff k m (d:Int) c) r (λ(_:Unit) j=>j) (λ_ _ l=>match tB l c with |some s=>Except.error (s,true) |none=>.ok ()) (λ_ _=>True) (λx=>some x)
  (λn s j hj _=>by
   refine⟨?_,λ_ _=>trivial⟩;have h5:=hl _ (List.getElem_mem hj);have hck:ck ((j:Int)+1)=some ((j:Int)+1):=bM (by omega) (by omega);simp only [ff,hg,bs,Int.ofNat_lt,hj,if_true,ce hj];grind [Ee,tB,lA,jX,bs])
  (λn s _=>by simp [ff,hg,bs]) (n:=k) (s0:=()) (by omega) trivial
 rw [show ff k m (d:Int) c k 0=_ from key]
 have:∀(r:List (List Int)) (j:Nat),eh (λ(_:Unit) _ l=>match tB l c with |some s=>Except.error (s,true) |none=>.ok ()) j r ()=match vi r c with |some s=>.error (s,true) |none=>.ok ():=by
  intro r
  induction r with
  |nil=>intro j;rfl
  |cons l r ih=>
   intro j;rw [eh];unfold vi;rw [findSome?_cons];cases tB l c with
   |none=>exact ih (j+1)
   |some s=>rfl
 grind [vi,lA,jX]
theorem Jd{k:Nat}{m:ab}{c:Int}{d:Nat}(v:Vd m)(hk:10≤k)(hd:d < (mD m).length):pM k m (d:Int) c=some (nj m c d:Int):=by
 have d6:=v.d6;unfold pM
 have key:∀(d n:Nat) (x:Int),d < (mD m).length->d+1 < n->0≤x->x+d≤100->fO k m c n (x,(d:Int))=some (.error (x+nj m c d))\/fO k m c n (x,(d:Int))=some (.ok (x+nj m c d)):=by
  intro d
  induction d with
  |zero=>
   intro n x hd hn hx hx2
   obtain⟨n,rfl⟩:∃n',n=n'+2:=⟨n - 2,by omega⟩;have c1:ck (x+1)=some (x+1):=bM (by omega) (by omega);have c2:ck (((0:Nat):Int) - 1)=some (-1):=rfl;rw [fO];simp only [Int.natCast_nonneg,if_true,vq v hk hd,bs];unfold nj;cases e:xE m 0 c with
   |some s=>left;simp
   |none=>
    simp_all [Bool.false_eq_true,if_false,bs,Option.isSome_none,fO,if_neg]
  |succ d ih=>
   intro n x hd hn hx hx2
   obtain⟨n,rfl⟩:∃n',n=n'+1:=⟨n - 1,by omega⟩;have c1:ck (x+1)=some (x+1):=bM (by omega) (by omega);have c2:ck (((d+1:Nat):Int) - 1)=some (d:Int):=by grind [bM]
   rw [fO];simp only [Int.natCast_nonneg,if_true,vq v hk hd,bs];unfold nj;grind
 rcases key d k 0 hd (by omega) (by omega) (by omega) with h |h
 .rw [h,lA,Int.zero_add]
 .rw [h,jX,Int.zero_add]
theorem Bw{k:Nat}{m:ab}{B:Int->Bool}{n:Nat}(v:Vd m){r8:(List Int)×Bool}(hk:r8.1.length < k)(hl:r8.1.length≤1000)(hx:∀x∈r8.1,0≤x/\x < mC m):
 gK k m (pK m B n) r8 k (-1,0)=some (if r8.1.any λx=>decide (mW m≤gJ m B n x) then 0 else -1):=by
 have key:=eO (T:=Int×Int) (f:=gK k m (pK m B n) r8) r8.1 (λ(s:Int) j=>(s,j)) (λs _ x=>if decide (mW m≤gJ m B n x)=true then 0 else s) (λj s=>s=if(r8.1.take j).any λx=>decide (mW m≤gJ m B n x) then 0 else -1) (λs=>some s)
  (λf s j hj hs=>by
   have h5:=hx _ (List.getElem_mem hj);have hck:ck ((j:Int)+1)=some ((j:Int)+1):=bM (by omega) (by omega);refine⟨?_,?_⟩
   .simp only [gK,Int.ofNat_lt,hj,if_true,ce hj,bs,mE h5.1 h5.2,hck,decide_eq_true_eq];grind
   .rw [take_add_one,List.getElem?_eq_getElem hj,List.any_append,hs];grind)
  (λf s hs=>by
   unfold gK;simp_all) (n:=k) (s0:= -1) hk (by simp)
 simp_all
theorem I8{k:Nat}{m:ab}{B:Int->Bool}{d:Nat}(v:Vd m)(hk:10≤k)(hd:d < (mD m).length):pL k m (d:Int) (pK m B d)=some (pK m B (d+1)):=by
 have c1:=v.c1;have c5:=v.c5;have d6:=v.d6;unfold pL
 have key:=eO (T:=List Int×Int) (f:=gP k m (d:Int) (pK m B d)) (List.range (mC m).toNat) (λ(s:List Int) j=>(s,j)) (λs j _=>s++[gJ m B (d+1) (j:Int)]) (λj s=>s=(List.range j).map λ(c:Nat)=>gJ m B (d+1) (c:Int)) (λs=>some s)
  (λn s j hj hs=>by
   rw [length_range] at hj;have hck:ck ((j:Int)+1)=some ((j:Int)+1):=bM (by omega) (by omega);have j0:(0:Int)≤(j:Int):=by omega
   have j1:(j:Int) < mC m:=by omega
   have j2:(j:Int) < m.1:=j1;have hl:s.length=j:=by simp_all
   have hok:∀x:Int,bV (bb (length s+length [x]))=some ():=λx=>cK (by grind [bb]);have hge:=EZ (B:=B) v.w0 (d:=d) (c:=(j:Int));have hle:=EY (B:=B) v.w3 (d:=d) (c:=(j:Int));refine⟨?_,?_⟩
   .have hm2:m.2.2.2.1=mH m:=rfl;simp only [gP,j2,if_true,vq v hk hd,bs,hm2]
    have hage:gJ m B (d+1) (j:Int)=match xE m d (j:Int) with
     |none=>if mH m≤(nj m (j:Int) d:Int) then -1 else gJ m B d (j:Int)
     |some l=>if 0≤gJ m B d (j:Int) then gJ m B d (j:Int)+1 else if l.any λx=>decide (mW m≤gJ m B d x) then 0 else -1:=rfl
    rw [hage];cases e:xE m d (j:Int) with
    |none=>
     simp only [Bool.false_eq_true,not_false_eq_true,if_true,Jd v hk hd,bs,mE j0 j1,hok];grind
    |some l=>
     have hb:=qm v e;simp only [not_true_eq_false,if_false,bs,Bool.false_eq_true,mE j0 j1,hok];by_cases h0:0≤gJ m B d (j:Int)
     .have c2:ck (gJ m B d (j:Int)+1)=some (gJ m B d (j:Int)+1):=bM (by omega) (by omega);simp_all
     .simp only [h0,if_false];rw [Bw v (r8:=(l,true)) (by grind) (by grind) hb.2,bs,bs,hck,bs]
   simp_all [List.range_succ,List.map_append])
  (λn s hs=>by
   rw [length_range];unfold gP;grind) (n:=k) (s0:=[]) (by grind) rfl
 simp_all [gP,pK,bs,length_range]
theorem wn{k:Nat}{m:ab}{b:List Int}(v:Vd m)(hk:10≤k)(hb:b.length < k)(hb2:b.length≤1000):mI k m b=some (kx m λc=>decide (c∈b)):=by
 have c1:=v.c1;have c5:=v.c5;have d6:=v.d6;unfold mI
 have key:=eO (T:=List Int×Int) (f:=gR k m b) (List.range (mC m).toNat) (λ(s:List Int) j=>(s,j)) (λs j _=>s++[gJ m (λc=>decide (c∈b)) 0 (j:Int)]) (λj s=>s=(List.range j).map λ(c:Nat)=>gJ m (λc=>decide (c∈b)) 0 (c:Int)) (λs=>some s)
  (λn s j hj hs=>by
   rw [length_range] at hj;have hck:ck ((j:Int)+1)=some ((j:Int)+1):=bM (by omega) (by omega);have j2:(j:Int) < m.1:=by simp_all
   have hl:s.length=j:=by simp_all
   have hok:∀x:Int,bV (bb (length s+length [x]))=some ():=λx=>cK (by grind [bb]);refine⟨?_,?_⟩
   .simp only [gR,j2,if_true,vo (x:=(j:Int)) hb (by omega),bs,hok,hck];have hage:gJ m (λc=>decide (c∈b)) 0 (j:Int)=if decide ((j:Int)∈b) then mW m else -1:=rfl;grind
   simp_all [List.range_succ,List.map_append])
  (λn s hs=>by
   rw [length_range];unfold gR;grind) (n:=k) (s0:=[]) (by grind) rfl
 rw [show gR k m b k ([],0)=_ from key.1,bs,key.2,length_range]
 have key2:=eO (T:=List (List Int)×Int) (f:=gQ k m) (mD m) (λ(s:List (List Int)) j=>(s,j)) (λs j _=>s++[pK m (λc=>decide (c∈b)) (j+1)]) (λj s=>s=(List.range (j+1)).map (pK m λc=>decide (c∈b))) (λs=>some s)
  (λn s j hj hs=>by
   have hck:ck ((j:Int)+1)=some ((j:Int)+1):=bM (by omega) (by omega);have hl:s.length=j+1:=by simp_all
   have hok:∀x:List Int,bV (bb (length s+length [x]))=some ():=λx=>cK (by grind [bb]);have hj':(j:Int) < (m.2.2.2.2.1.length:Int):=Int.ofNat_lt.2 hj
   have hg:aH s (j:Int)=some (pK m (λc=>decide (c∈b)) j):=by
    simp_all [aH,if_pos,List.getElem?_map,Int.toNat_natCast,List.getElem?_range]
   simp_all [gQ,if_true,bs,I8,List.range_succ,List.map_append])
  (λn s hs=>by
   unfold gQ;simp_all) (n:=k) (s0:=[pK m (λc=>decide (c∈b)) 0]) (by omega) rfl
 have e0:((List.range (mC m).toNat).map λ(c:Nat)=>gJ m (λc=>decide (c∈b)) 0 (c:Int))=pK m (λc=>decide (c∈b)) 0:=rfl;rw [e0,show gQ k m k ([pK m (λc=>decide (c∈b)) 0],0)=_ from key2.1,bs,key2.2];rfl
end Go.Proofs.YtemmlkadbaajcaaGreat
set_option linter.unusedVariables false
set_option linter.unusedSimpArgs false
namespace Go.Proofs.YtemmlkadbaajcaaGreat
open K Go Go.Proofs
theorem vZ{k:Nat}{l:List (List Int)}(hk:l.length < k)(hl:l.length≤1000000)(hx:∀x∈l,x.length < k/\x.length≤1000000):gf k l l=some true:=by
 unfold gf;rw [if_neg (λhn=>hn rfl)]
 have key:=je (T:=Int) (f:=dN k l l) l (λ(_:Unit) j=>j) (λ_ _ _=>(.ok ():Except Bool Unit)) (λ_ _=>True) (λr=>some r)
  (λn s j hj _=>by
   have hck:ck ((j:Int)+1)=some ((j:Int)+1):=bM (by omega) (by omega);have h5:=hx _ (List.getElem_mem hj);refine⟨?_,λ_ _=>trivial⟩;simp only [dN,Int.ofNat_lt,hj,if_true,ce hj,bs,nq h5.1 h5.2,decide_true,not_true_eq_false,if_false,hck])
  (λn s _=>by simp [dN]) (n:=k) (s0:=()) hk trivial
 simp_all [dN,AA,jX]
theorem vY{k:Nat}{m:ab}(hk:1010≤k)(hs:Sm m):jo k m m=some true:=by
 have hd:=hs.d;have hg:=hs.g;unfold jo;have e0:((if¬(m.1=m.1) then(some true) else(if¬(m.2.1=m.2.1) then(some true) else(if¬(m.2.2.1=m.2.2.1) then(some true) else(if¬(m.2.2.2.1=m.2.2.2.1) then(some true) else(if¬((m.2.2.2.2.1.length:Int)=(m.2.2.2.2.1.length:Int)) then(some true) else(some (!decide ((m.2.2.2.2.2.length:Int)=(m.2.2.2.2.2.length:Int))))))))):Option Bool)=some false:=by simp
 rw [e0,bs,if_neg (by decide)]
 have key:=je (T:=Int) (f:=dM k m m) (mD m) (λ(_:Unit) j=>j) (λ_ _ _=>(.ok ():Except Bool Unit)) (λ_ _=>True) (λr=>some r)
  (λn s j hj _=>by
   have hck:ck ((j:Int)+1)=some ((j:Int)+1):=bM (by omega) (by omega);have hr:=hs.r _ (List.getElem_mem hj);have hj':(j:Int) < (m.2.2.2.2.1.length:Int):=Int.ofNat_lt.2 hj;have hg:aH m.2.2.2.2.1 (j:Int)=some (mD m)[j]:=ce hj;refine⟨?_,λ_ _=>trivial⟩;simp only [dM,hj',if_true,hg,bs,vZ (k:=k) (l:=(mD m)[j]) (by omega) (by omega) (λx hx=>by grind),not_true_eq_false,if_false,hck])
  (λn s _=>by
   unfold dM;simp_all) (n:=k) (s0:=()) (by omega) trivial
 rw [show dM k m m k 0=_ from key,AA,jX]
 have key:=je (T:=Int) (f:=dL k m m) (mG m) (λ(_:Unit) j=>j) (λ_ _ _=>(.ok ():Except Bool Unit)) (λ_ _=>True) (λr=>some r)
  (λn s j hj _=>by
   have hck:ck ((j:Int)+1)=some ((j:Int)+1):=bM (by omega) (by omega);have hj':(j:Int) < (m.2.2.2.2.2.length:Int):=Int.ofNat_lt.2 hj;have hg:aH m.2.2.2.2.2 (j:Int)=some (mG m)[j]:=ce hj;simp_all [dL,if_true,bs,not_true_eq_false,if_false])
  (λn s _=>by
   unfold dL;simp_all) (n:=k) (s0:=()) (by omega) trivial
 simp_all [dL,AA,jX]
theorem uW{k:Nat}{m:ab}(hk:1010≤k)(hs:Sm m):fh k m=some m:=by
 have hd:=hs.d;have hg:=hs.g;unfold fh;rw [cK (by show _≤_;grind),bs]
 have key:=eO (T:=List (List (List Int))×Int) (f:=dj k m) (mD m) (λ(s:List (List (List Int))) j=>(s,j)) (λs j x=>s++[x]) (λj s=>s=(mD m).take j) (λs=>some s)
  (λn s j hj hs'=>by
   have hck:ck ((j:Int)+1)=some ((j:Int)+1):=bM (by omega) (by omega);have hl:s.length=j:=by grind
   have hok:bV (bb (length s+length [(mD m)[j]]))=some ():=cK (by grind [bb]);have hj':(j:Int) < (m.2.2.2.2.1.length:Int):=Int.ofNat_lt.2 hj;have hg:aH m.2.2.2.2.1 (j:Int)=some (mD m)[j]:=ce hj;have hr:=hs.r _ (List.getElem_mem hj);refine⟨?_,?_⟩
   .simp only [dj,hj',if_true,hg,bs,uX (k:=k) (l:=(mD m)[j]) (by omega) (by omega) (λx hx=>by grind),hok,hck]
   simp_all)
  (λn s hs=>by
   unfold dj;simp_all) (n:=k) (s0:=[]) (by omega) (by simp)
 simp_all
theorem CE{k:Nat}{l:bL}{m:Int}{x:Aq}(hl:Lo l m)(hm:0≤m/\m≤900)(hc:1≤x.1/\x.1≤5)(hd:x.2.2.2.2.1.length≤6):
 W (jr k l x) λr=>Lo r.2 (m+3)/\(0≤r.1.1/\r.1.1 < x.1)/\0≤r.1.2.1/\r.1.2.1≤(x.2.2.2.2.1.length:Int):=by
 unfold jr
 grind [W.ck,W.bind,kQ,vu,W.ret]
theorem Vd.with{m:ab}(v:Vd m){gs:List aQ}(h8:gs.length≤8)(hg:∀g∈gs,0≤g.1/\g.1 < mC m/\0≤g.2.1/\g.2.1≤(mD m).length):Vd (m.1,m.2.1,m.2.2.1,m.2.2.2.1,m.2.2.2.2.1,gs):=
 ⟨v.c1,v.c5,v.w0,v.w3,v.s0,v.s3,v.h1,v.h3,v.d1,v.d6,v.r3,v.l5,v.x5,v.nd,h8,hg⟩
theorem Ac{k:Nat}(hk:50≤k){l:bL}{m:Int}{cs ds:Int}(hl:Lo l m)(hm:0≤m/\m≤400)(hc:1≤cs/\cs≤5)(hd:1≤ds/\ds≤6):
 W (jq k l cs ds) λr=>Lo r.2 (m+270)/\Vd r.1/\(mG r.1).length≤4/\mC r.1≤cs/\((mD r.1).length:Int)≤ds:=by
 unfold jq
 refine W.bind (EC hk (l:=(l.1,l.2.1,l.2.2)) hl hm hc hd) λr2 h2=>?_
 obtain⟨lo2,v,hg,hcs,hds⟩:=h2
 have c1:=v.c1
 have c5:=v.c5
 have d6:=v.d6
 refine W.bind (R:=λx=>Lo (x.2.1,x.2.2.1,x.2.2.2) (m+270)/\x.1.length≤4/\∀g∈x.1,0≤g.1/\g.1 < mC r2.1/\0≤g.2.1/\g.2.1≤(mD r2.1).length) ?_ λx hx=>W.ret ⟨hx.1,v.with (by omega) hx.2.2,hx.2.1,hcs,hds⟩
 refine W.bind (kQ (l:=(r2.2.1,r2.2.2.1,r2.2.2.2)) lo2 (by omega) (by omega)) λr6 h6=>?_
 have b6:=h6.2.1 (by omega)
 refine W.loop (f:=fp k r2) (λq y=>∃j:Nat,y.2.2.2.1.length=j/\y.2.2.2.2=r6.1 - j/\(j:Int)≤r6.1/\q=r6.1.toNat - j/\Lo (y.1,y.2.1,y.2.2.1) (m+251+3 * j)/\∀g∈y.2.2.2.1,0≤g.1/\g.1 < mC r2.1/\0≤g.2.1/\g.2.1≤(mD r2.1).length) ?_ r6.1.toNat k _ (by omega)
  ⟨0,rfl,by simp,by omega,by omega,h6.2.2.mono (by omega),by simp⟩
 rintro aO q ⟨nums,d,s,out,y⟩ ⟨j,hj,hy,hle,hq,hlo,hr⟩ ih
 simp only at hj hy hlo hr
 subst hy
 unfold fp
 dsimp only
 refine W.ite (λhlt=>?_) (λhge=>W.ret ⟨hlo.mono (by omega),by grind,hr⟩)
 refine W.bind (CE (l:=(nums,d,s)) (x:=(r2.1.1,r2.1.2.1,r2.1.2.2.1,r2.1.2.2.2.1,r2.1.2.2.2.2.1,())) hlo (by omega) ⟨c1,c5⟩ d6) λr9 h9=>?_
 rw [cK (by grind [bb]),bs]
 refine W.ck (by omega) (by omega) ?_
 refine ih (q - 1) (_,_,_,_,_) (by omega) ⟨j+1,by simp [hj],by grind,by omega,by omega,h9.1.mono (by omega),λg hgg=>?_⟩
 grind
theorem Sm.with{m:ab}(h:Sm m){gs:List aQ}(hg:gs.length≤1000):Sm (m.1,m.2.1,m.2.2.1,m.2.2.2.1,m.2.2.2.2.1,gs):=⟨h.d,h.r,hg⟩
theorem D4{k:Nat}(hk:1010≤k){m:ab}(hs:Sm m){g:aQ}{l:bL}(hl:Lo l 0):
 W (jS k m g l) λr=>Lo r.2 270/\∃a b,r.1=[m,a,b]/\Vd a/\Sm b/\mC a≤4/\((mD a).length:Int)≤4/\b=(a.1,a.2.1,a.2.2.1,a.2.2.2.1,a.2.2.2.2.1,mG a++[g]):=by
 unfold jS
 refine W.bind (Ac (k:=k) (by omega) (l:=(l.1,l.2.1,l.2.2)) hl (by omega) (by omega) (by omega)) λr3 h3=>?_
 obtain⟨lo3,v,hg,hcs,hds⟩:=h3
 rw [uW hk v.sm,bs,cK (by grind [bb]),bs]
 exact W.ret ⟨lo3,_,_,rfl,v,v.sm.with (by grind),hcs,hds,rfl⟩
theorem NN{k:Nat}(hk:1010≤k){m:ab}:W (qc k m) λb=>b=false->Sm m:=by
 unfold qc
 have l2:∀(y:Nat) (hy:y < (mD m).length),(mD m)[y].length≤20->W (iQ k m (y:Int) k 0) λr=>match r with | .error e=>e=true | .ok _=>∀l∈(mD m)[y],l.length≤1000:=by
  intro y hy h20
  refine W.loop (f:=iQ k m (y:Int)) (λq z=>∃j:Nat,z=(j:Int)/\j≤(mD m)[y].length/\q=(mD m)[y].length - j/\∀i (h:i < (mD m)[y].length),i < j->(mD m)[y][i].length≤1000) ?_ (mD m)[y].length k 0 (by omega)
   ⟨0,rfl,by omega,by omega,λi h h'=>by omega⟩
  rintro aO q z ⟨j,rfl,hle,hq,hx⟩ ih;unfold iQ;have hg:aH m.2.2.2.2.1 (y:Int)=some (mD m)[y]:=ce hy;rw [hg,bs];refine W.ite (λhlt=>?_) (λhge=>W.ret λl hl=>?_)
  .have hj:j < (mD m)[y].length:=by omega
   rw [bs,ce hj,bs];refine W.ite (λh=>W.ret rfl) (λh=>W.ck (by omega) (by omega) (ih (q - 1) _ (by omega) ⟨j+1,by omega,by omega,by omega,λi hi hij=>?_⟩));grind
  grind [List.getElem_of_mem]
 have l1:W (iR k m k 0) λr=>match r with | .error e=>e=true | .ok _=>(mD m).length≤20->∀r∈mD m,r.length≤1000/\∀l∈r,l.length≤1000:=by
  refine W.loop (f:=iR k m) (λq z=>∃j:Nat,z=(j:Int)/\j≤20/\j≤(mD m).length/\q=20 - j/\∀i (h:i < (mD m).length),i < j->(mD m)[i].length≤1000/\∀l∈(mD m)[i],l.length≤1000) ?_ 20 k 0 (by omega)
   ⟨0,rfl,by omega,by omega,by omega,λi h h'=>by omega⟩
  rintro aO q z ⟨j,rfl,h20,hle,hq,hx⟩ ih;unfold iR
  have e0:((if(j:Int) < (m.2.2.2.2.1.length:Int) then(some (decide ((j:Int) < 20))) else(some false)):Option Bool)=some (decide (j < (mD m).length/\j < 20)):=by
   by_cases h1:j < (mD m).length
   .rw [if_pos (show(j:Int) < ((mD m).length:Int) by omega)];by_cases h2:j < 20
    .grind
    grind
   grind
  rw [e0,bs];refine W.ite (λhb=>?_) (λhb=>W.ret λh r hr=>?_)
  .have hb:=of_decide_eq_true hb;have hg:aH m.2.2.2.2.1 (j:Int)=some (mD m)[j]:=ce hb.1;rw [hg,bs];refine W.bEE (R:=λr=>match r with | .error e=>e=true | .ok _=>(mD m)[j].length≤20/\∀l∈(mD m)[j],l.length≤1000) (W.ite (λh=>W.ret rfl) (λh=>(l2 j hb.1 (by omega)).mono λr hr=>?_)) (λe he=>W.ret he) (λ_ ho=>?_)
   .grind
   .refine W.ck (by omega) (by omega) (ih (q - 1) _ (by omega) ⟨j+1,by omega,by omega,by omega,by omega,λi hi hij=>?_⟩);grind
  .have hb:¬(j < (mD m).length/\j < 20):=λhh=>hb (decide_eq_true hh);obtain⟨i,hi,rfl⟩:=List.getElem_of_mem hr;grind
 refine W.bEE l1 (λe he=>W.ret λh=>by simp_all) (λ_ ho=>?_);by_cases h1:20 < (mD m).length
 .rw [if_pos (show(20:Int) < ((mD m).length:Int) by omega),bs];simp_all [W.ret]
 .rw [if_neg (show¬(20:Int) < ((mD m).length:Int) by omega),bs];refine W.ret λh=>⟨by omega,ho (by omega),?_⟩;grind
end Go.Proofs.YtemmlkadbaajcaaGreat
set_option linter.unusedVariables false
set_option linter.unusedSimpArgs false
namespace Go.Proofs.YtemmlkadbaajcaaGreat
open K Go Go.Proofs
def jY(C:Nat):Nat->List Int->Nat->List (List Int)
 |0,b,_=>[b]
 |n+1,b,f=>b::(List.range' f (C - f)).flatMap λ(c:Nat)=>jY C n (b++[(c:Int)]) (c+1)
theorem vX{b:List Int}{c:Int}:er (b++[c])=xG (er b) c:=by
 unfold er;simp_all
theorem Cj{σ:Type}{k:Nat}{Y:σ->Int->Option (σ×Bool)}{C:Nat}(hC:C≤5)(hk:10≤k)(g:σ->List Int->σ)(xK:Nat->σ->Prop):
 ∀(n m0:Nat) (b:List Int) (f:Nat) (s:σ) (r:Nat),C - f≤n->f≤C->n < m0->jx (er b)->(∀r s,∀b'∈jY C n b f,xK (r+1) s->Y s (er b')=some (g s b',true)/\xK r (g s b'))->xK ((jY C n b f).length+r) s->
  dP k Y (C:Int) m0 (er b) (f:Int) s=some (true,(jY C n b f).foldl g s)/\xK r ((jY C n b f).foldl g s)
 |n,0,b,f,s,r,_,_,h,_,_,_=>absurd h (not_lt_zero _)
 |0,m0+1,b,f,s,r,h1,h2,_,hm,hY,hI=>by
  have hf:f=C:=by omega
  subst hf
  unfold dP
  obtain⟨k,rfl⟩:∃n,k=n+1:=⟨k - 1,by omega⟩
  have hI:xK (r+1) s:=by rw [Nat.add_comm];exact hI
  have:=hY r s b (by simp [jY]) hI
  rw [this.1,bs,if_neg (by simp)]
  rw [dK,if_neg (Int.lt_irrefl _),jX]
  exact⟨rfl,this.2⟩
 |n+1,m0+1,b,f,s,r,h1,h2,h3,hm,hY,hI=>by
  unfold dP
  have hlen:(jY C (n+1) b f).length=((List.range' f (C - f)).flatMap λ(c:Nat)=>jY C n (b++[(c:Int)]) (c+1)).length+1:=by rw [jY,length_cons]
  rw [hlen] at hI
  have h0:=hY (((List.range' f (C - f)).flatMap λ(c:Nat)=>jY C n (b++[(c:Int)]) (c+1)).length+r) s b (by simp [jY]) (by grind)
  rw [h0.1,bs,if_neg (by simp)]
  have loop:∀(d x:Nat) (s:σ) (aO:Nat) (r:Nat),C - x=d->f≤x->x≤C->d < aO->xK (((List.range' x (C - x)).flatMap λ(c:Nat)=>jY C n (b++[(c:Int)]) (c+1)).length+r) s->
   dK k (er b) (C:Int) (dP k Y (C:Int) m0) aO ((x:Int),s)=some (.ok (((List.range' x (C - x)).flatMap λ(c:Nat)=>jY C n (b++[(c:Int)]) (c+1)).foldl g s))/\xK r (((List.range' x (C - x)).flatMap λ(c:Nat)=>jY C n (b++[(c:Int)]) (c+1)).foldl g s):=by
   intro d
   induction d with
   |zero=>
    intro x s aO r hd hx hx2 hfu hI;obtain⟨aO,rfl⟩:∃n,aO=n+1:=⟨aO - 1,by omega⟩;have:x=C:=by omega
    simp_all [Nat.sub_self,dK,if_neg,Int.lt_irrefl]
   |succ d ih=>
    intro x s aO r hd hx hx2 hfu hI;obtain⟨aO,rfl⟩:∃n,aO=n+1:=⟨aO - 1,by omega⟩;have hw:=nn (k:=k) hm (show(0:Int)≤(x:Int) by omega) (show(x:Int) < 8 by omega);have hck:ck ((x:Int)+1)=some (((x+1:Nat):Int)):=by grind [bM]
    have e:C - x=(C - (x+1))+1:=by omega
    rw [e,List.range'_succ,List.flatMap_cons,length_append,Nat.add_assoc] at hI
    have hsub:=Cj hC hk g xK n m0 (b++[(x:Int)]) (x+1) s _ (by omega) (by omega) (by omega) (by simp_all [vX]) (λr s b' hb'=>hY r s b' (by
     rw [jY];grind)) hI
    rw [vX] at hsub;have hih:=ih (x+1) _ aO r (by omega) (by omega) (by omega) (by omega) hsub.2;rw [dK,if_pos (show(x:Int) < (C:Int) by omega),hw.1,bs,hck,bs,hsub.1,bs,if_neg (by simp),bs,hih.1];simp_all [List.range'_succ,List.flatMap_cons,List.foldl_append]
  have hl:=loop (C - f) f _ k r rfl (Nat.le_refl _) h2 (by omega) h0.2;rw [hl.1,jX];exact⟨rfl,hl.2⟩
def CO(m:ab)(but:Nat->Bool)(B:Int->Bool):Bool:=(mG m).zipIdx.all λg=>but g.2 || decide (g.1.2.2=decide (mS m≤gJ m B g.1.2.1.toNat g.1.1))
theorem zb{α ε:Type}{p:Nat->α->Bool}{e:ε}:∀(l:List α) (j:Nat),eh (λ(_:Unit) j x=>if p j x=true then .ok () else Except.error e) j l ()=if((l.zipIdx j).all λg=>p g.2 g.1)=true then .ok () else .error e
 |[],j=>rfl
 |x::l,j=>by
  rw [eh,zipIdx_cons,all_cons]
  cases h:p j x with
  |true=>simp only [if_true,Bool.true_and];exact zb l (j+1)
  |false=>simp
theorem CM{k:Nat}{m:ab}{S a2:Int}(v:Vd m)(hk:10≤k)(hS:jx S)(ha:jx a2):dD k m S a2=some (CO m (λi=>decide (eo a2 i)) (uv S)):=by
 have g8:=v.g8;have d6:=v.d6;unfold dD iz;rw [uI v hk hS,bs]
 have key:=je (T:=Int) (f:=cQ k m a2 (cr (PV m (uv S)))) (mG m) (λ(_:Unit) j=>j) (λ_ j x=>if(decide (eo a2 j) || decide (x.2.2=decide (mS m≤gJ m (uv S) x.2.1.toNat x.1)))=true then .ok () else Except.error ()) (λ_ _=>True) (λr=>some (match r with | .error _=>false | .ok _=>true))
  (λn s j hj _=>by
   have hck:ck ((j:Int)+1)=some ((j:Int)+1):=bM (by omega) (by omega);have hg:=v.gl _ (List.getElem_mem hj);have hj':(j:Int) < (m.2.2.2.2.2.length:Int):=Int.ofNat_lt.2 hj;have hget:aH m.2.2.2.2.2 (j:Int)=some (mG m)[j]:=ce hj;generalize (mG m)[j]=x at *;have c5:=v.c5;have e2:x.2.1=((x.2.1.toNat:Nat):Int):=by omega
   have hrow:aH (cr (PV m (uv S))) x.2.1=some (l9 (PV m (uv S) x.2.1.toNat)):=by
    grind [wX,Int.toNat_natCast]
   have hval:aH (l9 (PV m (uv S) x.2.1.toNat)) x.1=some (gJ m (uv S) x.2.1.toNat x.1):=by
    grind [sW,Gf]
   refine⟨?_,λ_ _=>trivial⟩;have hm1:m.2.2.1=mS m:=rfl;simp only [cQ,hj',if_true,hget,bs,Ab (k:=k) ha (i:=j) (by omega),hrow,hval,hm1];grind)
  (λn s _=>by
   unfold cQ;simp_all) (n:=k) (s0:=()) (by omega) trivial
 rw [show cQ k m a2 (cr (PV m (uv S))) k 0=_ from key,zb (p:=λj (x:aQ)=>decide (eo a2 j) || decide (x.2.2=decide (mS m≤gJ m (uv S) x.2.1.toNat x.1)))];unfold CO;grind
end Go.Proofs.YtemmlkadbaajcaaGreat
set_option linter.unusedVariables false
set_option linter.unusedSimpArgs false
namespace Go.Proofs.YtemmlkadbaajcaaGreat
open K Go Go.Proofs
theorem uL{m:ab}(v:Vd m){A B:Int->Bool}(h:∀c,0≤c->c < mC m->A c=B c):∀(n:Nat) (c:Int),0≤c->c < mC m->gJ m A n c=gJ m B n c
 |0,c,h0,h1=>by simp_all [gJ]
 |n+1,c,h0,h1=>by
  have ih:=uL v h n
  unfold gJ
  cases e:xE m n c with
  |none=>simp_all
  |some l=>
   have hb:=(qm v e).2
   grind
theorem EX{α:Type}{l:List α}{p q:α->Bool}(h:∀x∈l,p x=q x):l.all p=l.all q:=by
 grind
theorem HA{m:ab}(v:Vd m){but:Nat->Bool}{A B:Int->Bool}(h:∀c,0≤c->c < mC m->A c=B c):CO m but A=CO m but B:=by
 unfold CO;refine EX λg hg=>?_;obtain⟨x,i⟩:=g;have hx:=v.gl x (List.fst_mem_of_mem_zipIdx hg);show(but i || decide (x.2.2=decide (mS m≤gJ m A x.2.1.toNat x.1)))=(but i || decide (x.2.2=decide (mS m≤gJ m B x.2.1.toNat x.1)));grind [uL]
def xi(m:ab):List (List Int):=jY (mC m).toNat (mC m).toNat [] 0
theorem Gn{C:Nat}:∀(n:Nat) (b:List Int) (f:Nat),Bg (C:Int) b->(∀x∈b,x < (f:Int))->∀b'∈jY C n b f,Bg (C:Int) b'
 |0,b,f,h,_,b',hb=>by
  simp_all [jY,List.mem_singleton]
 |n+1,b,f,h,hf,b',hb=>by
  rw [jY,mem_cons] at hb
  rcases hb with rfl |hb
  .
   exact h
  .
   obtain⟨c,hc,hb⟩:=List.mem_flatMap.1 hb
   rw [List.mem_range'_1] at hc
   refine Gn n (b++[(c:Int)]) (c+1) ⟨λx hx=>?_,?_⟩ (λx hx=>?_) b' hb
   .
    rcases List.mem_append.1 hx with hx |hx
    .
     exact h.rng x hx
    grind
   .
    rw [pairwise_append]
    exact⟨h.asc,by simp,λa ha x hx=>by grind⟩
   grind
theorem AB{m:ab}(v:Vd m){b:List Int}(h:b∈xi m):Bg (mC m) b:=by
 have c1:=v.c1;have:=Gn (C:=(mC m).toNat) (mC m).toNat [] 0 ⟨by simp,by simp⟩ (by simp) b h;grind
theorem xh{m:ab}(v:Vd m):(xi m).length≤32:=by
 have c1:=v.c1;have c5:=v.c5;have:(mC m).toNat=1\/(mC m).toNat=2\/(mC m).toNat=3\/(mC m).toNat=4\/(mC m).toNat=5:=by omega
 unfold xi;rcases this with h |h |h |h |h <;> rw [h] <;> decide
def sq(m:ab)(but:Nat->Bool):List (List Int):=(xi m).filter λb=>CO m but λc=>decide (c∈b)
theorem ry{α β:Type}{p:α->Bool}{h:α->β}:∀(l:List α) (s:List β),l.foldl (λ(s:List β×Bool) b=>(if p b then s.1++[h b] else s.1,false)) (s,false)=(s++(l.filter p).map h,false)
 |[],s=>by simp
 |x::l,s=>by
  rw [foldl_cons,ry l]
  grind
theorem EE{k:Nat}{m:ab}{a2:Int}(v:Vd m)(hk:50≤k)(ha:jx a2):fo k m a2=some ((sq m λi=>decide (eo a2 i)).map er):=by
 have c1:=v.c1;have c5:=v.c5;unfold fo ll;have hC:m.1=(((mC m).toNat:Nat):Int):=by grind
 have h:=Cj (σ:=List Int×Bool) (k:=k) (Y:=sR (λ(y5:(List Int)) (p7:Int)=>(dD k m p7 a2).bind λr9=>if r9=true then((bV (bb (length y5+length [p7]))).bind λ_=>some (y5++[p7],true)) else(some (y5,true)))) (C:=(mC m).toNat) (by omega) (by omega)
  (λs b=>(if CO m (λi=>decide (eo a2 i)) (λc=>decide (c∈b)) then s.1++[er b] else s.1,false)) (λr s=>s.2=false/\s.1.length+r≤1000) (mC m).toNat k [] 0 ([],false) 0 (by omega) (by omega) (by omega) ru (λr s b' hb' hI=>by
   obtain⟨y,q⟩:=s;obtain⟨rfl,hI⟩:q=false/\y.length+(r+1)≤1000:=hI;have hbg:=AB v hb';have hset:=hbg.set c5;have hex:CO m (λi=>decide (eo a2 i)) (uv (er b'))=CO m (λi=>decide (eo a2 i)) (λc=>decide (c∈b')):=HA v λc h0 _=>hset.2 c h0;unfold sR;simp only [];rw [CM v (by omega) hset.1 ha,hex,bs];cases CO m (λi=>decide (eo a2 i)) (λc=>decide (c∈b')) with
   |true=>
    simp only [if_true];grind [cK,bb,bs,er]
   |false=>
    grind) ⟨rfl,by have:=xh v;grind [xi]⟩
 rw [hC,show dP k (sR (λ(y5:(List Int)) (p7:Int)=>(dD k m p7 a2).bind λr9=>if r9=true then((bV (bb (length y5+length [p7]))).bind λ_=>some (y5++[p7],true)) else(some (y5,true)))) (((mC m).toNat:Nat):Int) k 0 0 ([],false)=_ from h.1,bs,bs];rw [ry (p:=λb=>CO m (λi=>decide (eo a2 i)) λc=>decide (c∈b)) (h:=er)];simp only [Bool.false_eq_true,if_false,nil_append];rfl
theorem K1:∀{a b:List Int},a.Pairwise (· < ·)->b.Pairwise (· < ·)->(∀x,x∈a↔x∈b)->a=b
 |[],[],_,_,_=>rfl
 |[],y::b,_,_,h=>absurd ((h y).2 mem_cons_self) (by simp)
 |x::a,[],_,_,h=>absurd ((h x).1 mem_cons_self) (by simp)
 |x::a,y::b,ha,hb,h=>by
  rw [pairwise_cons] at ha hb
  have e:x=y:=by
   grind [mem_cons_self]
  subst e;rw [K1 ha.2 hb.2 λz=>?_];grind
theorem D6{k:Nat}{C:Int}{b:List Int}(hk:10≤k)(hC:C≤5)(h:Bg C b):fV k (er b)=some b:=by
 have hset:=h.set hC;unfold fV
 have key:=eO (T:=List Int×Int) (f:=d5 k (er b)) (List.range 5) (λ(s:List Int) j=>(s,j)) (λs j _=>if decide (eo (er b) j) then s++[(j:Int)] else s) (λj s=>s.length≤j/\s.Pairwise (· < ·)/\∀x,x∈s↔x∈b/\x < (j:Int)) (λs=>some s)
  (λn s j hj hs=>by
   rw [length_range] at hj;have hck:ck ((j:Int)+1)=some ((j:Int)+1):=bM (by omega) (by omega);have hj5:(j:Int) < 5:=by omega
   have hin:=hset.2 (j:Int) (by omega);unfold uv at hin;rw [Int.toNat_natCast] at hin;refine⟨?_,?_⟩
   .simp only [d5,hj5,if_true,Ab (k:=k) hset.1 (by omega:j < 8),bs];cases decide (eo (er b) j) with
    |true=>
     simp only [if_true];rw [cK (by grind [bb]),bs,bs,hck,bs]
    |false=>simp_all
   grind)
  (λn s hs=>by
   simp_all [length_range,d5,if_neg]) (n:=k) (s0:=[]) (by grind) ⟨by simp,by simp,λx=>by simp;intro hx;exact(h.rng x hx).1⟩
 rw [show d5 k (er b) k ([],0)=_ from key.1,bs];have:=key.2;rw [length_range] at this;exact congrArg some (K1 this.2.1 h.asc λx=>by rw [this.2.2 x];exact⟨λhh=>hh.1,λhh=>⟨hh,by have:=h.rng x hh;omega⟩⟩)
