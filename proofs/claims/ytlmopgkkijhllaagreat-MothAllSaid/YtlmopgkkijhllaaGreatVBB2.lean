import Derived.Test.YtlmopgkkijhllaaGreatVBB1
import Derived.Maps.AppendAt
set_option linter.unusedVariables false
set_option linter.unusedSimpArgs false
namespace Go.Proofs.YtlmopgkkijhllaaGreat
namespace K
open Go
section
variable {P:Program}
theorem rl{α β:Type}{s:Sem α}{f:α→Sem β}(h:∀a,Hs P (f a)):Hs P (s >>=f):=by
 show Hs P (s.bind f)
 induction s with
 |pure a=>exact h a
 |load m a k ih=>exact fun v=>ih v
 |store m a v k ih=>exact ih
 |new o k ih=>exact fun r=>ih r
 |shape r k ih=>exact fun x=>ih x
 |freeze a n k ih=>exact ih
 |frozen a k ih=>exact fun x=>ih x
 |getObj r k ih=>exact fun o=>ih o
 |setObj r o k ih=>exact ih
 |choose q k ih=>exact fun n=>ih n
 |sys c k ih=>exact fun r=>ih r
 |program k ih=>exact ih P
 |mark m k ih=>exact ih
 |halt h=>trivial
theorem Ht{α:Type}{r:Nat}{f:Option (TypeId×Nat)→Sem α}(h:∀x,Hs P (f x)):Ns P (shape r >>=f):=h
theorem iJ{α β γ:Type}{s:Sem α}{f:α→Sem β}{g:β→Sem γ}:((s >>=f) >>=g)=(s >>=fun a=>f a >>=g):=by
 show(s.bind f).bind g=s.bind fun a=>(f a).bind g
 induction s with
 |pure a=>rfl
 |halt h=>rfl
 |load m a k ih=>exact congrArg (Sem.load m a) (funext ih)
 |store m a v k ih=>exact congrArg (Sem.store m a v) ih
 |new o k ih=>exact congrArg (Sem.new o) (funext ih)
 |shape r k ih=>exact congrArg (Sem.shape r) (funext ih)
 |freeze a n k ih=>exact congrArg (Sem.freeze a n) ih
 |frozen a k ih=>exact congrArg (Sem.frozen a) (funext ih)
 |getObj r k ih=>exact congrArg (Sem.getObj r) (funext ih)
 |setObj r o k ih=>exact congrArg (Sem.setObj r o) ih
 |choose q k ih=>exact congrArg (Sem.choose q) (funext ih)
 |sys c k ih=>exact congrArg (Sem.sys c) (funext ih)
 |program k ih=>exact congrArg Sem.program (funext ih)
 |mark m k ih=>exact congrArg (Sem.mark m) ih
theorem zl{α:Type}{a:Addr}{n:Nat}{f:Bool→Sem α}(h:∀x,Hs P (f x)):Ns P (Builtin.holdsCells a n >>=f):=by
 unfold Builtin.holdsCells;rw [iJ];exact Ht fun x=>rl h
theorem Hr{α:Type}{z l n:Nat}{b:Option Addr}{x:Value}{f:Bool→Sem α}(h:∀x,Hs P (f x))(h':∀x,Ns P (f x)):Ns P (Builtin.mayShare z l n b x >>=f):=by
 unfold Builtin.mayShare;cases b with
 |none=>
  cases x with
  |slice b' _ _=>
   cases b' with
   |none=>exact h' _
   |some b'=>
    show Ns P ((Builtin.holdsCells b' _ >>=_) >>=f);rw [iJ];exact zl fun x=>rl h
  |_=>exact h' _
 |some a=>
  dsimp only;rw [iJ];refine zl fun x=>?_;rw [iJ];refine rl fun _=>?_;refine rl (s:=_) h
theorem jE{z n:Nat}{x:Value}:Ns P (Builtin.firstCells z n x):=by
 unfold Builtin.firstCells;split
 ·exact qS
 ·trivial
 ·trivial
 ·trivial
theorem Hw{x:Value}:Ns P (Builtin.lenOf x):=by unfold Builtin.lenOf;split <;> trivial
theorem ux{α:Type}{u:Unsupported}:Ns P (unsupported u:Sem α):=trivial
theorem zF{α:Type}{u:Unsupported}:Hs P (unsupported u:Sem α):=trivial
theorem iR{α:Type}{t:TypeId}{d:TypeDesc}{f:TypeDesc→Sem α}(h:P.underlying t=some d)(hf:Ns P (f d)):Ns P (underlying t >>=f):=by
 show Ns P ((match P.underlying t with |some d=>pure d |none=>stuck "no such type" :Sem TypeDesc).bind f);rw [h];exact hf
theorem Hy{α:Type}{p:Prop}[Decidable p]{a b:Sem α}(h1:Ns P a)(h2:Ns P b):Ns P (if p then a else b):=by split <;> assumption
theorem EJ{T e t:TypeId}{b b2:Option Addr}{n c n2 c2:Nat}(hT:P.underlying T=some (.slice e)):Ns P (Builtin.append_ #[T,T] t #[.slice b n c,.slice b2 n2 c2]):=by
 have noroom:Ns P (mark .noRoom):=⟨rfl,trivial⟩
 unfold Builtin.append_
 refine iR hT (ai cY fun sz=>iR hT ?_)
 refine Hy (p:=n+n2≤c) ?_ ?_
 ·
  refine ai jE fun new=>?_
  cases b with
  |none=>exact bT
  |some a=>exact ai (ia _ _) fun _=>bT
 ·
  refine ai fA fun i=>?_
  have tail:Ns P (do
   let newCap←choose (.appendCap (n+n2) c e)
   askRoom (newCap * (←typeInfo e).bytes)
   let old←Builtin.firstCells sz n (.slice b n c)
   let new←Builtin.firstCells sz n2 (.slice b2 n2 c2)
   let rest:=Builtin.zeroCells (←zeroValue e).cells (newCap - (n+n2))
   pure (.slice (some (←newRow e (old++new++rest))) (n+n2) newCap):Sem Value):=
   ai iF fun _=>ai fA fun _=>ai pX fun _=>ai jE fun _=>ai jE fun _=>ai eN fun _=>ai rY fun _=>bT
  have mid:Ns P (do
   if Builtin.nextslicecap (n+n2) c * (←typeInfo e).bytes > 2 ^ 48 then(do
    if !(←Builtin.mayShare sz n n2 b (.slice b2 n2 c2)) then mark .noRoom
    unsupported (.resourceLimit "append: a slice or a string whose bytes no memory bears"))
   let newCap←choose (.appendCap (n+n2) c e)
   askRoom (newCap * (←typeInfo e).bytes)
   let old←Builtin.firstCells sz n (.slice b n c)
   let new←Builtin.firstCells sz n2 (.slice b2 n2 c2)
   let rest:=Builtin.zeroCells (←zeroValue e).cells (newCap - (n+n2))
   pure (.slice (some (←newRow e (old++new++rest))) (n+n2) newCap):Sem Value):=by
   refine ai fA fun i=>?_
   split
   ·
    refine ai (Hr (fun x=>?_) (fun x=>?_)) fun _=>tail
    ·
     split
     ·
      exact rl fun _=>zF
     ·
      exact zF
    ·
     split
     ·
      exact ai noroom fun _=>ux
     ·
      exact ux
   ·
    exact tail
  exact Hy (p:=((n+n2:Nat):Int) > IntKind.i64.max∧(false=true∨i.bytes=0)) (ai eO fun _=>mid) mid
theorem Ky{ts:Array TypeId}{t:TypeId}{xs:Array Value}:Ns P (Builtin.copy_ ts t xs):=by
 unfold Builtin.copy_;repeat' (first |exact trivial |exact eO |exact cY |exact aH |exact jE |exact Hw |exact ia _ _ |refine ai ?_ fun _=>?_ |split |dsimp only)
theorem Ob{ts:Array TypeId}{t:TypeId}{xs:Array Value}:Ns P (Builtin.len_ ts t xs):=by
 unfold Builtin.len_;repeat' (first |exact trivial |exact aH |refine eJ fun _ _=>?_ |refine ai ?_ fun _=>?_ |split |dsimp only)
theorem Oc{ts:Array TypeId}{t:TypeId}{xs:Array Value}:Ns P (Builtin.cap_ ts t xs):=by
 unfold Builtin.cap_;repeat' (first |exact trivial |exact aH |refine eJ fun _ _=>?_ |refine ai ?_ fun _=>?_ |split |dsimp only)
theorem HF{ts:Array TypeId}{t:TypeId}{xs:Array Value}:Ns P (Builtin.clear_ ts t xs):=by
 unfold Builtin.clear_;repeat' (first |exact trivial |exact aH |exact eN |exact ia _ _ |exact fi rfl |refine eJ fun _ _=>?_ |refine ai ?_ fun _=>?_ |split |dsimp only)
theorem rX{b:BinOp}{x y:ByteArray}:Ns P (Op.stringOp b x y):=by
 unfold Op.stringOp;repeat' (first |exact trivial |split |dsimp only)
theorem Kx{x y:Value}:Ns P (Builtin.max2 x y):=by
 unfold Builtin.max2;repeat' (first |exact trivial |exact iF |exact rX |exact sb |refine ai ?_ fun _=>?_ |split |dsimp only)
theorem Kw{x y:Value}:Ns P (Builtin.min2 x y):=by
 unfold Builtin.min2;repeat' (first |exact trivial |exact iF |exact rX |exact sb |refine ai ?_ fun _=>?_ |split |dsimp only)
theorem sa{α β:Type}{f:β→α→Sem β}(h:∀b a,Ns P (f b a)):∀(l:List α) (b:β),Ns P (l.foldlM f b)
 |[],_=>by rw [List.foldlM_nil];trivial
 |a::l,b=>by rw [List.foldlM_cons];exact ai (h _ _) fun _=>sa h l _
theorem Oa{ts:Array TypeId}{t:TypeId}{xs:Array Value}:Ns P (Builtin.max_ ts t xs):=by
 unfold Builtin.max_;split
 ·trivial
 ·exact sa (fun _ _=>Kx) _ _
theorem N9{ts:Array TypeId}{t:TypeId}{xs:Array Value}:Ns P (Builtin.min_ ts t xs):=by
 unfold Builtin.min_;split
 ·trivial
 ·exact sa (fun _ _=>Kw) _ _
theorem Hn{u:UnOp}{x:Value}:Ns P (Op.unary u x):=by
 unfold Op.unary Op.intArith Op.intBits;repeat' (first |exact trivial |split |dsimp only)
theorem Bw{s d:TypeId}{k:IntKind}{n:Int}(hd:P.underlying d=some (.int k)){k':IntKind}:Ns P (convert s d (.int k' n)):=by
 unfold convert;refine ai aH fun a=>?_;show Ns P (underlying d >>=_);have:(underlying d:Sem TypeDesc)=(program >>=fun p=>match p.underlying d with |some d=>pure d |none=>stuck "no such type"):=rfl;rw [this,iJ];refine k9 ?_;rw [hd];show Ns P (match a,TypeDesc.int k,Value.int k' n with |_,_,_=>_);dsimp only;trivial
theorem pU:∀(n:Nat) (t:TypeId) (x y:Value),Ns P (Op.eqGuardIn n t x y)
 |0,_,_,_=>trivial
 |n+1,t,x,y=>by
  unfold Op.eqGuardIn
  refine ai aH fun d=>?_
  split
  ·
   trivial
  ·
   refine ai (om (fun f _=>?_) _ _) fun s=>?_
   ·
    split
    ·
     refine ai il fun _=>ai il fun _=>ai (pU n _ _ _) fun b=>?_
     split <;> trivial
    ·
     trivial
   ·
    dsimp only
    split <;> trivial
  ·
   refine ai cY fun m=>ai (oh (fun i _=>?_) _) fun s=>?_
   ·
    refine ai il fun _=>ai il fun _=>ai (pU n _ _ _) fun b=>?_
    split <;> trivial
   ·
    dsimp only
    split <;> trivial
  ·
   trivial
theorem HA{b:BinOp}{t:TypeId}{x y:Operand}{u v:Value}:Ns P (eqGuard b t x y u v):=by
 unfold eqGuard;repeat' (first |exact bT |exact ux |refine ai (pU _ _ _ _) fun _=>?_ |refine k9 ?_ |refine ai ?_ fun _=>?_ |split |dsimp only)
theorem uB{b:BinOp}{t:TypeId}{u v:Value}(hu:kO u=true)(hv:kO v=true):Ns P (binOp b t u v):=by
 unfold binOp
 split <;> first
  |trivial
  |(cases hu;done)
  |(cases hv;done)
  |exact rX
  |exact ai (zm hu hv) fun _=>bT
  |skip
 ·unfold Op.shift;repeat' (first |exact trivial |exact eO |split |dsimp only)
 ·unfold Op.shift;repeat' (first |exact trivial |exact eO |split |dsimp only)
 ·unfold Op.intArith Op.intDiv Op.intBits Op.intCmp;repeat' (first |exact trivial |exact eO |split |dsimp only)
def sc:Op→Bool
 | .move _ | .assign _ | .pick .. | .alloc _ | .box .. | .build .. | .buildSlice .. | .load .. | .store .. | .makeInterface .. | .makeFunc .. | .makeMap .. | .makeSlice .. | .slice .. | .field .. | .indexAddr .. | .index ..
 | .entryStore .. | .range .. | .next .. | .entry .. | .typeAssert .. | .extract .. | .unOp .. =>true
 | .call { callee:=.builtin .copy, .. } | .call { callee:=.builtin .len, .. } | .call { callee:=.builtin .cap, .. } | .call { callee:=.builtin .clear, .. } | .call { callee:=.builtin .max, .. } | .call { callee:=.builtin .min, .. }=>true
 |_=>false
theorem iK{s:Sem Value}(h:Ns P s):Ns P (do pure (.value (←s)):Sem Next):=ai h fun _=>bT
theorem N8{s:Sem Unit}(h:Ns P s):Ns P (do s;pure .skip:Sem Next):=ai h fun _=>bT
theorem im{o:Oper}(h:sc o.op=true)(ρ:Operand→Value):Ns P (execOp ρ o):=by
 unfold execOp;revert h;cases o.op with
 |move _=>exact fun _=>trivial
 |assign _=>exact fun _=>trivial
 |pick _ _ _=>exact fun _=>ai sb fun _=>bT
 |alloc _=>exact fun _=>iK HI
 |box _ _=>exact fun _=>iK Oe
 |build _ _=>exact fun _=>iK HG
 |buildSlice _ _ _=>exact fun _=>iK vK
 |load _ _=>exact fun _=>iK EI
 |store _ _ _=>exact fun _=>N8 Bm
 |makeInterface _ _=>exact fun _=>iK rZ
 |makeFunc _ _ _=>exact fun _=>iK trivial
 |makeMap _ _=>exact fun _=>iK Bo
 |makeSlice _ _ _=>exact fun _=>iK xF
 |slice _ _ _ _ _=>exact fun _=>iK Bn
 |field _ _ _=>exact fun _=>iK HB
 |indexAddr _ _ _=>exact fun _=>iK Bq
 |index _ _ _=>exact fun _=>iK Hz
 |entryStore _ _ _ _=>exact fun _=>N8 vJ
 |range _ _=>exact fun _=>iK Hu
 |next _ _=>exact fun _=>iK Kv
 |entry _=>exact fun _=>iK HE
 |typeAssert _ _ _ _=>exact fun _=>iK vI
 |extract _ _=>exact fun _=>iK Br
 |unOp _ _ _=>exact fun _=>iK Hn
 |call c=>
  intro h;obtain⟨ca,args,ts⟩:=c;cases ca with
  |builtin b=>
   have key:Ns P (builtin b ts o.type (args.map fun | .const _=>true |_=>false) (args.map ρ)):=by
    unfold builtin
    cases b <;> first
     |(cases h;done)
     |exact iK Ky
     |exact iK Ob
     |exact iK Oc
     |exact iK HF
     |exact iK Oa
     |exact iK N9
   exact key
  |_=>cases h
 |_=>intro h;cases h
end
@[reducible] def FG:(t:Ty)→t.den→A
 | .int k,n=>.eq (.int k n)
 | .bool,b=>.eq (.bool b)
 | .str,b=>.eq (.string b)
 | .val,v=>.eq v
 | .ptr t,x=>.at t x
 |t,x=>.rep t x
theorem jp{S:FS}{w:World}{t:Ty}{x:t.den}{cs:List Value}(h:rd S w t x cs):(FG t x).holds S w (mk t.isAgg cs):=by
 cases t with
 |int k=>simp only [rd] at h;subst h;rfl
 |bool=>simp only [rd] at h;subst h;rfl
 |str=>simp only [rd] at h;subst h;rfl
 |val=>simp only [rd] at h;rw [h.1];rfl
 |ptr t=>
  obtain⟨b,off,c,T,fz,rfl,h⟩:=h;exact⟨b,off,c,T,fz,rfl,h⟩
 |pair a b=>exact⟨cs,h,rfl⟩
 |agg t=>exact⟨cs,h,rfl⟩
 |arr n t=>exact⟨cs,h,rfl⟩
 |slice t=>exact⟨cs,h,rfl⟩
 |tag a b=>exact⟨cs,h,rfl⟩
 |ign=>exact⟨cs,h,rfl⟩
 |alt t=>exact⟨cs,h,rfl⟩
 |lst t=>exact⟨cs,h,rfl⟩
 |mo p cs0 t=>exact⟨cs,h,rfl⟩
 |pl t0 t1 t=>exact⟨cs,h,rfl⟩
@[reducible] def nS:(t:Ty)→t.den→(off n:Nat)→(g:Bool)→Option ((u:Ty)×u.den)
 | .pair a b,x,off,n,g=>if off+n≤a.cells then nS a x.1 off n g else if a.cells≤off then nS b x.2 (off - a.cells) n g else none
 | .agg t,x,off,n,g=>if g=true∧off=0∧n=t.cells then some ⟨.agg t,x⟩ else nS t x off n g
 | .arr m t,l,off,n,g=>if g=true∧off=0∧n=m * t.cells then some ⟨.arr m t,l⟩ else none
 | .int k,x,off,n,g=>if g=false∧off=0∧n=1 then some ⟨.int k,x⟩ else none
 | .bool,x,off,n,g=>if g=false∧off=0∧n=1 then some ⟨.bool,x⟩ else none
 | .str,x,off,n,g=>if g=false∧off=0∧n=1 then some ⟨.str,x⟩ else none
 | .val,x,off,n,g=>if g=false∧off=0∧n=1 then some ⟨.val,x⟩ else none
 | .slice t,x,off,n,g=>if g=false∧off=0∧n=1 then some ⟨.slice t,x⟩ else none
 | .ptr t,x,off,n,g=>if g=false∧off=0∧n=1 then some ⟨.ptr t,x⟩ else none
 | .tag a b,x,off,n,g=>if g=false∧off=0∧n=1 then some ⟨.tag a b,x⟩ else none
 | .ign,x,off,n,g=>if g=false∧off=0∧n=1 then some ⟨.ign,x⟩ else none
 | .alt t,x,off,n,g=>if g=false∧off=0∧n=1 then some ⟨.alt t,x⟩ else none
 | .lst t,x,off,n,g=>if g=false∧off=0∧n=1 then some ⟨.lst t,x⟩ else none
 | .mo p cs0 t,x,off,n,g=>if g=false∧off=0∧n=1 then some ⟨.mo p cs0 t,x⟩ else none
 | .pl t0 t1 t,x,off,n,g=>if g=false∧off=0∧n=1 then some ⟨.pl t0 t1 t,x⟩ else none
theorem pL{S:FS}{w:World}(t:Ty):∀{x:t.den} {cs:List Value} {off n:Nat} {g:Bool} {u:Ty} {y:u.den},rd S w t x cs→nS t x off n g=some ⟨u,y⟩→
 rd S w u y ((cs.drop off).take n)∧u.isAgg=g∧u.cells=n∧off+n≤t.cells:=by
 induction t with
 |pair a b iha ihb=>
  rintro x cs off n g u y ⟨c1,c2,rfl,h1,h2⟩ hg;have l1:=aN a h1;have l2:=aN b h2;simp only [nS] at hg;split at hg
  ·rename_i hle;obtain⟨r1,r2,r3,r4⟩:=iha h1 hg;refine⟨?_,r2,r3,by simp only [Ty.cells];omega⟩;have hz:off+n - c1.length=0:=by omega
   rw [List.drop_append_of_le_length (by omega),List.take_append_of_le_length (by simp only [List.length_drop];omega)];exact r1
  ·split at hg
   ·rename_i hge;obtain⟨r1,r2,r3,r4⟩:=ihb h2 hg;refine⟨?_,r2,r3,by simp only [Ty.cells];omega⟩;rw [List.drop_append,List.drop_eq_nil_of_le (by omega),List.nil_append,l1];exact r1
   ·cases hg
 |agg t ih=>
  intro x cs off n g u y h hg;have l:=aN t (x:=x) h;simp only [nS] at hg;split at hg
  ·rename_i hh;obtain⟨rfl,rfl,rfl⟩:=hh;cases hg;exact⟨by rw [List.drop_zero,List.take_of_length_le (by omega)];exact h,rfl,rfl,by simp [Ty.cells]⟩
  ·exact ih h hg
 |arr m t ih=>
  intro x cs off n g u y h hg;have l:=aN (.arr m t) h;simp only [nS] at hg;split at hg
  ·rename_i hh;obtain⟨rfl,rfl,rfl⟩:=hh;cases hg;exact⟨by rw [List.drop_zero,List.take_of_length_le (by rw [l];simp [Ty.cells])];exact h,rfl,rfl,by simp [Ty.cells]⟩
  ·cases hg
 |_=>
  intro x cs off n g u y h hg;have l:=aN _ h;simp only [Ty.cells] at l;simp only [nS] at hg;split at hg
  ·rename_i hh;obtain⟨rfl,rfl,rfl⟩:=hh;cases hg;exact⟨by rw [List.drop_zero,List.take_of_length_le (by omega)];exact h,rfl,rfl,by simp [Ty.cells]⟩
  ·cases hg
@[reducible] def A.isAgg:A→Bool
 | .agg _=>true
 | .rep t _=>t.isAgg
 |_=>false
@[reducible] def A.get:A→(off n:Nat)→(g:Bool)→Option A
 | .pair a b,off,n,g=>if off+n≤a.n then a.get off n g else if a.n≤off then b.get (off - a.n) n g else none
 | .agg a,off,n,g=>if g=true∧off=0∧n=a.n then some (.agg a) else a.get off n g
 | .rep t x,off,n,g=>match nS t x off n g with
  |some ⟨u,y⟩=>some (FG u y)
  |none=>none
 | .eq v,off,n,g=>if g=false∧off=0∧n=1 then some (.eq v) else none
 | .at t x,off,n,g=>if g=false∧off=0∧n=1 then some (.at t x) else none
 | .tup _,_,_,_=>none
 | .fn _ _,_,_,_=>none
 | .any,_,_,_=>none
theorem iD{S:FS}{w:World}(a:A):∀{cs:List Value} {off n:Nat} {g:Bool} {r:A},a.cells S w cs→a.get off n g=some r→
 r.holds S w (mk g ((cs.drop off).take n))∧off+n≤a.n:=by
 induction a with
 |pair a b iha ihb=>
  rintro cs off n g r ⟨c1,c2,rfl,h1,h2⟩ hg;have l1:=a.cells_length h1;have l2:=b.cells_length h2;simp only [A.get] at hg;split at hg
  ·rename_i hle;obtain⟨r1,r2⟩:=iha h1 hg;refine⟨?_,by simp only [A.n];omega⟩;rw [List.drop_append_of_le_length (by omega),List.take_append_of_le_length (by simp only [List.length_drop];omega)];exact r1
  ·split at hg
   ·obtain⟨r1,r2⟩:=ihb h2 hg;refine⟨?_,by simp only [A.n];omega⟩;rw [List.drop_append,List.drop_eq_nil_of_le (by omega),List.nil_append,l1];exact r1
   ·cases hg
 |agg a ih=>
  intro cs off n g r h hg;have l:=a.cells_length h;simp only [A.get] at hg;split at hg
  ·rename_i hh;obtain⟨rfl,rfl,rfl⟩:=hh;cases hg;exact⟨⟨cs,h,by rw [List.drop_zero,List.take_of_length_le (by omega)];rfl⟩,by simp [A.n]⟩
  ·exact ih h hg
 |rep t x=>
  intro cs off n g r h hg;simp only [A.get] at hg;split at hg
  ·rename_i u y he;cases hg;obtain⟨r1,r2,_,r4⟩:=pL t h he;exact⟨r2▸jp r1,r4⟩
  ·cases hg
 |eq v=>
  rintro cs off n g r ⟨rfl,_⟩ hg;simp only [A.get] at hg;split at hg
  ·rename_i hh;obtain⟨rfl,rfl,rfl⟩:=hh;cases hg;exact⟨rfl,by simp [A.n]⟩
  ·cases hg
 |«at» t x=>
  intro cs off n g r h hg;have l:=aN (.ptr t) h;simp only [Ty.cells] at l;simp only [A.get] at hg;split at hg
  ·rename_i hh;obtain⟨rfl,rfl,rfl⟩:=hh;cases hg;match cs,l with
   |[v],_=>exact⟨h,by simp [A.n]⟩
  ·cases hg
 |tup a _=>intro cs off n g r h;exact h.elim
 |fn f a _=>intro cs off n g r h;exact h.elim
 |any=>intro cs off n g r h;exact h.elim
@[reducible] def RY(b:A):Option A→Option A
 |some a=>some (.pair a b)
 |none=>none
@[reducible] def RX(a:A):Option A→Option A
 |some b=>some (.pair a b)
 |none=>none
@[reducible] def RZ:Option A→Option A
 |some a=>some (.agg a)
 |none=>none
theorem zt{b:A}{o:Option A}{x:A}(h:RY b o=some x):∃a,o=some a∧.pair a b=x:=by
 cases o with
 |none=>cases h
 |some a=>exact⟨a,rfl,Option.some.inj h⟩
theorem zr{a:A}{o:Option A}{x:A}(h:RX a o=some x):∃b,o=some b∧.pair a b=x:=by
 cases o with
 |none=>cases h
 |some b=>exact⟨b,rfl,Option.some.inj h⟩
theorem zu{o:Option A}{x:A}(h:RZ o=some x):∃a,o=some a∧.agg a=x:=by
 cases o with
 |none=>cases h
 |some a=>exact⟨a,rfl,Option.some.inj h⟩
@[reducible] def qE:(t:Ty)→t.den→(off n:Nat)→(g:Bool)→A→Option A
 | .pair a b,x,off,n,g,r=>if off+n≤a.cells then RY (.rep b x.2) (qE a x.1 off n g r) else if a.cells≤off then RX (.rep a x.1) (qE b x.2 (off - a.cells) n g r) else none
 | .agg t,x,off,n,g,r=>if g=true∧off=0∧n=t.cells then some r else RZ (qE t x off n g r)
 | .arr m t,_,off,n,g,r=>if g=true∧off=0∧n=m * t.cells then some r else none
 |_,_,off,n,g,r=>if g=false∧off=0∧n=1 then some r else none
@[reducible] def A.set:A→(off n:Nat)→(g:Bool)→A→Option A
 | .pair a b,off,n,g,r=>if off+n≤a.n then RY b (a.set off n g r) else if a.n≤off then RX a (b.set (off - a.n) n g r) else none
 | .agg a,off,n,g,r=>if g=true∧off=0∧n=a.n then some r else RZ (a.set off n g r)
 | .rep t x,off,n,g,r=>qE t x off n g r
 | .eq _,off,n,g,r=>if g=false∧off=0∧n=1 then some r else none
 | .at _ _,off,n,g,r=>if g=false∧off=0∧n=1 then some r else none
 | .tup _,_,_,_,_=>none
 | .fn _ _,_,_,_,_=>none
 | .any,_,_,_,_=>none
theorem AX{S:FS}{w:World}(t:Ty):∀{x:t.den} {cs new:List Value} {off n:Nat} {g:Bool} {r a':A},rd S w t x cs→r.cells S w new→new.length=n→qE t x off n g r=some a'→
 a'.cells S w (cs.take off++new++cs.drop (off+n))∧off+n≤t.cells:=by
 induction t with
 |pair a b iha ihb=>
  rintro x cs new off n g r a' ⟨c1,c2,rfl,h1,h2⟩ hr hn hg;have l1:=aN a h1;have l2:=aN b h2;simp only [qE] at hg;split at hg
  ·rename_i hle;obtain⟨a1,e,rfl⟩:=zt hg;obtain⟨r1,r2⟩:=iha h1 hr hn e;refine⟨⟨_,c2,?_,r1,h2⟩,by simp only [Ty.cells];omega⟩;rw [List.take_append_of_le_length (by omega),List.drop_append_of_le_length (by omega),List.append_assoc,List.append_assoc,List.append_assoc]
  ·split at hg
   ·obtain⟨b1,e,rfl⟩:=zr hg;obtain⟨r1,r2⟩:=ihb h2 hr hn e;refine⟨⟨c1,_,?_,h1,r1⟩,by simp only [Ty.cells];omega⟩;rw [List.take_append,List.take_of_length_le (by omega),List.drop_append,List.drop_eq_nil_of_le (by omega),List.nil_append,l1];simp only [List.append_assoc];rw [show off+n - a.cells=off - a.cells+n by omega]
   ·cases hg
 |agg t ih=>
  intro x cs new off n g r a' h hr hn hg;have l:=aN t (x:=x) h;simp only [qE] at hg;split at hg
  ·rename_i hh;obtain⟨rfl,rfl,rfl⟩:=hh;cases hg;refine⟨?_,by simp [Ty.cells]⟩;rw [List.take_zero,List.nil_append,List.drop_eq_nil_of_le (by omega),List.append_nil];exact hr
  ·obtain⟨a1,e,rfl⟩:=zu hg;have q:=ih h hr hn e;exact q
 |arr m t ih=>
  intro x cs new off n g r a' h hr hn hg;have l:=aN (.arr m t) h;simp only [Ty.cells] at l;simp only [qE] at hg;split at hg
  ·rename_i hh;obtain⟨rfl,rfl,rfl⟩:=hh;cases hg;refine⟨?_,by simp [Ty.cells]⟩;rw [List.take_zero,List.nil_append,List.drop_eq_nil_of_le (by omega),List.append_nil];exact hr
  ·cases hg
 |_=>
  intro x cs new off n g r a' h hr hn hg;have l:=aN _ h;simp only [Ty.cells] at l;simp only [qE] at hg;split at hg
  ·rename_i hh;obtain⟨rfl,rfl,rfl⟩:=hh;cases hg;refine⟨?_,by simp [Ty.cells]⟩;rw [List.take_zero,List.nil_append,List.drop_eq_nil_of_le (by omega),List.append_nil];exact hr
  ·cases hg
theorem lE{S:FS}{w:World}(a:A):∀{cs new:List Value} {off n:Nat} {g:Bool} {r a':A},a.cells S w cs→r.cells S w new→new.length=n→a.set off n g r=some a'→
 a'.cells S w (cs.take off++new++cs.drop (off+n))∧off+n≤a.n:=by
 induction a with
 |pair a b iha ihb=>
  rintro cs new off n g r a' ⟨c1,c2,rfl,h1,h2⟩ hr hn hg;have l1:=a.cells_length h1;have l2:=b.cells_length h2;simp only [A.set] at hg;split at hg
  ·rename_i hle;obtain⟨a1,e,rfl⟩:=zt hg;obtain⟨r1,r2⟩:=iha h1 hr hn e;refine⟨⟨_,c2,?_,r1,h2⟩,by simp only [A.n];omega⟩;rw [List.take_append_of_le_length (by omega),List.drop_append_of_le_length (by omega),List.append_assoc,List.append_assoc,List.append_assoc]
  ·split at hg
   ·obtain⟨b1,e,rfl⟩:=zr hg;obtain⟨r1,r2⟩:=ihb h2 hr hn e;refine⟨⟨c1,_,?_,h1,r1⟩,by simp only [A.n];omega⟩;rw [List.take_append,List.take_of_length_le (by omega),List.drop_append,List.drop_eq_nil_of_le (by omega),List.nil_append,l1];simp only [List.append_assoc];rw [show off+n - a.n=off - a.n+n by omega]
   ·cases hg
 |agg a ih=>
  intro cs new off n g r a' h hr hn hg;have l:=a.cells_length h;simp only [A.set] at hg;split at hg
  ·rename_i hh;obtain⟨rfl,rfl,rfl⟩:=hh;cases hg;refine⟨?_,by simp [A.n]⟩;rw [List.take_zero,List.nil_append,List.drop_eq_nil_of_le (by omega),List.append_nil];exact hr
  ·obtain⟨a1,e,rfl⟩:=zu hg;have q:=ih h hr hn e;exact q
 |rep t x=>intro cs new off n g r a' h hr hn hg;exact AX t h hr hn hg
 |eq v=>
  rintro cs new off n g r a' ⟨rfl,_⟩ hr hn hg;simp only [A.set] at hg;split at hg
  ·rename_i hh;obtain⟨rfl,rfl,rfl⟩:=hh;cases hg;exact⟨by simpa using hr,by simp [A.n]⟩
  ·cases hg
 |«at» t x=>
  intro cs new off n g r a' h hr hn hg;have l:=aN (.ptr t) h;simp only [Ty.cells] at l;simp only [A.set] at hg;split at hg
  ·rename_i hh;obtain⟨rfl,rfl,rfl⟩:=hh;cases hg;refine⟨?_,by simp [A.n]⟩;rw [List.take_zero,List.nil_append,List.drop_eq_nil_of_le (by omega),List.append_nil];exact hr
  ·cases hg
 |tup a _=>intro cs new off n g r a' h;exact h.elim
 |fn f a _=>intro cs new off n g r a' h;exact h.elim
 |any=>intro cs new off n g r a' h;exact h.elim
@[reducible] def Ty.isVal:Ty→Bool
 | .pair _ _=>false
 |_=>true
theorem me{t:Ty}(h:t.isVal=true)(hg:t.isAgg=false):t.cells=1:=by
 cases t <;> first |rfl |(simp [Ty.isVal] at h;done) |(simp [Ty.isAgg] at hg;done)
@[reducible] def A.stor:A→Prop
 | .eq v=>bD v=true
 | .rep t _=>t.isVal=true
 | .at _ _=>True
 | .agg _=>True
 |_=>False
theorem eh{S:FS}{w:World}{r:A}{v:Value}(h:r.holds S w v)(ho:r.stor):r.cells S w v.cells.toList∧v.cells.toList.length=r.n∧v=mk r.isAgg v.cells.toList:=by
 cases r with
 |eq v0=>
  have e:v=v0:=h;subst e;have ho':bD v=true:=ho;have hc:v.cells= #[v]:=by cases v <;> first |rfl |simp [bD] at ho'
  rw [hc];exact⟨⟨rfl,ho'⟩,rfl,rfl⟩
 |rep t x=>
  obtain⟨cs,h1,rfl⟩:=h;have l:=aN t h1;have h2:=xq t h1;cases hg:t.isAgg with
  |true=>
   simp only [mk,if_true,Value.cells];exact⟨h1,l,by simp [hg]⟩
  |false=>
   have e1:=me ho hg;rw [e1] at l;match cs,l with
   |[c],_=>
    have hc1:=h2 c (by simp);have hc:c.cells= #[c]:=by cases c <;> first |rfl |simp [bD] at hc1
    simp only [mk,Bool.false_eq_true,if_false,List.headD_cons,hc];exact⟨h1,e1.symm,by simp [hg]⟩
 |«at» t x=>
  obtain⟨b,off,c,T,fz,e,h⟩:=h;simp only [List.cons.injEq,and_true] at e;subst e;exact⟨⟨b,off,c,T,fz,rfl,h⟩,rfl,rfl⟩
 |pair a b=>exact h.elim
 |agg a=>
  obtain⟨cs,h1,rfl⟩:=h;exact⟨h1,a.cells_length h1,by simp [mk,Value.cells]⟩
 |tup a=>exact ho.elim
 |fn f a=>exact ho.elim
 |any=>exact ho.elim
structure Q6(P:Program)(T:TypeId)(t:Ty):Prop where
 size:∀w,(sizeOf T).run P w= .ok t.cells w
 agg:∀w,(isAgg T).run P w= .ok t.isAgg w
theorem Q6.of{P:Program}{T:TypeId}{t:Ty}{i:TypeInfo}(hi:P.info? T=some i)(hs:i.size=t.cells)(ha:∀w,(isAgg T).run P w= .ok t.isAgg w):Q6 P T t:=
 ⟨fun w=>by simp [sizeOf,typeInfo,program,stuck,Sem.run,hi,hs],ha⟩
def BR(P:Program)(T f off:Nat):Bool:=match P.underlying T with
 |some (.struct fs)=>(match fs[f]? with
  |some fd=>fd.offset == off && (match P.info? fd.type with |some i=>i.size != 0 |none=>false)
  |none=>false)
 |_=>false
def aU(P:Program)(T f off:Nat):Prop:=BR P T f off=true
theorem aU.of{P:Program}{T f off:Nat}(h:BR P T f off=true):aU P T f off:=h
theorem gG(b k n:Nat):(⟨b,k,none⟩:Addr).add n=⟨b,k+n,none⟩:=by
 unfold Addr.add;split
 ·rename_i h;subst h;rfl
 ·rfl
theorem aU.ex{P:Program}{T f off:Nat}(h:aU P T f off):∃fs fd i,P.underlying T=some (.struct fs)∧fs[f]? =some fd∧fd.offset=off∧P.info? fd.type=some i∧i.size≠0:=by
 unfold aU BR at h;split at h
 ·rename_i fs hu;split at h
  ·rename_i fd hf;simp only [Bool.and_eq_true,beq_iff_eq] at h;obtain⟨h1,h2⟩:=h;split at h2
   ·rename_i i hi;exact⟨fs,fd,i,hu,hf,h1,hi,by simpa using h2⟩
   ·cases h2
  ·cases h
 ·cases h
theorem aU.run{P:Program}{T f off:Nat}(h:aU P T f off)(w:World)(b k:Nat):(Instr.fieldAt T (.pointer (some ⟨b,k,none⟩)) f).run P w= .ok (.pointer (some ⟨b,k+off,none⟩)) w:=by
 obtain⟨fs,fd,i,h1,h2,h3,h4,h5⟩:=h.ex;simp [Instr.fieldAt,run_underlying h1,h2,Instr.sureAddr,fieldPlace,sizeOf,typeInfo,program,Sem.run,h4,h5,gG,h3]
theorem aU.ns{P:Program}{T f off:Nat}(h:aU P T f off)(x:Value):Ns P (Instr.fieldAt T x f):=by
 obtain⟨fs,fd,i,h1,h2,h3,h4,h5⟩:=h.ex;refine iR h1 ?_;dsimp only;rw [h2];refine ai jM fun a=>ai ?_ fun _=>bT
 have e:(sizeOf fd.type:Sem Nat)=(program >>=fun p=>match p.info? fd.type with |some i=>pure i.size |none=>stuck "no such type"):=by
  show(Sem.program _).bind _=Sem.program _;simp only [Sem.bind];congr 1;funext p;show((match p.info? fd.type with |some i=>pure i |none=>stuck "no such type" :Sem TypeInfo)).bind _=_;cases p.info? fd.type <;> rfl
 unfold fieldPlace;rw [e,iJ];refine k9 ?_;rw [h4];show Ns P (if i.size=0 then _ else _);rw [if_neg h5];exact bT
theorem aU.nsx{P:Program}{o:Oper}{T f off:Nat}{x:Operand}(h:aU P T f off)(ho:o.op= .fieldAddr T x f)(ρ:Operand→Value):Ns P (execOp ρ o):=by
 unfold execOp;rw [ho];exact iK (h.ns _)
theorem xl(P:Program)(w:World)(b:Nat)(c:Array Value)(T:TypeId)(fz:Nat×Nat)(hb:w.heap[b]? =some (.cells c T fz))(off:Nat):
 ∀(n i:Nat) (acc:Array Value),off+i+n≤c.size→(loadCellsFrom ⟨b,off,none⟩ i n acc).run P w= .ok (acc++((c.toList.drop (off+i)).take n).toArray) w:=by
 intro n
 induction n with
 |zero=>intro i acc _;simp [loadCellsFrom]
 |succ n ih=>
  intro i acc h;have hlt:off+i < c.size:=by omega
  simp only [loadCellsFrom,load,Sem.run_bind,Sem.run,gG,World.cell?,hb,Option.isSome_none,Bool.false_eq_true,if_false,Array.getElem?_eq_getElem hlt,Result.andThen_ok];rw [ih (i+1) _ (by omega)];congr 1;rw [List.drop_eq_getElem_cons (l:=c.toList) (i:=off+i) (by simpa using hlt),List.take_succ_cons];simp [Nat.add_assoc]
theorem t8{α:Type}(v:α)(l2:List α):∀l1:List α,(l1++v::l2).take (l1.length+1)=l1++[v]
 |[]=>rfl
 |x::l1=>by simp [t8 v l2 l1]
theorem uY{α:Type}(v:α)(l2:List α)(n:Nat):∀l1:List α,(l1++v::l2).drop (l1.length+1+n)=l2.drop n
 |[]=>by rw [List.nil_append,List.length_nil,Nat.zero_add,Nat.add_comm];rfl
 |x::l1=>by
  have:=uY v l2 n l1
  rw [List.length_cons,show l1.length+1+1+n=(l1.length+1+n)+1 by omega]
  exact this
theorem kW(P:Program)(b:Nat)(T:TypeId)(off:Nat):∀(vs:List Value) (i:Nat) (w:World) (c:Array Value),w.heap[b]? =some (.cells c T (0,0))→(∀v∈vs,bD v=true)→off+i+vs.length≤c.size→
 (storeCells ⟨b,off,none⟩ vs i).run P w= .ok () { w with heap:=w.heap.setIfInBounds b (.cells (c.toList.take (off+i)++vs++c.toList.drop (off+i+vs.length)).toArray T (0,0)) }:=by
 intro vs
 induction vs with
 |nil=>
  intro i w c hb _ _;simp only [storeCells,Sem.run_pure,List.append_nil,List.length_nil,Nat.add_zero,List.take_append_drop,Array.toArray_toList];congr 1;obtain⟨hlt,e⟩:=Array.getElem?_eq_some_iff.1 hb
  have:w.heap.setIfInBounds b (.cells c T (0,0))=w.heap:=by
   apply Array.ext_getElem?;intro j;rw [Array.getElem?_setIfInBounds];split
   ·rename_i h;subst h;simp [hlt] <;> exact e.symm
   ·rfl
  rw [this]
 |cons v vs ih=>
  intro i w c hb h1 hle;simp only [List.length_cons] at hle;have hlt:off+i < c.size:=by omega
  obtain⟨hbl,hcb⟩:=Array.getElem?_eq_some_iff.1 hb;have hv:=h1 v (by simp)
  have hst:(store ((⟨b,off,none⟩:Addr).add i) v).run P w= .ok () (w.setCell ⟨b,off+i,none⟩ v):=by
   rw [gG];unfold store
   cases v <;> first
    |(simp [bD] at hv;done)
    |simp [Sem.run,World.cell?,hb,Array.getElem?_eq_getElem hlt,World.frozen?]
  have hb':(w.setCell ⟨b,off+i,none⟩ v).heap[b]? =some (.cells (c.setIfInBounds (off+i) v) T (0,0)):=by
   simp [World.setCell,Array.getElem?_modify,hb]
  simp only [storeCells,Sem.run_bind,hst,Result.andThen_ok];rw [ih (i+1) _ _ hb' (fun u hu=>h1 u (by simp [hu])) (by simp;omega)];congr 1
  have hh:(w.setCell ⟨b,off+i,none⟩ v).heap=w.heap.setIfInBounds b (.cells (c.setIfInBounds (off+i) v) T (0,0)):=by
   apply Array.ext_getElem?;intro j;simp only [World.setCell,Array.getElem?_modify,Array.getElem?_setIfInBounds];split
   ·rename_i h;subst h;simp [hbl,hcb]
   ·rfl
  simp only [World.setCell] at hh⊢;rw [hh];simp only [Array.setIfInBounds_setIfInBounds];congr 4
  have e1:(c.setIfInBounds (off+i) v).toList=c.toList.take (off+i)++v::c.toList.drop (off+i+1):=by
   rw [Array.toList_setIfInBounds,List.set_eq_take_append_cons_drop,if_pos (by simpa using hlt)]
  rw [e1];have lt:(c.toList.take (off+i)).length=off+i:=by simp;omega
  have e2:off+(i+1)=(c.toList.take (off+i)).length+1:=by omega
  rw [e2,t8,Nat.add_assoc,Nat.add_comm 1 vs.length,←Nat.add_assoc,Nat.add_right_comm,uY,List.drop_drop];simp only [List.append_assoc,List.cons_append,List.nil_append,List.length_cons];rw [show off+i+1+vs.length=off+i+(vs.length+1) by omega]
theorem bo.val0{P:Program}{M:Md P}{o:Oper}{N:List (Operand×A)}{r:A}
 (h:∀(S:FS) (w:World) (a:Act),bC S w a N→∃v,(execOp a.eval o).run P w= .ok (.value v) w∧r.holds S w v) (hnd:nd o.op=true:=by simp only [nd, *]) (hns:∀(S:FS) (w:World) (a:Act),bC S w a N→Ns P (execOp a.eval o):=by exact fun _ _ a _=>im (by simp only [sc, *]) a.eval):bo M o N [] (fun _:Unit=>(r,[])):=by
 refine vB.T ⟨hnd,fun S w a next hd hN ho k=>?_⟩ (fun S w a h _=>hns S w a h) (fun d hd=>by simp at hd)
 obtain⟨v,hv,hr⟩:=h S w a hN
 rw [hv]
 exact k () S w v (jZ.refl hd) hr ho (fun b ⟨e,he,_⟩=>by simp at he)
theorem bo.val1{P:Program}{M:Md P}{o:Oper}{N:List (Operand×A)}{r:A}{e:D}
 (h:∀(S:FS) (w:World) (a:Act),bC S w a N→e.holds S w→∃v,(execOp a.eval o).run P w= .ok (.value v) w∧r.holds S w v) (hnd:nd o.op=true:=by simp only [nd, *]) (hns:∀(S:FS) (w:World) (a:Act),bC S w a N→Ns P (execOp a.eval o):=by exact fun _ _ a _=>im (by simp only [sc, *]) a.eval) (hcm:e.calmP:=by exact trivial):bo M o N [e] (fun _:Unit=>(r,[e])):=by
 refine vB.T ⟨hnd,fun S w a next hd hN ho k=>?_⟩ (fun S w a h _=>hns S w a h) (fun d hd=>by simp at hd;subst hd;exact hcm)
 obtain⟨v,hv,hr⟩:=h S w a hN (ho.holds e (by simp))
 rw [hv]
 exact k () S w v (jZ.refl hd) hr ho (fun b hb=>.inl hb)
section
variable {P:Program}{M:Md P}{o:Oper}{x y z:Operand}{T T':TypeId}{r r':A}
theorem bz(ho:o.op= .move x):bo M o [(x,r)] [] (fun _:Unit=>(r,[])):=
 .val0 fun _ w a h=>⟨a.eval x,by simp [execOp,ho],h.1⟩
theorem og(ho:o.op= .assign x):bo M o [(x,r)] [] (fun _:Unit=>(r,[])):=
 .val0 fun _ w a h=>⟨a.eval x,by simp [execOp,ho],h.1⟩
theorem Ha(ho:o.op= .pick x y z):bo M o [(x,.eq (.bool true)),(y,r)] [] (fun _:Unit=>(r,[])):=
 .val0 fun _ w a h=>⟨a.eval y,by
  have e:a.eval x= .bool true:=h.1
  simp [execOp,ho,e,asBool],h.2.1⟩
theorem He(ho:o.op= .pick x y z):bo M o [(x,.eq (.bool false)),(z,r)] [] (fun _:Unit=>(r,[])):=
 .val0 fun _ w a h=>⟨a.eval z,by
  have e:a.eval x= .bool false:=h.1
  simp [execOp,ho,e,asBool],h.2.1⟩
theorem tO{b:BinOp}{ρ:Operand→Value}(ho:o.op= .binOp b T x y T')(h:Ns P (binOp b T (ρ x) (ρ y))):Ns P (execOp ρ o):=by
 unfold execOp;rw [ho];exact iK (ai HA fun _=>h)
theorem C6{ρ:Operand→Value}(ho:o.op= .nilCheck x)(h:(∃p,ρ x= .pointer (some p))∨∃f c d,ρ x= .func (.func f) c d):Ns P (execOp ρ o):=by
 unfold execOp;rw [ho];rcases h with⟨p,e⟩ |⟨f,c,d,e⟩
 ·show Ns P (match ρ x with |_=>_);rw [e];exact bT
 ·show Ns P (match ρ x with |_=>_);rw [e];exact bT
theorem jL{b:BinOp}{u v q:Value}(ho:o.op= .binOp b T x y T')(hr:∀w,(do eqGuard b T x y u v;binOp b T u v:Sem Value).run P w= .ok q w)(hns:Ns P (binOp b T u v):=by exact uB rfl rfl):
 bo M o [(x,.eq u),(y,.eq v)] [] (fun _:Unit=>(.eq q,[])):=
 bo.val0 (hns:=fun _ _ a h=>tO ho (by
  have e1:a.eval x=u:=h.1
  have e2:a.eval y=v:=h.2.1
  rw [e1,e2];exact hns)) fun _ w a h=>⟨q,by
  have e1:a.eval x=u:=h.1
  have e2:a.eval y=v:=h.2.1
  have:=hr w
  simp only [Sem.run_bind] at this
  simp only [execOp,ho,e1,e2,Sem.run_bind,this,Result.andThen_ok,Sem.run_pure],rfl⟩
def ck(n:Int):Option Int:=if -9223372036854775808≤n∧n≤9223372036854775807 then some n else none
theorem yg{n z:Int}(h:ck n=some z):IntKind.i64.wrap n=z:=by
 unfold ck at h;split at h
 ·cases h;rename_i hh;have e:(2:Int) ^ IntKind.i64.bits=18446744073709551616:=by decide
  have e2:(2:Int) ^ (IntKind.i64.bits - 1)=9223372036854775808:=by decide
  have e3:IntKind.i64.signed=true:=rfl;simp only [IntKind.wrap,e,e2,e3,Bool.true_and,ge_iff_le,decide_eq_true_eq];split <;> omega
 ·cases h
theorem bA{n m q:Int}(ho:o.op= .binOp .add T x y T')(h:ck (n+m)=some q):bo M o [(x,.eq (.int .i64 n)),(y,.eq (.int .i64 m))] [] (fun _:Unit=>(.eq (.int .i64 q),[])):=
 jL ho fun w=>by simp [eqGuard,binOp,Op.intArith,yg h]
theorem d4{n m q:Int}(ho:o.op= .binOp .sub T x y T')(h:ck (n - m)=some q):bo M o [(x,.eq (.int .i64 n)),(y,.eq (.int .i64 m))] [] (fun _:Unit=>(.eq (.int .i64 q),[])):=
 jL ho fun w=>by simp [eqGuard,binOp,Op.intArith,yg h]
theorem Hl{k:IntKind}{n m:Int}(ho:o.op= .binOp .add T x y T'):bo M o [(x,.eq (.int k n)),(y,.eq (.int k m))] [] (fun _:Unit=>(.eq (.int k (k.wrap (n+m))),[])):=
 jL ho fun w=>by simp [eqGuard,binOp,Op.intArith]
theorem Bi{k:IntKind}{n m:Int}(ho:o.op= .binOp .mul T x y T'):bo M o [(x,.eq (.int k n)),(y,.eq (.int k m))] [] (fun _:Unit=>(.eq (.int k (k.wrap (n * m))),[])):=
 jL ho fun w=>by simp [eqGuard,binOp,Op.intArith]
theorem PZ{k:IntKind}{n m:Int}(ho:o.op= .binOp .rem T x y T')(h:m≠0):bo M o [(x,.eq (.int k n)),(y,.eq (.int k m))] [] (fun _:Unit=>(.eq (.int k (n.tmod m)),[])):=
 jL ho fun w=>by simp [eqGuard,binOp,Op.intDiv,h]
section
variable {k:IntKind}{n m:Int}
theorem bB(ho:o.op= .binOp .lss T x y T'):bo M o [(x,.eq (.int k n)),(y,.eq (.int k m))] [] (fun _:Unit=>(.eq (.bool (decide (n < m))),[])):=
 jL ho fun w=>by simp [eqGuard,binOp,Op.intCmp]
theorem C0(ho:o.op= .binOp .leq T x y T'):bo M o [(x,.eq (.int k n)),(y,.eq (.int k m))] [] (fun _:Unit=>(.eq (.bool (decide (n≤m))),[])):=
 jL ho fun w=>by simp [eqGuard,binOp,Op.intCmp]
theorem nB(ho:o.op= .binOp .gtr T x y T'):bo M o [(x,.eq (.int k n)),(y,.eq (.int k m))] [] (fun _:Unit=>(.eq (.bool (decide (m < n))),[])):=
 jL ho fun w=>by simp [eqGuard,binOp,Op.intCmp]
theorem kx(ho:o.op= .binOp .geq T x y T'):bo M o [(x,.eq (.int k n)),(y,.eq (.int k m))] [] (fun _:Unit=>(.eq (.bool (decide (m≤n))),[])):=
 jL ho fun w=>by simp [eqGuard,binOp,Op.intCmp]
theorem hP(ho:o.op= .binOp .eql T x y T'):bo M o [(x,.eq (.int k n)),(y,.eq (.int k m))] [] (fun _:Unit=>(.eq (.bool (decide (n=m))),[])):=
 jL ho fun w=>by
  have:(n == m)=decide (n=m):=by by_cases h:n=m <;> simp [h]
  simp [eqGuard,binOp,Op.intCmp,this]
theorem fh(ho:o.op= .binOp .neq T x y T'):bo M o [(x,.eq (.int k n)),(y,.eq (.int k m))] [] (fun _:Unit=>(.eq (.bool (!decide (n=m))),[])):=
 jL ho fun w=>by
  have:(n != m)= !decide (n=m):=by by_cases h:n=m <;> simp [h]
  simp [eqGuard,binOp,Op.intCmp,this]
def qm(k:IntKind)(n m:Int):Int:=k.wrap (BitVec.ofInt k.bits n &&& BitVec.ofInt k.bits m).toNat
def Dl(k:IntKind)(n m:Int):Int:=k.wrap (BitVec.ofInt k.bits n |||BitVec.ofInt k.bits m).toNat
def ql(k:IntKind)(n m:Int):Int:=k.wrap (BitVec.ofInt k.bits n ^^^ BitVec.ofInt k.bits m).toNat
def H5(k:IntKind)(n m:Int):Int:=k.wrap (BitVec.ofInt k.bits n &&& ~~~ BitVec.ofInt k.bits m).toNat
def oz(k:IntKind)(n m:Int):Int:=k.wrap (n * 2 ^ (min m.toNat k.bits))
def gf(k:IntKind)(n m:Int):Int:=n.fdiv (2 ^ (min m.toNat k.bits))
theorem P2(ho:o.op= .binOp .and T x y T'):bo M o [(x,.eq (.int k n)),(y,.eq (.int k m))] [] (fun _:Unit=>(.eq (.int k (qm k n m)),[])):=
 jL ho fun w=>by simp [eqGuard,binOp,Op.intBits,qm]
theorem RQ(ho:o.op= .binOp .or T x y T'):bo M o [(x,.eq (.int k n)),(y,.eq (.int k m))] [] (fun _:Unit=>(.eq (.int k (Dl k n m)),[])):=
 jL ho fun w=>by simp [eqGuard,binOp,Op.intBits,Dl]
theorem MQ(ho:o.op= .binOp .xor T x y T'):bo M o [(x,.eq (.int k n)),(y,.eq (.int k m))] [] (fun _:Unit=>(.eq (.int k (ql k n m)),[])):=
 jL ho fun w=>by simp [eqGuard,binOp,Op.intBits,ql]
theorem MR{k':IntKind}(ho:o.op= .binOp .shl T x y T')(h:0≤m):bo M o [(x,.eq (.int k n)),(y,.eq (.int k' m))] [] (fun _:Unit=>(.eq (.int k (oz k n m)),[])):=
 jL ho fun w=>by simp [eqGuard,binOp,Op.shift,oz,show¬m < 0 by omega]
theorem uu{k':IntKind}(ho:o.op= .binOp .shr T x y T')(h:0≤m):bo M o [(x,.eq (.int k n)),(y,.eq (.int k' m))] [] (fun _:Unit=>(.eq (.int k (gf k n m)),[])):=
 jL ho fun w=>by simp [eqGuard,binOp,Op.shift,gf,show¬m < 0 by omega]
end
theorem Hf{u v:Bool}(ho:o.op= .binOp .neq T x y T')(hT:P.underlying T=some .bool):bo M o [(x,.eq (.bool u)),(y,.eq (.bool v))] [] (fun _:Unit=>(.eq (.bool (!decide (u=v))),[])):=
 jL ho fun w=>by
  have:(u == v)=decide (u=v):=by cases u <;> cases v <;> rfl
  simp [eqGuard,binOp,Op.equal,Op.maxDepth,run_equalIn_bool w 9999 T u v hT,this]
theorem iE{u:Bool}(ho:o.op= .unOp .not T x):bo M o [(x,.eq (.bool u))] [] (fun _:Unit=>(.eq (.bool (!u)),[])):=
 .val0 fun _ w a h=>⟨.bool !u,by
  have e:a.eval x= .bool u:=h.1
  simp [execOp,ho,e,Op.unary],rfl⟩
theorem rW{k k':IntKind}{n:Int}(ho:o.op= .convert T T' x)(hT:P.underlying T=some (.int k))(hT':P.underlying T'=some (.int k')):bo M o [(x,.eq (.int k n))] [] (fun _:Unit=>(.eq (.int k' (k'.wrap n)),[])):=
 bo.val0 (hns:=fun _ _ a h=>by
  have e:a.eval x= .int k n:=h.1
  unfold execOp
  rw [ho]
  show Ns P (do pure (.value (←convert T T' (a.eval x))):Sem Next)
  rw [e]
  exact iK (Bw hT')) fun _ w a h=>⟨.int k' (k'.wrap n),by
  have e:a.eval x= .int k n:=h.1
  simp [execOp,ho,e,convert,run_underlying hT,run_underlying hT',Conv.intToInt],rfl⟩
theorem zg{k:IntKind}{n q:Int}(ho:o.op= .convert T T' x)(hT:P.underlying T=some (.int k))(hT':P.underlying T'=some (.int .i64))(h:ck n=some q):bo M o [(x,.eq (.int k n))] [] (fun _:Unit=>(.eq (.int .i64 q),[])):=by
 have:=rW (P:=P) (M:=M) (n:=n) ho hT hT';rw [yg h] at this;exact this
@[reducible] def rO:A→Nat→Option A
 | .pair a _,0=>some a
 | .pair _ b,n+1=>rO b n
 |_,_=>none
theorem yP{S:FS}{w:World}{r:A}(a:A):∀{vs:List Value} {i:Nat},A.holds.holdsAll S w a vs→rO a i=some r→∃v,vs[i]? =some v∧r.holds S w v:=by
 induction a with
 |pair a b _ ihb=>
  rintro vs i ⟨v,vs',rfl,h1,h2⟩ hg;cases i with
  |zero=>simp only [rO,Option.some.injEq] at hg;subst hg;exact⟨v,rfl,h1⟩
  |succ i=>
   obtain⟨u,h3,h4⟩:=ihb h2 hg;exact⟨u,by simpa using h3,h4⟩
 |_=>intro vs i _ hg;cases i <;> simp [rO] at hg
theorem jl{i:Nat}{a0:A}(ho:o.op= .extract x i)(hi:rO a0 i=some r):bo M o [(x,.tup a0)] [] (fun _:Unit=>(r,[])):=
 .val0 fun S w a h=>by
  obtain⟨vs,e,h1⟩:=h.1
  obtain⟨v,h2,h3⟩:=yP a0 h1 hi
  exact⟨v,by simp [execOp,ho,e,Instr.extract,h2],h3⟩
theorem ta{t:Ty}{l:List t.den}{e:TypeId}{c:Call}(ho:o.op= .call c)(hc:c={ callee:=.builtin .len,args:= #[x],argTypes:= #[T] })(hT:P.underlying T=some (.slice e)):
 bo M o [(x,.rep (.slice t) l)] [] (fun _:Unit=>(.eq (.int .i64 l.length),[])):=
 .val0 fun S w a h=>by
  obtain⟨cs,h1,h2⟩:=h.1
  have hv:∃a0 cap,a.eval x= .slice a0 l.length cap:=by
   rcases h1 with⟨a0,cap,rfl,rfl⟩ |⟨b,off,cap,cc,T0,fz,rfl,_⟩
   ·exact⟨a0,cap,h2⟩
   ·exact⟨_,cap,h2⟩
  obtain⟨a0,cap,e⟩:=hv;exact⟨.int .i64 l.length,by simp [execOp,ho,hc,resolve,invoke,builtin,e,Builtin.len_,run_underlying hT,goInt],rfl⟩
theorem mA{t:Ty}{l:List t.den}{e TE:TypeId}{c:Call}{v:Value}(ho:o.op= .call c)(hc:c={ callee:=.builtin .len,args:= #[x],argTypes:= #[T] })(hT:P.underlying T=some (.slice e)):
 bo M o [(x,.eq v)] [.sl v TE t l] (fun _:Unit=>(.eq (.int .i64 l.length),[.sl v TE t l])):=
 .val1 fun S w a h hs=>by
  have e1:a.eval x=v:=h.1
  have hv:∃a0 cap,v= .slice a0 l.length cap:=by
   rcases hs with⟨rfl,rfl⟩ |⟨b,cap,cc,rfl,_⟩
   ·exact⟨none,0,rfl⟩
   ·exact⟨_,cap,rfl⟩
  obtain⟨a0,cap,e2⟩:=hv;exact⟨.int .i64 l.length,by simp [execOp,ho,hc,resolve,invoke,builtin,e1,e2,Builtin.len_,run_underlying hT,goInt],rfl⟩
structure dY(P:Program)(T:TypeId)(n:Nat)(g:Bool):Prop where
 size:∀w,(sizeOf T).run P w= .ok n w
 agg:∀w,(isAgg T).run P w= .ok g w
theorem fJ{w:World}{n:Nat}{g:Bool}(ht:dY P T n g)(hg:g=false→n=1){b:Nat}{c:Array Value}{T0:TypeId}{fz:Nat×Nat}(hb:w.heap[b]? =some (.cells c T0 fz)){off:Nat}
 (hle:off+n≤c.size):(loadVar T ⟨b,off,none⟩).run P w= .ok (mk g ((c.toList.drop off).take n)) w:=by
 simp only [loadVar,Sem.run_bind,ht.agg,Result.andThen_ok]
 cases g with
 |true=>
  simp only [if_true,Sem.run_bind,ht.size,Result.andThen_ok,loadCells,xl P w b c T0 fz hb off n 0 #[] (by omega)];simp [mk]
 |false=>
  have e1:=hg rfl;have hlt:off < c.size:=by omega
  simp only [Bool.false_eq_true,if_false,load,Sem.run,World.cell?,hb,Option.isSome_none,Array.getElem?_eq_getElem hlt];rw [e1,List.drop_eq_getElem_cons (by simpa using hlt)];simp [mk]
theorem av{t:Ty}{d:t.den}(ho:o.op= .load T x)(ht:dY P T t.cells t.isAgg)(hv:t.isVal=true):bo M o [(x,.at t d)] [] (fun _:Unit=>(FG t d,[])):=
 .val0 fun S w a h=>by
  obtain⟨b,off,c,T0,fz,e,_,h2,h3⟩:=h.1
  simp only [List.cons.injEq,and_true] at e
  have l:=aN t h3
  have hle:off+t.cells≤c.size∨t.cells=0:=by
   simp only [List.length_take,List.length_drop,Array.length_toList] at l;omega
  have hr:(loadVar T ⟨b,off,none⟩).run P w= .ok (mk t.isAgg ((c.toList.drop off).take t.cells)) w:=by
   rcases hle with hle |hz
   ·exact fJ ht (fun hg=>me hv hg) h2 hle
   ·have hg:t.isAgg=true:=by cases hg:t.isAgg with |true=>rfl |false=>have:=me hv hg;omega
    simp only [loadVar,Sem.run_bind,ht.agg,Result.andThen_ok,hg,if_true,ht.size,loadCells,hz,loadCellsFrom,Sem.run_pure,List.take_zero,mk]
  exact⟨_,by simp [execOp,ho,Instr.loadAt,e,Instr.sureAddr,hr],jp h3⟩
theorem aA{b off n:Nat}{g:Bool}{T0:TypeId}{a0:A}(ho:o.op= .load T x)(ht:dY P T n g)(hg:g=false→n=1)(hget:a0.get off n g=some r):
 bo M o [(x,.eq (.pointer (some ⟨b,off,none⟩)))] [.obj b T0 a0] (fun _:Unit=>(r,[.obj b T0 a0])):=
 .val1 fun S w a h hs=>by
  have e:a.eval x= .pointer (some ⟨b,off,none⟩):=h.1
  obtain⟨cs,h1,h2⟩:=hs
  have l:=a0.cells_length h2
  obtain⟨h3,h4⟩:=iD a0 h2 hget
  have hr:=fJ ht hg h1 (off:=off) (by simpa using (by omega:off+n≤cs.length))
  exact⟨_,by simp [execOp,ho,Instr.loadAt,e,Instr.sureAddr,hr],h3⟩
def ry(v:Value)(k:Nat):Value:=
 match v with
 | .slice (some a) _ _=>.pointer (some ⟨a.block,a.off+k,none⟩)
 |_=>undef
theorem ji{α:Type}{R:α→List Value→Prop}{m:Nat}(hR:∀x cs,R x cs→cs.length=m):∀{l:List α} {cs:List Value} {i:Nat} {x:α},dH R l cs→l[i]? =some x→R x ((cs.drop (i * m)).take m)∧i * m+m≤cs.length
 |[],_,i,x,_,h=>by simp at h
 |x0::l,_,i,x,⟨c1,c2,rfl,h1,h2⟩,h=>by
  have l1:=hR _ _ h1
  cases i with
  |zero=>
   simp only [List.getElem?_cons_zero,Option.some.injEq] at h
   subst h
   rw [Nat.zero_mul,List.drop_zero,List.take_append_of_le_length (by omega),List.take_of_length_le (by omega)]
   exact⟨h1,by simp only [List.length_append];omega⟩
  |succ i=>
   simp only [List.getElem?_cons_succ] at h
   obtain⟨r1,r2⟩:=ji hR h2 h
   rw [Nat.add_mul,Nat.one_mul,List.drop_append,List.drop_eq_nil_of_le (by omega),List.nil_append,l1,Nat.add_sub_cancel]
   exact⟨r1,by simp only [List.length_append];omega⟩
theorem gJ{v:Value}{TE:TypeId}{t u:Ty}{l:List t.den}{k i off n:Nat}{g:Bool}{d:t.den}{z:u.den}(ho:o.op= .load T x)(ht:dY P T n g)(hg:g=false→n=1)
 (hk:k=i * t.cells+off) (hl:l[i]? =some d) (hget:nS t d off n g=some ⟨u,z⟩):bo M o [(x,.eq (ry v k))] [.sl v TE t l] (fun _:Unit=>(FG u z,[.sl v TE t l])):=
 .val1 fun S w a h hs=>by
  have e:a.eval x=ry v k:=h.1
  rcases hs with⟨rfl,rfl⟩ |⟨b,cap,c,rfl,h1,_,h2,h3,h4⟩
  ·
   simp at hl
  ·
   obtain⟨r1,r2⟩:=ji (fun _ _ h=>aN t h) h4 hl
   obtain⟨q1,q2,q3,q4⟩:=pL t r1 hget
   have l1:(c.toList.take (l.length * t.cells)).length≤c.size:=by simp only [List.length_take,Array.length_toList];omega
   have hr:=fJ ht hg h2 (off:=k) (by omega)
   have e2:((c.toList.take (l.length * t.cells)).drop (i * t.cells)).take t.cells=(c.toList.drop (i * t.cells)).take t.cells:=by
    rw [List.drop_take,List.take_take,Nat.min_eq_left]
    have:i < l.length:=by
     rcases Nat.lt_or_ge i l.length with h |h
     ·exact h
     ·simp [List.getElem?_eq_none h] at hl
    calc t.cells=(i+1) * t.cells - i * t.cells:=by rw [Nat.add_mul];omega
     _≤l.length * t.cells - i * t.cells:=Nat.sub_le_sub_right (Nat.mul_le_mul_right _ this) _
   rw [e2] at q1
   have e3:(((c.toList.drop (i * t.cells)).take t.cells).drop off).take n=(c.toList.drop k).take n:=by
    rw [List.drop_take,List.take_take,Nat.min_eq_left (by omega),List.drop_drop,hk]
   rw [e3] at q1;refine⟨_,?_,q2▸jp q1⟩;simp [execOp,ho,Instr.loadAt,e,ry,Instr.sureAddr,hr]
theorem aG{b off f k:Nat}(ho:o.op= .fieldAddr T x f)(hf:aU P T f k):bo M o [(x,.eq (.pointer (some ⟨b,off,none⟩)))] [] (fun _:Unit=>(.eq (.pointer (some ⟨b,off+k,none⟩)),[])):=
 bo.val0 (hns:=fun _ _ a _=>hf.nsx ho a.eval) fun S w a h=>by
  have e:a.eval x= .pointer (some ⟨b,off,none⟩):=h.1
  exact⟨_,by simp [execOp,ho,e,hf.run w b off],rfl⟩
def aO{α:Type}(l:List α)(i:Int):Option α:=if 0≤i then l[i.toNat]? else none
theorem dA{α:Type}{l:List α}{i:Int}{x:α}(h:aO l i=some x):0≤i∧i < l.length∧l[i.toNat]? =some x:=by
 unfold aO at h;split at h
 ·rename_i h0;refine⟨h0,?_,h⟩
  have:i.toNat < l.length:=by
   rcases Nat.lt_or_ge i.toNat l.length with h' |h'
   ·exact h'
   ·rw [List.getElem?_eq_none h'] at h;cases h
  omega
 ·cases h
theorem lL{e:TypeId}{m:Nat}{g:Bool}(hT:P.underlying T=some (.slice e))(he:dY P e m g)(b off len cap:Nat)(k:IntKind)(i:Int)(h0:0≤i)(h1:i < len)(w:World):
 (Instr.indexAt T (.slice (some ⟨b,off,none⟩) len cap) (.int k i)).run P w= .ok (.pointer (some ⟨b,off+i.toNat * m,none⟩)) w:=by
 simp [Instr.indexAt,asIntOf,run_underlying hT,h0,h1,he.size,gG]
theorem aS{t:Ty}{l:List t.den}{k:IntKind}{i:Int}{d:t.den}{e:TypeId}{g:Bool}(ho:o.op= .indexAddr T x y)(hT:P.underlying T=some (.slice e))(he:dY P e t.cells g)(hl:aO l i=some d):
 bo M o [(x,.rep (.slice t) l),(y,.eq (.int k i))] [] (fun _:Unit=>(.at t d,[])):=
 .val0 fun S w a h=>by
  obtain⟨cs,h1,h2⟩:=h.1
  have e2:a.eval y= .int k i:=h.2.1
  obtain⟨g0,g1,g2⟩:=dA hl
  rcases h1 with⟨a0,cap,rfl,rfl⟩ |⟨b,off,cap,c,T0,fz,rfl,hle,hS,hb,hr⟩
  ·
   simp at g2
  ·
   have e1:a.eval x= .slice (some ⟨b,off,none⟩) l.length cap:=h2
   obtain⟨r1,r2⟩:=ji (fun _ _ h=>aN t h) hr g2
   refine⟨.pointer (some ⟨b,off+i.toNat * t.cells,none⟩),by simp [execOp,ho,e1,e2,lL hT he b off l.length cap k i g0 g1 w],b,_,c,T0,fz,rfl,hS,hb,?_⟩
   rw [List.drop_take,List.take_take,List.drop_drop,Nat.min_eq_left] at r1
   ·
    exact r1
   ·
    have:i.toNat < l.length:=by omega
    calc t.cells=(i.toNat+1) * t.cells - i.toNat * t.cells:=by rw [Nat.add_mul];omega
     _≤l.length * t.cells - i.toNat * t.cells:=Nat.sub_le_sub_right (Nat.mul_le_mul_right _ this) _
theorem cE{v:Value}{TE:TypeId}{t:Ty}{l:List t.den}{k:IntKind}{i:Int}{d:t.den}{e:TypeId}{g:Bool}(ho:o.op= .indexAddr T x y)(hT:P.underlying T=some (.slice e))(he:dY P e t.cells g)(hl:aO l i=some d):
 bo M o [(x,.eq v),(y,.eq (.int k i))] [.sl v TE t l] (fun _:Unit=>(.eq (ry v (i.toNat * t.cells)),[.sl v TE t l])):=
 .val1 fun S w a h hs=>by
  have e1:a.eval x=v:=h.1
  have e2:a.eval y= .int k i:=h.2.1
  obtain⟨g0,g1,g2⟩:=dA hl
  rcases hs with⟨rfl,rfl⟩ |⟨b,cap,c,rfl,_⟩
  ·
   simp at g2
  ·
   exact⟨.pointer (some ⟨b,i.toNat * t.cells,none⟩),by simp [execOp,ho,e1,e2,lL hT he b 0 l.length cap k i g0 g1 w],by simp [A.holds,ry]⟩
theorem dI{b off N m:Nat}{g:Bool}{k:IntKind}{i:Int}{e:TypeId}(ho:o.op= .indexAddr T x y)(hT:P.underlying T=some (.array N e))(he:dY P e m g)(h0:0≤i)(h1:i < N):
 bo M o [(x,.eq (.pointer (some ⟨b,off,none⟩))),(y,.eq (.int k i))] [] (fun _:Unit=>(.eq (.pointer (some ⟨b,off+i.toNat * m,none⟩)),[])):=
 .val0 fun S w a h=>by
  have e1:a.eval x= .pointer (some ⟨b,off,none⟩):=h.1
  have e2:a.eval y= .int k i:=h.2.1
  exact⟨_,by simp [execOp,ho,e1,e2,Instr.indexAt,asIntOf,run_underlying hT,Instr.sureAddr,h0,h1,he.size,gG],rfl⟩
theorem bZ{N:Nat}{t:Ty}{l:List t.den}{g:Bool}{k:IntKind}{i:Int}{d:t.den}{e:TypeId}(ho:o.op= .indexAddr T x y)(hT:P.underlying T=some (.array N e))(he:dY P e t.cells g)(hl:aO l i=some d):
 bo M o [(x,.at (.arr N t) l),(y,.eq (.int k i))] [] (fun _:Unit=>(.at t d,[])):=
 .val0 fun S w a h=>by
  obtain⟨b,off,c,T0,fz,e0,hS,h2,h3,h4⟩:=h.1
  simp only [List.cons.injEq,and_true] at e0
  have e2:a.eval y= .int k i:=h.2.1
  obtain⟨g0,g1,g2⟩:=dA hl
  rw [h3] at g1
  obtain⟨r1,r2⟩:=ji (fun _ _ h=>aN t h) h4 g2
  refine⟨.pointer (some ⟨b,off+i.toNat * t.cells,none⟩),by simp [execOp,ho,e0,e2,Instr.indexAt,asIntOf,run_underlying hT,Instr.sureAddr,g0,g1,he.size,gG],b,_,c,T0,fz,rfl,hS,h2,?_⟩
  rw [List.drop_take,List.take_take,List.drop_drop,Nat.min_eq_left] at r1
  ·
   exact r1
  ·
   have:i.toNat < N:=by omega
   calc t.cells=(i.toNat+1) * t.cells - i.toNat * t.cells:=by rw [Nat.add_mul];omega
    _≤N * t.cells - i.toNat * t.cells:=Nat.sub_le_sub_right (Nat.mul_le_mul_right _ this) _
theorem cH{p:Addr}(ho:o.op= .nilCheck x):bo M o [(x,.eq (.pointer (some p)))] [] (fun _:Unit=>(.eq (.pointer (some p)),[])):=
 bo.val0 (hns:=fun _ _ a h=>C6 ho (.inl ⟨_,h.1⟩)) fun S w a h=>by
  have e:a.eval x= .pointer (some p):=h.1
  exact⟨_,by simp [execOp,ho,e],rfl⟩
end
inductive pJ:A→(t:Ty)→t.den→Prop
 |int {k:IntKind} {n:Int}:pJ (.eq (.int k n)) (.int k) n
 |bool {b:Bool}:pJ (.eq (.bool b)) .bool b
 |str {b:ByteArray}:pJ (.eq (.string b)) .str b
 |val {v:Value} (h:bD v=true):pJ (.eq v) .val v
 |rep {t:Ty} {x:t.den}:pJ (.rep t x) t x
 |ptr {t:Ty} {x:t.den}:pJ (.at t x) (.ptr t) x
 |pair {a b:A} {t u:Ty} {x:t.den} {y:u.den}:pJ a t x→pJ b u y→pJ (.pair a b) (.pair t u) (x,y)
 |agg {a:A} {t:Ty} {x:t.den}:pJ a t x→pJ (.agg a) (.agg t) x
 |nil {t:Ty} {a:Option Addr} {c:Nat}:pJ (.eq (.slice a 0 c)) (.slice t) []
 |tag0 {t0 t1:TypeId} {n:Int}:pJ (.eq (.iface t0 (.int .i64 n))) (.tag t0 t1) (false,n)
 |tag1 {t0 t1:TypeId} {n:Int}:pJ (.eq (.iface t1 (.int .i64 n))) (.tag t0 t1) (true,n)
 |ign {v:Value} (h:bD v=true):pJ (.eq v) .ign ()
 |altL {a:A} {t:Ty} {x:t.den} (h:t.cells=1):pJ a t x→pJ a (.alt t) (.inl x)
 |altR {v:Value} {t:Ty} (h:bD v=true):pJ (.eq v) (.alt t) (.inr v)
 |lnil {t:Ty}:pJ (.eq (.pointer none)) (.lst t) []
 |lcons {t:Ty} {x:t.den} {l:List t.den}:pJ (.at (.agg (.pair t (.lst t))) (x,l)) (.lst t) (x::l)
theorem pJ.cells{S:FS}{w:World}{a:A}{t:Ty}{x:t.den}(h:pJ a t x):∀{cs:List Value},a.cells S w cs→rd S w t x cs:=by
 induction h with
 |int=>intro cs h;exact h.1
 |bool=>intro cs h;exact h.1
 |str=>intro cs h;exact h.1
 |val hv=>intro cs h;exact h
 |rep=>intro cs h;exact h
 |ptr=>intro cs h;exact h
 |pair _ _ ih1 ih2=>rintro cs ⟨c1,c2,e,h1,h2⟩;exact⟨c1,c2,e,ih1 h1,ih2 h2⟩
 |agg _ ih=>intro cs h;exact ih h
 |nil=>intro cs h;exact .inl ⟨_,_,h.1,rfl⟩
 |tag0=>intro cs h;exact h.1
 |tag1=>intro cs h;exact h.1
 |ign hv=>intro cs h;exact⟨_,h⟩
 |altL ht _ ih=>intro cs h;exact⟨ih h,(aN _ (ih h)).trans ht⟩
 |altR hv=>intro cs h;exact h
 |lnil=>intro cs h;exact h.1
 |lcons=>rintro cs ⟨b,off,c,T,fz,e,hb,hc,c1,c2,e2,h1,h2⟩;exact⟨b,off,c,T,fz,c1,c2,e,hb,hc,e2,h1,h2⟩
theorem pJ.holds{S:FS}{w:World}{a:A}{t:Ty}{x:t.den}(h:pJ a t x)(hs:a.stor)(hg:a.isAgg=t.isAgg){v:Value}(hv:a.holds S w v):(FG t x).holds S w v:=by
 obtain⟨h1,_,h3⟩:=eh hv hs;rw [h3,hg];exact jp (h.cells h1)
section
variable {P:Program}{M:Md P}{o:Oper}{x y z:Operand}{T T':TypeId}{r r':A}
theorem f6(w:World)(ob:Obj)(b:Nat)(hb:b < w.heap.size):(w.alloc ob).heap[b]? =w.heap[b]? :=heap_alloc_old w ob hb
theorem bW{b:Nat}(h:ap [] b):False:=by obtain⟨d,hd,_⟩:=h;simp at hd
theorem ii{d:D}{b:Nat}:ap [d] b↔d.foot=some b:=⟨fun⟨e,he,h⟩=>by simp at he;subst he;exact h,fun h=>⟨d,by simp,h⟩⟩
theorem jU{b b':Nat}{T:TypeId}{a:A}:ap [.obj b T a] b'↔b'=b:=by rw [ii];simp [D.foot,eq_comm]
theorem fS{d:D}{S:FS}{w:World}(h:d.holds S w)(hf:∀b,d.foot=some b→¬S b∧b < w.heap.size):gg [d] S w:=
 ⟨fun e he=>by simp at he;subst he;exact h,fun b hb=>hf b (ii.1 hb),List.pairwise_singleton _ _⟩
theorem uo{S:FS}{w:World}:gg [] S w:=⟨fun e he=>by simp at he,fun b hb=>(bW hb).elim,List.Pairwise.nil⟩
theorem fD{X:Nat→Prop}{S:FS}{w:World}(hd:∀b,S b→b < w.heap.size)(ob:Obj):jZ X S w S (w.alloc ob):=
 ⟨fun _ h=>h,fun _ h=>.inl h,fun b h=>by have:=hd b h;simp;omega,by simp,fun b hb _=>f6 w ob b hb,rfl,rfl,rfl⟩
theorem uc{X:Nat→Prop}{S:FS}{w:World}(hd:∀b,S b→b < w.heap.size)(ob:Obj):jZ X S w (fun b=>S b∨b=w.heap.size) (w.alloc ob):=
 ⟨fun _ h=>.inl h,fun b h=>h.imp id (fun e=>.inl (by omega)),fun b h=>h.elim (fun h=>by have:=hd b h;simp;omega) (fun h=>by subst h;simp),by simp,fun b hb _=>f6 w ob b hb,rfl,rfl,rfl⟩
theorem wB(ho:o.op= .box T x)(hs:r.stor):bo M o [(x,r)] [] (fun b:Nat=>(.eq (.pointer (some ⟨b,0,none⟩)),[.obj b T r])):=by
 refine vB.T ⟨by simp only [nd, *],fun S w a next hd hN _ k=>?_⟩ (fun _ _ a _ _=>im (by simp only [sc, *]) a.eval) (fun d hd=>by first |(simp at hd;done) |(simp at hd;subst hd;trivial));obtain⟨h1,h2,_⟩:=eh hN.1 hs
 have hr:(execOp a.eval o).run P w= .ok (.value (.pointer (some ⟨w.heap.size,0,none⟩))) (w.alloc (.cells (a.eval x).cells T)):=by
  simp [execOp,ho,Instr.box,newVar,newRow]
 rw [hr];refine k w.heap.size S _ _ (fD hd _) rfl (fS ⟨(a.eval x).cells.toList,?_,?_⟩ ?_) ?_
 ·rw [Array.toArray_toList];exact heap_alloc_new w _
 ·exact A.cells_mono (fun _ h=>h) (fun b hb=>f6 w _ b (hd b hb)) r h1
 ·intro b hb;simp only [D.foot,Option.some.injEq] at hb;subst hb;exact⟨fun h=>by have:=hd _ h;omega,by simp⟩
 ·intro b hb;rw [jU] at hb;subst hb;exact .inr (Nat.le_refl _)
theorem bj{zv:Value}{a0:A}(ho:o.op= .alloc T)(hz:∀w,(zeroValue T).run P w= .ok zv w)(ha:∀S w,a0.cells S w zv.cells.toList):
 bo M o [] [] (fun b:Nat=>(.eq (.pointer (some ⟨b,0,none⟩)),[.obj b T a0])):=by
 refine vB.T ⟨by simp only [nd, *],fun S w a next hd hN _ k=>?_⟩ (fun _ _ a _ _=>im (by simp only [sc, *]) a.eval) (fun d hd=>by first |(simp at hd;done) |(simp at hd;subst hd;trivial))
 have hr:(execOp a.eval o).run P w= .ok (.value (.pointer (some ⟨w.heap.size,0,none⟩))) (w.alloc (.cells zv.cells T)):=by
  simp [execOp,ho,Instr.alloc,hz,newVar,newRow]
 rw [hr]
 refine k w.heap.size S _ _ (fD hd _) rfl (fS ⟨zv.cells.toList,?_,ha _ _⟩ ?_) ?_
 ·
  rw [Array.toArray_toList];exact heap_alloc_new w _
 ·
  intro b hb;simp only [D.foot,Option.some.injEq] at hb;subst hb;exact⟨fun h=>by have:=hd _ h;omega,by simp⟩
 ·
  intro b hb;rw [jU] at hb;subst hb;exact .inr (Nat.le_refl _)
theorem qK{X:Nat→Prop}{S:FS}{w:World}(hd:∀b,S b→b < w.heap.size){b:Nat}(hX:X b)(ob:Obj):jZ X S w S { w with heap:=w.heap.setIfInBounds b ob }:=
 ⟨fun _ h=>h,fun _ h=>.inl h,fun b h=>by simpa using hd b h,by simp,fun b' _ hx=>by
  have hne:b≠b':=fun e=>hx (by rw [←e];exact hX)
  simp [Array.getElem?_setIfInBounds_ne hne],rfl,rfl,rfl⟩
theorem aP{b off n:Nat}{g:Bool}{T0:TypeId}{a0 a1:A}(ho:o.op= .store T x y)(ht:dY P T n g)(hs:r.stor)(hset:a0.set off n r.isAgg r=some a1)(hn:r.n=n):
 bo M o [(x,.eq (.pointer (some ⟨b,off,none⟩))),(y,r)] [.obj b T0 a0] (fun _:Unit=>(.eq undef,[.obj b T0 a1])):=by
 refine vB.T ⟨by simp only [nd, *],fun S w a next hd hN hO k=>?_⟩ (fun _ _ a _ _=>im (by simp only [sc, *]) a.eval) (fun d hd=>by first |(simp at hd;done) |(simp at hd;subst hd;trivial))
 have e1:a.eval x= .pointer (some ⟨b,off,none⟩):=hN.1
 obtain⟨h1,h2,_⟩:=eh hN.2.1 hs
 obtain⟨cs,h3,h4⟩:=hO.holds _ (by simp:D.obj b T0 a0∈[D.obj b T0 a0])
 obtain⟨hnb,hbs⟩:=hO.own b (jU.2 rfl)
 have l:=a0.cells_length h4
 obtain⟨q1,q2⟩:=lE a0 h4 h1 (h2.trans hn) hset
 have hst:=kW P b T0 off (a.eval y).cells.toList 0 w cs.toArray h3 (fun v hv=>oS r h1 v hv) (by simp only [Nat.add_zero,List.size_toArray];omega)
 have hsz:(a.eval y).cells.size=n:=by rw [←Array.length_toList];omega
 have hr:(execOp a.eval o).run P w= .ok .skip { w with heap:=w.heap.setIfInBounds b (.cells (cs.take off++(a.eval y).cells.toList++cs.drop (off+n)).toArray T0 (0,0)) }:=by
  simp only [Nat.add_zero,h2,hn] at hst;simp [execOp,ho,Instr.storeAt,e1,Instr.sureAddr,storeVar,ht.size,hsz,hst]
 rw [hr]
 have hK:fW S w { w with heap:=w.heap.setIfInBounds b (.cells (cs.take off++(a.eval y).cells.toList++cs.drop (off+n)).toArray T0 (0,0)) }:=fun b' hb'=>by
  have hne:b≠b':=fun e=>hnb (by rw [e];exact hb');simp [Array.getElem?_setIfInBounds_ne hne]
 refine k () S _ _ (qK hd (jU.2 rfl) _) rfl (fS ⟨_,by simp [hbs],A.cells_mono (fun _ h=>h) hK a1 q1⟩ ?_) (fun b' hb'=>.inl ?_)
 ·
  intro b' hb';simp only [D.foot,Option.some.injEq] at hb';subst hb';exact⟨hnb,by simpa using hbs⟩
 ·
  rw [jU] at hb'⊢;exact hb'
@[reducible] def wP(places:Array (Nat×Nat)):A→List (Nat×Operand×A)→Option A
 |a,[]=>some a
 |a,(i,_,r)::rest=>match places[i]? with
  |some (off,n)=>if r.n=n then(match a.set off n r.isAgg r with |some a'=>wP places a' rest |none=>none) else none
  |none=>none
theorem wO(new:List Value)(off:Nat):∀(k:Nat) (cs:Array Value),off+k+new.length≤cs.size→
 ((new.zipIdx k).foldl (fun(cs:Array Value) (p:Value×Nat)=>cs.setIfInBounds (off+p.2) p.1) cs).toList=cs.toList.take (off+k)++new++cs.toList.drop (off+k+new.length):=by
 induction new with
 |nil=>intro k cs _;simp
 |cons v new ih=>
  intro k cs h;simp only [List.length_cons] at h;simp only [List.zipIdx_cons,List.foldl_cons];rw [ih (k+1) _ (by simp;omega)];have hlt:off+k < cs.size:=by omega
  rw [Array.toList_setIfInBounds,List.set_eq_take_append_cons_drop,if_pos (by simpa using hlt)];have lt:(cs.toList.take (off+k)).length=off+k:=by simp;omega
  have e2:off+(k+1)=(cs.toList.take (off+k)).length+1:=by omega
  rw [e2,t8,uY,List.drop_drop];simp only [List.append_assoc,List.cons_append,List.nil_append,List.length_cons];rw [show off+k+1+new.length=off+k+(new.length+1) by omega]
theorem EP{S:FS}{w:World}{a:Act}(places:Array (Nat×Nat)):∀(ps:List (Nat×Operand×A)) (a0 a1:A) (cs:Array Value),a0.cells S w cs.toList→bC S w a (ps.map (·.2))→(∀p∈ps,p.2.2.stor)→wP places a0 ps=some a1→
 ∃cs',Instr.fill (places[·]?) cs (ps.map fun p=>(p.1,a.eval p.2.1))=some cs'∧a1.cells S w cs'.toList:=by
 intro ps
 induction ps with
 |nil=>intro a0 a1 cs h _ _ hf;simp only [wP,Option.some.injEq] at hf;subst hf;exact⟨cs,rfl,h⟩
 |cons p ps ih=>
  obtain⟨i,x,r⟩:=p;intro a0 a1 cs h hN hs hf;obtain⟨h1,h2,_⟩:=eh hN.1 (hs (i,x,r) (by simp));simp only [wP] at hf;cases hp:places[i]? with
  |none=>rw [hp] at hf;cases hf
  |some q=>
   obtain⟨off,n⟩:=q;rw [hp] at hf;simp only at hf;split at hf
   ·rename_i hn;split at hf
    ·rename_i a' ha';have l:=a0.cells_length h;obtain⟨q1,q2⟩:=lE a0 h h1 (h2.trans hn) ha';have hsz:(a.eval x).cells.size=n:=by rw [←Array.length_toList];omega
     have hle:off+(a.eval x).cells.size≤cs.size:=by rw [←Array.length_toList (xs:=cs)];omega
     have hfold:=wO (a.eval x).cells.toList off 0 cs (by simp only [Array.length_toList];omega)
     have hcs:((a.eval x).cells.zipIdx.foldl (fun cs (c,j)=>cs.setIfInBounds (off+j) c) cs).toList=cs.toList.take off++(a.eval x).cells.toList++cs.toList.drop (off+n):=by
      rw [←Array.foldl_toList,Array.toList_zipIdx];simp only [Nat.add_zero,Array.length_toList,hsz] at hfold;exact hfold
     obtain⟨cs',e,h3⟩:=ih a' a1 _ (by rw [hcs];exact q1) hN.2 (fun p hp=>hs p (List.mem_cons_of_mem _ hp)) hf;refine⟨cs',?_,h3⟩;simp only [List.map_cons,Instr.fill,hp];rw [if_neg (by simp [hsz];omega)];exact e
    ·cases hf
   ·cases hf
theorem Kt{fs:Array Field}{places:Array (Nat×Nat)}{zv:Value}{a0 a1:A}(ps:List (Nat×Operand×A))(ho:o.op= .build T (ps.map fun p=>(p.1,p.2.1)).toArray)(hT:P.underlying T=some (.struct fs))
 (hpl:∀w,(fs.mapM fun f=>(do pure (f.offset,←sizeOf f.type):Sem (Nat×Nat))).run P w= .ok places w) (hz:∀w,(zeroValue T).run P w= .ok zv w) (ha:∀S w,a0.cells S w zv.cells.toList)
 (hs:∀p∈ps,p.2.2.stor) (hf:wP places a0 ps=some a1):bo M o (ps.map (·.2)) [] (fun _:Unit=>(.agg a1,[])):=
 .val0 fun S w a hN=>by
  obtain⟨cs',e,h⟩:=EP places ps a0 a1 zv.cells (ha S w) hN hs hf
  refine⟨.agg cs',?_,cs'.toList,h,by simp⟩
  simp only [execOp,ho,Instr.build,Sem.run_bind,hz,Result.andThen_ok,run_underlying hT,hpl,Sem.run_pure]
  have e':((ps.map fun p=>(p.1,p.2.1)).toArray.map fun(q:Nat×Operand)=>(q.1,a.eval q.2)).toList=ps.map fun p=>(p.1,a.eval p.2.1):=by simp
  rw [e',e]
  rfl
end
theorem N4(v:Value):v.oneCell'=bD v:=by cases v <;> rfl
structure pz(P:Program)(T e:TypeId)(n bytes:Nat):Prop where
 und:P.underlying T=some (.slice e)
 ex:∃i z,P.info? e=some i∧i.zero=some z∧i.size=n∧i.bytes=bytes∧z.cells.size=n
 pos:0 < n
 small:bytes≤32768
theorem pz.of{P:Program}{T e:TypeId}{n bytes:Nat}{z:Value}(hu:P.underlying T=some (.slice e))(h:(P.info? e).map (fun i=>(i.zero,i.size,i.bytes))=some (some z,n,bytes))(hz:z.cells.size=n)(hp:Nat.blt 0 n=true)(hb:Nat.ble bytes 32768=true):pz P T e n bytes:=by
 obtain⟨i,h1,h2⟩:=Option.map_eq_some_iff.1 h;simp only [Prod.mk.injEq] at h2;exact⟨hu,⟨i,z,h1,h2.1,h2.2.1,h2.2.2,hz⟩,Nat.blt_eq▸hp,Nat.le_of_ble_eq_true hb⟩
theorem pz.size{P:Program}{T e:TypeId}{n bytes:Nat}(h:pz P T e n bytes)(w:World):(sizeOf e).run P w= .ok n w:=by
 obtain⟨i,z,h1,_,h3,_⟩:=h.ex;simp [sizeOf,typeInfo,h1,h3]
theorem GH{S:FS}{w:World}{v:Value}{T:TypeId}{t:Ty}{l:List t.den}:(D.sl v T t l).holds S w↔∃xs,w.ownsRow 0 T t.cells v l.length xs∧dH (rd S w t) l xs:=by
 constructor
 ·rintro(⟨rfl,rfl⟩ |⟨b,cap,c,rfl,h1,h1',h2,h3,h4⟩)
  ·exact⟨[],World.ownsRow_nil w 0 T t.cells,rfl⟩
  ·exact⟨_,⟨kC (fun _ _ h=>aN t h) h4,.inr ⟨b,cap,c,rfl,Nat.zero_le _,h2,h1,h1',h3,rfl⟩⟩,h4⟩
 ·rintro⟨xs,⟨h1,h2⟩,h3⟩;rcases h2 with⟨rfl,h2⟩ |⟨g,cap,cur,rfl,_,h4,h5,h6,h7,h8⟩
  ·exact .inl ⟨rfl,List.length_eq_zero_iff.1 h2⟩
  ·exact .inr ⟨g,cap,cur,rfl,h5,h6,h4,h7,by rw [h8];exact h3⟩
theorem A1{X:Nat→Prop}{S:FS}{w w':World}(hd:∀b,S b→b < w.heap.size){kA:Option Nat}(hX:∀b,kA=some b→X b)(h:w.grownBy w' kA):jZ X S w S w':=
 ⟨fun _ h=>h,fun _ h=>.inl h,fun b hb=>Nat.lt_of_lt_of_le (hd b hb) h.size,h.size,fun b hb hx=>h.block b hb (fun e=>hx (hX b e.symm)),h.os,h.tape,h.output⟩
theorem qO{α:Type}{R:α→List Value→Prop}:∀{l1 l2:List α} {c1 c2:List Value},dH R l1 c1→dH R l2 c2→dH R (l1++l2) (c1++c2)
 |[],_,_,_,h1,h2=>by simp [dH] at h1;subst h1;exact h2
 |x::l1,_,_,_,⟨a,b,rfl,h,h1⟩,h2=>⟨a,b++_,by rw [List.append_assoc],h,qO h1 h2⟩
theorem Ba{α:Type}{R:α→List Value→Prop}{m:Nat}(hR:∀x cs,R x cs→cs.length=m)(k:Nat):∀{l:List α} {cs:List Value},dH R l cs→dH R (l.take k) (cs.take (k * m)):=by
 induction k with
 |zero=>intro l cs _;simp [dH]
 |succ k ih=>
  intro l cs h;cases l with
  |nil=>simp [dH] at h;subst h;simp [dH]
  |cons x l=>
   obtain⟨a,b,rfl,h1,h2⟩:=h;have la:=hR _ _ h1;refine⟨a,b.take (k * m),?_,h1,ih h2⟩;rw [List.take_append,List.take_of_length_le (by rw [la,Nat.add_mul];omega),la,Nat.add_mul,Nat.one_mul,Nat.add_sub_cancel]
theorem wv{α:Type}{R:α→List Value→Prop}{d:α}{cs:List Value}(h:R d cs):∀m:Nat,dH R (List.replicate m d) (List.replicate m cs).flatten
 |0=>rfl
 |m+1=>⟨_,_,rfl,h,wv h m⟩
section
variable {P:Program}{M:Md P}{o:Oper}{x y z:Operand}{T T' e:TypeId}{r r':A}{t:Ty}
def bK(n:Nat):Prop:=n≤4294967296
instance (n:Nat):Decidable (bK n):=by unfold bK;infer_instance
theorem Ez{S:FS}{w:World}{v:Value}{l:List t.den}(h:(D.sl v T t l).holds S w):∃b n c,v= .slice b n c:=by
 rcases h with⟨rfl,_⟩ |⟨b,cap,c,rfl,_⟩ <;> exact⟨_,_,_,rfl⟩
theorem Ey{S:FS}{w:World}{v:Value}{l:List t.den}(h:(A.rep (.slice t) l).holds S w v):∃b n c,v= .slice b n c:=by
 obtain⟨cs,h1,rfl⟩:=h;rcases h1 with⟨a0,cap,rfl,_⟩ |⟨b,off,cap,cc,T0,fz,rfl,_⟩ <;> exact⟨_,_,_,rfl⟩
theorem By{c:Call}(ho:o.op= .call c)(hc:c={ callee:=.builtin .append,args:= #[x,y],argTypes:= #[T,T] })(hT:P.underlying T=some (.slice e)){ρ:Operand→Value}(hx:∃b n c,ρ x= .slice b n c)(hy:∃b n c,ρ y= .slice b n c):Ns P (execOp ρ o):=by
 obtain⟨b,n,cc,e1⟩:=hx;obtain⟨b2,n2,c2,e2⟩:=hy;unfold execOp;rw [ho,hc];have e: #[x,y].map ρ= #[ρ x,ρ y]:=by simp
 have key:Ns P (builtin .append #[T,T] o.type (#[x,y].map fun | .const _=>true |_=>false) (#[x,y].map ρ)):=by
  rw [e,e1,e2];exact iK (EJ hT)
 exact key
theorem cj{v:Value}{l l2:List t.den}{bytes:Nat}{c:Call}(ho:o.op= .call c)(hc:c={ callee:=.builtin .append,args:= #[x,y],argTypes:= #[T,T] })(hT:pz P T e t.cells bytes)
 (hl:bK (l.length+l2.length)):bo M o [(x,.eq v),(y,.rep (.slice t) l2)] [.sl v e t l] (fun v':Value=>(.eq v',[.sl v' e t (l++l2)])):=by
 refine vB.T ⟨by simp only [nd, *],fun S w a next hd hN hO k=>?_⟩ (fun S w a hN hO=>By ho hc hT.und (by
  have e1:a.eval x=v:=hN.1;rw [e1];exact Ez (hO.holds _ (List.mem_cons_self ..))) (Ey hN.2.1)) (fun d hd=>by simp at hd;subst hd;trivial)
 have e1:a.eval x=v:=hN.1
 obtain⟨cs2,h2,e2⟩:=hN.2.1
 have hown:=hO.holds _ (by simp:D.sl v e t l∈[D.sl v e t l])
 obtain⟨xs,hrow,hrd⟩:=GH.1 hown
 obtain⟨i,zv,q1,q2,q3,q4,q5⟩:=hT.ex
 unfold bK at hl
 have hsm:=hT.small
 have main:∃v' w' news,(Builtin.append_ #[T,T] o.type #[v,a.eval y]).run P w= .ok v' w'∧w'.ownsRow 0 e t.cells v' (l.length+l2.length) (xs++news)∧w.grownBy w' v.ownBlock∧dH (rd S w t) l2 news∧(v'.ownBlock=v.ownBlock∨v'.ownBlock=some w.heap.size):=by
  rcases h2 with⟨a0,cap,rfl,rfl⟩ |⟨b,off,cap,cc,T0,fz,rfl,hle,hS,hb,hr⟩
  ·have ey:a.eval y= .slice a0 0 cap:=e2
   have hr0:(Builtin.append_ #[T,T] o.type #[v,.slice a0 0 cap]).run P w= .ok v w:=by
    rcases hrow.2 with⟨rfl,hn⟩ |⟨g,cap',cur,rfl,_,_,hnc,_⟩
    ·cases a0 <;> simp [Builtin.append_,run_underlying hT.und,sizeOf,typeInfo,q1,Builtin.lenOf,Builtin.firstCells,loadCells,loadCellsFrom]
    ·cases a0 <;> simp [Builtin.append_,run_underlying hT.und,sizeOf,typeInfo,q1,Builtin.lenOf,Builtin.firstCells,hnc,storeCells,loadCells,loadCellsFrom]
   exact⟨v,w,[],by rw [ey];exact hr0,by simpa using hrow,⟨rfl,rfl,rfl,Nat.le_refl _,fun _ _ _=>rfl⟩,rfl,.inl rfl⟩
  ·have ey:a.eval y= .slice (some ⟨b,off,none⟩) l2.length cap:=e2;have hlen:=kC (fun _ _ h=>aN t h) hr;have hone:=rT (fun _ _ h=>xq t h) hr;have hb1:l.length+l2.length≤maxLen:=by unfold maxLen;omega
   have hb2:(l.length+l2.length) * bytes≤140737488355328:=by
    calc (l.length+l2.length) * bytes≤4294967296 * 32768:=Nat.mul_le_mul hl hsm
     _≤140737488355328:=by decide
   obtain⟨v',w',g1,g2,g3,_,g5⟩:=run_append_own_at (P:=P) w 0 T o.type e i zv t.cells bytes hT.und q1 q2 q3 q4 q5 hT.pos v l.length xs hrow ⟨b,off,none⟩ l2.length cap _ hlen
    (fun j u hu=>by
     rw [gG];rw [List.getElem?_take] at hu;split at hu
     ·simp only [List.getElem?_drop,Array.getElem?_toList] at hu;simp [World.cell?,hb,hu]
     ·cases hu) (fun u hu=>by rw [N4];exact hone u hu) hb1 hb2 (Nat.zero_le _)
   exact⟨v',w',_,by rw [ey];exact g1,g2,g3,hr,g5⟩
 obtain⟨v',w',news,g1,g2,g3,g4,g5⟩:=main
 have hr:(execOp a.eval o).run P w= .ok (.value v') w':=by
  simp [execOp,ho,hc,resolve,invoke,builtin,e1,g1]
 have hX:∀b,v.ownBlock=some b→ap [D.sl v e t l] b:=fun b h=>ii.2 h
 have hK:fW S w w':=fun b hb=>g3.block b (hd b hb) (fun h=>(hO.own b (hX b h.symm)).1 hb)
 have hlen':(l++l2).length=l.length+l2.length:=by simp
 rw [hr]
 refine k v' S w' v' (A1 hd hX g3) rfl (fS (GH.2 ⟨xs++news,by rw [hlen'];exact g2,qO (cu (fun _ _ h=>dP (fun _ h=>h) hK t h) hrd) (cu (fun _ _ h=>dP (fun _ h=>h) hK t h) g4)⟩) ?_) ?_
 ·
  intro b hb;have hb':v'.ownBlock=some b:=hb;refine⟨fun hS=>?_,(g2.lt b hb).2⟩;rcases g5 with g5 |g5
  ·exact(hO.own b (hX b (by rw [←g5];exact hb'))).1 hS
  ·rw [g5] at hb';cases hb';have:=hd _ hS;omega
 ·
  intro b hb;have hb':v'.ownBlock=some b:=ii.1 hb;rcases g5 with g5 |g5
  ·exact .inl (hX b (by rw [←g5];exact hb'))
  ·rw [g5] at hb';cases hb';exact .inr (Nat.le_refl _)
inductive yv(t:Ty):List (Operand×A)→List t.den→Prop
 |nil:yv t [] []
 |cons {x:Operand} {r:A} {d:t.den} {ps:List (Operand×A)} {l:List t.den} (hs:r.stor) (h:pJ r t d) (ht:yv t ps l):yv t ((x,r)::ps) (d::l)
theorem BQ{S:FS}{w:World}{a:Act}{m:Nat}(hm:t.cells=m):∀(ps:List (Operand×A)) (l:List t.den) (k:Nat) (cs:Array Value),yv t ps l→bC S w a ps→(k+ps.length) * m≤cs.size→
 ∃news cs',Instr.fill (fun i=>some (i * m,m)) cs ((ps.zipIdx k).map fun p=>(p.2,a.eval p.1.1))=some cs'∧dH (rd S w t) l news∧news.length=l.length * m∧
  cs'.toList=cs.toList.take (k * m)++news++cs.toList.drop (k * m+news.length):=by
 intro ps
 induction ps with
 |nil=>
  intro l k cs he _ hk;cases he;exact⟨[],cs,rfl,rfl,by simp,by simp⟩
 |cons p ps ih=>
  obtain⟨x,r⟩:=p;intro l k cs he hN hk;cases he with
  |cons hs h ht=>
  rename_i d l;obtain⟨h1,h2,_⟩:=eh hN.1 hs;have h3:=h.cells h1;have l3:=aN t h3;simp only [List.length_cons] at hk;have e1:(k+1) * m=k * m+m:=by rw [Nat.add_mul];omega
  have e2:(k+(ps.length+1)) * m=k * m+m+ps.length * m:=by rw [Nat.add_mul,Nat.add_mul];omega
  have hsz:(a.eval x).cells.size=m:=by rw [←Array.length_toList];omega
  have hfold:=wO (a.eval x).cells.toList (k * m) 0 cs (by simp only [Array.length_toList];omega)
  have hcs:((a.eval x).cells.zipIdx.foldl (fun cs (c,j)=>cs.setIfInBounds (k * m+j) c) cs).toList=cs.toList.take (k * m)++(a.eval x).cells.toList++cs.toList.drop (k * m+m):=by
   rw [←Array.foldl_toList,Array.toList_zipIdx];simp only [Nat.add_zero,Array.length_toList,hsz] at hfold;exact hfold
  have hsize:((a.eval x).cells.zipIdx.foldl (fun cs (c,j)=>cs.setIfInBounds (k * m+j) c) cs).size=cs.size:=by
   rw [←Array.length_toList,hcs,←Array.length_toList (xs:=cs)];simp only [List.length_append,List.length_take,List.length_drop,Array.length_toList,hsz];omega
  obtain⟨news,cs',e,g1,g2,g3⟩:=ih l (k+1) _ ht hN.2 (by rw [hsize];have:(k+1+ps.length) * m=k * m+m+ps.length * m:=by rw [Nat.add_mul,Nat.add_mul];omega
                                                        omega)
  refine⟨(a.eval x).cells.toList++news,cs',?_,⟨_,_,rfl,h3,g1⟩,by simp only [List.length_append,List.length_cons,Array.length_toList,hsz,g2,Nat.add_mul];omega,?_⟩
  ·simp only [List.zipIdx_cons,List.map_cons,Instr.fill];rw [if_neg (by simp [hsz];omega)];exact e
  ·rw [g3,hcs,e1];have e5:(a.eval x).cells.toList.length=m:=by rw [Array.length_toList,hsz]
   have lt:(cs.toList.take (k * m)++(a.eval x).cells.toList).length=k * m+m:=by
    simp only [List.length_append,List.length_take,Array.length_toList,hsz];omega
   rw [List.take_append_of_le_length (by omega),List.take_of_length_le (by omega),List.drop_append,List.drop_eq_nil_of_le (by omega),List.nil_append,lt,List.drop_drop,List.length_append,e5];rw [show k * m+m+(k * m+m+news.length - (k * m+m))=k * m+(m+news.length) by omega,List.append_assoc (cs.toList.take (k * m))]
theorem oa{bytes:Nat}(hT:pz P T e t.cells bytes){S:FS}{w:World}{a:Act}(ps:List (Operand×A))(l:List t.den)(he:yv t ps l)(hN:bC S w a ps)(hn:ps.length * t.cells≤16777216)(hl:l.length=ps.length):
 ∃news,(Instr.buildSlice T ps.length (ps.zipIdx.map fun p=>(p.2,a.eval p.1.1)).toArray).run P w= .ok (.slice (some ⟨w.heap.size,0,none⟩) l.length l.length) (w.alloc (.cells news.toArray e))∧dH (rd S w t) l news∧news.length=l.length * t.cells:=by
 obtain⟨i,zv,q1,q2,q3,q4,q5⟩:=hT.ex
 have hsz:=hT.size w
 by_cases hz:ps.length * t.cells=0
 ·
  have hp:ps=[]:=by
   have:=hT.pos;rcases Nat.mul_eq_zero.1 hz with h |h
   ·exact List.length_eq_zero_iff.1 h
   ·omega
  subst hp;cases he;refine⟨[],?_,rfl,by simp⟩;simp [Instr.buildSlice,run_underlying hT.und,hsz,Instr.fill,newRow,Array.range_zero']
 ·
  obtain⟨news,cs',e1,g1,g2,g3⟩:=BQ rfl ps l 0 ((Array.range (ps.length * t.cells)).map (zv.cells[· % zv.cells.size]!)) he hN (by simp);refine⟨news,?_,g1,g2⟩
  have e2:cs'=news.toArray:=by
   apply Array.ext';rw [g3,Nat.zero_mul,List.take_zero,List.nil_append,Nat.zero_add,List.drop_eq_nil_of_le (by simp [g2,hl]),List.append_nil]
  subst e2;have hn':¬(16777216 < ps.length * t.cells):=by omega
  simp only [Instr.buildSlice,Sem.run_bind,run_underlying hT.und,Result.andThen_ok,hsz];simp [hn',hz,zeroValue,typeInfo,q1,q2,newRow];rw [e1];simp [hl]
theorem EF{bytes n:Nat}(ps:List (Operand×A))(l:List t.den)(ho:o.op= .buildSlice T n (ps.zipIdx.map fun p=>(p.2,p.1.1)).toArray)(hn:n=ps.length)(hT:pz P T e t.cells bytes)(he:yv t ps l)
 (hsz:ps.length * t.cells≤16777216) (hl:l.length=ps.length):bo M o ps [] (fun v:Value=>(.eq v,[.sl v e t l])):=by
 refine vB.T ⟨by simp only [nd, *],fun S w a next hd hN _ k=>?_⟩ (fun _ _ a _ _=>im (by simp only [sc, *]) a.eval) (fun d hd=>by first |(simp at hd;done) |(simp at hd;subst hd;trivial))
 obtain⟨news,h1,h2,h3⟩:=oa hT ps l he hN hsz hl
 have hr:(execOp a.eval o).run P w= .ok (.value (.slice (some ⟨w.heap.size,0,none⟩) l.length l.length)) (w.alloc (.cells news.toArray e)):=by
  have e1:(ps.zipIdx.map fun p=>(p.2,p.1.1)).toArray.map (fun(q:Nat×Operand)=>(q.1,a.eval q.2))=(ps.zipIdx.map fun p=>(p.2,a.eval p.1.1)).toArray:=by simp
  simp only [execOp,ho,hn,e1,Sem.run_bind,h1,Result.andThen_ok,Sem.run_pure]
 rw [hr]
 have hK:fW S w (w.alloc (.cells news.toArray e)):=fun b hb=>f6 w _ b (hd b hb)
 refine k _ S _ _ (fD hd _) rfl (fS (.inr ⟨w.heap.size,l.length,news.toArray,rfl,Nat.le_refl _,by unfold maxLen;have:=hT.pos;have:l.length * 1≤l.length * t.cells:=Nat.mul_le_mul_left _ hT.pos;rw [←hl] at hsz;omega,heap_alloc_new w _,by simpa using h3,?_⟩) ?_) ?_
 ·
  rw [List.toList_toArray,List.take_of_length_le (by omega)];exact cu (fun _ _ h=>dP (fun _ h=>h) hK t h) h2
 ·
  intro b hb;have hb':b=w.heap.size:=by simpa [D.foot,Value.ownBlock,eq_comm] using hb
  subst hb';exact⟨fun h=>by have:=hd _ h;omega,by simp⟩
 ·
  intro b hb;have hb':b=w.heap.size:=by simpa [D.foot,Value.ownBlock,eq_comm] using ii.1 hb
  exact .inr (by omega)
theorem P1{bytes n:Nat}(ps:List (Operand×A))(l:List t.den)(ho:o.op= .buildSlice T n (ps.zipIdx.map fun p=>(p.2,p.1.1)).toArray)(hn:n=ps.length)(hT:pz P T e t.cells bytes)(he:yv t ps l)
 (hsz:ps.length * t.cells≤16777216) (hl:l.length=ps.length):bo M o ps [] (fun _:Unit=>(.rep (.slice t) l,[])):=by
 refine vB.T ⟨by simp only [nd, *],fun S w a next hd hN _ k=>?_⟩ (fun _ _ a _ _=>im (by simp only [sc, *]) a.eval) (fun d hd=>by first |(simp at hd;done) |(simp at hd;subst hd;trivial))
 obtain⟨news,h1,h2,h3⟩:=oa hT ps l he hN hsz hl
 have hr:(execOp a.eval o).run P w= .ok (.value (.slice (some ⟨w.heap.size,0,none⟩) l.length l.length)) (w.alloc (.cells news.toArray e)):=by
  have e1:(ps.zipIdx.map fun p=>(p.2,p.1.1)).toArray.map (fun(q:Nat×Operand)=>(q.1,a.eval q.2))=(ps.zipIdx.map fun p=>(p.2,a.eval p.1.1)).toArray:=by simp
  simp only [execOp,ho,hn,e1,Sem.run_bind,h1,Result.andThen_ok,Sem.run_pure]
 rw [hr]
 have hK:fW S w (w.alloc (.cells news.toArray e)):=fun b hb=>f6 w _ b (hd b hb)
 refine k () _ _ _ (uc hd _) ⟨_,.inr ⟨w.heap.size,0,l.length,news.toArray,e,(0,0),rfl,Nat.le_refl _,.inr rfl,heap_alloc_new w _,?_⟩,rfl⟩ uo (fun b hb=>(bW hb).elim)
 rw [List.toList_toArray,List.drop_zero,List.take_of_length_le (by omega)]
 exact cu (fun _ _ h=>dP (fun _ h=>.inl h) hK t h) h2
theorem N6{bytes:Nat}{n:Int}{d:t.den}(ho:o.op= .makeSlice T x y)(hT:pz P T e t.cells bytes)(hz:∀i z,P.info? e=some i→i.zero=some z→∀S w,rd S w t d z.cells.toList)(h0:0≤n)(hn:bK n.toNat):
 bo M o [(x,.eq (.int .i64 n)),(y,.eq (.int .i64 n))] [] (fun v:Value=>(.eq v,[.sl v e t (List.replicate n.toNat d)])):=by
 refine vB.T ⟨by simp only [nd, *],fun S w a next hd hN _ k=>?_⟩ (fun _ _ a _ _=>im (by simp only [sc, *]) a.eval) (fun d hd=>by first |(simp at hd;done) |(simp at hd;subst hd;trivial))
 have e1:a.eval x= .int .i64 n:=hN.1
 have e2:a.eval y= .int .i64 n:=hN.2.1
 obtain⟨i,zv,q1,q2,q3,q4,q5⟩:=hT.ex
 have hsm:=hT.small
 unfold bK at hn
 obtain⟨m,rfl⟩:=Int.eq_ofNat_of_zero_le h0
 simp only [Int.toNat_natCast] at hn⊢
 have hb:i.bytes * m≤281474976710656:=by
  rw [q4]
  calc bytes * m≤32768 * 4294967296:=Nat.mul_le_mul hsm hn
   _≤281474976710656:=by decide
 have hb':(i.bytes:Int) * (m:Int)≤281474976710656:=by
  have h:((i.bytes * m:Nat):Int)≤281474976710656:=by omega
  rwa [Int.natCast_mul] at h
 have hr0:=run_make (P:=P) w T e i zv hT.und q1 q2 .i64 .i64 m m h0 (Int.le_refl _) hb' (by omega)
 simp only [Int.toNat_natCast] at hr0
 have hr:(execOp a.eval o).run P w= .ok (.value (.slice (some ⟨w.heap.size,0,none⟩) m m)) (w.alloc (.cells (madeCells zv.cells (m * i.size)) e)):=by
  simp only [execOp,ho,e1,e2,Sem.run_bind,hr0,Result.andThen_ok,Sem.run_pure]
 have hall:dH (rd S (w.alloc (.cells (madeCells zv.cells (m * i.size)) e)) t) (List.replicate m d) (madeCells zv.cells (m * i.size)).toList:=by
  rw [q3];have hzz:=hz i zv q1 q2 S (w.alloc (.cells (madeCells zv.cells (m * i.size)) e));rw [q3] at hzz;generalize (w.alloc (.cells (madeCells zv.cells (m * t.cells)) e))=w1 at hzz;clear hr hr0
  have key:∀m:Nat,(madeCells zv.cells (m * t.cells)).toList=(List.replicate m zv.cells.toList).flatten:=by
   intro m;apply List.ext_getElem?;intro j;have hp:=hT.pos;simp only [madeCells,Array.toList_map,Array.toList_range,List.getElem?_map]
   have hfl:∀(m j:Nat),(List.replicate m zv.cells.toList).flatten[j]? =if j < m * t.cells then zv.cells[j % t.cells]? else none:=by
    intro m
    induction m with
    |zero=>intro j;simp
    |succ m ih=>
     intro j;rw [List.replicate_succ,List.flatten_cons,List.getElem?_append];simp only [Array.length_toList,q5];split
     ·rename_i hj;rw [if_pos (by rw [Nat.add_mul];omega),Nat.mod_eq_of_lt hj];simp
     ·rename_i hj;rw [ih,show(m+1) * t.cells=m * t.cells+t.cells by rw [Nat.add_mul];omega]
      have:(j - t.cells) % t.cells=j % t.cells:=by
       rw [←Nat.mod_eq_sub_mod (by omega)]
      rw [this];by_cases hj2:j < m * t.cells+t.cells
      ·rw [if_pos hj2,if_pos (by omega)]
      ·rw [if_neg hj2,if_neg (by omega)]
   rw [hfl];by_cases hj:j < m * t.cells
   ·rw [if_pos hj,List.getElem?_range hj];have hlt:j % t.cells < zv.cells.size:=by rw [q5];exact Nat.mod_lt _ hp
    simp only [Option.map_some,q5];rw [Array.getElem?_eq_getElem hlt];congr 1;exact getElem!_pos zv.cells (j % t.cells) hlt
   ·rw [if_neg hj,List.getElem?_eq_none (by simpa using hj)];rfl
  rw [key];exact wv hzz m
 have hmsz:(madeCells zv.cells (m * i.size)).size=m * t.cells:=by simp [madeCells,q3]
 rw [hr]
 refine k _ S _ _ (fD hd _) rfl (fS (.inr ⟨w.heap.size,m,madeCells zv.cells (m * i.size),by simp,by simp,by unfold maxLen;omega,heap_alloc_new w _,hmsz,?_⟩) ?_) ?_
 ·
  rw [List.length_replicate,List.take_of_length_le (by rw [Array.length_toList,hmsz];exact Nat.le_refl _)];exact hall
 ·
  intro b hb;have hb':b=w.heap.size:=by simpa [D.foot,Value.ownBlock,eq_comm] using hb
  subst hb';exact⟨fun h=>by have:=hd _ h;omega,by simp⟩
 ·
  intro b hb;have hb':b=w.heap.size:=by simpa [D.foot,Value.ownBlock,eq_comm] using ii.1 hb
  exact .inr (by omega)
end
theorem aQ.re{Δ Δ':List D}{S S':FS}{v:VW}(h:aQ Δ S v)(p:gg Δ' S' v)(hf:∀b,ap Δ' b→ap Δ b)(hS:∀b,S' b→S b∨ap Δ b):aQ Δ' S' v:=
 ⟨p.holds,p.own,p.apart,fun b hb=>h.far b (hf b hb),fun b hb=>(hS b hb).elim (h.sees b) (fun hb=>(h.far b hb).1),h.domA,h.domZ⟩
theorem St.rely{c:Cx}{Γ:Ga}{Δ:List D}{a:Act}{w w1:VW}(h:St c Γ Δ a w)(hr:bh w w1):St c Γ Δ a w1:=by
 obtain⟨h1,h2,S,h3,h4,h5,h6⟩:=h;exact⟨h1,h2,S,h3.trans (bp.rely (X:=fun _=>False) h3.dom hr) (fun b hb=>hb.elim),h4,h5.rely h3.dom hr,fun s r hl=>A.mono (fun _ h=>h) (fp h3.dom h5.sees hr) r (h6 s r hl)⟩
theorem lV{d:D}{F:List D}:∀b,ap F b→ap (d::F) b:=fun _ ⟨e,he,hb⟩=>⟨e,List.mem_cons_of_mem _ he,hb⟩
section
variable {c:Cx}{ops:Array Oper}{l:List Oper}{Q:Exit→Act→VW→Prop}{Γ Γ':Ga}{Δ Δ' F:List D}
def SE(c:Cx)(Γ:Ga)(Δ:List D)(Γ':Ga)(Δ':List D):Prop:=∀a w,St c Γ Δ a w→St c Γ' Δ' a w
theorem eC(h:SE c Γ Δ Γ' Δ')(j:JO c ops l Q Γ' Δ'):JO c ops l Q Γ Δ:=fun a w s=>j a w (h a w s)
theorem jf{C:Code}(h:SE c Γ Δ Γ' Δ')(j:JC c C Q Γ' Δ'):JC c C Q Γ Δ:=fun a w s=>j a w (h a w s)
theorem bL{M:Act→VW→Prop}(h:SE c Γ Δ Γ' Δ')(j:JN c M Γ' Δ'):JN c M Γ Δ:=fun a w s=>j a w (h a w s)
theorem SE.trans{Γ'':Ga}{Δ'':List D}(h:SE c Γ Δ Γ' Δ')(h':SE c Γ' Δ' Γ'' Δ''):SE c Γ Δ Γ'' Δ'':=fun a w s=>h' a w (h a w s)
def Jj:Ga→Ga→Prop
 |[],_=>True
 |(s,r)::l,Γ=>lk Γ s=some r∧Jj l Γ
theorem Jj.lk{Γ Γ':Ga}(h:Jj Γ' Γ){s:Nat}{r:A}(hl:lk Γ' s=some r):lk Γ s=some r:=by
 induction Γ' with
 |nil=>cases hl
 |cons p Γ' ih=>
  obtain⟨s',r'⟩:=p;simp only [K.lk] at hl;split at hl
  ·rename_i e;subst e;cases hl;exact h.1
  ·exact ih h.2 hl
theorem SE.sub(h:Jj Γ' Γ):SE c Γ Δ Γ' Δ:=fun _ _ ⟨h1,h2,S,h3,h4,h5,h6⟩=>⟨h1,h2,S,h3,h4,h5,fun s r hl=>h6 s r (h.lk hl)⟩
theorem SE.drop(k:Nat):SE c Γ Δ Γ (Δ.take k):=fun _ _ ⟨h1,h2,S,h3,h4,h5,h6⟩=>by
 have hm:∀d,d∈Δ.take k→d∈Δ:=fun d hd=>List.mem_of_mem_take hd
 exact⟨h1,h2,S,h3,fun b ⟨d,hd,e⟩=>h4 b ⟨d,hm d hd,e⟩,h5.re ⟨fun d hd=>h5.holds d (hm d hd),fun b ⟨d,hd,e⟩=>h5.own b ⟨d,hm d hd,e⟩,h5.apart.sublist (List.take_sublist k Δ)⟩ (fun b ⟨d,hd,e⟩=>⟨d,hm d hd,e⟩) (fun _ h=>.inl h),h6⟩
theorem Rb(k:Nat){e:D}(h:Δ[k]? =some e):SE c Γ Δ Γ (e::Δ.eraseIdx k):=fun _ _ s=>s.perm (gk k e h)
theorem SE.nil(T:TypeId)(t:Ty):SE c Γ Δ Γ (.sl (.slice none 0 0) T t []::Δ):=fun a w ⟨h1,h2,S,h3,h4,h5,h6⟩=>by
 have hf:∀b,(D.sl (.slice none 0 0) T t []).foot≠some b:=fun b e=>by simp [D.foot,Value.ownBlock] at e
 have hfe:∀b,ap (.sl (.slice none 0 0) T t []::Δ) b→ap Δ b:=fun b ⟨d,hd,e⟩=>by
  rcases List.mem_cons.1 hd with rfl |hd
  ·
   exact absurd e (hf b)
  ·
   exact⟨d,hd,e⟩
 refine⟨h1,h2,S,h3,fun b hb=>h4 b (hfe b hb),h5.re ⟨fun d hd=>?_,fun b hb=>h5.own b (hfe b hb),List.pairwise_cons.2 ⟨fun d _ b e=>absurd e (hf b),h5.apart⟩⟩ hfe (fun _ h=>.inl h),h6⟩
 rcases List.mem_cons.1 hd with rfl |hd
 ·
  exact .inl ⟨rfl,rfl⟩
 ·
  exact h5.holds d hd
theorem LW{r r':A}(s:Nat)(hl:lk Γ s=some r)(hi:∀S w v,r.holds S w v→r'.holds S w v):SE c Γ Δ ((s,r')::Γ) Δ:=fun a w ⟨h1,h2,S,h3,h4,h5,h6⟩=>
 ⟨h1,h2,S,h3,h4,h5,fun s' q hq=>by
  simp only [lk] at hq
  split at hq
  ·
   rename_i e;subst e;cases hq;exact hi _ _ _ (h6 s r hl)
  ·
   exact h6 s' q hq⟩
theorem eA{r:A}{t:Ty}{x:t.den}(s:Nat)(hl:lk Γ s=some r)(h:pJ r t x)(hs:r.stor)(hg:r.isAgg=t.isAgg):SE c Γ Δ ((s,FG t x)::Γ) Δ:=
 LW s hl fun _ _ _ hv=>h.holds hs hg hv
theorem sY{v:Value}{T:TypeId}{t:Ty}{d:List t.den}(h:bD v=true→JO c ops l Q Γ (.sl v T t d::F)):JO c ops l Q Γ (.sl v T t d::F):=fun a w s=>by
 refine h ?_ a w s
 obtain⟨_,_,S,_,_,h5,_⟩:=s
 rcases h5.holds _ (by simp:D.sl v T t d∈D.sl v T t d::F) with⟨rfl,_⟩ |⟨b,cap,cc,rfl,_⟩ <;> rfl
theorem TR{C:Code}{v:Value}{T:TypeId}{t:Ty}{d:List t.den}(h:bD v=true→JC c C Q Γ (.sl v T t d::F)):JC c C Q Γ (.sl v T t d::F):=fun a w s=>by
 refine h ?_ a w s
 obtain⟨_,_,S,_,_,h5,_⟩:=s
 rcases h5.holds _ (by simp:D.sl v T t d∈D.sl v T t d::F) with⟨rfl,_⟩ |⟨b,cap,cc,rfl,_⟩ <;> rfl
theorem uT{v:Value}{T:TypeId}{t:Ty}{d:List t.den}{a:Act}{w:VW}(h:St c Γ (.sl v T t d::F) a w):
 a.defers=c.dfs∧a.tmps.size=c.N∧∃S:FS,bp c.X c.S0 c.w0 S w∧(∀b,ap F b→c.X b∨c.w0.heap.size≤b)∧aQ F S w∧(∀s r,lk Γ s=some r→r.holds S w (a.tmps.getD s undef))∧(FG (.slice t) d).holds S w v:=by
 obtain⟨h1,h2,S,h3,h4,h5,h6⟩:=h
 have hs:=h5.holds _ (by simp:D.sl v T t d∈D.sl v T t d::F)
 have hp:=List.pairwise_cons.1 h5.apart
 rcases hs with⟨rfl,rfl⟩ |⟨b,cap,cc,rfl,q1,q1',q2,q3,q4⟩
 ·
  exact⟨h1,h2,S,h3,fun b ⟨e,he,hb⟩=>h4 b ⟨e,List.mem_cons_of_mem _ he,hb⟩,h5.re ⟨fun e he=>h5.holds e (List.mem_cons_of_mem _ he),fun b ⟨e,he,hb⟩=>h5.own b ⟨e,List.mem_cons_of_mem _ he,hb⟩,hp.2⟩ lV (fun _ h=>.inl h),h6,⟨_,.inl ⟨none,0,rfl,rfl⟩,rfl⟩⟩
 ·
  have hfe:ap (.sl (.slice (some ⟨b,0,none⟩) d.length cap) T t d::F) b:=⟨_,List.mem_cons_self ..,rfl⟩;have hown:=h5.own b hfe;have hK:fW S w w:=fun _ _=>rfl;refine⟨h1,h2,fun x=>S x∨x=b,⟨fun x hx=>.inl (h3.sub x hx),fun x hx=>?_,fun x hx=>?_,h3.size,h3.keep,h3.os,h3.tape,h3.output,h3.subA,h3.oldA,h3.Z⟩,fun x ⟨e,he,hb⟩=>h4 x ⟨e,List.mem_cons_of_mem _ he,hb⟩,h5.re ⟨fun e he=>?_,fun x ⟨e,he,hb⟩=>?_,hp.2⟩ lV (fun x (hx:S x∨x=b)=>hx.imp id fun e=>by rw [e];exact hfe),fun s r hl=>A.mono (fun _ h=>.inl h) hK r (h6 s r hl),?_⟩
  ·rcases hx with hx |hx
   ·exact h3.new x hx
   ·subst hx;exact .inr ((h4 x hfe).symm)
  ·rcases hx with hx |hx
   ·exact h3.dom x hx
   ·subst hx;exact hown.2
  ·exact bU (fun _ h=>.inl h) hK e (fun _ _=>rfl) (h5.holds e (List.mem_cons_of_mem _ he))
  ·have h7:=h5.own x ⟨e,List.mem_cons_of_mem _ he,hb⟩;refine⟨fun hx=>?_,h7.2⟩;rcases hx with hx |hx
   ·exact h7.1 hx
   ·subst hx;exact hp.1 e he x rfl hb
  ·refine⟨_,.inr ⟨b,0,cap,cc,T,(0,0),rfl,q1,.inr rfl,q2,?_⟩,rfl⟩;rw [List.drop_zero];exact cu (fun _ _ h=>dP (fun _ h=>.inl h) hK t h) q4
def pr(Γ:Ga)(v:Value):List Nat→Prop
 |[]=>True
 |s::l=>lk Γ s=some (.eq v)∧pr Γ v l
def rQ(Γ:Ga)(r:A):List Nat→Ga
 |[]=>Γ
 |s::l=>(s,r)::rQ Γ r l
theorem sw{Γ:Ga}{r:A}{ss:List Nat}{s:Nat}{q:A}(h:lk (rQ Γ r ss) s=some q):(s∈ss∧q=r)∨lk Γ s=some q:=by
 induction ss with
 |nil=>exact .inr h
 |cons s' ss ih=>
  simp only [rQ,lk] at h;split at h
  ·rename_i e;subst e;cases h;exact .inl ⟨List.mem_cons_self ..,rfl⟩
  ·rcases ih h with⟨h1,h2⟩ |h1
   ·exact .inl ⟨List.mem_cons_of_mem _ h1,h2⟩
   ·exact .inr h1
theorem pr.mem{Γ:Ga}{v:Value}{ss:List Nat}(h:pr Γ v ss){s:Nat}(hs:s∈ss):lk Γ s=some (.eq v):=by
 induction ss with
 |nil=>simp at hs
 |cons s' ss ih=>
  rcases List.mem_cons.1 hs with rfl |hs
  ·exact h.1
  ·exact ih h.2 hs
theorem gZ{v:Value}{T:TypeId}{t:Ty}{d:List t.den}(ss:List Nat)(hh:pr Γ v ss):SE c Γ (.sl v T t d::F) (rQ Γ (.rep (.slice t) d) ss) F:=fun a w h=>by
 obtain⟨h1,h2,S,h3,h4,h5,h6,h7⟩:=uT h
 refine⟨h1,h2,S,h3,h4,h5,fun s q hq=>?_⟩
 rcases sw hq with⟨hs,rfl⟩ |hq
 ·
  have:=h6 s _ (hh.mem hs)
  have e:a.tmps.getD s undef=v:=this
  rw [e]
  exact h7
 ·
  exact h6 s q hq
theorem IT{v:Value}{T T':TypeId}{t:Ty}{d:List t.den}{b off:Nat}{a0 a1:A}(hg:a0.get off 1 false=some (.eq v))(hs:a0.set off 1 false (.rep (.slice t) d)=some a1):
 SE c Γ (.sl v T t d:: .obj b T' a0::F) Γ (.obj b T' a1::F):=fun a w h=>by
 obtain⟨h1,h2,S,h3,h4,h5,h6,h7⟩:=uT h
 refine⟨h1,h2,S,h3,fun x ⟨e,he,hb⟩=>?_,h5.re ⟨fun e he=>?_,fun x ⟨e,he,hb⟩=>?_,?_⟩ (fun x ⟨e,he,hb⟩=>?_) (fun _ h=>.inl h),h6⟩
 rotate_right
 ·
  rcases List.mem_cons.1 he with rfl |he
  ·
   exact⟨_,List.mem_cons_self ..,hb⟩
  ·
   exact⟨e,List.mem_cons_of_mem _ he,hb⟩
 ·
  rcases List.mem_cons.1 he with rfl |he
  ·
   exact h4 x ⟨_,List.mem_cons_self ..,hb⟩
  ·
   exact h4 x ⟨e,List.mem_cons_of_mem _ he,hb⟩
 ·
  rcases List.mem_cons.1 he with rfl |he
  ·
   obtain⟨cs,q1,q2⟩:=h5.holds _ (List.mem_cons_self ..)
   obtain⟨g1,g2⟩:=iD a0 q2 hg
   have l0:=a0.cells_length q2
   have gv:mk false ((cs.drop off).take 1)=v:=g1
   have hlt:off < cs.length:=by omega
   have hc:(cs.drop off).take 1=[v]:=by
    have e9:(cs.drop off).take 1=[cs[off]]:=by rw [List.drop_eq_getElem_cons hlt];rfl
    rw [e9] at gv⊢;have e10:cs[off]=v:=gv;rw [e10]
   obtain⟨xs,e1,e2⟩:=h7
   have e3:xs=[v]:=by
    have l1:=aN (.slice t) e1;match xs,l1 with
    |[u],_=>simp [mk] at e2;rw [e2]
   subst e3;obtain⟨k1,_⟩:=lE a0 q2 (r:=.rep (.slice t) d) (new:=[v]) e1 rfl hs;refine⟨cs,q1,?_⟩
   have e4:cs.take off++[v]++cs.drop (off+[v].length)=cs:=by
    show cs.take off++[v]++cs.drop (off+1)=cs;rw [←hc,←List.take_add,List.take_append_drop]
   rw [e4] at k1;exact k1
  ·exact h5.holds e (List.mem_cons_of_mem _ he)
 ·
  rcases List.mem_cons.1 he with rfl |he
  ·exact h5.own x ⟨_,List.mem_cons_self ..,hb⟩
  ·exact h5.own x ⟨e,List.mem_cons_of_mem _ he,hb⟩
 ·
  have hp:=List.pairwise_cons.1 h5.apart;exact List.pairwise_cons.2 ⟨fun e he=>hp.1 e he,hp.2⟩
theorem jw{b:Nat}{T:TypeId}{t:Ty}{x:t.den}{a0:A}(ss:List Nat)(he:pJ a0 t x)(hh:pr Γ (.pointer (some ⟨b,0,none⟩)) ss):SE c Γ (.obj b T a0::F) (rQ Γ (.at t x) ss) F:=fun a w h=>by
 obtain⟨h1,h2,S,h3,h4,h5,h6⟩:=h
 obtain⟨cs,q1,q2⟩:=h5.holds _ (List.mem_cons_self ..)
 have hp:=List.pairwise_cons.1 h5.apart
 have hfe:ap (.obj b T a0::F) b:=⟨_,List.mem_cons_self ..,rfl⟩
 have hown:=h5.own b hfe
 have hK:fW S w w:=fun _ _=>rfl
 refine⟨h1,h2,fun x=>S x∨x=b,⟨fun x hx=>.inl (h3.sub x hx),fun x hx=>?_,fun x hx=>?_,h3.size,h3.keep,h3.os,h3.tape,h3.output,h3.subA,h3.oldA,h3.Z⟩,fun x ⟨e,he,hb⟩=>h4 x ⟨e,List.mem_cons_of_mem _ he,hb⟩,h5.re ⟨fun e he=>?_,fun x ⟨e,he,hb⟩=>?_,hp.2⟩ lV (fun x (hx:S x∨x=b)=>hx.imp id fun e=>by rw [e];exact hfe),fun s q hq=>?_⟩
 ·
  rcases hx with hx |hx
  ·
   exact h3.new x hx
  ·
   subst hx;exact .inr ((h4 x hfe).symm)
 ·
  rcases hx with hx |hx
  ·
   exact h3.dom x hx
  ·
   subst hx;exact hown.2
 ·
  exact bU (fun _ h=>.inl h) hK e (fun _ _=>rfl) (h5.holds e (List.mem_cons_of_mem _ he))
 ·
  have h7:=h5.own x ⟨e,List.mem_cons_of_mem _ he,hb⟩
  refine⟨fun hx=>?_,h7.2⟩
  rcases hx with hx |hx
  ·
   exact h7.1 hx
  ·
   subst hx;exact hp.1 e he x rfl hb
 ·
  rcases sw hq with⟨hs,rfl⟩ |hq
  ·
   have e1:a.tmps.getD s undef= .pointer (some ⟨b,0,none⟩):=h6 s _ (hh.mem hs)
   rw [e1]
   have hr:=he.cells q2
   have l:=aN t hr
   refine⟨b,0,cs.toArray,T,(0,0),rfl,.inr rfl,q1,?_⟩
   rw [List.toList_toArray,List.drop_zero,List.take_of_length_le (by omega)]
   exact dP (fun _ h=>.inl h) hK t hr
  ·
   exact A.mono (fun _ h=>.inl h) hK q (h6 s q hq)
end
def fy(S:FS)(w:World):List A→List Value→Prop
 |[],vs=>vs=[]
 |r::l,vs=>∃v vs',vs=v::vs'∧r.holds S w v∧fy S w l vs'
def dr(S:FS)(w:VW)(Δ:List D){X:Type}(R:X→A×List D):Ending→VW→Prop:=fun e w'=>
 ∃x S' v,e= .returned v∧bp (ap Δ) S w S' w'∧(R x).1.holds S' w' v∧aQ (R x).2 S' w'∧∀b,ap (R x).2 b→ap Δ b∨w.heap.size≤b
def bQ{P:Program}(M:Md P)(f:Nat)(as:List A)(Δ:List D){X:Type}(R:X→A×List D):Prop:=
 ∀(k:CallKind),k≠.early→∀(S:FS) (w:VW) (vs:List Value),(∀b,S b→b < w.heap.size)→fy S w as vs→aQ Δ S w→jA M k f vs.toArray w (dr S w Δ R)
def de(P:Program)(f:Nat)(as:List A)(Δ:List D){X:Type}(R:X→A×List D):Prop:=∀M:Md P,bQ M f as Δ R
def ah(P:Program)(f:Nat):Prop:=∃fn,P.funcs[f]? =some fn∧(fn.name == "runtime.NumGoroutine")=false∧fn.body.isNone=false
theorem ah.of{P:Program}{f:Nat}{fn:Func}(h:P.funcs[f]? =some fn)(hn:(fn.name == "runtime.NumGoroutine")=false)(hb:fn.body.isNone=false):ah P f:=⟨fn,h,hn,hb⟩
theorem fy.of{S:FS}{w:World}{a:Act}:∀{xs:List Operand} {as:List A},xs.length=as.length→bC S w a (xs.zip as)→fy S w as (xs.map a.eval)
 |[],[],_,_=>rfl
 |x::xs,r::as,h,hN=>⟨_,_,rfl,hN.1,fy.of (by simpa using h) hN.2⟩
 |[],_::_,h,_=>by simp at h
 |_::_,[],h,_=>by simp at h
section
variable {P:Program}{M:Md P}{o:Oper}{x y z:Operand}{T:TypeId}{Δ:List D}{X:Type}{R:X→A×List D}{r:A}
theorem fy.rely{S:FS}{v v1:VW}(hK:fW S v v1):∀{as:List A} {vs:List Value},fy S v as vs→fy S v1 as vs
 |[],_,h=>h
 |_::_,_,⟨x,vs',e,h1,h2⟩=>⟨x,vs',e,A.mono (fun _ h=>h) hK _ h1,fy.rely hK h2⟩
theorem Ii{f:FuncId}{args:Array Value}{s:Sem Next}{v:VW}(hs:s=callFunc f args)(hb:∃fn,P.funcs[f]? =some fn∧(fn.name == "runtime.NumGoroutine")=false∧fn.body.isNone=false):s.run P v= .ok (.enter f args) v∧Sg P v s:=by
 obtain⟨fn,h1,h2,h3⟩:=hb;subst hs
 have e:(callFunc f args).runT P v #[]=(.ok (.enter f args) v, #[]):=by
  show((match P.funcs[f]? with
   |none=>stuck "call: no such function"
   |some fn=>if fn.name == "runtime.NumGoroutine" then pure .numGoroutine else if fn.body.isNone then _ else pure (.enter f args):Sem Next)).runT P v #[]=_
  rw [h1];simp only [h2,h3,Bool.false_eq_true,if_false];rfl
 have hr:(callFunc f args).run P v= .ok (.enter f args) v:=by rw [←Sem.runT_fst P _ _ #[],e]
 refine⟨hr,?_⟩;unfold Sg;rw [hr];have ev:(callFunc f args).events P v #[]= #[]:=by unfold Sem.events;rw [e]
 simp only [ev];exact eF.refl v
theorem yh{M:Md P}{rd:Option Nat}{a:Act}{v:VW}{next:Act→VW→Prop}{Q:Exit→Act→VW→Prop}{f:FuncId}{args:Array Value}(hnd:nd o.op=true)(hex:execOp a.eval o=callFunc f args)(hb:ah P f)
 (h:∀v1,bh v v1→jA M .normal f args v1 fun
  | .returned x,v''=>next (a.put o.dst x) v''
  | .panicked ch,v''=>Q (.panic ch) a v''
  | .outgrown,_=>False):o.wk M rd a v next Q:=NY fun v1 hr=>by
 rw [Oper.semAt_eq _ _ _ (fun c e=>by rw [e] at hnd;cases hnd)]
 obtain⟨h1,h2⟩:=Ii (v:=v1) hex hb
 refine⟨h2,?_⟩
 rw [h1]
 exact h v1 hr
theorem aJ{f:Nat}{as:List A}{c:Call}(xs:List Operand){ts:Array TypeId}(ho:o.op= .call c)(hc:c={ callee:=.value (.func f),args:=xs.toArray,argTypes:=ts })(hf:ah P f)(hlen:xs.length=as.length)
 (h:bQ M f as Δ R):bo M o (xs.zip as) Δ R:=by
 have hnd:nd o.op=true:=by simp only [nd, *]
 refine⟨hnd,fun rd S v a next Q hd hN hO k=>?_⟩
 have e1:a.eval (.func f)= .func (.func f) #[] #[]:=rfl
 refine yh (args:=(xs.map a.eval).toArray) hnd (by simp [execOp,ho,hc,resolve,e1,Deferred.ofValue,invoke]) hf fun v1 hr=>?_
 refine(h .normal (fun e=>nomatch e) S v1 _ (fun b hb=>Nat.lt_of_lt_of_le (hd b hb) hr.size) (fy.of hlen (bC.rely hd hO.sees hr hN)) (hO.rely hd hr)).mono ?_
 rintro e w' ⟨x,S',u,rfl,h1,h2,h3,h4⟩
 exact k x S' w' u ((bp.rely hd hr).trans h1 fun b hb=>.inl hb) h2 h3 fun b hb=>(h4 b hb).imp id (Nat.le_trans hr.size)
theorem ay{f:Nat}{as:List A}{c:Call}(xs:List Operand){ts:Array TypeId}(ho:o.op= .call c)(hc:c={ callee:=.value (.func f),args:=xs.toArray,argTypes:=ts })(hf:ah P f)(hlen:xs.length=as.length)
 (h:de P f as Δ R):bo M o (xs.zip as) Δ R:=aJ xs ho hc hf hlen (h M)
theorem qR{f:Nat}{fs cs:List Value}{ags:List A}{c:Call}(xs:List Operand){ts:Array TypeId}(ho:o.op= .call c)(hc:c={ callee:=.value x,args:=xs.toArray,argTypes:=ts })(hf:ah P f)(hlen:xs.length=ags.length)
 (h:bQ M f (fs.map .eq++ags++cs.map .eq) Δ R):bo M o ((x,.eq (.func (.func f) fs.toArray cs.toArray))::xs.zip ags) Δ R:=by
 have hnd:nd o.op=true:=by simp only [nd, *]
 refine⟨hnd,fun rd S v a next Q hd hN hO k=>?_⟩
 have e1:a.eval x= .func (.func f) fs.toArray cs.toArray:=hN.1
 have hall:∀v1,bh v v1→fy S v1 (fs.map .eq++ags++cs.map .eq) (fs++xs.map a.eval++cs):=fun v1 hr=>by
  have heq:∀vs:List Value,fy S v1 (vs.map .eq) vs:=fun vs=>by
   induction vs with
   |nil=>rfl
   |cons v vs ih=>exact⟨v,vs,rfl,rfl,ih⟩
  have happ:∀{a1 a2:List A} {v1' v2:List Value},fy S v1 a1 v1'→fy S v1 a2 v2→fy S v1 (a1++a2) (v1'++v2):=by
   intro a1
   induction a1 with
   |nil=>intro a2 v1' v2 h1 h2;have:v1'=[]:=h1;subst this;exact h2
   |cons r a1 ih=>rintro a2 v1' v2 ⟨v,vs',rfl,h1,h2⟩ h3;exact⟨v,_,rfl,h1,ih h2 h3⟩
  exact happ (happ (heq fs) (fy.of hlen (bC.rely hd hO.sees hr hN.2))) (heq cs)
 refine yh (args:=(fs++xs.map a.eval++cs).toArray) hnd (by simp [execOp,ho,hc,resolve,e1,Deferred.ofValue,invoke]) hf fun v1 hr=>?_
 refine(h .normal (fun e=>nomatch e) S v1 _ (fun b hb=>Nat.lt_of_lt_of_le (hd b hb) hr.size) (hall v1 hr) (hO.rely hd hr)).mono ?_
 rintro e w' ⟨x,S',u,rfl,h1,h2,h3,h4⟩
 exact k x S' w' u ((bp.rely hd hr).trans h1 fun b hb=>.inl hb) h2 h3 fun b hb=>(h4 b hb).imp id (Nat.le_trans hr.size)
theorem mZ{f:Nat}{fs cs:List Value}{ags:List A}{c:Call}(xs:List Operand){ts:Array TypeId}(ho:o.op= .call c)(hc:c={ callee:=.value x,args:=xs.toArray,argTypes:=ts })(hf:ah P f)(hlen:xs.length=ags.length)
 (h:de P f (fs.map .eq++ags++cs.map .eq) Δ R):bo M o ((x,.eq (.func (.func f) fs.toArray cs.toArray))::xs.zip ags) Δ R:=qR xs ho hc hf hlen (h M)
@[reducible] def A.flat:A→Bool
 | .eq _=>true
 | .rep t _=>t.flat
 | .at _ _=>false
 | .pair a b=>a.flat && b.flat
 | .agg a=>a.flat
 | .tup a=>a.flat
 | .fn _ a=>a.flat
 | .any=>true
theorem A.cells_flat{S S':FS}{w:World}(r:A):∀{cs:List Value},r.flat=true→r.cells S w cs→r.cells S' w cs:=by
 induction r with
 |eq v=>intro cs _ h;exact h
 |rep t x=>intro cs hf h;exact xt t hf h
 |«at» t x=>intro cs hf h;simp [A.flat] at hf
 |pair a b iha ihb=>
  rintro cs hf ⟨c1,c2,e,h1,h2⟩;simp [A.flat] at hf;exact⟨c1,c2,e,iha hf.1 h1,ihb hf.2 h2⟩
 |agg a ih=>intro cs hf h;exact ih hf h
 |tup a _=>intro cs hf h;exact h
 |fn f a _=>intro cs hf h;exact h
 |any=>intro cs hf h;exact h
theorem oR{S S':FS}{w:World}(r:A):r.flat=true→(∀{v:Value},r.holds S w v→r.holds S' w v)∧(∀{vs:List Value},A.holds.holdsAll S w r vs→A.holds.holdsAll S' w r vs):=by
 induction r with
 |eq v=>exact fun _=>⟨fun h=>h,fun h=>h⟩
 |rep t x=>exact fun hf=>⟨fun⟨cs,h,e⟩=>⟨cs,xt t hf h,e⟩,fun h=>h⟩
 |«at» t x=>intro hf;simp [A.flat] at hf
 |pair a b iha ihb=>
  intro hf;simp [A.flat] at hf;exact⟨fun h=>h,fun⟨v,vs,e,h1,h2⟩=>⟨v,vs,e,(iha hf.1).1 h1,(ihb hf.2).2 h2⟩⟩
 |agg a _=>exact fun hf=>⟨fun⟨cs,h,e⟩=>⟨cs,A.cells_flat a hf h,e⟩,fun h=>h⟩
 |tup a ih=>exact fun hf=>⟨fun⟨vs,e,h⟩=>⟨vs,e,(ih hf).2 h⟩,fun h=>h⟩
 |fn f a ih=>exact fun hf=>⟨fun⟨vs,e,h⟩=>⟨vs,e,(ih hf).2 h⟩,fun h=>h⟩
 |any=>exact fun _=>⟨fun h=>h,fun h=>h⟩
@[reducible] def D.flat:D→Bool
 | .obj _ _ a=>a.flat
 | .sl _ _ t _=>t.flat
 | .raw _ _=>true
 | .inv _ _=>true
theorem nz{S S':FS}{w:World}(d:D)(hf:d.flat=true)(h:d.holds S w):d.holds S' w:=by
 cases d with
 |obj b T a=>obtain⟨cs,h1,h2⟩:=h;exact⟨cs,h1,a.cells_flat hf h2⟩
 |sl v T t l=>
  rcases h with h |⟨b,cap,c,e,h1,h1',h2,h3,h4⟩
  ·exact .inl h
  ·exact .inr ⟨b,cap,c,e,h1,h1',h2,h3,cu (fun _ _ h=>xt t hf h) h4⟩
 |raw b o=>exact h
 |inv b p=>exact h
theorem lA{v:Value}{t:Ty}{l:List t.den}{N N':List (Operand×A)}(h:bo M o N' Δ R)(hN:∀S w a,(A.rep (.slice t) l).holds S w v→bC S w a N→bC S w a N')
 (hf:∀x,(R x).1.flat=true∧∀d∈(R x).2,d.flat=true):bo M o N (.sl v T t l::Δ) (fun x=>((R x).1,.sl v T t l::(R x).2)):=by
 refine⟨h.1,fun ro S w a next Q hd hNN hO k=>?_⟩
 have hs:=hO.holds _ (List.mem_cons_self ..)
 have hp:=List.pairwise_cons.1 hO.apart
 have hOΔ:aQ Δ S w:=hO.re ⟨fun e he=>hO.holds e (List.mem_cons_of_mem _ he),fun b ⟨e,he,hb⟩=>hO.own b ⟨e,List.mem_cons_of_mem _ he,hb⟩,hp.2⟩ lV (fun _ h=>.inl h)
 have hK:fW S w w:=fun _ _=>rfl
 rcases hs with⟨rfl,rfl⟩ |⟨b,cap,cc,rfl,q1,q1',q2,q3,q4⟩
 ·
  refine h.2 ro S w a next Q hd (hN S w a ⟨_,.inl ⟨none,0,rfl,rfl⟩,rfl⟩ hNN) hOΔ fun x S' w' v' h1 h2 h3 h4=>?_;have hff:∀b,(D.sl (.slice none 0 0) T t []).foot≠some b:=fun b e=>by simp [D.foot,Value.ownBlock] at e
  have hfe:∀{E:List D} b,ap (.sl (.slice none 0 0) T t []::E) b→ap E b:=fun b ⟨d,hd,e⟩=>by
   rcases List.mem_cons.1 hd with rfl |hd
   ·exact absurd e (hff b)
   ·exact⟨d,hd,e⟩
  refine k x S' w' v' (h1.mono fun b ⟨d,hd,e⟩=>⟨d,List.mem_cons_of_mem _ hd,e⟩) h2 (h3.re ⟨fun d hd=>?_,fun b hb=>h3.own b (hfe b hb),List.pairwise_cons.2 ⟨fun d _ b e=>absurd e (hff b),h3.apart⟩⟩ hfe fun _ h=>.inl h) (fun b hb=>(h4 b (hfe b hb)).imp (fun⟨d,hd,e⟩=>⟨d,List.mem_cons_of_mem _ hd,e⟩) id);rcases List.mem_cons.1 hd with rfl |hd
  ·exact .inl ⟨rfl,rfl⟩
  ·exact h3.holds d hd
 ·
  have hfe:ap (.sl (.slice (some ⟨b,0,none⟩) l.length cap) T t l::Δ) b:=⟨_,List.mem_cons_self ..,rfl⟩;have hown:=hO.own b hfe;have hfar:=hO.far b hfe;have hnb:¬ap Δ b:=fun⟨e,he,hb⟩=>hp.1 e he b rfl hb;have hmono:∀x,S x→S x∨x=b:=fun _ h=>.inl h
  have hread:(A.rep (.slice t) l).holds (fun x=>S x∨x=b) w (.slice (some ⟨b,0,none⟩) l.length cap):=by
   refine⟨_,.inr ⟨b,0,cap,cc,T,(0,0),rfl,q1,.inr rfl,q2,?_⟩,rfl⟩;rw [List.drop_zero];exact cu (fun _ _ h=>dP hmono hK t h) q4
  have hNN':∀{N:List (Operand×A)},bC S w a N→bC (fun x=>S x∨x=b) w a N:=by
   intro N
   induction N with
   |nil=>exact fun h=>h
   |cons p N ih=>obtain⟨x,r⟩:=p;exact fun h=>⟨A.mono hmono hK r h.1,ih h.2⟩
  have hd':∀x,(S x∨x=b)→x < w.heap.size:=fun x hx=>hx.elim (hd x) (fun e=>by subst e;exact hown.2);have hOΔ':aQ Δ (fun x=>S x∨x=b) w:=hO.re ⟨fun e he=>bU hmono hK e (fun _ _=>rfl) (hOΔ.holds e he),fun x hx=>⟨fun h=>h.elim (hOΔ.own x hx).1 (fun e=>by subst e;exact hnb hx),(hOΔ.own x hx).2⟩,hOΔ.apart⟩ lV fun x (hx:S x∨x=b)=>hx.imp id fun e=>by rw [e];exact hfe
  refine h.2 ro _ w a next Q hd' (hN _ w a hread (hNN' hNN)) hOΔ' fun x S' w' v' h1 h2 h3 h4=>?_;obtain⟨f1,f2⟩:=hf x;have hbk:w'.heap[b]? =w.heap[b]? :=h1.keep b hown.2 hfar.1 hnb;have hSb:∀y,S y→y≠b:=fun y hy e=>hown.1 (e▸hy);have hKw:fW S w w':=fun y hy=>h1.keep y (hd y hy) (hO.sees y hy) (fun hx=>(hOΔ.own y hx).1 hy);refine k x (fun y=>S' y∧y≠b) w' v' ⟨fun y hy=>⟨h1.sub y (.inl hy),hSb y hy⟩,fun y hy=>?_,fun y hy=>h1.dom y hy.1,h1.size,fun y hy ha hx=>h1.keep y hy ha (fun⟨e,he,hb⟩=>hx ⟨e,List.mem_cons_of_mem _ he,hb⟩),h1.os,h1.tape,h1.output,h1.subA,h1.oldA,h1.Z⟩ ((oR _ f1).1 h2) ⟨fun d hd=>?_,fun y ⟨d,hd,e⟩=>?_,List.pairwise_cons.2 ⟨fun d hd y e e'=>?_,h3.apart⟩,fun y ⟨d,hd,e⟩=>?_,fun y hy=>h3.sees y hy.1,h3.domA,h3.domZ⟩ fun y ⟨d,hd,e⟩=>?_
  ·rcases h1.new y hy.1 with(hh |hh) |hh |⟨e,he,hb⟩
   ·exact .inl hh
   ·exact absurd hh hy.2
   ·exact .inr (.inl hh)
   ·exact .inr (.inr ⟨e,List.mem_cons_of_mem _ he,hb⟩)
  ·rcases List.mem_cons.1 hd with rfl |hd
   ·refine .inr ⟨b,cap,cc,rfl,q1,q1',hbk.trans q2,q3,cu (fun _ _ h=>dP (fun y hy=>⟨h1.sub y (.inl hy),hSb y hy⟩) hKw t h) q4⟩
   ·exact nz d (f2 d hd) (h3.holds d hd)
  ·rcases List.mem_cons.1 hd with rfl |hd
   ·have:y=b:=by simpa [D.foot,Value.ownBlock,eq_comm] using e
    subst this;exact⟨fun h=>h.2 rfl,Nat.lt_of_lt_of_le hown.2 h1.size⟩
   ·have:=h3.own y ⟨d,hd,e⟩;exact⟨fun h=>this.1 h.1,this.2⟩
  ·have:y=b:=by simpa [D.foot,Value.ownBlock,eq_comm] using e
   subst this;rcases h4 y ⟨d,hd,e'⟩ with hh |hh
   ·exact hnb hh
   ·have:=hown.2;omega
  ·rcases List.mem_cons.1 hd with rfl |hd
   ·have:y=b:=by simpa [D.foot,Value.ownBlock,eq_comm] using e
    subst this;exact⟨fun ha=>(h1.oldA y ha).elim hfar.1 fun h2=>by have:=hown.2;omega,by rw [h1.Z];exact hfar.2⟩
   ·exact h3.far y ⟨d,hd,e⟩
  ·rcases List.mem_cons.1 hd with rfl |hd
   ·exact .inl ⟨_,List.mem_cons_self ..,e⟩
   ·exact(h4 y ⟨d,hd,e⟩).imp (fun⟨d,hd,e⟩=>⟨d,List.mem_cons_of_mem _ hd,e⟩) id
end
end K
