import Derived.Test.YtflilincnacbpaaGreatVTB1
import Derived.Maps.AppendAt
open Nat
open List hiding mem_of_getElem?
open Array hiding mem_of_getElem? mk
set_option linter.unusedVariables false
set_option linter.unusedSimpArgs false
namespace Go.Proofs.YtflilincnacbpaaGreat
namespace K
open Go
section
variable {P:Program}
theorem uj{α β:Type}{s:Sem α}{f:α->Sem β}(h:∀a,Hs P (f a)):Hs P (s >>=f):=by
 show Hs P (s.bind f)
 induction s with
 |pure a=>exact h a
 |load m a k ih=>exact λv=>ih v
 |store m a v k ih=>exact ih
 |new o k ih=>exact λr=>ih r
 |shape r k ih=>exact λx=>ih x
 |freeze a n k ih=>exact ih
 |frozen a k ih=>exact λx=>ih x
 |getObj r k ih=>exact λo=>ih o
 |setObj r o k ih=>exact ih
 |choose q k ih=>exact λn=>ih n
 |sys c k ih=>exact λr=>ih r
 |program k ih=>exact ih P
 |mark m k ih=>exact ih
 |halt h=>trivial
theorem Ik{α:Type}{r:Nat}{f:Option (TypeId×Nat)->Sem α}(h:∀x,Hs P (f x)):Ns P (shape r >>=f):=h
theorem jY{α β γ:Type}{s:Sem α}{f:α->Sem β}{g:β->Sem γ}:((s >>=f) >>=g)=(s >>=λa=>f a >>=g):=by
 simp_all
theorem zW{α:Type}{a:Addr}{n:Nat}{f:Bool->Sem α}(h:∀x,Hs P (f x)):Ns P (Builtin.holdsCells a n >>=f):=by
 simp_all [Builtin.holdsCells,jY,Ik,uj]
theorem Ij{α:Type}{z l n:Nat}{b:Option Addr}{x:Value}{f:Bool->Sem α}(h:∀x,Hs P (f x))(h':∀x,Ns P (f x)):Ns P (Builtin.mayShare z l n b x >>=f):=by
 unfold Builtin.mayShare;cases b with
 |none=>
  grind [Ns,Builtin.holdsCells,jY,zW,uj]
 |some a=>
  grind [jY,zW,uj]
theorem jF{z n:Nat}{x:Value}:Ns P (Builtin.firstCells z n x):=by
 unfold Builtin.firstCells;split
 .exact ry
 .trivial
 .trivial
 .trivial
theorem Io{x:Value}:Ns P (Builtin.lenOf x):=by unfold Builtin.lenOf;split <;> trivial
theorem zS{α:Type}{u:Unsupported}:Ns P (unsupported u:Sem α):=trivial
theorem IU{α:Type}{u:Unsupported}:Hs P (unsupported u:Sem α):=trivial
theorem iZ{α:Type}{t:TypeId}{d:TypeDesc}{f:TypeDesc->Sem α}(h:P.underlying t=some d)(hf:Ns P (f d)):Ns P (underlying t >>=f):=by
 show Ns P ((match P.underlying t with |some d=>pure d |none=>stuck "no such type" :Sem TypeDesc).bind f);rw [h];exact hf
theorem Ip{α:Type}{p:Prop}[Decidable p]{a b:Sem α}(h1:Ns P a)(h2:Ns P b):Ns P (if p then a else b):=by grind
theorem Fz{T e t:TypeId}{b b2:Option Addr}{n c n2 c2:Nat}(hT:P.underlying T=some (.slice e)):Ns P (Builtin.append_ #[T,T] t #[.slice b n c,.slice b2 n2 c2]):=by
 have noroom:Ns P (mark .noRoom):=⟨rfl,trivial⟩
 unfold Builtin.append_
 refine iZ hT (aj dx λsz=>iZ hT ?_)
 refine Ip (p:=n+n2≤c) ?_ ?_
 .
  grind [aj,jF,cI,io]
 .
  refine aj fP λi=>?_
  have tail:Ns P (do
   let newCap<-choose (.appendCap (n+n2) c e)
   askRoom (newCap * (<-typeInfo e).bytes)
   let old<-Builtin.firstCells sz n (.slice b n c)
   let new<-Builtin.firstCells sz n2 (.slice b2 n2 c2)
   let rest:=Builtin.zeroCells (<-zeroValue e).cells (newCap - (n+n2))
   pure (.slice (some (<-newRow e (old++new++rest))) (n+n2) newCap):Sem Value):=
   aj iM λ_=>aj fP λ_=>aj qo λ_=>aj jF λ_=>aj jF λ_=>aj eY λ_=>aj sL λ_=>cI
  have mid:Ns P (do
   if Builtin.nextslicecap (n+n2) c * (<-typeInfo e).bytes > 2 ^ 48 then(do
    if !(<-Builtin.mayShare sz n n2 b (.slice b2 n2 c2)) then mark .noRoom
    unsupported (.resourceLimit "append: a slice or a string whose bytes no memory bears"))
   let newCap<-choose (.appendCap (n+n2) c e)
   askRoom (newCap * (<-typeInfo e).bytes)
   let old<-Builtin.firstCells sz n (.slice b n c)
   let new<-Builtin.firstCells sz n2 (.slice b2 n2 c2)
   let rest:=Builtin.zeroCells (<-zeroValue e).cells (newCap - (n+n2))
   pure (.slice (some (<-newRow e (old++new++rest))) (n+n2) newCap):Sem Value):=by
   grind [aj,fP,Ij,uj,IU,zS]
  exact Ip (p:=((n+n2:Nat):Int) > IntKind.i64.max/\(false=true\/i.bytes=0)) (aj fB λ_=>mid) mid
theorem Ls{ts:Array TypeId}{t:TypeId}{xs:Array Value}:Ns P (Builtin.copy_ ts t xs):=by
 unfold Builtin.copy_;repeat' (first |exact trivial |exact fB |exact dx |exact aI |exact jF |exact Io |exact io _ _ |refine aj ?_ λ_=>?_ |split |dsimp only)
theorem PD{ts:Array TypeId}{t:TypeId}{xs:Array Value}:Ns P (Builtin.len_ ts t xs):=by
 unfold Builtin.len_;repeat' (first |exact trivial |exact aI |refine eS λ_ _=>?_ |refine aj ?_ λ_=>?_ |split |dsimp only)
theorem PE{ts:Array TypeId}{t:TypeId}{xs:Array Value}:Ns P (Builtin.cap_ ts t xs):=by
 unfold Builtin.cap_;repeat' (first |exact trivial |exact aI |refine eS λ_ _=>?_ |refine aj ?_ λ_=>?_ |split |dsimp only)
theorem Ix{ts:Array TypeId}{t:TypeId}{xs:Array Value}:Ns P (Builtin.clear_ ts t xs):=by
 unfold Builtin.clear_;repeat' (first |exact trivial |exact aI |exact eY |exact io _ _ |exact fA rfl |refine eS λ_ _=>?_ |refine aj ?_ λ_=>?_ |split |dsimp only)
theorem sK{b:BinOp}{x y:ByteArray}:Ns P (Op.stringOp b x y):=by
 unfold Op.stringOp;repeat' (first |exact trivial |split |dsimp only)
theorem Lr{x y:Value}:Ns P (Builtin.max2 x y):=by
 unfold Builtin.max2;repeat' (first |exact trivial |exact iM |exact sK |exact sO |refine aj ?_ λ_=>?_ |split |dsimp only)
theorem Lq{x y:Value}:Ns P (Builtin.min2 x y):=by
 unfold Builtin.min2;repeat' (first |exact trivial |exact iM |exact sK |exact sO |refine aj ?_ λ_=>?_ |split |dsimp only)
theorem sN{α β:Type}{f:β->α->Sem β}(h:∀b a,Ns P (f b a)):∀(l:List α) (b:β),Ns P (l.foldlM f b)
 |[],_=>by rw [foldlM_nil];trivial
 |a::l,b=>by rw [foldlM_cons];exact aj (h _ _) λ_=>sN h l _
theorem PC{ts:Array TypeId}{t:TypeId}{xs:Array Value}:Ns P (Builtin.max_ ts t xs):=by
 unfold Builtin.max_;split
 .trivial
 simp_all [sN,Lr]
theorem Pz{ts:Array TypeId}{t:TypeId}{xs:Array Value}:Ns P (Builtin.min_ ts t xs):=by
 unfold Builtin.min_;split
 .trivial
 simp_all [sN,Lq]
theorem Ig{u:UnOp}{x:Value}:Ns P (Op.unary u x):=by
 unfold Op.unary Op.intArith Op.intBits;repeat' (first |exact trivial |split |dsimp only)
theorem Cf{s d:TypeId}{k:IntKind}{n:Int}(hd:P.underlying d=some (.int k)){k':IntKind}:Ns P (convert s d (.int k' n)):=by
 unfold convert;refine aj aI λa=>?_;show Ns P (underlying d >>=_);have:(underlying d:Sem TypeDesc)=(program >>=λp=>match p.underlying d with |some d=>pure d |none=>stuck "no such type"):=rfl;rw [this,jY];refine lw ?_;rw [hd];show Ns P (match a,TypeDesc.int k,Value.int k' n with |_,_,_=>_);dsimp only;trivial
theorem qj:∀(n:Nat) (t:TypeId) (x y:Value),Ns P (Op.eqGuardIn n t x y)
 |0,_,_,_=>trivial
 |n+1,t,x,y=>by
  unfold Op.eqGuardIn
  refine aj aI λd=>?_
  split
  .
   trivial
  .
   refine aj (oI (λf _=>?_) _ _) λs=>?_
   .
    split
    .
     refine aj iz λ_=>aj iz λ_=>aj (qj n _ _ _) λb=>?_
     split <;> trivial
    .
     trivial
   .
    dsimp only
    split <;> trivial
  .
   refine aj dx λm=>aj (oH (λi _=>?_) _) λs=>?_
   .
    refine aj iz λ_=>aj iz λ_=>aj (qj n _ _ _) λb=>?_
    split <;> trivial
   .
    dsimp only
    split <;> trivial
  .
   trivial
theorem Ir{b:BinOp}{t:TypeId}{x y:Operand}{u v:Value}:Ns P (eqGuard b t x y u v):=by
 unfold eqGuard;grind [cI,zS,aj,qj,lw]
theorem uW{b:BinOp}{t:TypeId}{u v:Value}(hu:kU u=true)(hv:kU v=true):Ns P (binOp b t u v):=by
 unfold binOp
 split <;> first
  |trivial
  |(cases hu;done)
  |(cases hv;done)
  |exact sK
  |exact aj (zX hu hv) λ_=>cI
  |skip
 .unfold Op.shift;repeat' (first |exact trivial |exact fB |split |dsimp only)
 .unfold Op.shift;repeat' (first |exact trivial |exact fB |split |dsimp only)
 .unfold Op.intArith Op.intDiv Op.intBits Op.intCmp;repeat' (first |exact trivial |exact fB |split |dsimp only)
def sP:Op->Bool
 | .move _ | .assign _ | .pick .. | .alloc _ | .box .. | .build .. | .buildSlice .. | .load .. | .store .. | .makeInterface .. | .makeFunc .. | .makeMap .. | .makeSlice .. | .slice .. | .field .. | .indexAddr .. | .index ..
 | .entryStore .. | .range .. | .next .. | .entry .. | .typeAssert .. | .extract .. | .unOp .. =>true
 | .call { callee:=.builtin .copy, .. } | .call { callee:=.builtin .len, .. } | .call { callee:=.builtin .cap, .. } | .call { callee:=.builtin .clear, .. } | .call { callee:=.builtin .max, .. } | .call { callee:=.builtin .min, .. }=>true
 |_=>false
theorem iP{s:Sem Value}(h:Ns P s):Ns P (do pure (.value (<-s)):Sem Next):=aj h λ_=>cI
theorem Py{s:Sem Unit}(h:Ns P s):Ns P (do s;pure .skip:Sem Next):=aj h λ_=>cI
theorem iC{o:Oper}(h:sP o.op=true)(ρ:Operand->Value):Ns P (execOp ρ o):=by
 unfold execOp;revert h;cases o.op with
 |move _=>exact λ_=>trivial
 |assign _=>exact λ_=>trivial
 |pick _ _ _=>grind [aj,sO,cI]
 |alloc _=>grind [iP,IA]
 |box _ _=>grind [iP,PG]
 |build _ _=>grind [iP,Iy]
 |buildSlice _ _ _=>grind [iP,wa]
 |load _ _=>grind [iP,Fv]
 |store _ _ _=>grind [Py,BY]
 |makeInterface _ _=>grind [iP,sM]
 |makeFunc _ _ _=>exact λ_=>iP trivial
 |makeMap _ _=>grind [iP,B0]
 |makeSlice _ _ _=>grind [iP,yh]
 |slice _ _ _ _ _=>grind [iP,BZ]
 |field _ _ _=>grind [iP,Is]
 |indexAddr _ _ _=>grind [iP,Cb]
 |index _ _ _=>grind [iP,Iq]
 |entryStore _ _ _ _=>grind [Py,vZ]
 |range _ _=>grind [iP,Il]
 |next _ _=>grind [iP,Lp]
 |entry _=>grind [iP,Iw]
 |typeAssert _ _ _ _=>grind [iP,vY]
 |extract _ _=>grind [iP,Cc]
 |unOp _ _ _=>grind [iP,Ig]
 |call c=>
  intro h;obtain⟨ca,args,ts⟩:=c;cases ca with
  |builtin b=>
   have key:Ns P (builtin b ts o.type (args.map λ| .const _=>true |_=>false) (args.map ρ)):=by
    unfold builtin
    cases b <;> first
     |(cases h;done)
     |exact iP Ls
     |exact iP PD
     |exact iP PE
     |exact iP Ix
     |exact iP PC
     |exact iP Pz
   exact key
  |_=>cases h
 |_=>intro h;cases h
end
@[reducible] def GF:(t:Ty)->t.den->A
 | .int k,n=>.eq (.int k n)
 | .bool,b=>.eq (.bool b)
 | .str,b=>.eq (.string b)
 | .val,v=>.eq v
 | .ptr t,x=>.at t x
 |t,x=>.rep t x
theorem ju{S:FS}{w:World}{t:Ty}{x:t.den}{cs:List Value}(h:rd S w t x cs):(GF t x).holds S w (mk t.isAgg cs):=by
 cases t with
 |int k=>simp only [rd] at h;subst h;rfl
 |bool=>simp only [rd] at h;subst h;rfl
 |str=>simp only [rd] at h;subst h;rfl
 |val=>simp only [rd] at h;rw [h.1];rfl
 |ptr t=>
  obtain⟨b,off,c,T,fz,rfl,h⟩:=h;exact⟨b,off,c,T,fz,rfl,h⟩
 |pair a b=>exact⟨cs,h,rfl⟩
 |agg t=>exact⟨cs,h,rfl⟩
 |arr n t=>exact⟨cs,h,rfl⟩
 |slice t=>exact⟨cs,h,rfl⟩
 |tag a b=>exact⟨cs,h,rfl⟩
 |ign=>exact⟨cs,h,rfl⟩
 |alt t=>exact⟨cs,h,rfl⟩
 |lst t=>exact⟨cs,h,rfl⟩
 |mo p cs0 t=>exact⟨cs,h,rfl⟩
 |pl t0 t1 t=>exact⟨cs,h,rfl⟩
@[reducible] def nO:(t:Ty)->t.den->(off n:Nat)->(g:Bool)->Option ((u:Ty)×u.den)
 | .pair a b,x,off,n,g=>if off+n≤a.cells then nO a x.1 off n g else if a.cells≤off then nO b x.2 (off - a.cells) n g else none
 | .agg t,x,off,n,g=>if g=true/\off=0/\n=t.cells then some ⟨.agg t,x⟩ else nO t x off n g
 | .arr m t,l,off,n,g=>if g=true/\off=0/\n=m * t.cells then some ⟨.arr m t,l⟩ else none
 | .int k,x,off,n,g=>if g=false/\off=0/\n=1 then some ⟨.int k,x⟩ else none
 | .bool,x,off,n,g=>if g=false/\off=0/\n=1 then some ⟨.bool,x⟩ else none
 | .str,x,off,n,g=>if g=false/\off=0/\n=1 then some ⟨.str,x⟩ else none
 | .val,x,off,n,g=>if g=false/\off=0/\n=1 then some ⟨.val,x⟩ else none
 | .slice t,x,off,n,g=>if g=false/\off=0/\n=1 then some ⟨.slice t,x⟩ else none
 | .ptr t,x,off,n,g=>if g=false/\off=0/\n=1 then some ⟨.ptr t,x⟩ else none
 | .tag a b,x,off,n,g=>if g=false/\off=0/\n=1 then some ⟨.tag a b,x⟩ else none
 | .ign,x,off,n,g=>if g=false/\off=0/\n=1 then some ⟨.ign,x⟩ else none
 | .alt t,x,off,n,g=>if g=false/\off=0/\n=1 then some ⟨.alt t,x⟩ else none
 | .lst t,x,off,n,g=>if g=false/\off=0/\n=1 then some ⟨.lst t,x⟩ else none
 | .mo p cs0 t,x,off,n,g=>if g=false/\off=0/\n=1 then some ⟨.mo p cs0 t,x⟩ else none
 | .pl t0 t1 t,x,off,n,g=>if g=false/\off=0/\n=1 then some ⟨.pl t0 t1 t,x⟩ else none
theorem np{S:FS}{w:World}(t:Ty):∀{x:t.den} {cs:List Value} {off n:Nat} {g:Bool} {u:Ty} {y:u.den},rd S w t x cs->nO t x off n g=some ⟨u,y⟩->
 rd S w u y ((cs.drop off).take n)/\u.isAgg=g/\u.cells=n/\off+n≤t.cells:=by
 induction t with
 |pair a b iha ihb=>
  rintro x cs off n g u y ⟨c1,c2,rfl,h1,h2⟩ hg;have l1:=aN a h1;have l2:=aN b h2;simp only [nO] at hg;split at hg
  .rename_i hle;obtain⟨r1,r2,r3,r4⟩:=iha h1 hg;refine⟨?_,r2,r3,by simp only [Ty.cells];omega⟩;have hz:off+n - c1.length=0:=by omega
   rw [drop_append_of_le_length (by omega),take_append_of_le_length (by simp only [length_drop];omega)];exact r1
  .split at hg
   .rename_i hge;obtain⟨r1,r2,r3,r4⟩:=ihb h2 hg;refine⟨?_,r2,r3,by simp only [Ty.cells];omega⟩;rw [drop_append,drop_eq_nil_of_le (by omega),nil_append,l1];exact r1
   .cases hg
 |agg t ih=>
  intro x cs off n g u y h hg;have l:=aN t (x:=x) h;simp only [nO] at hg;split at hg
  .rename_i hh;obtain⟨rfl,rfl,rfl⟩:=hh;cases hg;simp_all [drop_zero,take_of_length_le,Ty.cells]
  .exact ih h hg
 |arr m t ih=>
  intro x cs off n g u y h hg;have l:=aN (.arr m t) h;simp only [nO] at hg;split at hg
  .rename_i hh;obtain⟨rfl,rfl,rfl⟩:=hh;cases hg;simp_all [drop_zero,take_of_length_le,Ty.cells]
  .cases hg
 |_=>
  intro x cs off n g u y h hg;have l:=aN _ h;simp only [Ty.cells] at l;simp only [nO] at hg;split at hg
  .rename_i hh;obtain⟨rfl,rfl,rfl⟩:=hh;cases hg;grind
  .cases hg
@[reducible] def A.isAgg:A->Bool
 | .agg _=>true
 | .rep t _=>t.isAgg
 |_=>false
@[reducible] def A.get:A->(off n:Nat)->(g:Bool)->Option A
 | .pair a b,off,n,g=>if off+n≤a.n then a.get off n g else if a.n≤off then b.get (off - a.n) n g else none
 | .agg a,off,n,g=>if g=true/\off=0/\n=a.n then some (.agg a) else a.get off n g
 | .rep t x,off,n,g=>match nO t x off n g with
  |some ⟨u,y⟩=>some (GF u y)
  |none=>none
 | .eq v,off,n,g=>if g=false/\off=0/\n=1 then some (.eq v) else none
 | .at t x,off,n,g=>if g=false/\off=0/\n=1 then some (.at t x) else none
 | .tup _,_,_,_=>none
 | .fn _ _,_,_,_=>none
 | .full _ _,_,_,_=>none
 | .any,_,_,_=>none
theorem iK{S:FS}{w:World}(a:A):∀{cs:List Value} {off n:Nat} {g:Bool} {r:A},a.cells S w cs->a.get off n g=some r->
 r.holds S w (mk g ((cs.drop off).take n))/\off+n≤a.n:=by
 induction a with
 |pair a b iha ihb=>
  rintro cs off n g r ⟨c1,c2,rfl,h1,h2⟩ hg;have l1:=a.cells_length h1;have l2:=b.cells_length h2;simp only [A.get] at hg;split at hg
  .grind
  .split at hg
   .obtain⟨r1,r2⟩:=ihb h2 hg;refine⟨?_,by grind⟩;simp_all [drop_append,drop_eq_nil_of_le,nil_append]
   .cases hg
 |agg a ih=>
  intro cs off n g r h hg;have l:=a.cells_length h;simp only [A.get] at hg;split at hg
  .rename_i hh;obtain⟨rfl,rfl,rfl⟩:=hh;cases hg;exact⟨⟨cs,h,by rw [drop_zero,take_of_length_le (by omega)];rfl⟩,by simp [A.n]⟩
  .exact ih h hg
 |rep t x=>
  intro cs off n g r h hg;simp only [A.get] at hg;split at hg
  .rename_i u y he;cases hg;obtain⟨r1,r2,_,r4⟩:=np t h he;grind [ju]
  .cases hg
 |eq v=>
  rintro cs off n g r ⟨rfl,_⟩ hg;simp only [A.get] at hg;split at hg
  .rename_i hh;obtain⟨rfl,rfl,rfl⟩:=hh;cases hg;exact⟨rfl,by simp [A.n]⟩
  .cases hg
 |«at» t x=>
  intro cs off n g r h hg;have l:=aN (.ptr t) h;simp only [Ty.cells] at l;simp only [A.get] at hg;split at hg
  .rename_i hh;obtain⟨rfl,rfl,rfl⟩:=hh;cases hg;match cs,l with
   |[v],_=>exact⟨h,by simp [A.n]⟩
  .cases hg
 |tup a _=>grind
 |fn f a _=>grind
 |full t l=>grind
 |any=>grind
@[reducible] def TX(b:A):Option A->Option A
 |some a=>some (.pair a b)
 |none=>none
@[reducible] def TW(a:A):Option A->Option A
 |some b=>some (.pair a b)
 |none=>none
@[reducible] def TY:Option A->Option A
 |some a=>some (.agg a)
 |none=>none
theorem Ae{b:A}{o:Option A}{x:A}(h:TX b o=some x):∃a,o=some a/\.pair a b=x:=by
 grind
theorem Ad{a:A}{o:Option A}{x:A}(h:TW a o=some x):∃b,o=some b/\.pair a b=x:=by
 grind
theorem Af{o:Option A}{x:A}(h:TY o=some x):∃a,o=some a/\.agg a=x:=by
 grind
@[reducible] def qT:(t:Ty)->t.den->(off n:Nat)->(g:Bool)->A->Option A
 | .pair a b,x,off,n,g,r=>if off+n≤a.cells then TX (.rep b x.2) (qT a x.1 off n g r) else if a.cells≤off then TW (.rep a x.1) (qT b x.2 (off - a.cells) n g r) else none
 | .agg t,x,off,n,g,r=>if g=true/\off=0/\n=t.cells then some r else TY (qT t x off n g r)
 | .arr m t,_,off,n,g,r=>if g=true/\off=0/\n=m * t.cells then some r else none
 |_,_,off,n,g,r=>if g=false/\off=0/\n=1 then some r else none
@[reducible] def A.set:A->(off n:Nat)->(g:Bool)->A->Option A
 | .pair a b,off,n,g,r=>if off+n≤a.n then TX b (a.set off n g r) else if a.n≤off then TW a (b.set (off - a.n) n g r) else none
 | .agg a,off,n,g,r=>if g=true/\off=0/\n=a.n then some r else TY (a.set off n g r)
 | .rep t x,off,n,g,r=>qT t x off n g r
 | .eq _,off,n,g,r=>if g=false/\off=0/\n=1 then some r else none
 | .at _ _,off,n,g,r=>if g=false/\off=0/\n=1 then some r else none
 | .tup _,_,_,_,_=>none
 | .fn _ _,_,_,_,_=>none
 | .full _ _,_,_,_,_=>none
 | .any,_,_,_,_=>none
theorem BE{S:FS}{w:World}(t:Ty):∀{x:t.den} {cs new:List Value} {off n:Nat} {g:Bool} {r a':A},rd S w t x cs->r.cells S w new->new.length=n->qT t x off n g r=some a'->
 a'.cells S w (cs.take off++new++cs.drop (off+n))/\off+n≤t.cells:=by
 induction t with
 |pair a b iha ihb=>
  rintro x cs new off n g r a' ⟨c1,c2,rfl,h1,h2⟩ hr hn hg;have l1:=aN a h1;have l2:=aN b h2;simp only [qT] at hg;split at hg
  .rename_i hle;obtain⟨a1,e,rfl⟩:=Ae hg;obtain⟨r1,r2⟩:=iha h1 hr hn e;refine⟨⟨_,c2,?_,r1,h2⟩,by grind⟩;grind
  .split at hg
   .obtain⟨b1,e,rfl⟩:=Ad hg;obtain⟨r1,r2⟩:=ihb h2 hr hn e;refine⟨⟨c1,_,?_,h1,r1⟩,by grind⟩;rw [take_append,take_of_length_le (by omega),drop_append,drop_eq_nil_of_le (by omega),nil_append,l1];grind
   .cases hg
 |agg t ih=>
  intro x cs new off n g r a' h hr hn hg;have l:=aN t (x:=x) h;simp only [qT] at hg;split at hg
  .rename_i hh;obtain⟨rfl,rfl,rfl⟩:=hh;grind
  .obtain⟨a1,e,rfl⟩:=Af hg;have q:=ih h hr hn e;exact q
 |arr m t ih=>
  intro x cs new off n g r a' h hr hn hg;have l:=aN (.arr m t) h;simp_all [Ty.cells,qT,take_zero,nil_append,drop_eq_nil_of_le,append_nil]
 |_=>
  intro x cs new off n g r a' h hr hn hg;have l:=aN _ h;simp_all [Ty.cells,qT,take_zero,nil_append,drop_eq_nil_of_le,append_nil]
theorem lN{S:FS}{w:World}(a:A):∀{cs new:List Value} {off n:Nat} {g:Bool} {r a':A},a.cells S w cs->r.cells S w new->new.length=n->a.set off n g r=some a'->
 a'.cells S w (cs.take off++new++cs.drop (off+n))/\off+n≤a.n:=by
 induction a with
 |pair a b iha ihb=>
  rintro cs new off n g r a' ⟨c1,c2,rfl,h1,h2⟩ hr hn hg;have l1:=a.cells_length h1;have l2:=b.cells_length h2;simp only [A.set] at hg;split at hg
  .rename_i hle;obtain⟨a1,e,rfl⟩:=Ae hg;obtain⟨r1,r2⟩:=iha h1 hr hn e;refine⟨⟨_,c2,?_,r1,h2⟩,by grind⟩;grind
  .split at hg
   .obtain⟨b1,e,rfl⟩:=Ad hg;obtain⟨r1,r2⟩:=ihb h2 hr hn e;refine⟨⟨c1,_,?_,h1,r1⟩,by grind⟩;rw [take_append,take_of_length_le (by omega),drop_append,drop_eq_nil_of_le (by omega),nil_append,l1];grind
   .cases hg
 |agg a ih=>
  intro cs new off n g r a' h hr hn hg;have l:=a.cells_length h;simp only [A.set] at hg;split at hg
  .rename_i hh;obtain⟨rfl,rfl,rfl⟩:=hh;grind
  .obtain⟨a1,e,rfl⟩:=Af hg;have q:=ih h hr hn e;exact q
 |rep t x=>intro cs new off n g r a' h hr hn hg;exact BE t h hr hn hg
 |eq v=>
  rintro cs new off n g r a' ⟨rfl,_⟩ hr hn hg;simp_all
 |«at» t x=>
  intro cs new off n g r a' h hr hn hg;have l:=aN (.ptr t) h;simp_all [Ty.cells,A.set,A.n,take_zero,nil_append,drop_eq_nil_of_le,append_nil]
 |tup a _=>grind
 |fn f a _=>grind
 |full t l=>grind
 |any=>grind
@[reducible] def Ty.isVal:Ty->Bool
 | .pair _ _=>false
 |_=>true
theorem mF{t:Ty}(h:t.isVal=true)(hg:t.isAgg=false):t.cells=1:=by
 cases t <;> first |rfl |simp_all |simp_all
@[reducible] def A.stor:A->Prop
 | .eq v=>be v=true
 | .rep t _=>t.isVal=true
 | .at _ _=>True
 | .agg _=>True
 |_=>False
theorem eF{S:FS}{w:World}{r:A}{v:Value}(h:r.holds S w v)(ho:r.stor):r.cells S w v.cells.toList/\v.cells.toList.length=r.n/\v=mk r.isAgg v.cells.toList:=by
 cases r with
 |eq v0=>
  have e:v=v0:=h;subst e;have ho':be v=true:=ho;have hc:v.cells= #[v]:=by cases v <;> first |rfl |grind [be]
  rw [hc];exact⟨⟨rfl,ho'⟩,rfl,rfl⟩
 |rep t x=>
  obtain⟨cs,h1,rfl⟩:=h;have l:=aN t h1;have h2:=xY t h1;cases hg:t.isAgg with
  |true=>
   simp only [mk,if_true,Value.cells];exact⟨h1,l,by simp [hg]⟩
  |false=>
   have e1:=mF ho hg;rw [e1] at l;match cs,l with
   |[c],_=>
    have hc1:=h2 c (by simp);have hc:c.cells= #[c]:=by cases c <;> first |rfl |grind [be]
    simp only [mk,Bool.false_eq_true,if_false,headD_cons,hc];exact⟨h1,e1.symm,by simp [hg]⟩
 |«at» t x=>
  obtain⟨b,off,c,T,fz,e,h⟩:=h;simp only [List.cons.injEq,and_true] at e;subst e;exact⟨⟨b,off,c,T,fz,rfl,h⟩,rfl,rfl⟩
 |pair a b=>grind
 |agg a=>
  obtain⟨cs,h1,rfl⟩:=h;exact⟨h1,a.cells_length h1,by simp [mk,Value.cells]⟩
 |tup a=>grind
 |fn f a=>grind
 |full t l=>grind
 |any=>grind
structure SR(P:Program)(T:TypeId)(t:Ty):Prop where
 size:∀w,(sizeOf T).run P w= .ok t.cells w
 agg:∀w,(isAgg T).run P w= .ok t.isAgg w
theorem SR.of{P:Program}{T:TypeId}{t:Ty}{i:TypeInfo}(hi:P.info? T=some i)(hs:i.size=t.cells)(ha:∀w,(isAgg T).run P w= .ok t.isAgg w):SR P T t:=
 ⟨λw=>by simp [sizeOf,typeInfo,program,stuck,Sem.run,hi,hs],ha⟩
def CQ(P:Program)(T f off:Nat):Bool:=match P.underlying T with
 |some (.struct fs)=>(match fs[f]? with
  |some fd=>fd.offset == off && (match P.info? fd.type with |some i=>i.size != 0 |none=>false)
  |none=>false)
 |_=>false
def aV(P:Program)(T f off:Nat):Prop:=CQ P T f off=true
theorem aV.of{P:Program}{T f off:Nat}(h:CQ P T f off=true):aV P T f off:=h
theorem gZ(b k n:Nat):(⟨b,k,none⟩:Addr).add n=⟨b,k+n,none⟩:=by
 simp_all [Addr.add]
theorem aV.ex{P:Program}{T f off:Nat}(h:aV P T f off):∃fs fd i,P.underlying T=some (.struct fs)/\fs[f]? =some fd/\fd.offset=off/\P.info? fd.type=some i/\i.size≠0:=by
 unfold aV CQ at h;grind
theorem aV.run{P:Program}{T f off:Nat}(h:aV P T f off)(w:World)(b k:Nat):(Instr.fieldAt T (.pointer (some ⟨b,k,none⟩)) f).run P w= .ok (.pointer (some ⟨b,k+off,none⟩)) w:=by
 obtain⟨fs,fd,i,h1,h2,h3,h4,h5⟩:=h.ex;simp [Instr.fieldAt,run_underlying h1,h2,Instr.sureAddr,fieldPlace,sizeOf,typeInfo,program,Sem.run,h4,h5,gZ,h3]
theorem aV.ns{P:Program}{T f off:Nat}(h:aV P T f off)(x:Value):Ns P (Instr.fieldAt T x f):=by
 obtain⟨fs,fd,i,h1,h2,h3,h4,h5⟩:=h.ex;refine iZ h1 ?_;dsimp only;rw [h2];refine aj jP λa=>aj ?_ λ_=>cI
 have e:(sizeOf fd.type:Sem Nat)=(program >>=λp=>match p.info? fd.type with |some i=>pure i.size |none=>stuck "no such type"):=by
  show(Sem.program _).bind _=Sem.program _;simp only [Sem.bind];congr 1;funext p;show((match p.info? fd.type with |some i=>pure i |none=>stuck "no such type" :Sem TypeInfo)).bind _=_;cases p.info? fd.type <;> rfl
 unfold fieldPlace;rw [e,jY];refine lw ?_;rw [h4];show Ns P (if i.size=0 then _ else _);rw [if_neg h5];exact cI
theorem aV.nsx{P:Program}{o:Oper}{T f off:Nat}{x:Operand}(h:aV P T f off)(ho:o.op= .fieldAddr T x f)(ρ:Operand->Value):Ns P (execOp ρ o):=by
 unfold execOp;rw [ho];exact iP (h.ns _)
theorem xR(P:Program)(w:World)(b:Nat)(c:Array Value)(T:TypeId)(fz:Nat×Nat)(hb:w.heap[b]? =some (.cells c T fz))(off:Nat):
 ∀(n i:Nat) (acc:Array Value),off+i+n≤c.size->(loadCellsFrom ⟨b,off,none⟩ i n acc).run P w= .ok (acc++((c.toList.drop (off+i)).take n).toArray) w:=by
 intro n
 induction n with
 |zero=>simp_all [loadCellsFrom]
 |succ n ih=>
  intro i acc h;have hlt:off+i < c.size:=by omega
  simp only [loadCellsFrom,load,Sem.run_bind,Sem.run,gZ,World.cell?,hb,Option.isSome_none,Bool.false_eq_true,if_false,Array.getElem?_eq_getElem hlt,Result.andThen_ok];rw [ih (i+1) _ (by omega)];congr 1;grind
theorem zy{α:Type}(v:α)(l2:List α):∀l1:List α,(l1++v::l2).take (l1.length+1)=l1++[v]
 |[]=>rfl
 |x::l1=>by grind
theorem vm{α:Type}(v:α)(l2:List α)(n:Nat):∀l1:List α,(l1++v::l2).drop (l1.length+1+n)=l2.drop n
 |[]=>by grind
 |x::l1=>by
  have:=vm v l2 n l1
  grind
theorem ll(P:Program)(b:Nat)(T:TypeId)(off:Nat):∀(vs:List Value) (i:Nat) (w:World) (c:Array Value),w.heap[b]? =some (.cells c T (0,0))->(∀v∈vs,be v=true)->off+i+vs.length≤c.size->
 (storeCells ⟨b,off,none⟩ vs i).run P w= .ok () { w with heap:=w.heap.setIfInBounds b (.cells (c.toList.take (off+i)++vs++c.toList.drop (off+i+vs.length)).toArray T (0,0)) }:=by
 intro vs
 induction vs with
 |nil=>
  intro i w c hb _ _;simp only [storeCells,Sem.run_pure,append_nil,length_nil,Nat.add_zero,take_append_drop,toArray_toList];congr 1;obtain⟨hlt,e⟩:=Array.getElem?_eq_some_iff.1 hb
  have:w.heap.setIfInBounds b (.cells c T (0,0))=w.heap:=by
   grind
  rw [this]
 |cons v vs ih=>
  intro i w c hb h1 hle;simp only [length_cons] at hle;have hlt:off+i < c.size:=by omega
  obtain⟨hbl,hcb⟩:=Array.getElem?_eq_some_iff.1 hb;have hv:=h1 v (by simp)
  have hst:(store ((⟨b,off,none⟩:Addr).add i) v).run P w= .ok () (w.setCell ⟨b,off+i,none⟩ v):=by
   rw [gZ];unfold store
   cases v <;> first
    |(simp [be] at hv;done)
    |grind [Sem.run,World.cell?,Array.getElem?_eq_getElem,World.frozen?]
  have hb':(w.setCell ⟨b,off+i,none⟩ v).heap[b]? =some (.cells (c.setIfInBounds (off+i) v) T (0,0)):=by
   simp [World.setCell,Array.getElem?_modify,hb]
  simp only [storeCells,Sem.run_bind,hst,Result.andThen_ok];rw [ih (i+1) _ _ hb' (λu hu=>h1 u (by simp [hu])) (by simp;omega)];congr 1
  have hh:(w.setCell ⟨b,off+i,none⟩ v).heap=w.heap.setIfInBounds b (.cells (c.setIfInBounds (off+i) v) T (0,0)):=by
   apply Array.ext_getElem?;grind [World.setCell]
  simp only [World.setCell] at hh⊢;rw [hh];simp only [setIfInBounds_setIfInBounds];congr 4
  have e1:(c.setIfInBounds (off+i) v).toList=c.toList.take (off+i)++v::c.toList.drop (off+i+1):=by
   simp_all [toList_setIfInBounds,set_eq_take_append_cons_drop,if_pos]
  rw [e1];have lt:(c.toList.take (off+i)).length=off+i:=by simp;omega
  have e2:off+(i+1)=(c.toList.take (off+i)).length+1:=by omega
  rw [e2,zy,Nat.add_assoc,Nat.add_comm 1 vs.length,<-Nat.add_assoc,Nat.add_right_comm,vm,drop_drop];simp only [List.append_assoc,cons_append,nil_append,length_cons];grind
theorem bB.val0{P:Program}{M:Md P}{o:Oper}{N:List (Operand×A)}{r:A}
 (h:∀(S:FS) (w:World) (a:Act),bI S w a N->∃v,(execOp a.eval o).run P w= .ok (.value v) w/\r.holds S w v) (hnd:nd o.op=true:=by simp only [nd, *]) (hns:∀(S:FS) (w:World) (a:Act),bI S w a N->Ns P (execOp a.eval o):=by exact λ_ _ a _=>iC (by simp only [sP, *]) a.eval):bB M o N [] (λ_:Unit=>(r,[])):=by
 refine vP.T ⟨hnd,λS w a next hd hN ho k=>?_⟩ (λS w a h _=>hns S w a h) (λd hd=>by simp at hd)
 obtain⟨v,hv,hr⟩:=h S w a hN
 rw [hv]
 exact k () S w v (j6.refl hd) hr ho (λb ⟨e,he,_⟩=>by simp at he)
theorem bB.val1{P:Program}{M:Md P}{o:Oper}{N:List (Operand×A)}{r:A}{e:D}
 (h:∀(S:FS) (w:World) (a:Act),bI S w a N->e.holds S w->∃v,(execOp a.eval o).run P w= .ok (.value v) w/\r.holds S w v) (hnd:nd o.op=true:=by simp only [nd, *]) (hns:∀(S:FS) (w:World) (a:Act),bI S w a N->Ns P (execOp a.eval o):=by exact λ_ _ a _=>iC (by simp only [sP, *]) a.eval) (hcm:e.calmP:=by exact trivial):bB M o N [e] (λ_:Unit=>(r,[e])):=by
 refine vP.T ⟨hnd,λS w a next hd hN ho k=>?_⟩ (λS w a h _=>hns S w a h) (λd hd=>by simp_all)
 obtain⟨v,hv,hr⟩:=h S w a hN (ho.holds e (by simp))
 rw [hv]
 exact k () S w v (j6.refl hd) hr ho (λb hb=>.inl hb)
section
variable {P:Program}{M:Md P}{o:Oper}{x y z:Operand}{T T':TypeId}{r r':A}
theorem bL(ho:o.op= .move x):bB M o [(x,r)] [] (λ_:Unit=>(r,[])):=
 .val0 λ_ w a h=>⟨a.eval x,by simp [execOp,ho],h.1⟩
theorem ru(ho:o.op= .assign x):bB M o [(x,r)] [] (λ_:Unit=>(r,[])):=
 .val0 λ_ w a h=>⟨a.eval x,by simp [execOp,ho],h.1⟩
theorem H4(ho:o.op= .pick x y z):bB M o [(x,.eq (.bool true)),(y,r)] [] (λ_:Unit=>(r,[])):=
 .val0 λ_ w a h=>⟨a.eval y,by
  have e:a.eval x= .bool true:=h.1
  simp [execOp,ho,e,asBool],h.2.1⟩
theorem H5(ho:o.op= .pick x y z):bB M o [(x,.eq (.bool false)),(z,r)] [] (λ_:Unit=>(r,[])):=
 .val0 λ_ w a h=>⟨a.eval z,by
  have e:a.eval x= .bool false:=h.1
  simp [execOp,ho,e,asBool],h.2.1⟩
theorem uh{b:BinOp}{ρ:Operand->Value}(ho:o.op= .binOp b T x y T')(h:Ns P (binOp b T (ρ x) (ρ y))):Ns P (execOp ρ o):=by
 grind [execOp,iP,aj,Ir]
theorem DY{ρ:Operand->Value}(ho:o.op= .nilCheck x)(h:(∃p,ρ x= .pointer (some p))\/∃f c d,ρ x= .func (.func f) c d):Ns P (execOp ρ o):=by
 grind [execOp,Ns,cI]
theorem jO{b:BinOp}{u v q:Value}(ho:o.op= .binOp b T x y T')(hr:∀w,(do eqGuard b T x y u v;binOp b T u v:Sem Value).run P w= .ok q w)(hns:Ns P (binOp b T u v):=by exact uW rfl rfl):
 bB M o [(x,.eq u),(y,.eq v)] [] (λ_:Unit=>(.eq q,[])):=
 bB.val0 (hns:=λ_ _ a h=>uh ho (by
  have e1:a.eval x=u:=h.1
  have e2:a.eval y=v:=h.2.1
  simp_all)) λ_ w a h=>⟨q,by
  have e1:a.eval x=u:=h.1
  have e2:a.eval y=v:=h.2.1
  grind [Sem.run_bind,execOp,Result.andThen_ok,Sem.run_pure],rfl⟩
def ck(n:Int):Option Int:=if -9223372036854775808≤n/\n≤9223372036854775807 then some n else none
theorem yF{n z:Int}(h:ck n=some z):IntKind.i64.wrap n=z:=by
 unfold ck at h;split at h
 .cases h;rename_i hh;have e:(2:Int) ^ IntKind.i64.bits=18446744073709551616:=by decide
  have e2:(2:Int) ^ (IntKind.i64.bits - 1)=9223372036854775808:=by decide
  have e3:IntKind.i64.signed=true:=rfl;simp only [IntKind.wrap,e,e2,e3,Bool.true_and,ge_iff_le,decide_eq_true_eq];omega
 .cases h
theorem bA{n m q:Int}(ho:o.op= .binOp .add T x y T')(h:ck (n+m)=some q):bB M o [(x,.eq (.int .i64 n)),(y,.eq (.int .i64 m))] [] (λ_:Unit=>(.eq (.int .i64 q),[])):=
 jO ho λw=>by simp [eqGuard,binOp,Op.intArith,yF h]
theorem eA{n m q:Int}(ho:o.op= .binOp .sub T x y T')(h:ck (n - m)=some q):bB M o [(x,.eq (.int .i64 n)),(y,.eq (.int .i64 m))] [] (λ_:Unit=>(.eq (.int .i64 q),[])):=
 jO ho λw=>by simp [eqGuard,binOp,Op.intArith,yF h]
theorem Ie{k:IntKind}{n m:Int}(ho:o.op= .binOp .add T x y T'):bB M o [(x,.eq (.int k n)),(y,.eq (.int k m))] [] (λ_:Unit=>(.eq (.int k (k.wrap (n+m))),[])):=
 jO ho λw=>by simp [eqGuard,binOp,Op.intArith]
theorem BU{k:IntKind}{n m:Int}(ho:o.op= .binOp .mul T x y T'):bB M o [(x,.eq (.int k n)),(y,.eq (.int k m))] [] (λ_:Unit=>(.eq (.int k (k.wrap (n * m))),[])):=
 jO ho λw=>by simp [eqGuard,binOp,Op.intArith]
theorem Q9{k:IntKind}{n m:Int}(ho:o.op= .binOp .rem T x y T')(h:m≠0):bB M o [(x,.eq (.int k n)),(y,.eq (.int k m))] [] (λ_:Unit=>(.eq (.int k (n.tmod m)),[])):=
 jO ho λw=>by simp [eqGuard,binOp,Op.intDiv,h]
section
variable {k:IntKind}{n m:Int}
theorem bG(ho:o.op= .binOp .lss T x y T'):bB M o [(x,.eq (.int k n)),(y,.eq (.int k m))] [] (λ_:Unit=>(.eq (.bool (decide (n < m))),[])):=
 jO ho λw=>by simp [eqGuard,binOp,Op.intCmp]
theorem DO(ho:o.op= .binOp .leq T x y T'):bB M o [(x,.eq (.int k n)),(y,.eq (.int k m))] [] (λ_:Unit=>(.eq (.bool (decide (n≤m))),[])):=
 jO ho λw=>by simp [eqGuard,binOp,Op.intCmp]
theorem oG(ho:o.op= .binOp .gtr T x y T'):bB M o [(x,.eq (.int k n)),(y,.eq (.int k m))] [] (λ_:Unit=>(.eq (.bool (decide (m < n))),[])):=
 jO ho λw=>by simp [eqGuard,binOp,Op.intCmp]
theorem kC(ho:o.op= .binOp .geq T x y T'):bB M o [(x,.eq (.int k n)),(y,.eq (.int k m))] [] (λ_:Unit=>(.eq (.bool (decide (m≤n))),[])):=
 jO ho λw=>by simp [eqGuard,binOp,Op.intCmp]
theorem jN(ho:o.op= .binOp .eql T x y T'):bB M o [(x,.eq (.int k n)),(y,.eq (.int k m))] [] (λ_:Unit=>(.eq (.bool (decide (n=m))),[])):=
 jO ho λw=>by
  have:(n == m)=decide (n=m):=by grind
  simp [eqGuard,binOp,Op.intCmp,this]
theorem eX(ho:o.op= .binOp .neq T x y T'):bB M o [(x,.eq (.int k n)),(y,.eq (.int k m))] [] (λ_:Unit=>(.eq (.bool (!decide (n=m))),[])):=
 jO ho λw=>by
  have:(n != m)= !decide (n=m):=by grind
  simp [eqGuard,binOp,Op.intCmp,this]
def qD(k:IntKind)(n m:Int):Int:=k.wrap (BitVec.ofInt k.bits n &&& BitVec.ofInt k.bits m).toNat
def D8(k:IntKind)(n m:Int):Int:=k.wrap (BitVec.ofInt k.bits n |||BitVec.ofInt k.bits m).toNat
def tc(k:IntKind)(n m:Int):Int:=k.wrap (BitVec.ofInt k.bits n ^^^ BitVec.ofInt k.bits m).toNat
def IS(k:IntKind)(n m:Int):Int:=k.wrap (BitVec.ofInt k.bits n &&& ~~~ BitVec.ofInt k.bits m).toNat
def oO(k:IntKind)(n m:Int):Int:=k.wrap (n * 2 ^ (min m.toNat k.bits))
def iu(k:IntKind)(n m:Int):Int:=n.fdiv (2 ^ (min m.toNat k.bits))
theorem Rf(ho:o.op= .binOp .and T x y T'):bB M o [(x,.eq (.int k n)),(y,.eq (.int k m))] [] (λ_:Unit=>(.eq (.int k (qD k n m)),[])):=
 jO ho λw=>by simp [eqGuard,binOp,Op.intBits,qD]
theorem TU(ho:o.op= .binOp .or T x y T'):bB M o [(x,.eq (.int k n)),(y,.eq (.int k m))] [] (λ_:Unit=>(.eq (.int k (D8 k n m)),[])):=
 jO ho λw=>by simp [eqGuard,binOp,Op.intBits,D8]
theorem N4(ho:o.op= .binOp .xor T x y T'):bB M o [(x,.eq (.int k n)),(y,.eq (.int k m))] [] (λ_:Unit=>(.eq (.int k (tc k n m)),[])):=
 jO ho λw=>by simp [eqGuard,binOp,Op.intBits,tc]
theorem N5{k':IntKind}(ho:o.op= .binOp .shl T x y T')(h:0≤m):bB M o [(x,.eq (.int k n)),(y,.eq (.int k' m))] [] (λ_:Unit=>(.eq (.int k (oO k n m)),[])):=
 jO ho λw=>by simp [eqGuard,binOp,Op.shift,oO,show¬m < 0 by omega]
theorem uS{k':IntKind}(ho:o.op= .binOp .shr T x y T')(h:0≤m):bB M o [(x,.eq (.int k n)),(y,.eq (.int k' m))] [] (λ_:Unit=>(.eq (.int k (iu k n m)),[])):=
 jO ho λw=>by simp [eqGuard,binOp,Op.shift,iu,show¬m < 0 by omega]
end
theorem Pg{u v:Bool}(ho:o.op= .binOp .neq T x y T')(hT:P.underlying T=some .bool):bB M o [(x,.eq (.bool u)),(y,.eq (.bool v))] [] (λ_:Unit=>(.eq (.bool (!decide (u=v))),[])):=
 jO ho λw=>by
  have:(u == v)=decide (u=v):=by grind
  simp_all [eqGuard,binOp,Op.equal,Op.maxDepth,run_equalIn_bool]
theorem iY{u:Bool}(ho:o.op= .unOp .not T x):bB M o [(x,.eq (.bool u))] [] (λ_:Unit=>(.eq (.bool (!u)),[])):=
 .val0 λ_ w a h=>⟨.bool !u,by
  have e:a.eval x= .bool u:=h.1
  simp [execOp,ho,e,Op.unary],rfl⟩
theorem sJ{k k':IntKind}{n:Int}(ho:o.op= .convert T T' x)(hT:P.underlying T=some (.int k))(hT':P.underlying T'=some (.int k')):bB M o [(x,.eq (.int k n))] [] (λ_:Unit=>(.eq (.int k' (k'.wrap n)),[])):=
 bB.val0 (hns:=λ_ _ a h=>by
  have e:a.eval x= .int k n:=h.1
  grind [execOp,Ns,pure,convert,iP,Cf]) λ_ w a h=>⟨.int k' (k'.wrap n),by
  have e:a.eval x= .int k n:=h.1
  simp [execOp,ho,e,convert,run_underlying hT,run_underlying hT',Conv.intToInt],rfl⟩
theorem zQ{k:IntKind}{n q:Int}(ho:o.op= .convert T T' x)(hT:P.underlying T=some (.int k))(hT':P.underlying T'=some (.int .i64))(h:ck n=some q):bB M o [(x,.eq (.int k n))] [] (λ_:Unit=>(.eq (.int .i64 q),[])):=by
 grind [sJ,yF]
@[reducible] def xN:A->Nat->Option A
 | .pair a _,0=>some a
 | .pair _ b,n+1=>xN b n
 |_,_=>none
theorem zt{S:FS}{w:World}{r:A}(a:A):∀{vs:List Value} {i:Nat},A.holds.holdsAll S w a vs->xN a i=some r->∃v,vs[i]? =some v/\r.holds S w v:=by
 induction a with
 |pair a b _ ihb=>
  rintro vs i ⟨v,vs',rfl,h1,h2⟩ hg;cases i with
  |zero=>simp_all
  |succ i=>
   simp_all
 |_=>simp_all
theorem mV{i:Nat}{a0:A}(ho:o.op= .extract x i)(hi:xN a0 i=some r):bB M o [(x,.tup a0)] [] (λ_:Unit=>(r,[])):=
 .val0 λS w a h=>by
  obtain⟨vs,e,h1⟩:=h.1
  obtain⟨v,h2,h3⟩:=zt a0 h1 hi
  simp_all [execOp,Instr.extract]
theorem nP{t:Ty}{l:List t.den}{e:TypeId}{c:Call}(ho:o.op= .call c)(hc:c={ callee:=.builtin .len,args:= #[x],argTypes:= #[T] })(hT:P.underlying T=some (.slice e)):
 bB M o [(x,.rep (.slice t) l)] [] (λ_:Unit=>(.eq (.int .i64 l.length),[])):=
 .val0 λS w a h=>by
  obtain⟨cs,h1,h2⟩:=h.1
  have hv:∃a0 cap,a.eval x= .slice a0 l.length cap:=by
   rcases h1 with⟨a0,cap,rfl,rfl⟩ |⟨b,off,cap,cc,T0,fz,rfl,_⟩
   .exact⟨a0,cap,h2⟩
   .exact⟨_,cap,h2⟩
  obtain⟨a0,cap,e⟩:=hv;exact⟨.int .i64 l.length,by simp [execOp,ho,hc,resolve,invoke,builtin,e,Builtin.len_,run_underlying hT,goInt],rfl⟩
theorem iL{t:Ty}{l:List t.den}{e TE:TypeId}{c:Call}{v:Value}(ho:o.op= .call c)(hc:c={ callee:=.builtin .len,args:= #[x],argTypes:= #[T] })(hT:P.underlying T=some (.slice e)):
 bB M o [(x,.eq v)] [.sl v TE t l] (λ_:Unit=>(.eq (.int .i64 l.length),[.sl v TE t l])):=
 .val1 λS w a h hs=>by
  have e1:a.eval x=v:=h.1
  have hv:∃a0 cap,v= .slice a0 l.length cap:=by
   rcases hs with⟨rfl,rfl⟩ |⟨b,cap,cc,rfl,_⟩
   .simp_all
   simp_all
  obtain⟨a0,cap,e2⟩:=hv;exact⟨.int .i64 l.length,by simp [execOp,ho,hc,resolve,invoke,builtin,e1,e2,Builtin.len_,run_underlying hT,goInt],rfl⟩
structure eu(P:Program)(T:TypeId)(n:Nat)(g:Bool):Prop where
 size:∀w,(sizeOf T).run P w= .ok n w
 agg:∀w,(isAgg T).run P w= .ok g w
theorem fZ{w:World}{n:Nat}{g:Bool}(ht:eu P T n g)(hg:g=false->n=1){b:Nat}{c:Array Value}{T0:TypeId}{fz:Nat×Nat}(hb:w.heap[b]? =some (.cells c T0 fz)){off:Nat}
 (hle:off+n≤c.size):(loadVar T ⟨b,off,none⟩).run P w= .ok (mk g ((c.toList.drop off).take n)) w:=by
 simp only [loadVar,Sem.run_bind,ht.agg,Result.andThen_ok]
 cases g with
 |true=>
  simp only [if_true,Sem.run_bind,ht.size,Result.andThen_ok,loadCells,xR P w b c T0 fz hb off n 0 #[] (by omega)];simp [mk]
 |false=>
  have e1:=hg rfl;have hlt:off < c.size:=by omega
  simp only [Bool.false_eq_true,if_false,load,Sem.run,World.cell?,hb,Option.isSome_none,Array.getElem?_eq_getElem hlt];simp_all [drop_eq_getElem_cons,mk]
theorem ay{t:Ty}{d:t.den}(ho:o.op= .load T x)(ht:eu P T t.cells t.isAgg)(hv:t.isVal=true):bB M o [(x,.at t d)] [] (λ_:Unit=>(GF t d,[])):=
 .val0 λS w a h=>by
  obtain⟨b,off,c,T0,fz,e,_,h2,h3⟩:=h.1
  simp only [List.cons.injEq,and_true] at e
  have l:=aN t h3
  have hle:off+t.cells≤c.size\/t.cells=0:=by
   grind
  have hr:(loadVar T ⟨b,off,none⟩).run P w= .ok (mk t.isAgg ((c.toList.drop off).take t.cells)) w:=by
   rcases hle with hle |hz
   .grind [fZ,mF]
   .have hg:t.isAgg=true:=by grind [mF]
    simp only [loadVar,Sem.run_bind,ht.agg,Result.andThen_ok,hg,if_true,ht.size,loadCells,hz,loadCellsFrom,Sem.run_pure,take_zero,mk]
  simp_all [execOp,Instr.loadAt,Instr.sureAddr,ju]
theorem ax{b off n:Nat}{g:Bool}{T0:TypeId}{a0:A}(ho:o.op= .load T x)(ht:eu P T n g)(hg:g=false->n=1)(hget:a0.get off n g=some r):
 bB M o [(x,.eq (.pointer (some ⟨b,off,none⟩)))] [.obj b T0 a0] (λ_:Unit=>(r,[.obj b T0 a0])):=
 .val1 λS w a h hs=>by
  have e:a.eval x= .pointer (some ⟨b,off,none⟩):=h.1
  obtain⟨cs,h1,h2⟩:=hs
  have l:=a0.cells_length h2
  obtain⟨h3,h4⟩:=iK a0 h2 hget
  have hr:=fZ ht hg h1 (off:=off) (by simp_all)
  simp_all [execOp,Instr.loadAt,Instr.sureAddr]
def mj(v:Value)(k:Nat):Value:=
 match v with
 | .slice (some a) _ _=>.pointer (some ⟨a.block,a.off+k,none⟩)
 |_=>undef
theorem jq{α:Type}{R:α->List Value->Prop}{m:Nat}(hR:∀x cs,R x cs->cs.length=m):∀{l:List α} {cs:List Value} {i:Nat} {x:α},dA R l cs->l[i]? =some x->R x ((cs.drop (i * m)).take m)/\i * m+m≤cs.length
 |[],_,i,x,_,h=>by simp at h
 |x0::l,_,i,x,⟨c1,c2,rfl,h1,h2⟩,h=>by
  have l1:=hR _ _ h1
  cases i with
  |zero=>
   simp_all
  |succ i=>
   simp only [getElem?_cons_succ] at h
   obtain⟨r1,r2⟩:=jq hR h2 h
   rw [Nat.add_mul,Nat.one_mul,drop_append,drop_eq_nil_of_le (by omega),nil_append,l1,Nat.add_sub_cancel]
   grind
theorem eR{v:Value}{TE:TypeId}{t u:Ty}{l:List t.den}{k i off n:Nat}{g:Bool}{d:t.den}{z:u.den}(ho:o.op= .load T x)(ht:eu P T n g)(hg:g=false->n=1)
 (hk:k=i * t.cells+off) (hl:l[i]? =some d) (hget:nO t d off n g=some ⟨u,z⟩):bB M o [(x,.eq (mj v k))] [.sl v TE t l] (λ_:Unit=>(GF u z,[.sl v TE t l])):=
 .val1 λS w a h hs=>by
  have e:a.eval x=mj v k:=h.1
  rcases hs with⟨rfl,rfl⟩ |⟨b,cap,c,rfl,h1,_,h2,h3,h4⟩
  .
   simp at hl
  .
   obtain⟨r1,r2⟩:=jq (λ_ _ h=>aN t h) h4 hl
   obtain⟨q1,q2,q3,q4⟩:=np t r1 hget
   have l1:(c.toList.take (l.length * t.cells)).length≤c.size:=by grind
   have hr:=fZ ht hg h2 (off:=k) (by omega)
   have e2:((c.toList.take (l.length * t.cells)).drop (i * t.cells)).take t.cells=(c.toList.drop (i * t.cells)).take t.cells:=by
    rw [drop_take,take_take,Nat.min_eq_left];grind
   rw [e2] at q1
   have e3:(((c.toList.drop (i * t.cells)).take t.cells).drop off).take n=(c.toList.drop k).take n:=by
    grind [drop_take,Nat.min_eq_left,drop_drop]
   rw [e3] at q1;refine⟨_,?_,q2▸ju q1⟩;simp_all [execOp,Instr.loadAt,mj,Instr.sureAddr]
theorem aA{b off f k:Nat}(ho:o.op= .fieldAddr T x f)(hf:aV P T f k):bB M o [(x,.eq (.pointer (some ⟨b,off,none⟩)))] [] (λ_:Unit=>(.eq (.pointer (some ⟨b,off+k,none⟩)),[])):=
 bB.val0 (hns:=λ_ _ a _=>hf.nsx ho a.eval) λS w a h=>by
  have e:a.eval x= .pointer (some ⟨b,off,none⟩):=h.1
  exact⟨_,by simp [execOp,ho,e,hf.run w b off],rfl⟩
theorem BX{t u:Ty}{d:t.den}{z:u.den}{f k:Nat}(n:Nat)(g:Bool)(ho:o.op= .fieldAddr T x f)(hf:aV P T f k)(hget:nO t d k n g=some ⟨u,z⟩):bB M o [(x,.at t d)] [] (λ_:Unit=>(.at u z,[])):=
 bB.val0 (hns:=λ_ _ a _=>hf.nsx ho a.eval) λS w a h=>by
  obtain⟨b,off,c,T0,fz,e,h1,h2,h3⟩:=h.1
  simp only [List.cons.injEq,and_true] at e
  obtain⟨q1,q2,q3,q4⟩:=np t h3 hget
  refine⟨.pointer (some ⟨b,off+k,none⟩),by simp [execOp,ho,e,hf.run w b off],b,off+k,c,T0,fz,rfl,h1,h2,?_⟩
  grind [drop_take,Nat.min_eq_left,drop_drop]
theorem BW{v:Value}{TE:TypeId}{t:Ty}{l:List t.den}{k f i:Nat}(ho:o.op= .fieldAddr T x f)(hf:aV P T f i)(hl:l≠[]):bB M o [(x,.eq (mj v k))] [.sl v TE t l] (λ_:Unit=>(.eq (mj v (k+i)),[.sl v TE t l])):=
 bB.val1 (hns:=λ_ _ a _=>hf.nsx ho a.eval) λS w a h hs=>by
  have e:a.eval x=mj v k:=h.1
  rcases hs with⟨rfl,rfl⟩ |⟨b,cap,c,rfl,_⟩
  .
   exact absurd rfl hl
  .
   refine⟨_,by simp [execOp,ho,e,mj,hf.run w b k];rfl,?_⟩
   simp [mj,A.holds]
def aG{α:Type}(l:List α)(i:Int):Option α:=if 0≤i then l[i.toNat]? else none
theorem cP{α:Type}{l:List α}{i:Int}{x:α}(h:aG l i=some x):0≤i/\i < l.length/\l[i.toNat]? =some x:=by
 unfold aG at h;grind
theorem lV{e:TypeId}{m:Nat}{g:Bool}(hT:P.underlying T=some (.slice e))(he:eu P e m g)(b off len cap:Nat)(k:IntKind)(i:Int)(h0:0≤i)(h1:i < len)(w:World):
 (Instr.indexAt T (.slice (some ⟨b,off,none⟩) len cap) (.int k i)).run P w= .ok (.pointer (some ⟨b,off+i.toNat * m,none⟩)) w:=by
 simp [Instr.indexAt,asIntOf,run_underlying hT,h0,h1,he.size,gZ]
theorem aU{t:Ty}{l:List t.den}{k:IntKind}{i:Int}{d:t.den}{e:TypeId}{g:Bool}(ho:o.op= .indexAddr T x y)(hT:P.underlying T=some (.slice e))(he:eu P e t.cells g)(hl:aG l i=some d):
 bB M o [(x,.rep (.slice t) l),(y,.eq (.int k i))] [] (λ_:Unit=>(.at t d,[])):=
 .val0 λS w a h=>by
  obtain⟨cs,h1,h2⟩:=h.1
  have e2:a.eval y= .int k i:=h.2.1
  obtain⟨g0,g1,g2⟩:=cP hl
  rcases h1 with⟨a0,cap,rfl,rfl⟩ |⟨b,off,cap,c,T0,fz,rfl,hle,hS,hb,hr⟩
  .
   simp at g2
  .
   have e1:a.eval x= .slice (some ⟨b,off,none⟩) l.length cap:=h2
   obtain⟨r1,r2⟩:=jq (λ_ _ h=>aN t h) hr g2
   refine⟨.pointer (some ⟨b,off+i.toNat * t.cells,none⟩),by simp [execOp,ho,e1,e2,lV hT he b off l.length cap k i g0 g1 w],b,_,c,T0,fz,rfl,hS,hb,?_⟩
   rw [drop_take,take_take,drop_drop,Nat.min_eq_left] at r1
   .
    exact r1
   grind
theorem bJ{v:Value}{TE:TypeId}{t:Ty}{l:List t.den}{k:IntKind}{i:Int}{d:t.den}{e:TypeId}{g:Bool}(ho:o.op= .indexAddr T x y)(hT:P.underlying T=some (.slice e))(he:eu P e t.cells g)(hl:aG l i=some d):
 bB M o [(x,.eq v),(y,.eq (.int k i))] [.sl v TE t l] (λ_:Unit=>(.eq (mj v (i.toNat * t.cells)),[.sl v TE t l])):=
 .val1 λS w a h hs=>by
  have e1:a.eval x=v:=h.1
  have e2:a.eval y= .int k i:=h.2.1
  obtain⟨g0,g1,g2⟩:=cP hl
  rcases hs with⟨rfl,rfl⟩ |⟨b,cap,c,rfl,_⟩
  .
   simp at g2
  .
   exact⟨.pointer (some ⟨b,i.toNat * t.cells,none⟩),by simp [execOp,ho,e1,e2,lV hT he b 0 l.length cap k i g0 g1 w],by simp [A.holds,mj]⟩
theorem dY{b off N m:Nat}{g:Bool}{k:IntKind}{i:Int}{e:TypeId}(ho:o.op= .indexAddr T x y)(hT:P.underlying T=some (.array N e))(he:eu P e m g)(h0:0≤i)(h1:i < N):
 bB M o [(x,.eq (.pointer (some ⟨b,off,none⟩))),(y,.eq (.int k i))] [] (λ_:Unit=>(.eq (.pointer (some ⟨b,off+i.toNat * m,none⟩)),[])):=
 .val0 λS w a h=>by
  have e1:a.eval x= .pointer (some ⟨b,off,none⟩):=h.1
  have e2:a.eval y= .int k i:=h.2.1
  exact⟨_,by simp [execOp,ho,e1,e2,Instr.indexAt,asIntOf,run_underlying hT,Instr.sureAddr,h0,h1,he.size,gZ],rfl⟩
theorem cC{N:Nat}{t:Ty}{l:List t.den}{g:Bool}{k:IntKind}{i:Int}{d:t.den}{e:TypeId}(ho:o.op= .indexAddr T x y)(hT:P.underlying T=some (.array N e))(he:eu P e t.cells g)(hl:aG l i=some d):
 bB M o [(x,.at (.arr N t) l),(y,.eq (.int k i))] [] (λ_:Unit=>(.at t d,[])):=
 .val0 λS w a h=>by
  obtain⟨b,off,c,T0,fz,e0,hS,h2,h3,h4⟩:=h.1
  simp only [List.cons.injEq,and_true] at e0
  have e2:a.eval y= .int k i:=h.2.1
  obtain⟨g0,g1,g2⟩:=cP hl
  rw [h3] at g1
  obtain⟨r1,r2⟩:=jq (λ_ _ h=>aN t h) h4 g2
  refine⟨.pointer (some ⟨b,off+i.toNat * t.cells,none⟩),by simp [execOp,ho,e0,e2,Instr.indexAt,asIntOf,run_underlying hT,Instr.sureAddr,g0,g1,he.size,gZ],b,_,c,T0,fz,rfl,hS,h2,?_⟩
  rw [drop_take,take_take,drop_drop,Nat.min_eq_left] at r1
  .
   exact r1
  grind
theorem cV{p:Addr}(ho:o.op= .nilCheck x):bB M o [(x,.eq (.pointer (some p)))] [] (λ_:Unit=>(.eq (.pointer (some p)),[])):=
 bB.val0 (hns:=λ_ _ a h=>DY ho (.inl ⟨_,h.1⟩)) λS w a h=>by
  have e:a.eval x= .pointer (some p):=h.1
  exact⟨_,by simp [execOp,ho,e],rfl⟩
end
inductive pX:A->(t:Ty)->t.den->Prop
 |int {k:IntKind} {n:Int}:pX (.eq (.int k n)) (.int k) n
 |bool {b:Bool}:pX (.eq (.bool b)) .bool b
 |str {b:ByteArray}:pX (.eq (.string b)) .str b
 |val {v:Value} (h:be v=true):pX (.eq v) .val v
 |rep {t:Ty} {x:t.den}:pX (.rep t x) t x
 |ptr {t:Ty} {x:t.den}:pX (.at t x) (.ptr t) x
 |pair {a b:A} {t u:Ty} {x:t.den} {y:u.den}:pX a t x->pX b u y->pX (.pair a b) (.pair t u) (x,y)
 |agg {a:A} {t:Ty} {x:t.den}:pX a t x->pX (.agg a) (.agg t) x
 |nil {t:Ty} {a:Option Addr} {c:Nat}:pX (.eq (.slice a 0 c)) (.slice t) []
 |tag0 {t0 t1:TypeId} {n:Int}:pX (.eq (.iface t0 (.int .i64 n))) (.tag t0 t1) (false,n)
 |tag1 {t0 t1:TypeId} {n:Int}:pX (.eq (.iface t1 (.int .i64 n))) (.tag t0 t1) (true,n)
 |ign {v:Value} (h:be v=true):pX (.eq v) .ign ()
 |altL {a:A} {t:Ty} {x:t.den} (h:t.cells=1):pX a t x->pX a (.alt t) (.inl x)
 |altR {v:Value} {t:Ty} (h:be v=true):pX (.eq v) (.alt t) (.inr v)
 |lnil {t:Ty}:pX (.eq (.pointer none)) (.lst t) []
 |lcons {t:Ty} {x:t.den} {l:List t.den}:pX (.at (.agg (.pair t (.lst t))) (x,l)) (.lst t) (x::l)
theorem pX.cells{S:FS}{w:World}{a:A}{t:Ty}{x:t.den}(h:pX a t x):∀{cs:List Value},a.cells S w cs->rd S w t x cs:=by
 induction h with
 |int=>intro cs h;exact h.1
 |bool=>intro cs h;exact h.1
 |str=>intro cs h;exact h.1
 |val hv=>intro cs h;exact h
 |rep=>intro cs h;exact h
 |ptr=>intro cs h;exact h
 |pair _ _ ih1 ih2=>rintro cs ⟨c1,c2,e,h1,h2⟩;exact⟨c1,c2,e,ih1 h1,ih2 h2⟩
 |agg _ ih=>intro cs h;exact ih h
 |nil=>intro cs h;exact .inl ⟨_,_,h.1,rfl⟩
 |tag0=>intro cs h;exact h.1
 |tag1=>intro cs h;exact h.1
 |ign hv=>intro cs h;exact⟨_,h⟩
 |altL ht _ ih=>intro cs h;exact⟨ih h,(aN _ (ih h)).trans ht⟩
 |altR hv=>intro cs h;exact h
 |lnil=>intro cs h;exact h.1
 |lcons=>rintro cs ⟨b,off,c,T,fz,e,hb,hc,c1,c2,e2,h1,h2⟩;exact⟨b,off,c,T,fz,c1,c2,e,hb,hc,e2,h1,h2⟩
theorem pX.holds{S:FS}{w:World}{a:A}{t:Ty}{x:t.den}(h:pX a t x)(hs:a.stor)(hg:a.isAgg=t.isAgg){v:Value}(hv:a.holds S w v):(GF t x).holds S w v:=by
 obtain⟨h1,_,h3⟩:=eF hv hs;rw [h3,hg];exact ju (h.cells h1)
section
variable {P:Program}{M:Md P}{o:Oper}{x y z:Operand}{T T':TypeId}{r r':A}
theorem gB(w:World)(ob:Obj)(b:Nat)(hb:b < w.heap.size):(w.alloc ob).heap[b]? =w.heap[b]? :=heap_alloc_old w ob hb
theorem cx{b:Nat}(h:av [] b):False:=by obtain⟨d,hd,_⟩:=h;simp at hd
theorem iv{d:D}{b:Nat}:av [d] b↔d.foot=some b:=⟨λ⟨e,he,h⟩=>by simp_all,λh=>⟨d,by simp,h⟩⟩
theorem jW{b b':Nat}{T:TypeId}{a:A}:av [.obj b T a] b'↔b'=b:=by rw [iv];simp [D.foot,eq_comm]
theorem gk{d:D}{S:FS}{w:World}(h:d.holds S w)(hf:∀b,d.foot=some b->¬S b/\b < w.heap.size):gR [d] S w:=
 ⟨λe he=>by simp_all,λb hb=>hf b (iv.1 hb),pairwise_singleton _ _⟩
theorem uO{S:FS}{w:World}:gR [] S w:=⟨λe he=>by simp at he,λb hb=>(cx hb).elim,Pairwise.nil⟩
theorem fU{X:Nat->Prop}{S:FS}{w:World}(hd:∀b,S b->b < w.heap.size)(ob:Obj):j6 X S w S (w.alloc ob):=
 ⟨λ_ h=>h,λ_ h=>.inl h,λb h=>by have:=hd b h;simp;omega,by simp,λb hb _=>gB w ob b hb,rfl,rfl,rfl⟩
theorem uA{X:Nat->Prop}{S:FS}{w:World}(hd:∀b,S b->b < w.heap.size)(ob:Obj):j6 X S w (λb=>S b\/b=w.heap.size) (w.alloc ob):=
 ⟨λ_ h=>.inl h,λb h=>h.imp id (λe=>.inl (by omega)),λb h=>h.elim (λh=>by have:=hd b h;simp;omega) (λh=>by simp_all),by simp,λb hb _=>gB w ob b hb,rfl,rfl,rfl⟩
theorem uT(ho:o.op= .box T x)(hs:r.stor):bB M o [(x,r)] [] (λb:Nat=>(.eq (.pointer (some ⟨b,0,none⟩)),[.obj b T r])):=by
 refine vP.T ⟨by grind [nd],λS w a next hd hN _ k=>?_⟩ (λ_ _ a _ _=>iC (by grind [sP]) a.eval) (λd hd=>by simp_all);obtain⟨h1,h2,_⟩:=eF hN.1 hs
 have hr:(execOp a.eval o).run P w= .ok (.value (.pointer (some ⟨w.heap.size,0,none⟩))) (w.alloc (.cells (a.eval x).cells T)):=by
  simp [execOp,ho,Instr.box,newVar,newRow]
 rw [hr];refine k w.heap.size S _ _ (fU hd _) rfl (gk ⟨(a.eval x).cells.toList,?_,?_⟩ ?_) ?_
 .rw [toArray_toList];exact heap_alloc_new w _
 .exact A.cells_mono (λ_ h=>h) (λb hb=>gB w _ b (hd b hb)) r h1
 .intro b hb;simp only [D.foot,Option.some.injEq] at hb;subst hb;exact⟨λh=>by grind,by simp⟩
 .intro b hb;rw [jW] at hb;omega
theorem bo{zv:Value}{a0:A}(ho:o.op= .alloc T)(hz:∀w,(zeroValue T).run P w= .ok zv w)(ha:∀S w,a0.cells S w zv.cells.toList):
 bB M o [] [] (λb:Nat=>(.eq (.pointer (some ⟨b,0,none⟩)),[.obj b T a0])):=by
 refine vP.T ⟨by grind [nd],λS w a next hd hN _ k=>?_⟩ (λ_ _ a _ _=>iC (by grind [sP]) a.eval) (λd hd=>by simp_all)
 have hr:(execOp a.eval o).run P w= .ok (.value (.pointer (some ⟨w.heap.size,0,none⟩))) (w.alloc (.cells zv.cells T)):=by
  simp [execOp,ho,Instr.alloc,hz,newVar,newRow]
 rw [hr]
 refine k w.heap.size S _ _ (fU hd _) rfl (gk ⟨zv.cells.toList,?_,ha _ _⟩ ?_) ?_
 .
  rw [toArray_toList];exact heap_alloc_new w _
 .
  intro b hb;simp only [D.foot,Option.some.injEq] at hb;subst hb;exact⟨λh=>by grind,by simp⟩
 simp_all [jW,Nat.le_refl]
theorem qY{X:Nat->Prop}{S:FS}{w:World}(hd:∀b,S b->b < w.heap.size){b:Nat}(hX:X b)(ob:Obj):j6 X S w S { w with heap:=w.heap.setIfInBounds b ob }:=
 ⟨λ_ h=>h,λ_ h=>.inl h,λb h=>by simp_all,by simp,λb' _ hx=>by
  grind,rfl,rfl,rfl⟩
theorem aM{b off n:Nat}{g:Bool}{T0:TypeId}{a0 a1:A}(ho:o.op= .store T x y)(ht:eu P T n g)(hs:r.stor)(hset:a0.set off n r.isAgg r=some a1)(hn:r.n=n):
 bB M o [(x,.eq (.pointer (some ⟨b,off,none⟩))),(y,r)] [.obj b T0 a0] (λ_:Unit=>(.eq undef,[.obj b T0 a1])):=by
 refine vP.T ⟨by grind [nd],λS w a next hd hN hO k=>?_⟩ (λ_ _ a _ _=>iC (by grind [sP]) a.eval) (λd hd=>by first |(simp at hd;done) |(simp at hd;subst hd;trivial))
 have e1:a.eval x= .pointer (some ⟨b,off,none⟩):=hN.1
 obtain⟨h1,h2,_⟩:=eF hN.2.1 hs
 obtain⟨cs,h3,h4⟩:=hO.holds _ (by simp:D.obj b T0 a0∈[D.obj b T0 a0])
 obtain⟨hnb,hbs⟩:=hO.own b (jW.2 rfl)
 have l:=a0.cells_length h4
 obtain⟨q1,q2⟩:=lN a0 h4 h1 (h2.trans hn) hset
 have hst:=ll P b T0 off (a.eval y).cells.toList 0 w cs.toArray h3 (λv hv=>o9 r h1 v hv) (by grind)
 have hsz:(a.eval y).cells.size=n:=by grind
 have hr:(execOp a.eval o).run P w= .ok .skip { w with heap:=w.heap.setIfInBounds b (.cells (cs.take off++(a.eval y).cells.toList++cs.drop (off+n)).toArray T0 (0,0)) }:=by
  simp only [Nat.add_zero,h2,hn] at hst;simp [execOp,ho,Instr.storeAt,e1,Instr.sureAddr,storeVar,ht.size,hsz,hst]
 rw [hr]
 have hK:gr S w { w with heap:=w.heap.setIfInBounds b (.cells (cs.take off++(a.eval y).cells.toList++cs.drop (off+n)).toArray T0 (0,0)) }:=λb' hb'=>by
  grind
 refine k () S _ _ (qY hd (jW.2 rfl) _) rfl (gk ⟨_,by simp [hbs],A.cells_mono (λ_ h=>h) hK a1 q1⟩ ?_) (λb' hb'=>.inl ?_)
 .
  grind [D.foot,Option.some.injEq]
 grind [jW]
@[reducible] def xk(places:Array (Nat×Nat)):A->List (Nat×Operand×A)->Option A
 |a,[]=>some a
 |a,(i,_,r)::rest=>match places[i]? with
  |some (off,n)=>if r.n=n then(match a.set off n r.isAgg r with |some a'=>xk places a' rest |none=>none) else none
  |none=>none
theorem xh(new:List Value)(off:Nat):∀(k:Nat) (cs:Array Value),off+k+new.length≤cs.size->
 ((new.zipIdx k).foldl (λ(cs:Array Value) (p:Value×Nat)=>cs.setIfInBounds (off+p.2) p.1) cs).toList=cs.toList.take (off+k)++new++cs.toList.drop (off+k+new.length):=by
 induction new with
 |nil=>simp_all
 |cons v new ih=>
  intro k cs h;simp only [length_cons] at h;simp only [zipIdx_cons,foldl_cons];rw [ih (k+1) _ (by simp;omega)];have hlt:off+k < cs.size:=by omega
  rw [toList_setIfInBounds,set_eq_take_append_cons_drop,if_pos (by omega)];have lt:(cs.toList.take (off+k)).length=off+k:=by simp;omega
  have e2:off+(k+1)=(cs.toList.take (off+k)).length+1:=by omega
  rw [e2,zy,vm,drop_drop];simp only [List.append_assoc,cons_append,nil_append,length_cons];grind
theorem FH{S:FS}{w:World}{a:Act}(places:Array (Nat×Nat)):∀(ps:List (Nat×Operand×A)) (a0 a1:A) (cs:Array Value),a0.cells S w cs.toList->bI S w a (ps.map (·.2))->(∀p∈ps,p.2.2.stor)->xk places a0 ps=some a1->
 ∃cs',Instr.fill (places[·]?) cs (ps.map λp=>(p.1,a.eval p.2.1))=some cs'/\a1.cells S w cs'.toList:=by
 intro ps
 induction ps with
 |nil=>intro a0 a1 cs h _ _ hf;simp only [xk,Option.some.injEq] at hf;subst hf;exact⟨cs,rfl,h⟩
 |cons p ps ih=>
  obtain⟨i,x,r⟩:=p;intro a0 a1 cs h hN hs hf;obtain⟨h1,h2,_⟩:=eF hN.1 (hs (i,x,r) (by simp));simp only [xk] at hf;cases hp:places[i]? with
  |none=>rw [hp] at hf;cases hf
  |some q=>
   obtain⟨off,n⟩:=q;rw [hp] at hf;simp only at hf;split at hf
   .rename_i hn;split at hf
    .rename_i a' ha';have l:=a0.cells_length h;obtain⟨q1,q2⟩:=lN a0 h h1 (h2.trans hn) ha';have hsz:(a.eval x).cells.size=n:=by rw [<-length_toList];omega
     have hle:off+(a.eval x).cells.size≤cs.size:=by rw [<-length_toList (xs:=cs)];omega
     have hfold:=xh (a.eval x).cells.toList off 0 cs (by simp only [length_toList];omega)
     have hcs:((a.eval x).cells.zipIdx.foldl (λcs (c,j)=>cs.setIfInBounds (off+j) c) cs).toList=cs.toList.take off++(a.eval x).cells.toList++cs.toList.drop (off+n):=by
      rw [<-foldl_toList,toList_zipIdx];simp only [Nat.add_zero,length_toList,hsz] at hfold;exact hfold
     obtain⟨cs',e,h3⟩:=ih a' a1 _ (by rw [hcs];exact q1) hN.2 (λp hp=>hs p (mem_cons_of_mem _ hp)) hf;refine⟨cs',?_,h3⟩;simp only [map_cons,Instr.fill,hp];rw [if_neg (by simp [hsz];omega)];exact e
    .cases hf
   .cases hf
theorem Lm{fs:Array Field}{places:Array (Nat×Nat)}{zv:Value}{a0 a1:A}(ps:List (Nat×Operand×A))(ho:o.op= .build T (ps.map λp=>(p.1,p.2.1)).toArray)(hT:P.underlying T=some (.struct fs))
 (hpl:∀w,(fs.mapM λf=>(do pure (f.offset,<-sizeOf f.type):Sem (Nat×Nat))).run P w= .ok places w) (hz:∀w,(zeroValue T).run P w= .ok zv w) (ha:∀S w,a0.cells S w zv.cells.toList)
 (hs:∀p∈ps,p.2.2.stor) (hf:xk places a0 ps=some a1):bB M o (ps.map (·.2)) [] (λ_:Unit=>(.agg a1,[])):=
 .val0 λS w a hN=>by
  obtain⟨cs',e,h⟩:=FH places ps a0 a1 zv.cells (ha S w) hN hs hf
  refine⟨.agg cs',?_,cs'.toList,h,by simp⟩
  simp only [execOp,ho,Instr.build,Sem.run_bind,hz,Result.andThen_ok,run_underlying hT,hpl,Sem.run_pure]
  have e':((ps.map λp=>(p.1,p.2.1)).toArray.map λ(q:Nat×Operand)=>(q.1,a.eval q.2)).toList=ps.map λp=>(p.1,a.eval p.2.1):=by simp
  rw [e',e]
  rfl
end
theorem O9(v:Value):v.oneCell'=be v:=by cases v <;> rfl
structure pN(P:Program)(T e:TypeId)(n bytes:Nat):Prop where
 und:P.underlying T=some (.slice e)
 ex:∃i z,P.info? e=some i/\i.zero=some z/\i.size=n/\i.bytes=bytes/\z.cells.size=n
 pos:0 < n
 small:bytes≤32768
theorem pN.of{P:Program}{T e:TypeId}{n bytes:Nat}{z:Value}(hu:P.underlying T=some (.slice e))(h:(P.info? e).map (λi=>(i.zero,i.size,i.bytes))=some (some z,n,bytes))(hz:z.cells.size=n)(hp:blt 0 n=true)(hb:ble bytes 32768=true):pN P T e n bytes:=by
 obtain⟨i,h1,h2⟩:=Option.map_eq_some_iff.1 h;simp only [Prod.mk.injEq] at h2;exact⟨hu,⟨i,z,h1,h2.1,h2.2.1,h2.2.2,hz⟩,blt_eq▸hp,le_of_ble_eq_true hb⟩
theorem pN.size{P:Program}{T e:TypeId}{n bytes:Nat}(h:pN P T e n bytes)(w:World):(sizeOf e).run P w= .ok n w:=by
 obtain⟨i,z,h1,_,h3,_⟩:=h.ex;simp [sizeOf,typeInfo,h1,h3]
theorem Hw{S:FS}{w:World}{v:Value}{T:TypeId}{t:Ty}{l:List t.den}:(D.sl v T t l).holds S w↔∃xs,w.ownsRow 0 T t.cells v l.length xs/\dA (rd S w t) l xs:=by
 constructor
 .rintro(⟨rfl,rfl⟩ |⟨b,cap,c,rfl,h1,h1',h2,h3,h4⟩)
  .exact⟨[],World.ownsRow_nil w 0 T t.cells,rfl⟩
  .exact⟨_,⟨kJ (λ_ _ h=>aN t h) h4,.inr ⟨b,cap,c,rfl,zero_le _,h2,h1,h1',h3,rfl⟩⟩,h4⟩
 .rintro⟨xs,⟨h1,h2⟩,h3⟩;rcases h2 with⟨rfl,h2⟩ |⟨g,cap,cur,rfl,_,h4,h5,h6,h7,h8⟩
  .exact .inl ⟨rfl,length_eq_zero_iff.1 h2⟩
  .exact .inr ⟨g,cap,cur,rfl,h5,h6,h4,h7,by simp_all⟩
theorem BI{X:Nat->Prop}{S:FS}{w w':World}(hd:∀b,S b->b < w.heap.size){kH:Option Nat}(hX:∀b,kH=some b->X b)(h:w.grownBy w' kH):j6 X S w S w':=
 ⟨λ_ h=>h,λ_ h=>.inl h,λb hb=>Nat.lt_of_lt_of_le (hd b hb) h.size,h.size,λb hb hx=>h.block b hb (λe=>hx (hX b e.symm)),h.os,h.tape,h.output⟩
theorem ri{α:Type}{R:α->List Value->Prop}:∀{l1 l2:List α} {c1 c2:List Value},dA R l1 c1->dA R l2 c2->dA R (l1++l2) (c1++c2)
 |[],_,_,_,h1,h2=>by simp_all [dA]
 |x::l1,_,_,_,⟨a,b,rfl,h,h1⟩,h2=>⟨a,b++_,by simp_all,h,ri h1 h2⟩
theorem BP{α:Type}{R:α->List Value->Prop}{m:Nat}(hR:∀x cs,R x cs->cs.length=m)(k:Nat):∀{l:List α} {cs:List Value},dA R l cs->dA R (l.take k) (cs.take (k * m)):=by
 induction k with
 |zero=>simp_all [dA]
 |succ k ih=>
  intro l cs h;cases l with
  |nil=>simp_all [dA]
  |cons x l=>
   obtain⟨a,b,rfl,h1,h2⟩:=h;have la:=hR _ _ h1;refine⟨a,b.take (k * m),?_,h1,ih h2⟩;simp_all [take_append,take_of_length_le,Nat.add_mul,Nat.one_mul,Nat.add_sub_cancel]
theorem wM{α:Type}{R:α->List Value->Prop}{d:α}{cs:List Value}(h:R d cs):∀m:Nat,dA R (List.replicate m d) (List.replicate m cs).flatten
 |0=>rfl
 |m+1=>⟨_,_,rfl,h,wM h m⟩
section
variable {P:Program}{M:Md P}{o:Oper}{x y z:Operand}{T T' e:TypeId}{r r':A}{t:Ty}
def bN(n:Nat):Prop:=n≤4294967296
instance (n:Nat):Decidable (bN n):=by unfold bN;infer_instance
theorem E9{S:FS}{w:World}{v:Value}{l:List t.den}(h:(D.sl v T t l).holds S w):∃b n c,v= .slice b n c:=by
 rcases h with⟨rfl,_⟩ |⟨b,cap,c,rfl,_⟩ <;> exact⟨_,_,_,rfl⟩
theorem E8{S:FS}{w:World}{v:Value}{l:List t.den}(h:(A.rep (.slice t) l).holds S w v):∃b n c,v= .slice b n c:=by
 obtain⟨cs,h1,rfl⟩:=h;rcases h1 with⟨a0,cap,rfl,_⟩ |⟨b,off,cap,cc,T0,fz,rfl,_⟩ <;> exact⟨_,_,_,rfl⟩
theorem Ci{c:Call}(ho:o.op= .call c)(hc:c={ callee:=.builtin .append,args:= #[x,y],argTypes:= #[T,T] })(hT:P.underlying T=some (.slice e)){ρ:Operand->Value}(hx:∃b n c,ρ x= .slice b n c)(hy:∃b n c,ρ y= .slice b n c):Ns P (execOp ρ o):=by
 obtain⟨b,n,cc,e1⟩:=hx;obtain⟨b2,n2,c2,e2⟩:=hy;unfold execOp;rw [ho,hc];have e: #[x,y].map ρ= #[ρ x,ρ y]:=by simp
 have key:Ns P (builtin .append #[T,T] o.type (#[x,y].map λ| .const _=>true |_=>false) (#[x,y].map ρ)):=by
  rw [e,e1,e2];exact iP (Fz hT)
 exact key
theorem cu{v:Value}{l l2:List t.den}{bytes:Nat}{c:Call}(ho:o.op= .call c)(hc:c={ callee:=.builtin .append,args:= #[x,y],argTypes:= #[T,T] })(hT:pN P T e t.cells bytes)
 (hl:bN (l.length+l2.length)):bB M o [(x,.eq v),(y,.rep (.slice t) l2)] [.sl v e t l] (λv':Value=>(.eq v',[.sl v' e t (l++l2)])):=by
 refine vP.T ⟨by grind [nd],λS w a next hd hN hO k=>?_⟩ (λS w a hN hO=>Ci ho hc hT.und (by
  have e1:a.eval x=v:=hN.1;rw [e1];exact E9 (hO.holds _ (mem_cons_self ..))) (E8 hN.2.1)) (λd hd=>by simp at hd;subst hd;trivial)
 have e1:a.eval x=v:=hN.1
 obtain⟨cs2,h2,e2⟩:=hN.2.1
 have hown:=hO.holds _ (by simp:D.sl v e t l∈[D.sl v e t l])
 obtain⟨xs,hrow,hrd⟩:=Hw.1 hown
 obtain⟨i,zv,q1,q2,q3,q4,q5⟩:=hT.ex
 unfold bN at hl
 have hsm:=hT.small
 have main:∃v' w' news,(Builtin.append_ #[T,T] o.type #[v,a.eval y]).run P w= .ok v' w'/\w'.ownsRow 0 e t.cells v' (l.length+l2.length) (xs++news)/\w.grownBy w' v.ownBlock/\dA (rd S w t) l2 news/\(v'.ownBlock=v.ownBlock\/v'.ownBlock=some w.heap.size):=by
  rcases h2 with⟨a0,cap,rfl,rfl⟩ |⟨b,off,cap,cc,T0,fz,rfl,hle,hS,hb,hr⟩
  .have ey:a.eval y= .slice a0 0 cap:=e2
   have hr0:(Builtin.append_ #[T,T] o.type #[v,.slice a0 0 cap]).run P w= .ok v w:=by
    rcases hrow.2 with⟨rfl,hn⟩ |⟨g,cap',cur,rfl,_,_,hnc,_⟩
    .cases a0 <;> simp [Builtin.append_,run_underlying hT.und,sizeOf,typeInfo,q1,Builtin.lenOf,Builtin.firstCells,loadCells,loadCellsFrom]
    .cases a0 <;> simp [Builtin.append_,run_underlying hT.und,sizeOf,typeInfo,q1,Builtin.lenOf,Builtin.firstCells,hnc,storeCells,loadCells,loadCellsFrom]
   exact⟨v,w,[],by grind,by grind,⟨rfl,rfl,rfl,Nat.le_refl _,λ_ _ _=>rfl⟩,rfl,.inl rfl⟩
  .have ey:a.eval y= .slice (some ⟨b,off,none⟩) l2.length cap:=e2;have hlen:=kJ (λ_ _ h=>aN t h) hr;have hone:=sE (λ_ _ h=>xY t h) hr;have hb1:l.length+l2.length≤maxLen:=by grind [maxLen]
   have hb2:(l.length+l2.length) * bytes≤140737488355328:=by
    calc (l.length+l2.length) * bytes≤4294967296 * 32768:=Nat.mul_le_mul hl hsm
     _≤140737488355328:=by decide
   obtain⟨v',w',g1,g2,g3,_,g5⟩:=run_append_own_at (P:=P) w 0 T o.type e i zv t.cells bytes hT.und q1 q2 q3 q4 q5 hT.pos v l.length xs hrow ⟨b,off,none⟩ l2.length cap _ hlen
    (λj u hu=>by
     grind [gZ,World.cell?]) (λu hu=>by grind [O9]) hb1 hb2 (zero_le _)
   grind
 obtain⟨v',w',news,g1,g2,g3,g4,g5⟩:=main
 have hr:(execOp a.eval o).run P w= .ok (.value v') w':=by
  simp [execOp,ho,hc,resolve,invoke,builtin,e1,g1]
 have hX:∀b,v.ownBlock=some b->av [D.sl v e t l] b:=λb h=>iv.2 h
 have hK:gr S w w':=λb hb=>g3.block b (hd b hb) (λh=>(hO.own b (hX b h.symm)).1 hb)
 have hlen':(l++l2).length=l.length+l2.length:=by simp
 rw [hr]
 refine k v' S w' v' (BI hd hX g3) rfl (gk (Hw.2 ⟨xs++news,by simp_all,ri (cH (λ_ _ h=>dS (λ_ h=>h) hK t h) hrd) (cH (λ_ _ h=>dS (λ_ h=>h) hK t h) g4)⟩) ?_) ?_
 .
  intro b hb;have hb':v'.ownBlock=some b:=hb;refine⟨λhS=>?_,(g2.lt b hb).2⟩;rcases g5 with g5 |g5
  .exact(hO.own b (hX b (by simp_all))).1 hS
  grind
 .
  intro b hb;have hb':v'.ownBlock=some b:=iv.1 hb;grind
inductive yT(t:Ty):List (Operand×A)->List t.den->Prop
 |nil:yT t [] []
 |cons {x:Operand} {r:A} {d:t.den} {ps:List (Operand×A)} {l:List t.den} (hs:r.stor) (h:pX r t d) (ht:yT t ps l):yT t ((x,r)::ps) (d::l)
theorem CP{S:FS}{w:World}{a:Act}{m:Nat}(hm:t.cells=m):∀(ps:List (Operand×A)) (l:List t.den) (k:Nat) (cs:Array Value),yT t ps l->bI S w a ps->(k+ps.length) * m≤cs.size->
 ∃news cs',Instr.fill (λi=>some (i * m,m)) cs ((ps.zipIdx k).map λp=>(p.2,a.eval p.1.1))=some cs'/\dA (rd S w t) l news/\news.length=l.length * m/\
  cs'.toList=cs.toList.take (k * m)++news++cs.toList.drop (k * m+news.length):=by
 intro ps
 induction ps with
 |nil=>
  intro l k cs he _ hk;cases he;exact⟨[],cs,rfl,rfl,by simp,by simp⟩
 |cons p ps ih=>
  obtain⟨x,r⟩:=p;intro l k cs he hN hk;cases he with
  |cons hs h ht=>
  rename_i d l;obtain⟨h1,h2,_⟩:=eF hN.1 hs;have h3:=h.cells h1;have l3:=aN t h3;simp only [length_cons] at hk;have e1:(k+1) * m=k * m+m:=by grind
  have e2:(k+(ps.length+1)) * m=k * m+m+ps.length * m:=by grind
  have hsz:(a.eval x).cells.size=m:=by grind
  have hfold:=xh (a.eval x).cells.toList (k * m) 0 cs (by omega)
  have hcs:((a.eval x).cells.zipIdx.foldl (λcs (c,j)=>cs.setIfInBounds (k * m+j) c) cs).toList=cs.toList.take (k * m)++(a.eval x).cells.toList++cs.toList.drop (k * m+m):=by
   rw [<-foldl_toList,toList_zipIdx];grind
  have hsize:((a.eval x).cells.zipIdx.foldl (λcs (c,j)=>cs.setIfInBounds (k * m+j) c) cs).size=cs.size:=by
   rw [<-length_toList,hcs,<-length_toList (xs:=cs)];grind
  obtain⟨news,cs',e,g1,g2,g3⟩:=ih l (k+1) _ ht hN.2 (by rw [hsize];grind);refine⟨(a.eval x).cells.toList++news,cs',?_,⟨_,_,rfl,h3,g1⟩,by grind,?_⟩
  .simp only [zipIdx_cons,map_cons,Instr.fill];grind
  .rw [g3,hcs,e1];have e5:(a.eval x).cells.toList.length=m:=by omega
   have lt:(cs.toList.take (k * m)++(a.eval x).cells.toList).length=k * m+m:=by
    simp only [length_append,length_take,length_toList,hsz];omega
   rw [take_append_of_le_length (by omega),take_of_length_le (by omega),drop_append,drop_eq_nil_of_le (by omega),nil_append,lt,drop_drop,length_append,e5];rw [show k * m+m+(k * m+m+news.length - (k * m+m))=k * m+(m+news.length) by omega,List.append_assoc (cs.toList.take (k * m))]
theorem oy{bytes:Nat}(hT:pN P T e t.cells bytes){S:FS}{w:World}{a:Act}(ps:List (Operand×A))(l:List t.den)(he:yT t ps l)(hN:bI S w a ps)(hn:ps.length * t.cells≤16777216)(hl:l.length=ps.length):
 ∃news,(Instr.buildSlice T ps.length (ps.zipIdx.map λp=>(p.2,a.eval p.1.1)).toArray).run P w= .ok (.slice (some ⟨w.heap.size,0,none⟩) l.length l.length) (w.alloc (.cells news.toArray e))/\dA (rd S w t) l news/\news.length=l.length * t.cells:=by
 obtain⟨i,zv,q1,q2,q3,q4,q5⟩:=hT.ex
 have hsz:=hT.size w
 by_cases hz:ps.length * t.cells=0
 .
  have hp:ps=[]:=by
   have:=hT.pos;grind [mul_eq_zero,length_eq_zero_iff]
  subst hp;cases he;refine⟨[],?_,rfl,by simp⟩;simp [Instr.buildSlice,run_underlying hT.und,hsz,Instr.fill,newRow,Array.range_zero']
 .
  obtain⟨news,cs',e1,g1,g2,g3⟩:=CP rfl ps l 0 ((Array.range (ps.length * t.cells)).map (zv.cells[· % zv.cells.size]!)) he hN (by simp);refine⟨news,?_,g1,g2⟩
  have e2:cs'=news.toArray:=by
   apply ext';simp_all
  subst e2;have hn':¬(16777216 < ps.length * t.cells):=by omega
  simp only [Instr.buildSlice,Sem.run_bind,run_underlying hT.und,Result.andThen_ok,hsz];simp [hn',hz,zeroValue,typeInfo,q1,q2,newRow];simp_all
theorem Fp{bytes n:Nat}(ps:List (Operand×A))(l:List t.den)(ho:o.op= .buildSlice T n (ps.zipIdx.map λp=>(p.2,p.1.1)).toArray)(hn:n=ps.length)(hT:pN P T e t.cells bytes)(he:yT t ps l)
 (hsz:ps.length * t.cells≤16777216) (hl:l.length=ps.length):bB M o ps [] (λv:Value=>(.eq v,[.sl v e t l])):=by
 refine vP.T ⟨by grind [nd],λS w a next hd hN _ k=>?_⟩ (λ_ _ a _ _=>iC (by grind [sP]) a.eval) (λd hd=>by simp_all)
 obtain⟨news,h1,h2,h3⟩:=oy hT ps l he hN hsz hl
 have hr:(execOp a.eval o).run P w= .ok (.value (.slice (some ⟨w.heap.size,0,none⟩) l.length l.length)) (w.alloc (.cells news.toArray e)):=by
  have e1:(ps.zipIdx.map λp=>(p.2,p.1.1)).toArray.map (λ(q:Nat×Operand)=>(q.1,a.eval q.2))=(ps.zipIdx.map λp=>(p.2,a.eval p.1.1)).toArray:=by simp
  grind [execOp,Sem.run_bind,Result.andThen_ok,Sem.run_pure]
 rw [hr]
 have hK:gr S w (w.alloc (.cells news.toArray e)):=λb hb=>gB w _ b (hd b hb)
 refine k _ S _ _ (fU hd _) rfl (gk (.inr ⟨w.heap.size,l.length,news.toArray,rfl,Nat.le_refl _,by unfold maxLen;have:=hT.pos;have:l.length * 1≤l.length * t.cells:=mul_le_mul_left _ hT.pos;grind,heap_alloc_new w _,by omega,?_⟩) ?_) ?_
 .
  rw [toList_toArray,take_of_length_le (by omega)];grind [cH,dS]
 .
  intro b hb;have hb':b=w.heap.size:=by simp_all [D.foot,Value.ownBlock,eq_comm]
  subst hb';exact⟨λh=>by grind,by simp⟩
 .
  intro b hb;have hb':b=w.heap.size:=by simpa [D.foot,Value.ownBlock,eq_comm] using iv.1 hb
  omega
theorem Re{bytes n:Nat}(ps:List (Operand×A))(l:List t.den)(ho:o.op= .buildSlice T n (ps.zipIdx.map λp=>(p.2,p.1.1)).toArray)(hn:n=ps.length)(hT:pN P T e t.cells bytes)(he:yT t ps l)
 (hsz:ps.length * t.cells≤16777216) (hl:l.length=ps.length):bB M o ps [] (λ_:Unit=>(.rep (.slice t) l,[])):=by
 refine vP.T ⟨by grind [nd],λS w a next hd hN _ k=>?_⟩ (λ_ _ a _ _=>iC (by grind [sP]) a.eval) (λd hd=>by simp_all)
 obtain⟨news,h1,h2,h3⟩:=oy hT ps l he hN hsz hl
 have hr:(execOp a.eval o).run P w= .ok (.value (.slice (some ⟨w.heap.size,0,none⟩) l.length l.length)) (w.alloc (.cells news.toArray e)):=by
  have e1:(ps.zipIdx.map λp=>(p.2,p.1.1)).toArray.map (λ(q:Nat×Operand)=>(q.1,a.eval q.2))=(ps.zipIdx.map λp=>(p.2,a.eval p.1.1)).toArray:=by simp
  grind [execOp,Sem.run_bind,Result.andThen_ok,Sem.run_pure]
 rw [hr]
 have hK:gr S w (w.alloc (.cells news.toArray e)):=λb hb=>gB w _ b (hd b hb)
 refine k () _ _ _ (uA hd _) ⟨_,.inr ⟨w.heap.size,0,l.length,news.toArray,e,(0,0),rfl,Nat.le_refl _,.inr rfl,heap_alloc_new w _,?_⟩,rfl⟩ uO (λb hb=>(cx hb).elim)
 rw [toList_toArray,drop_zero,take_of_length_le (by omega)]
 grind [cH,dS]
theorem Pi{bytes:Nat}{n:Int}{d:t.den}(ho:o.op= .makeSlice T x y)(hT:pN P T e t.cells bytes)(hz:∀i z,P.info? e=some i->i.zero=some z->∀S w,rd S w t d z.cells.toList)(h0:0≤n)(hn:bN n.toNat):
 bB M o [(x,.eq (.int .i64 n)),(y,.eq (.int .i64 n))] [] (λv:Value=>(.eq v,[.sl v e t (List.replicate n.toNat d)])):=by
 refine vP.T ⟨by grind [nd],λS w a next hd hN _ k=>?_⟩ (λ_ _ a _ _=>iC (by grind [sP]) a.eval) (λd hd=>by simp_all)
 have e1:a.eval x= .int .i64 n:=hN.1
 have e2:a.eval y= .int .i64 n:=hN.2.1
 obtain⟨i,zv,q1,q2,q3,q4,q5⟩:=hT.ex
 have hsm:=hT.small
 unfold bN at hn
 obtain⟨m,rfl⟩:=Int.eq_ofNat_of_zero_le h0
 simp only [Int.toNat_natCast] at hn⊢
 have hb:i.bytes * m≤281474976710656:=by
  rw [q4]
  calc bytes * m≤32768 * 4294967296:=Nat.mul_le_mul hsm hn
   _≤281474976710656:=by decide
 have hb':(i.bytes:Int) * (m:Int)≤281474976710656:=by
  omega
 have hr0:=run_make (P:=P) w T e i zv hT.und q1 q2 .i64 .i64 m m h0 (Int.le_refl _) hb' (by omega)
 simp only [Int.toNat_natCast] at hr0
 have hr:(execOp a.eval o).run P w= .ok (.value (.slice (some ⟨w.heap.size,0,none⟩) m m)) (w.alloc (.cells (madeCells zv.cells (m * i.size)) e)):=by
  simp_all [execOp,Sem.run_bind,Result.andThen_ok,Sem.run_pure]
 have hall:dA (rd S (w.alloc (.cells (madeCells zv.cells (m * i.size)) e)) t) (List.replicate m d) (madeCells zv.cells (m * i.size)).toList:=by
  rw [q3];have hzz:=hz i zv q1 q2 S (w.alloc (.cells (madeCells zv.cells (m * i.size)) e));rw [q3] at hzz;generalize (w.alloc (.cells (madeCells zv.cells (m * t.cells)) e))=w1 at hzz;clear hr hr0
  have key:∀m:Nat,(madeCells zv.cells (m * t.cells)).toList=(List.replicate m zv.cells.toList).flatten:=by
   intro m;apply List.ext_getElem?;intro j;have hp:=hT.pos;simp only [madeCells,toList_map,toList_range,List.getElem?_map]
   have hfl:∀(m j:Nat),(List.replicate m zv.cells.toList).flatten[j]? =if j < m * t.cells then zv.cells[j % t.cells]? else none:=by
    intro m
    induction m with
    |zero=>simp_all
    |succ m ih=>
     intro j;rw [List.replicate_succ,flatten_cons,List.getElem?_append];simp only [length_toList,q5];split
     .rename_i hj;rw [if_pos (by grind),mod_eq_of_lt hj];simp
     .rename_i hj;rw [ih,show(m+1) * t.cells=m * t.cells+t.cells by grind]
      have:(j - t.cells) % t.cells=j % t.cells:=by
       simp_all [mod_eq_sub_mod]
      grind
   rw [hfl];by_cases hj:j < m * t.cells
   .simp_all [if_pos,List.getElem?_range,mod_lt,Option.map_some,Array.getElem?_eq_getElem,getElem!_pos]
   grind
  simp_all [wM]
 have hmsz:(madeCells zv.cells (m * i.size)).size=m * t.cells:=by simp [madeCells,q3]
 rw [hr]
 refine k _ S _ _ (fU hd _) rfl (gk (.inr ⟨w.heap.size,m,madeCells zv.cells (m * i.size),by simp,by simp,by grind [maxLen],heap_alloc_new w _,hmsz,?_⟩) ?_) ?_
 .
  simp_all [length_replicate,take_of_length_le,length_toList,Nat.le_refl]
 .
  intro b hb;have hb':b=w.heap.size:=by simp_all [D.foot,Value.ownBlock,eq_comm]
  subst hb';exact⟨λh=>by grind,by simp⟩
 simp_all [D.foot,Value.ownBlock,eq_comm,iv]
end
theorem aS.re{Δ Δ':List D}{S S':FS}{v:VW}(h:aS Δ S v)(p:gR Δ' S' v)(hf:∀b,av Δ' b->av Δ b)(hS:∀b,S' b->S b\/av Δ b):aS Δ' S' v:=
 ⟨p.holds,p.own,p.apart,λb hb=>h.far b (hf b hb),λb hb=>(hS b hb).elim (h.sees b) (λhb=>(h.far b hb).1),h.domA,h.domZ⟩
theorem St.rely{c:Cx}{Γ:Ga}{Δ:List D}{a:Act}{w w1:VW}(h:St c Γ Δ a w)(hr:bu w w1):St c Γ Δ a w1:=by
 obtain⟨h1,h2,S,h3,h4,h5,h6⟩:=h;exact⟨h1,h2,S,h3.trans (bD.rely (X:=λ_=>False) h3.dom hr) (λb hb=>hb.elim),h4,h5.rely h3.dom hr,λs r hl=>A.mono (λ_ h=>h) (fG h3.dom h5.sees hr) r (h6 s r hl)⟩
theorem mi{d:D}{F:List D}:∀b,av F b->av (d::F) b:=λ_ ⟨e,he,hb⟩=>⟨e,mem_cons_of_mem _ he,hb⟩
section
variable {c:Cx}{ops:Array Oper}{l:List Oper}{Q:Exit->Act->VW->Prop}{Γ Γ':Ga}{Δ Δ' F:List D}
def SE(c:Cx)(Γ:Ga)(Δ:List D)(Γ':Ga)(Δ':List D):Prop:=∀a w,St c Γ Δ a w->St c Γ' Δ' a w
theorem dM(h:SE c Γ Δ Γ' Δ')(j:JO c ops l Q Γ' Δ'):JO c ops l Q Γ Δ:=λa w s=>j a w (h a w s)
theorem fL{C:Code}(h:SE c Γ Δ Γ' Δ')(j:JC c C Q Γ' Δ'):JC c C Q Γ Δ:=λa w s=>j a w (h a w s)
theorem bK{M:Act->VW->Prop}(h:SE c Γ Δ Γ' Δ')(j:JN c M Γ' Δ'):JN c M Γ Δ:=λa w s=>j a w (h a w s)
theorem SE.trans{Γ'':Ga}{Δ'':List D}(h:SE c Γ Δ Γ' Δ')(h':SE c Γ' Δ' Γ'' Δ''):SE c Γ Δ Γ'' Δ'':=λa w s=>h' a w (h a w s)
def GH:Ga->Ga->Prop
 |[],_=>True
 |(s,r)::l,Γ=>lk Γ s=some r/\GH l Γ
theorem GH.lk{Γ Γ':Ga}(h:GH Γ' Γ){s:Nat}{r:A}(hl:lk Γ' s=some r):lk Γ s=some r:=by
 induction Γ' with
 |nil=>cases hl
 |cons p Γ' ih=>
  obtain⟨s',r'⟩:=p;simp only [K.lk] at hl;split at hl
  .rename_i e;subst e;cases hl;exact h.1
  .exact ih h.2 hl
theorem SE.sub(h:GH Γ' Γ):SE c Γ Δ Γ' Δ:=λ_ _ ⟨h1,h2,S,h3,h4,h5,h6⟩=>⟨h1,h2,S,h3,h4,h5,λs r hl=>h6 s r (h.lk hl)⟩
theorem SE.drop(k:Nat):SE c Γ Δ Γ (Δ.take k):=λ_ _ ⟨h1,h2,S,h3,h4,h5,h6⟩=>by
 have hm:∀d,d∈Δ.take k->d∈Δ:=λd hd=>mem_of_mem_take hd
 exact⟨h1,h2,S,h3,λb ⟨d,hd,e⟩=>h4 b ⟨d,hm d hd,e⟩,h5.re ⟨λd hd=>h5.holds d (hm d hd),λb ⟨d,hd,e⟩=>h5.own b ⟨d,hm d hd,e⟩,h5.apart.sublist (take_sublist k Δ)⟩ (λb ⟨d,hd,e⟩=>⟨d,hm d hd,e⟩) (λ_ h=>.inl h),h6⟩
theorem SX(k:Nat){e:D}(h:Δ[k]? =some e):SE c Γ Δ Γ (e::Δ.eraseIdx k):=λ_ _ s=>s.perm (f6 k e h)
theorem SE.nil(T:TypeId)(t:Ty):SE c Γ Δ Γ (.sl (.slice none 0 0) T t []::Δ):=λa w ⟨h1,h2,S,h3,h4,h5,h6⟩=>by
 have hf:∀b,(D.sl (.slice none 0 0) T t []).foot≠some b:=λb e=>by simp [D.foot,Value.ownBlock] at e
 have hfe:∀b,av (.sl (.slice none 0 0) T t []::Δ) b->av Δ b:=λb ⟨d,hd,e⟩=>by
  rcases mem_cons.1 hd with rfl |hd
  .
   simp_all
  .
   exact⟨d,hd,e⟩
 refine⟨h1,h2,S,h3,λb hb=>h4 b (hfe b hb),h5.re ⟨λd hd=>?_,λb hb=>h5.own b (hfe b hb),pairwise_cons.2 ⟨λd _ b e=>absurd e (hf b),h5.apart⟩⟩ hfe (λ_ h=>.inl h),h6⟩
 rcases mem_cons.1 hd with rfl |hd
 .
  exact .inl ⟨rfl,rfl⟩
 .
  exact h5.holds d hd
theorem Nw{r r':A}(s:Nat)(hl:lk Γ s=some r)(hi:∀S w v,r.holds S w v->r'.holds S w v):SE c Γ Δ ((s,r')::Γ) Δ:=λa w ⟨h1,h2,S,h3,h4,h5,h6⟩=>
 ⟨h1,h2,S,h3,h4,h5,λs' q hq=>by
  grind [lk]⟩
theorem fq{r:A}{t:Ty}{x:t.den}(s:Nat)(hl:lk Γ s=some r)(h:pX r t x)(hs:r.stor)(hg:r.isAgg=t.isAgg):SE c Γ Δ ((s,GF t x)::Γ) Δ:=
 Nw s hl λ_ _ _ hv=>h.holds hs hg hv
theorem o0{v:Value}{T:TypeId}{t:Ty}{d:List t.den}(h:be v=true->JO c ops l Q Γ (.sl v T t d::F)):JO c ops l Q Γ (.sl v T t d::F):=λa w s=>by
 refine h ?_ a w s
 obtain⟨_,_,S,_,_,h5,_⟩:=s
 rcases h5.holds _ (by simp:D.sl v T t d∈D.sl v T t d::F) with⟨rfl,_⟩ |⟨b,cap,cc,rfl,_⟩ <;> rfl
theorem U1{C:Code}{v:Value}{T:TypeId}{t:Ty}{d:List t.den}(h:be v=true->JC c C Q Γ (.sl v T t d::F)):JC c C Q Γ (.sl v T t d::F):=λa w s=>by
 refine h ?_ a w s
 obtain⟨_,_,S,_,_,h5,_⟩:=s
 rcases h5.holds _ (by simp:D.sl v T t d∈D.sl v T t d::F) with⟨rfl,_⟩ |⟨b,cap,cc,rfl,_⟩ <;> rfl
theorem rP{v:Value}{T:TypeId}{t:Ty}{d:List t.den}{a:Act}{w:VW}(h:St c Γ (.sl v T t d::F) a w):
 a.defers=c.dfs/\a.tmps.size=c.N/\∃S:FS,bD c.X c.S0 c.w0 S w/\(∀b,av F b->c.X b\/c.w0.heap.size≤b)/\aS F S w/\(∀s r,lk Γ s=some r->r.holds S w (a.tmps.getD s undef))/\(GF (.slice t) d).holds S w v:=by
 obtain⟨h1,h2,S,h3,h4,h5,h6⟩:=h
 have hs:=h5.holds _ (by simp:D.sl v T t d∈D.sl v T t d::F)
 have hp:=pairwise_cons.1 h5.apart
 rcases hs with⟨rfl,rfl⟩ |⟨b,cap,cc,rfl,q1,q1',q2,q3,q4⟩
 .
  exact⟨h1,h2,S,h3,λb ⟨e,he,hb⟩=>h4 b ⟨e,mem_cons_of_mem _ he,hb⟩,h5.re ⟨λe he=>h5.holds e (mem_cons_of_mem _ he),λb ⟨e,he,hb⟩=>h5.own b ⟨e,mem_cons_of_mem _ he,hb⟩,hp.2⟩ mi (λ_ h=>.inl h),h6,⟨_,.inl ⟨none,0,rfl,rfl⟩,rfl⟩⟩
 .
  have hfe:av (.sl (.slice (some ⟨b,0,none⟩) d.length cap) T t d::F) b:=⟨_,mem_cons_self ..,rfl⟩;have hown:=h5.own b hfe;have hK:gr S w w:=λ_ _=>rfl;refine⟨h1,h2,λx=>S x\/x=b,⟨λx hx=>.inl (h3.sub x hx),λx hx=>?_,λx hx=>?_,h3.size,h3.keep,h3.os,h3.tape,h3.output,h3.subA,h3.oldA,h3.Z⟩,λx ⟨e,he,hb⟩=>h4 x ⟨e,mem_cons_of_mem _ he,hb⟩,h5.re ⟨λe he=>?_,λx ⟨e,he,hb⟩=>?_,hp.2⟩ mi (λx (hx:S x\/x=b)=>hx.imp id λe=>by simp_all),λs r hl=>A.mono (λ_ h=>.inl h) hK r (h6 s r hl),?_⟩
  .rcases hx with hx |hx
   .exact h3.new x hx
   grind
  .rcases hx with hx |hx
   .exact h3.dom x hx
   omega
  .exact cp (λ_ h=>.inl h) hK e (λ_ _=>rfl) (h5.holds e (mem_cons_of_mem _ he))
  .have h7:=h5.own x ⟨e,mem_cons_of_mem _ he,hb⟩;refine⟨λhx=>?_,h7.2⟩;rcases hx with hx |hx
   .simp_all
   .subst hx;exact hp.1 e he x rfl hb
  .refine⟨_,.inr ⟨b,0,cap,cc,T,(0,0),rfl,q1,.inr rfl,q2,?_⟩,rfl⟩;grind [cH,dS]
def pI(Γ:Ga)(v:Value):List Nat->Prop
 |[]=>True
 |s::l=>lk Γ s=some (.eq v)/\pI Γ v l
def sB(Γ:Ga)(r:A):List Nat->Ga
 |[]=>Γ
 |s::l=>(s,r)::sB Γ r l
theorem sW{Γ:Ga}{r:A}{ss:List Nat}{s:Nat}{q:A}(h:lk (sB Γ r ss) s=some q):(s∈ss/\q=r)\/lk Γ s=some q:=by
 induction ss with
 |nil=>exact .inr h
 |cons s' ss ih=>
  simp only [sB,lk] at h;grind
theorem pI.mem{Γ:Ga}{v:Value}{ss:List Nat}(h:pI Γ v ss){s:Nat}(hs:s∈ss):lk Γ s=some (.eq v):=by
 induction ss with
 |nil=>simp at hs
 |cons s' ss ih=>
  rcases mem_cons.1 hs with rfl |hs
  .exact h.1
  .exact ih h.2 hs
theorem jk{v:Value}{T:TypeId}{t:Ty}{d:List t.den}(ss:List Nat)(hh:pI Γ v ss):SE c Γ (.sl v T t d::F) (sB Γ (.rep (.slice t) d) ss) F:=λa w h=>by
 obtain⟨h1,h2,S,h3,h4,h5,h6,h7⟩:=rP h
 refine⟨h1,h2,S,h3,h4,h5,λs q hq=>?_⟩
 rcases sW hq with⟨hs,rfl⟩ |hq
 .
  have:=h6 s _ (hh.mem hs)
  have e:a.tmps.getD s undef=v:=this
  simp_all
 simp_all
theorem JH{v:Value}{T T':TypeId}{t:Ty}{d:List t.den}{b off:Nat}{a0 a1:A}(hg:a0.get off 1 false=some (.eq v))(hs:a0.set off 1 false (.rep (.slice t) d)=some a1):
 SE c Γ (.sl v T t d:: .obj b T' a0::F) Γ (.obj b T' a1::F):=λa w h=>by
 obtain⟨h1,h2,S,h3,h4,h5,h6,h7⟩:=rP h
 refine⟨h1,h2,S,h3,λx ⟨e,he,hb⟩=>?_,h5.re ⟨λe he=>?_,λx ⟨e,he,hb⟩=>?_,?_⟩ (λx ⟨e,he,hb⟩=>?_) (λ_ h=>.inl h),h6⟩
 rotate_right
 .
  rcases mem_cons.1 he with rfl |he
  .
   exact⟨_,mem_cons_self ..,hb⟩
  .
   exact⟨e,mem_cons_of_mem _ he,hb⟩
 .
  rcases mem_cons.1 he with rfl |he
  .
   exact h4 x ⟨_,mem_cons_self ..,hb⟩
  .
   exact h4 x ⟨e,mem_cons_of_mem _ he,hb⟩
 .
  rcases mem_cons.1 he with rfl |he
  .
   obtain⟨cs,q1,q2⟩:=h5.holds _ (mem_cons_self ..)
   obtain⟨g1,g2⟩:=iK a0 q2 hg
   have l0:=a0.cells_length q2
   have gv:mk false ((cs.drop off).take 1)=v:=g1
   have hlt:off < cs.length:=by omega
   have hc:(cs.drop off).take 1=[v]:=by
    have e9:(cs.drop off).take 1=[cs[off]]:=by grind [drop_eq_getElem_cons]
    rw [e9] at gv⊢;have e10:cs[off]=v:=gv;rw [e10]
   obtain⟨xs,e1,e2⟩:=h7
   have e3:xs=[v]:=by
    have l1:=aN (.slice t) e1;match xs,l1 with
    |[u],_=>simp_all [mk]
   subst e3;obtain⟨k1,_⟩:=lN a0 q2 (r:=.rep (.slice t) d) (new:=[v]) e1 rfl hs;refine⟨cs,q1,?_⟩
   have e4:cs.take off++[v]++cs.drop (off+[v].length)=cs:=by
    show cs.take off++[v]++cs.drop (off+1)=cs;rw [<-hc,<-take_add,take_append_drop]
   grind
  .exact h5.holds e (mem_cons_of_mem _ he)
 .
  rcases mem_cons.1 he with rfl |he
  .exact h5.own x ⟨_,mem_cons_self ..,hb⟩
  .exact h5.own x ⟨e,mem_cons_of_mem _ he,hb⟩
 .
  have hp:=pairwise_cons.1 h5.apart;exact pairwise_cons.2 ⟨λe he=>hp.1 e he,hp.2⟩
theorem jy{b:Nat}{T:TypeId}{t:Ty}{x:t.den}{a0:A}(ss:List Nat)(he:pX a0 t x)(hh:pI Γ (.pointer (some ⟨b,0,none⟩)) ss):SE c Γ (.obj b T a0::F) (sB Γ (.at t x) ss) F:=λa w h=>by
 obtain⟨h1,h2,S,h3,h4,h5,h6⟩:=h
 obtain⟨cs,q1,q2⟩:=h5.holds _ (mem_cons_self ..)
 have hp:=pairwise_cons.1 h5.apart
 have hfe:av (.obj b T a0::F) b:=⟨_,mem_cons_self ..,rfl⟩
 have hown:=h5.own b hfe
 have hK:gr S w w:=λ_ _=>rfl
 refine⟨h1,h2,λx=>S x\/x=b,⟨λx hx=>.inl (h3.sub x hx),λx hx=>?_,λx hx=>?_,h3.size,h3.keep,h3.os,h3.tape,h3.output,h3.subA,h3.oldA,h3.Z⟩,λx ⟨e,he,hb⟩=>h4 x ⟨e,mem_cons_of_mem _ he,hb⟩,h5.re ⟨λe he=>?_,λx ⟨e,he,hb⟩=>?_,hp.2⟩ mi (λx (hx:S x\/x=b)=>hx.imp id λe=>by simp_all),λs q hq=>?_⟩
 .
  rcases hx with hx |hx
  .
   exact h3.new x hx
  grind
 .
  rcases hx with hx |hx
  .
   exact h3.dom x hx
  omega
 .
  exact cp (λ_ h=>.inl h) hK e (λ_ _=>rfl) (h5.holds e (mem_cons_of_mem _ he))
 .
  have h7:=h5.own x ⟨e,mem_cons_of_mem _ he,hb⟩
  refine⟨λhx=>?_,h7.2⟩
  rcases hx with hx |hx
  .
   simp_all
  .
   subst hx;exact hp.1 e he x rfl hb
 .
  rcases sW hq with⟨hs,rfl⟩ |hq
  .
   have e1:a.tmps.getD s undef= .pointer (some ⟨b,0,none⟩):=h6 s _ (hh.mem hs)
   rw [e1]
   have hr:=he.cells q2
   have l:=aN t hr
   refine⟨b,0,cs.toArray,T,(0,0),rfl,.inr rfl,q1,?_⟩
   rw [toList_toArray,drop_zero,take_of_length_le (by omega)]
   grind [dS]
  grind [A.mono]
end
def fM(S:FS)(w:World):List A->List Value->Prop
 |[],vs=>vs=[]
 |r::l,vs=>∃v vs',vs=v::vs'/\r.holds S w v/\fM S w l vs'
def dK(S:FS)(w:VW)(Δ:List D){X:Type}(R:X->A×List D):Ending->VW->Prop:=λe w'=>
 ∃x S' v,e= .returned v/\bD (av Δ) S w S' w'/\(R x).1.holds S' w' v/\aS (R x).2 S' w'/\∀b,av (R x).2 b->av Δ b\/w.heap.size≤b
def cz{P:Program}(M:Md P)(f:Nat)(as:List A)(Δ:List D){X:Type}(R:X->A×List D):Prop:=
 ∀(k:CallKind),k≠.early->∀(S:FS) (w:VW) (vs:List Value),(∀b,S b->b < w.heap.size)->fM S w as vs->aS Δ S w->jC M k f vs.toArray w (dK S w Δ R)
def dG(P:Program)(f:Nat)(as:List A)(Δ:List D){X:Type}(R:X->A×List D):Prop:=∀M:Md P,cz M f as Δ R
def ai(P:Program)(f:Nat):Prop:=∃fn,P.funcs[f]? =some fn/\(fn.name == "runtime.NumGoroutine")=false/\fn.body.isNone=false
theorem ai.of{P:Program}{f:Nat}{fn:Func}(h:P.funcs[f]? =some fn)(hn:(fn.name == "runtime.NumGoroutine")=false)(hb:fn.body.isNone=false):ai P f:=⟨fn,h,hn,hb⟩
theorem fM.of{S:FS}{w:World}{a:Act}:∀{xs:List Operand} {as:List A},xs.length=as.length->bI S w a (xs.zip as)->fM S w as (xs.map a.eval)
 |[],[],_,_=>rfl
 |x::xs,r::as,h,hN=>⟨_,_,rfl,hN.1,fM.of (by simp_all) hN.2⟩
 |[],_::_,h,_=>by simp at h
 |_::_,[],h,_=>by simp at h
section
variable {P:Program}{M:Md P}{o:Oper}{x y z:Operand}{T:TypeId}{Δ:List D}{X:Type}{R:X->A×List D}{r:A}
theorem fM.rely{S:FS}{v v1:VW}(hK:gr S v v1):∀{as:List A} {vs:List Value},fM S v as vs->fM S v1 as vs
 |[],_,h=>h
 |_::_,_,⟨x,vs',e,h1,h2⟩=>⟨x,vs',e,A.mono (λ_ h=>h) hK _ h1,fM.rely hK h2⟩
theorem Ja{f:FuncId}{args:Array Value}{s:Sem Next}{v:VW}(hs:s=callFunc f args)(hb:∃fn,P.funcs[f]? =some fn/\(fn.name == "runtime.NumGoroutine")=false/\fn.body.isNone=false):s.run P v= .ok (.enter f args) v/\Sg P v s:=by
 obtain⟨fn,h1,h2,h3⟩:=hb;subst hs
 have e:(callFunc f args).runT P v #[]=(.ok (.enter f args) v, #[]):=by
  show((match P.funcs[f]? with
   |none=>stuck "call: no such function"
   |some fn=>if fn.name == "runtime.NumGoroutine" then pure .numGoroutine else if fn.body.isNone then _ else pure (.enter f args):Sem Next)).runT P v #[]=_
  rw [h1];simp only [h2,h3,Bool.false_eq_true,if_false];rfl
 grind [callFunc,Sem.runT_fst,Sg,Sem.events,eP.refl]
theorem yH{M:Md P}{rd:Option Nat}{a:Act}{v:VW}{next:Act->VW->Prop}{Q:Exit->Act->VW->Prop}{f:FuncId}{args:Array Value}(hnd:nd o.op=true)(hex:execOp a.eval o=callFunc f args)(hb:ai P f)
 (h:∀v1,bu v v1->jC M .normal f args v1 λ
  | .returned x,v''=>next (a.put o.dst x) v''
  | .panicked ch,v''=>Q (.panic ch) a v''
  | .outgrown,_=>False):o.wk M rd a v next Q:=O7 λv1 hr=>by
 rw [Oper.semAt_eq _ _ _ (λc e=>by rw [e] at hnd;cases hnd)]
 obtain⟨h1,h2⟩:=Ja (v:=v1) hex hb
 refine⟨h2,?_⟩
 rw [h1]
 exact h v1 hr
theorem aZ{f:Nat}{as:List A}{c:Call}(xs:List Operand){ts:Array TypeId}(ho:o.op= .call c)(hc:c={ callee:=.value (.func f),args:=xs.toArray,argTypes:=ts })(hf:ai P f)(hlen:xs.length=as.length)
 (h:cz M f as Δ R):bB M o (xs.zip as) Δ R:=by
 have hnd:nd o.op=true:=by grind [nd]
 refine⟨hnd,λrd S v a next Q hd hN hO k=>?_⟩
 have e1:a.eval (.func f)= .func (.func f) #[] #[]:=rfl
 refine yH (args:=(xs.map a.eval).toArray) hnd (by simp_all [execOp,resolve,Deferred.ofValue,invoke]) hf λv1 hr=>?_
 refine(h .normal (λe=>nomatch e) S v1 _ (λb hb=>Nat.lt_of_lt_of_le (hd b hb) hr.size) (fM.of hlen (bI.rely hd hO.sees hr hN)) (hO.rely hd hr)).mono ?_
 rintro e w' ⟨x,S',u,rfl,h1,h2,h3,h4⟩
 exact k x S' w' u ((bD.rely hd hr).trans h1 λb hb=>.inl hb) h2 h3 λb hb=>(h4 b hb).imp id (Nat.le_trans hr.size)
theorem aC{f:Nat}{as:List A}{c:Call}(xs:List Operand){ts:Array TypeId}(ho:o.op= .call c)(hc:c={ callee:=.value (.func f),args:=xs.toArray,argTypes:=ts })(hf:ai P f)(hlen:xs.length=as.length)
 (h:dG P f as Δ R):bB M o (xs.zip as) Δ R:=aZ xs ho hc hf hlen (h M)
theorem rp{f:Nat}{fs cs:List Value}{ags:List A}{c:Call}(xs:List Operand){ts:Array TypeId}(ho:o.op= .call c)(hc:c={ callee:=.value x,args:=xs.toArray,argTypes:=ts })(hf:ai P f)(hlen:xs.length=ags.length)
 (h:cz M f (fs.map .eq++ags++cs.map .eq) Δ R):bB M o ((x,.eq (.func (.func f) fs.toArray cs.toArray))::xs.zip ags) Δ R:=by
 have hnd:nd o.op=true:=by grind [nd]
 refine⟨hnd,λrd S v a next Q hd hN hO k=>?_⟩
 have e1:a.eval x= .func (.func f) fs.toArray cs.toArray:=hN.1
 have hall:∀v1,bu v v1->fM S v1 (fs.map .eq++ags++cs.map .eq) (fs++xs.map a.eval++cs):=λv1 hr=>by
  have heq:∀vs:List Value,fM S v1 (vs.map .eq) vs:=λvs=>by
   induction vs with
   |nil=>rfl
   |cons v vs ih=>exact⟨v,vs,rfl,rfl,ih⟩
  have happ:∀{a1 a2:List A} {v1' v2:List Value},fM S v1 a1 v1'->fM S v1 a2 v2->fM S v1 (a1++a2) (v1'++v2):=by
   intro a1
   induction a1 with
   |nil=>intro a2 v1' v2 h1 h2;have:v1'=[]:=h1;simp_all
   |cons r a1 ih=>rintro a2 v1' v2 ⟨v,vs',rfl,h1,h2⟩ h3;exact⟨v,_,rfl,h1,ih h2 h3⟩
  exact happ (happ (heq fs) (fM.of hlen (bI.rely hd hO.sees hr hN.2))) (heq cs)
 refine yH (args:=(fs++xs.map a.eval++cs).toArray) hnd (by simp_all [execOp,resolve,Deferred.ofValue,invoke]) hf λv1 hr=>?_
 refine(h .normal (λe=>nomatch e) S v1 _ (λb hb=>Nat.lt_of_lt_of_le (hd b hb) hr.size) (hall v1 hr) (hO.rely hd hr)).mono ?_
 rintro e w' ⟨x,S',u,rfl,h1,h2,h3,h4⟩
 exact k x S' w' u ((bD.rely hd hr).trans h1 λb hb=>.inl hb) h2 h3 λb hb=>(h4 b hb).imp id (Nat.le_trans hr.size)
theorem ug{f:Nat}{fs cs:List Value}{ags:List A}{c:Call}(xs:List Operand){ts:Array TypeId}(ho:o.op= .call c)(hc:c={ callee:=.value x,args:=xs.toArray,argTypes:=ts })(hf:ai P f)(hlen:xs.length=ags.length)
 (h:dG P f (fs.map .eq++ags++cs.map .eq) Δ R):bB M o ((x,.eq (.func (.func f) fs.toArray cs.toArray))::xs.zip ags) Δ R:=rp xs ho hc hf hlen (h M)
@[reducible] def A.flat:A->Bool
 | .eq _=>true
 | .rep t _=>t.flat
 | .at _ _=>false
 | .pair a b=>a.flat && b.flat
 | .agg a=>a.flat
 | .tup a=>a.flat
 | .fn _ a=>a.flat
 | .full _ _=>false
 | .any=>true
theorem A.cells_flat{S S':FS}{w:World}(r:A):∀{cs:List Value},r.flat=true->r.cells S w cs->r.cells S' w cs:=by
 induction r with
 |eq v=>intro cs _ h;exact h
 |rep t x=>intro cs hf h;exact xZ t hf h
 |«at» t x=>simp_all
 |pair a b iha ihb=>
  rintro cs hf ⟨c1,c2,e,h1,h2⟩;simp [A.flat] at hf;exact⟨c1,c2,e,iha hf.1 h1,ihb hf.2 h2⟩
 |agg a ih=>intro cs hf h;exact ih hf h
 |tup a _=>intro cs hf h;exact h
 |fn f a _=>intro cs hf h;exact h
 |full t l=>simp_all
 |any=>intro cs hf h;exact h
theorem o8{S S':FS}{w:World}(r:A):r.flat=true->(∀{v:Value},r.holds S w v->r.holds S' w v)/\(∀{vs:List Value},A.holds.holdsAll S w r vs->A.holds.holdsAll S' w r vs):=by
 induction r with
 |eq v=>exact λ_=>⟨λh=>h,λh=>h⟩
 |rep t x=>exact λhf=>⟨λ⟨cs,h,e⟩=>⟨cs,xZ t hf h,e⟩,λh=>h⟩
 |«at» t x=>simp_all
 |pair a b iha ihb=>
  intro hf;simp [A.flat] at hf;exact⟨λh=>h,λ⟨v,vs,e,h1,h2⟩=>⟨v,vs,e,(iha hf.1).1 h1,(ihb hf.2).2 h2⟩⟩
 |agg a _=>exact λhf=>⟨λ⟨cs,h,e⟩=>⟨cs,A.cells_flat a hf h,e⟩,λh=>h⟩
 |tup a ih=>exact λhf=>⟨λ⟨vs,e,h⟩=>⟨vs,e,(ih hf).2 h⟩,λh=>h⟩
 |fn f a ih=>exact λhf=>⟨λ⟨vs,e,h⟩=>⟨vs,e,(ih hf).2 h⟩,λh=>h⟩
 |full t l=>simp_all
 |any=>exact λ_=>⟨λh=>h,λh=>h⟩
@[reducible] def D.flat:D->Bool
 | .obj _ _ a=>a.flat
 | .sl _ _ t _=>t.flat
 | .raw _ _=>true
 | .inv _ _=>true
theorem nM{S S':FS}{w:World}(d:D)(hf:d.flat=true)(h:d.holds S w):d.holds S' w:=by
 cases d with
 |obj b T a=>obtain⟨cs,h1,h2⟩:=h;exact⟨cs,h1,a.cells_flat hf h2⟩
 |sl v T t l=>
  rcases h with h |⟨b,cap,c,e,h1,h1',h2,h3,h4⟩
  .exact .inl h
  .exact .inr ⟨b,cap,c,e,h1,h1',h2,h3,cH (λ_ _ h=>xZ t hf h) h4⟩
 |raw b o=>exact h
 |inv b p=>exact h
theorem lJ{v:Value}{t:Ty}{l:List t.den}{N N':List (Operand×A)}(h:bB M o N' Δ R)(hN:∀S w a,(A.rep (.slice t) l).holds S w v->bI S w a N->bI S w a N')
 (hf:∀x,(R x).1.flat=true/\∀d∈(R x).2,d.flat=true):bB M o N (.sl v T t l::Δ) (λx=>((R x).1,.sl v T t l::(R x).2)):=by
 refine⟨h.1,λro S w a next Q hd hNN hO k=>?_⟩
 have hs:=hO.holds _ (mem_cons_self ..)
 have hp:=pairwise_cons.1 hO.apart
 have hOΔ:aS Δ S w:=hO.re ⟨λe he=>hO.holds e (mem_cons_of_mem _ he),λb ⟨e,he,hb⟩=>hO.own b ⟨e,mem_cons_of_mem _ he,hb⟩,hp.2⟩ mi (λ_ h=>.inl h)
 have hK:gr S w w:=λ_ _=>rfl
 rcases hs with⟨rfl,rfl⟩ |⟨b,cap,cc,rfl,q1,q1',q2,q3,q4⟩
 .
  refine h.2 ro S w a next Q hd (hN S w a ⟨_,.inl ⟨none,0,rfl,rfl⟩,rfl⟩ hNN) hOΔ λx S' w' v' h1 h2 h3 h4=>?_;have hff:∀b,(D.sl (.slice none 0 0) T t []).foot≠some b:=λb e=>by simp [D.foot,Value.ownBlock] at e
  have hfe:∀{E:List D} b,av (.sl (.slice none 0 0) T t []::E) b->av E b:=λb ⟨d,hd,e⟩=>by
   rcases mem_cons.1 hd with rfl |hd
   .simp_all
   .exact⟨d,hd,e⟩
  refine k x S' w' v' (h1.mono λb ⟨d,hd,e⟩=>⟨d,mem_cons_of_mem _ hd,e⟩) h2 (h3.re ⟨λd hd=>?_,λb hb=>h3.own b (hfe b hb),pairwise_cons.2 ⟨λd _ b e=>absurd e (hff b),h3.apart⟩⟩ hfe λ_ h=>.inl h) (λb hb=>(h4 b (hfe b hb)).imp (λ⟨d,hd,e⟩=>⟨d,mem_cons_of_mem _ hd,e⟩) id);rcases mem_cons.1 hd with rfl |hd
  .exact .inl ⟨rfl,rfl⟩
  .exact h3.holds d hd
 .
  have hfe:av (.sl (.slice (some ⟨b,0,none⟩) l.length cap) T t l::Δ) b:=⟨_,mem_cons_self ..,rfl⟩;have hown:=hO.own b hfe;have hfar:=hO.far b hfe;have hnb:¬av Δ b:=λ⟨e,he,hb⟩=>hp.1 e he b rfl hb;have hmono:∀x,S x->S x\/x=b:=λ_ h=>.inl h
  have hread:(A.rep (.slice t) l).holds (λx=>S x\/x=b) w (.slice (some ⟨b,0,none⟩) l.length cap):=by
   refine⟨_,.inr ⟨b,0,cap,cc,T,(0,0),rfl,q1,.inr rfl,q2,?_⟩,rfl⟩;grind [cH,dS]
  have hNN':∀{N:List (Operand×A)},bI S w a N->bI (λx=>S x\/x=b) w a N:=by
   intro N
   induction N with
   |nil=>exact λh=>h
   |cons p N ih=>obtain⟨x,r⟩:=p;exact λh=>⟨A.mono hmono hK r h.1,ih h.2⟩
  have hd':∀x,(S x\/x=b)->x < w.heap.size:=λx hx=>hx.elim (hd x) (λe=>by omega);have hOΔ':aS Δ (λx=>S x\/x=b) w:=hO.re ⟨λe he=>cp hmono hK e (λ_ _=>rfl) (hOΔ.holds e he),λx hx=>⟨λh=>h.elim (hOΔ.own x hx).1 (λe=>by grind),(hOΔ.own x hx).2⟩,hOΔ.apart⟩ mi λx (hx:S x\/x=b)=>hx.imp id λe=>by simp_all
  refine h.2 ro _ w a next Q hd' (hN _ w a hread (hNN' hNN)) hOΔ' λx S' w' v' h1 h2 h3 h4=>?_;obtain⟨f1,f2⟩:=hf x;have hbk:w'.heap[b]? =w.heap[b]? :=h1.keep b hown.2 hfar.1 hnb;have hSb:∀y,S y->y≠b:=λy hy e=>hown.1 (e▸hy);have hKw:gr S w w':=λy hy=>h1.keep y (hd y hy) (hO.sees y hy) (λhx=>(hOΔ.own y hx).1 hy);refine k x (λy=>S' y/\y≠b) w' v' ⟨λy hy=>⟨h1.sub y (.inl hy),hSb y hy⟩,λy hy=>?_,λy hy=>h1.dom y hy.1,h1.size,λy hy ha hx=>h1.keep y hy ha (λ⟨e,he,hb⟩=>hx ⟨e,mem_cons_of_mem _ he,hb⟩),h1.os,h1.tape,h1.output,h1.subA,h1.oldA,h1.Z⟩ ((o8 _ f1).1 h2) ⟨λd hd=>?_,λy ⟨d,hd,e⟩=>?_,pairwise_cons.2 ⟨λd hd y e e'=>?_,h3.apart⟩,λy ⟨d,hd,e⟩=>?_,λy hy=>h3.sees y hy.1,h3.domA,h3.domZ⟩ λy ⟨d,hd,e⟩=>?_
  .rcases h1.new y hy.1 with(hh |hh) |hh |⟨e,he,hb⟩
   .simp_all
   .omega
   .omega
   .exact .inr (.inr ⟨e,mem_cons_of_mem _ he,hb⟩)
  .rcases mem_cons.1 hd with rfl |hd
   .refine .inr ⟨b,cap,cc,rfl,q1,q1',hbk.trans q2,q3,cH (λ_ _ h=>dS (λy hy=>⟨h1.sub y (.inl hy),hSb y hy⟩) hKw t h) q4⟩
   .exact nM d (f2 d hd) (h3.holds d hd)
  .rcases mem_cons.1 hd with rfl |hd
   .have:y=b:=by simpa [D.foot,Value.ownBlock,eq_comm] using e
    grind
   .have:=h3.own y ⟨d,hd,e⟩;simp_all
  .have:y=b:=by simpa [D.foot,Value.ownBlock,eq_comm] using e
   subst this;rcases h4 y ⟨d,hd,e'⟩ with hh |hh
   .grind
   omega
  .rcases mem_cons.1 hd with rfl |hd
   .have:y=b:=by simpa [D.foot,Value.ownBlock,eq_comm] using e
    subst this;exact⟨λha=>(h1.oldA y ha).elim hfar.1 λh2=>by omega,by rw [h1.Z];grind⟩
   .exact h3.far y ⟨d,hd,e⟩
  .rcases mem_cons.1 hd with rfl |hd
   .exact .inl ⟨_,mem_cons_self ..,e⟩
   .exact(h4 y ⟨d,hd,e⟩).imp (λ⟨d,hd,e⟩=>⟨d,mem_cons_of_mem _ hd,e⟩) id
end
section
variable {c:Cx}{Q:Exit->Act->VW->Prop}{Γ Γ':Ga}{Δ Δ':List D}{C C':Code}{M:Act->VW->Prop}
theorem am(h:JC c C (bQ (C'.wk c.M c.rd Q) Q) Γ Δ):JC c (.seq C C') Q Γ Δ:=λa w s=>G0 (h a w s)
theorem JZ{Z:Type}(G:Z->Ga)(E:Z->List D)(p:Z->Prop)(h:JC c C (bQ (λa w=>∃z,p z/\St c (G z) (E z) a w) Q) Γ Δ)(h':∀z,p z->JC c C' Q (G z) (E z)):JC c (.seq C C') Q Γ Δ:=
 λa w s=>G0 (nj (λe a w q=>by
  cases e with
  |normal=>obtain⟨z,hp,hs⟩:=q;exact h' z hp a w hs
  |_=>exact q) (h a w s))
theorem mJ{Z:Type}{G:Z->Ga}{E:Z->List D}{p:Z->Prop}(z:Z)(hp:p z)(h:SE c Γ Δ (G z) (E z)):JN c (λa w=>∃z,p z/\St c (G z) (E z) a w) Γ Δ:=λa w s=>⟨z,hp,h a w s⟩
theorem ab{id:Nat}{l:List Oper}(h:JO c l.toArray l Q Γ Δ):JC c (.region id l.toArray false) Q Γ Δ:=λa w s=>vT (h a w s)
theorem ie{s:Nat}{b:Bool}(hl:lk Γ s=some (.eq (.bool b)))(ht:b=true->JC c C Q Γ Δ)(hf:b=false->JC c C' Q Γ Δ):JC c (.cond (.tmp s) C C') Q Γ Δ:=λa w st=>
 pS (t:=b) (by
  obtain⟨_,_,S,_,_,_,h6⟩:=st
  exact h6 s _ hl) (λh=>ht h a w st) (λh=>hf h a w st)
theorem J0{b:Bool}(ht:b=true->JC c C Q Γ Δ)(hf:b=false->JC c C' Q Γ Δ):JC c (.cond (.const (.bool b)) C C') Q Γ Δ:=λa w st=>
 pS (t:=b) rfl (λh=>ht h a w st) (λh=>hf h a w st)
theorem ak{id:Nat}(h:JC c C (Ex.blk id Q) Γ Δ):JC c (.block id C) Q Γ Δ:=λa w s=>G4 (h a w s)
theorem bj(h:JN c (Q .normal) Γ Δ):JC c .skip Q Γ Δ:=λa w s=>Kv (h a w s)
theorem eO{id:Nat}(h:JN c (Q (.exit id)) Γ Δ):JC c (.exit id) Q Γ Δ:=λa w s=>Ky (h a w s)
theorem aF(h:JN c (Q .ret) Γ Δ):JC c .ret Q Γ Δ:=λa w s=>OC (h a w s)
theorem ao(h:JN c M Γ Δ):JN c (bQ M Q .normal) Γ Δ:=h
theorem bi{id:Nat}(h:JN c (Q (.exit id)) Γ Δ):JN c (bQ M Q (.exit id)) Γ Δ:=h
theorem bM(h:JN c (Q .ret) Γ Δ):JN c (bQ M Q .ret) Γ Δ:=h
theorem aR{id:Nat}(h:JN c (Q .normal) Γ Δ):JN c (Ex.blk id Q .normal) Γ Δ:=h
theorem bP{id:Nat}(h:JN c (Q .ret) Γ Δ):JN c (Ex.blk id Q .ret) Γ Δ:=h
theorem cT{id:Nat}(h:JN c (Q .normal) Γ Δ):JN c (Ex.blk id Q (.exit id)) Γ Δ:=λa w s=>by
 show if id=id then Q .normal a w else Q (.exit id) a w
 rw [if_pos rfl]
 exact h a w s
theorem NA{Z:Type}(G:Z->Ga)(E:Z->List D)(p:Nat->Z->Prop)(n:Nat)(z:Z)(hp:p n z)(hs:SE c Γ Δ (G z) (E z))
 (round:∀n z,p n z->JC c C (bQ (λa w=>∃z':Nat×Z,(z'.1 < n/\p z'.1 z'.2)/\St c (G z'.2) (E z'.2) a w) Q) (G z) (E z)):JC c (.loop C) Q Γ Δ:=λa w st=>
 xJ (λn a w=>∃z,p n z/\St c (G z) (E z) a w) (λn a w ⟨z,hp,hs⟩=>nj (λe a w q=>by
  cases e with
  |normal=>obtain⟨⟨m,z'⟩,⟨hm,hp'⟩,hs'⟩:=q;exact⟨m,hm,z',hp',hs'⟩
  |_=>exact q) (round n z hp a w hs)) n a w ⟨z,hp,hs a w st⟩
def xC(P:Program)(Γ:Ga)(Δ:List D):List ResultVar->List A->Prop
 |[],[]=>True
 | .tmp s::l,r::rs=>lk Γ s=some r/\xC P Γ Δ l rs
 | .cell s T::l,r::rs=>(∃b T0 a0 n g,lk Γ s=some (.eq (.pointer (some ⟨b,0,none⟩)))/\D.obj b T0 a0∈Δ/\eu P T n g/\(g=false->n=1)/\a0.get 0 n g=some r)/\xC P Γ Δ l rs
 |_,_=>False
def OK:List A->A
 |[]=>.any
 |r::l=>.pair r (OK l)
@[reducible] def bO:List A->A
 |[r]=>r
 |l=>.tup (OK l)
def sC(tmps:Array Value):ResultVar->Sem Value
 | .tmp t=>pure (tmps.getD t undef)
 | .cell s t=>do loadVar t (<-asAddr (tmps.getD s undef))
theorem xC.run{P:Program}{S:FS}{w:World}{a:Act}(hO:∀d∈Δ,d.holds S w)(h6:∀s r,lk Γ s=some r->r.holds S w (a.tmps.getD s undef)):∀{rv:List ResultVar} {rs:List A},xC P Γ Δ rv rs->
 ∃vs:List Value,(∀w1:World,(∀b,av Δ b->w1.heap[b]? =w.heap[b]?)->(rv.mapM (sC a.tmps)).run P w1= .ok vs w1)/\A.holds.holdsAll S w (OK rs) vs/\vs.length=rs.length
 |[],[],_=>⟨[],λw1 _=>by simp,rfl,rfl⟩
 | .tmp s::l,r::rs,h=>by
  obtain⟨vs,h1,h2,h3⟩:=xC.run hO h6 h.2
  exact⟨a.tmps.getD s undef::vs,λw1 hw=>by simp_all [mapM_cons,sC,Sem.run_bind,Sem.run_pure,Result.andThen_ok],⟨_,vs,rfl,h6 s r h.1,h2⟩,by simp [h3]⟩
 | .cell s T::l,r::rs,h=>by
  obtain⟨⟨b,T0,a0,n,g,q1,q2,q3,q4,q5⟩,hr⟩:=h
  obtain⟨vs,h1,h2,h3⟩:=xC.run hO h6 hr
  have e:a.tmps.getD s undef= .pointer (some ⟨b,0,none⟩):=h6 s _ q1
  obtain⟨cs,g1,g2⟩:=hO _ q2
  obtain⟨k1,k2⟩:=iK a0 g2 q5
  have l0:=a0.cells_length g2
  refine⟨_::vs,λw1 hw=>?_,⟨_,vs,rfl,k1,h2⟩,by simp [h3]⟩
  have hl:=fZ q3 q4 ((hw b ⟨_,q2,rfl⟩).trans g1) (off:=0) (by simp_all)
  simp_all [mapM_cons,sC,Sem.run_bind,Sem.run_pure,asAddr,Result.andThen_ok]
 |[],_::_,h=>h.elim
 | .cell _ _::_,[],h=>h.elim
 | .tmp _::_,[],h=>h.elim
theorem uI(fn:Func)(tmps:Array Value):results fn tmps=(do
 let vs<-fn.results.mapM (sC tmps)
 pure (if h:vs.size=1 then vs[0] else .tuple vs)):=by
 unfold results
 have:(λx:ResultVar=>(match x with
  | .tmp t=>pure (tmps.getD t undef)
  | .cell a t=>do loadVar t (<-asAddr (tmps.getD a undef)):Sem Value))=sC tmps:=by
  funext x
  cases x <;> rfl
 rw [<-this]
 rfl
def xc:D->Bool
 | .obj .. =>true
 |_=>false
theorem xC.filt{P:Program}:∀{rv:List ResultVar} {rs:List A},xC P Γ Δ rv rs->xC P Γ (Δ.filter xc) rv rs
 |[],[],_=>trivial
 | .tmp _::_,_::_,h=>⟨h.1,xC.filt h.2⟩
 | .cell _ _::_,_::_,⟨⟨b,T0,a0,n,g,q1,q2,q3,q4,q5⟩,h⟩=>⟨⟨b,T0,a0,n,g,q1,List.mem_filter.2 ⟨q2,rfl⟩,q3,q4,q5⟩,xC.filt h⟩
 |[],_::_,h=>h.elim
 | .cell _ _::_,[],h=>h.elim
 | .tmp _::_,[],h=>h.elim
theorem aS.ev{Δ:List D}{S:FS}{v:VW}(hO:aS Δ S v){n:Nat}{e:Event}(h:ng v.heap.size (av Δ) S n e):lL v n e:=by
 unfold ng at h;unfold lL
 have good:∀b:Nat,(v.heap.size≤b\/av Δ b\/(S b/\e.write=false))->¬v.A b/\(e.write=true->¬v.Z b):=λb hb=>by
  rcases hb with hb |hb |⟨hb,hw⟩
  .exact⟨λha=>by have:=hO.domA b ha;omega,λ_ hz=>by have:=hO.domZ b hz;omega⟩
  .exact⟨(hO.far b hb).1,λ_=>(hO.far b hb).2⟩
  .exact⟨hO.sees b hb,λh=>by simp_all⟩
 split at h
 .grind
 .grind
 .simp_all
 simp_all
theorem aS.sg{α:Type}{P:Program}{Δ:List D}{S:FS}{v:VW}(hO:aS Δ S v)(hc:∀d∈Δ,d.calmP){s:Sem α}(hns:Ns P s)(h:∃x w1,s.run P (mQ S Δ v)= .ok x w1):∃x w',s.run P v= .ok x w'/\∀e∈s.events P v #[],lL v w'.heap.size e:=by
 obtain⟨x,w1,hr⟩:=h;obtain⟨w',r1,_,r3⟩:=Hv hns (zC hO.p hc) hr;refine⟨x,w',r1,λe he=>hO.ev ?_⟩;have:=r3 #[] (λe he=>by simp at he) e he;unfold ng at this⊢;split at this
 .grind
 .grind
 .exact this
 omega
theorem xC.sg{P:Program}{S:FS}{v:VW}{a:Act}(hO:aS Δ S v)(h6:∀s r,lk Γ s=some r->r.holds S v (a.tmps.getD s undef)){fn:Func}{rs:List A}(h:xC P Γ Δ fn.results.toList rs):
 ∃x,(∀w1:World,(∀b,av Δ b->w1.heap[b]? =v.heap[b]?)->(results fn a.tmps).run P w1= .ok x w1)/\(bO rs).holds S v x/\eP v v ((results fn a.tmps).events P v #[]):=by
 have h':=h.filt
 have hO':aS (Δ.filter xc) S v:=hO.re ⟨λd hd=>hO.holds d (List.mem_filter.1 hd).1,λb ⟨d,hd,e⟩=>hO.own b ⟨d,(List.mem_filter.1 hd).1,e⟩,hO.apart.sublist filter_sublist⟩ (λb ⟨d,hd,e⟩=>⟨d,(List.mem_filter.1 hd).1,e⟩) λ_ h=>.inl h
 have main:∀{w:World},(∀d∈Δ.filter xc,d.holds S w)->(∀s r,lk Γ s=some r->r.holds S w (a.tmps.getD s undef))->∃x,(∀w1:World,(∀b,av (Δ.filter xc) b->w1.heap[b]? =w.heap[b]?)->(results fn a.tmps).run P w1= .ok x w1)/\(bO rs).holds S w x:=λ{w} hO h6=>by
  obtain⟨vs,q1,q2,q3⟩:=xC.run hO h6 h';refine⟨if h:vs.length=1 then vs[0] else .tuple vs.toArray,λw1 hw=>?_,?_⟩
  .rw [uI]
   have e1:(fn.results.mapM (sC a.tmps)).run P w1= .ok vs.toArray w1:=by
    rw [mapM_eq_mapM_toList];simp_all
   simp_all
  .match rs,vs,q2,q3 with
   |[r],[v],q2,_=>
    obtain⟨v',vs',e,h,_⟩:=q2;simp_all
   |[],[],q2,_=>exact⟨[],rfl,q2⟩
   |r::r'::rs,v::v'::vs,q2,_=>exact⟨v::v'::vs,by simp,q2⟩
 obtain⟨x,r1,r2⟩:=main hO'.holds h6
 have hns:Ns P (results fn a.tmps):=by
  rw [uI];refine aj (DZ (λrv=>?_) _) λ_=>cI;cases rv with
  |tmp t=>exact cI
  |cell s t=>exact aj wU λ_=>uU
 have hcm:∀d∈Δ.filter xc,d.calmP:=λd hd=>by
  have:=(List.mem_filter.1 hd).2;cases d <;> first |trivial |cases this
 obtain⟨x',r3,_⟩:=main (w:=mQ S (Δ.filter xc) v) (qd hO'.p).holds λs r hl=>(tZ (qe hO'.p) r).1 (h6 s r hl)
 obtain⟨y,w',r4,r5⟩:=hO'.sg hcm hns ⟨x',_,r3 _ λ_ _=>rfl⟩
 rw [r1 _ λ_ _=>rfl] at r4
 simp only [Result.ok.injEq] at r4
 obtain⟨rfl,rfl⟩:=r4
 exact⟨x,λw1 hw=>r1 w1 λb ⟨d,hd,e⟩=>hw b ⟨d,(List.mem_filter.1 hd).1,e⟩,r2,λ_ _ _=>rfl,Nat.le_refl _,.refl _,rfl,rfl,r5⟩
def cg(P:Program)(fn:Func)(R:Ending->VW->Prop):Exit->Act->VW->Prop
 | .ret,a,v=>a.defers=[]/\∃x,(∀v1,bu v v1->(results fn a.tmps).run P v1= .ok x v1/\eP v1 v1 ((results fn a.tmps).events P v1 #[]))/\R (.returned x) v
 | .normal,a,v=>a.defers=[]/\∃x,(∀v1,bu v v1->(results fn a.tmps).run P v1= .ok x v1/\eP v1 v1 ((results fn a.tmps).events P v1 #[]))/\R (.returned x) v
 | .panic chain,a,v=>a.defers=[]/\R (.panicked chain) v
 |_,_,_=>False
theorem aQ{P:Program}{M:Md P}{S:FS}{w0:VW}{Δ0:List D}{X:Type}{R:X->A×List D}{N:Nat}{fn:Func}(x:X)(rs:List A)(k:Nat)
 (hr:xC P Γ Δ fn.results.toList rs) (hR:R x=(bO rs,Δ.take k)):JN ⟨P,N,S,w0,av Δ0,none,[],M⟩ (cg P fn (dK S w0 Δ0 R) .ret) Γ Δ:=by
 rintro a w ⟨h1,h2,S',h3,h4,h5,h6⟩
 obtain⟨u,q1,q2,_⟩:=xC.sg h5 h6 hr
 have hm:∀d,d∈Δ.take k->d∈Δ:=λd hd=>mem_of_mem_take hd
 refine⟨h1,u,λv1 hrel=>?_,x,S',_,rfl,h3,by simp_all,by rw [hR];exact h5.re ⟨λd hd=>h5.holds d (hm d hd),λb ⟨d,hd,e⟩=>h5.own b ⟨d,hm d hd,e⟩,h5.apart.sublist (take_sublist k Δ)⟩ (λb ⟨d,hd,e⟩=>⟨d,hm d hd,e⟩) (λ_ h=>.inl h),?_⟩
 .
  have hK:=fG h3.dom h5.sees hrel;obtain⟨u',_,_,p3⟩:=xC.sg (h5.rely h3.dom hrel) (λs r hl=>A.mono (λ_ h=>h) hK r (h6 s r hl)) hr;exact⟨q1 _ λb hb=>hrel.keep b (h5.own b hb).2 (h5.far b hb).1,p3⟩
 .
  rw [hR];exact λb ⟨d,hd,e⟩=>h4 b ⟨d,hm d hd,e⟩
def entry:Nat->List A->Ga
 |_,[]=>[]
 |k,r::l=>(k,r)::entry (k+1) l
theorem qH{S:FS}{w:World}:∀{as:List A} {vs:List Value} {k s:Nat} {r:A},fM S w as vs->lk (entry k as) s=some r->∃j,s=k+j/\j < vs.length/\r.holds S w (vs.getD j undef)
 |[],_,_,_,_,_,h=>by cases h
 |r0::as,_,k,s,r,⟨v,vs',rfl,h1,h2⟩,h=>by
  simp only [entry,lk] at h
  split at h
  .
   simp_all
  .
   obtain⟨j,e,hj,hr⟩:=qH h2 h
   exact⟨j+1,by omega,by simp_all,by simp_all⟩
theorem fM.length{S:FS}{w:World}:∀{as:List A} {vs:List Value},fM S w as vs->vs.length=as.length
 |[],_,h=>by have:_=[]:=h;simp_all
 |_::_,_,⟨_,_,rfl,_,h⟩=>by simp [fM.length h]
theorem cz.of{P:Program}{M:Md P}{f:Nat}{fn:Func}{C:Code}{as:List A}{Δ:List D}{X:Type}{R:X->A×List D}(N:Nat)(hf:P.funcs[f]? =some fn)(hb:fn.body=some C)(hN:fn.ntmps=N)(hn:ble as.length N=true)
 (h:∀S w0,JC ⟨P,N,S,w0,av Δ,none,[],M⟩ C (cg P fn (dK S w0 Δ R)) (entry 0 as) Δ):cz M f as Δ R:=by
 subst hN
 intro kind hkind S w vs hd hall hO T hT cs hc
 have hn:=le_of_ble_eq_true hn
 have hst:St ⟨P,fn.ntmps,S,w,av Δ,none,[],M⟩ (entry 0 as) Δ { tmps:=vs.toArray++Array.replicate (fn.ntmps - vs.toArray.size) undef,defers:=[] } w:=by
  refine⟨rfl,?_,S,bD.refl hd,λb hb=>.inl hb,hO,λs r hl=>?_⟩
  .have:=hall.length;simp_all
  .obtain⟨j,e,hj,hr⟩:=qH hall hl;have e':s=j:=by omega
   subst e'
   have e2:(vs.toArray++Array.replicate (fn.ntmps - vs.toArray.size) undef).getD s undef=vs.getD s undef:=by
    simp [getD_eq_getD_getElem?,Array.getElem?_append,hj]
   grind
 have he:Frame.enter P f vs.toArray kind=Frame.atR { (default:Frame) with fn:=f,kind:=kind } { tmps:=vs.toArray++Array.replicate (fn.ntmps - vs.toArray.size) undef,defers:=[] } [.code C]:=by
  simp [Frame.enter,Frame.atR,hf,hb];rfl
 rw [he]
 refine h S w _ _ hst T hT _ [] cs rfl λe a' v' q=>?_
 have fin:∀todo,(a'.defers=[]/\∃x,(∀v1,bu v' v1->(results fn a'.tmps).run P v1= .ok x v1/\eP v1 v1 ((results fn a'.tmps).events P v1 #[]))/\dK S w Δ R (.returned x) v')->
  T v' { Frame.atR { (default:Frame) with fn:=f,kind:=kind } a' todo with mode:=.returning } cs:=λtodo ⟨q1,x,q2,q3⟩=>hc _ _ _ q3 rfl rfl ⟨rfl,q1,fn,hf,q2⟩
 cases e with
 |normal=>exact(M.bc T hT).move (λ_ _=>xf rfl) (fin _ q)
 |ret=>exact⟨λ_ todo=>fin todo q,λh=>by cases h⟩
 |panic chain=>exact λtodo=>hc _ _ _ q.2 rfl rfl ⟨rfl,q.1,fn,hf⟩
 |exit id=>exact q.elim
 |goto l=>exact q.elim
 |outgrown=>exact q.elim
theorem dG.of{P:Program}{f:Nat}{fn:Func}{C:Code}{as:List A}{Δ:List D}{X:Type}{R:X->A×List D}(N:Nat)(hf:P.funcs[f]? =some fn)(hb:fn.body=some C)(hN:fn.ntmps=N)(hn:ble as.length N=true)
 (h:∀{M:Md P} (S:FS) (w0:VW),JC ⟨P,N,S,w0,av Δ,none,[],M⟩ C (cg P fn (dK S w0 Δ R)) (entry 0 as) Δ):dG P f as Δ R:=λ_=>cz.of N hf hb hN hn h
end
end K
