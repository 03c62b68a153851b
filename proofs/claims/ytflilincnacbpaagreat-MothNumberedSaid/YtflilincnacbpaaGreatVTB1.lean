import Derived.WalkKit
import Derived.RangeFuncLeaves
import Derived.RangeFuncCalls
import Derived.TacticsIn
import Derived.OrdersIn
import Derived.LoopIn
import Derived.RecoverIn
import Derived.StepT
import Derived.Conc.Listed
import Derived.Orders
open Nat
open List hiding mem_of_getElem?
open Array hiding mem_of_getElem? mk
set_option linter.unusedVariables false
set_option linter.unusedSimpArgs false
namespace Go.Proofs.YtflilincnacbpaaGreat
namespace K
open Go
abbrev FS:=Nat->Prop
inductive Ty where
 |int (k:IntKind)
 |bool
 |val
 |pair (a b:Ty)
 |agg (t:Ty)
 |arr (n:Nat) (t:Ty)
 |slice (t:Ty)
 |ptr (t:Ty)
 |tag (t0 t1:TypeId)
 |ign
 |alt (t:Ty)
 |lst (t:Ty)
 |str
 |mo (p:Value) (cs:List Value) (t:Ty)
 |pl (t0 t1:TypeId) (t:Ty)
@[reducible] def Ty.den:Ty->Type
 | .int _=>Int
 | .bool=>Bool
 | .val=>Value
 | .pair a b=>a.den×b.den
 | .agg t=>t.den
 | .arr _ t=>List t.den
 | .slice t=>List t.den
 | .ptr t=>t.den
 | .tag _ _=>Bool×Int
 | .ign=>Unit
 | .alt t=>t.den ⊕ Value
 | .lst t=>List t.den
 | .str=>ByteArray
 | .mo _ _ t=>t.den
 | .pl _ _ t=>Int ⊕ t.den
@[reducible] def Ty.cells:Ty->Nat
 | .pair a b=>a.cells+b.cells
 | .agg t=>t.cells
 | .arr n t=>n * t.cells
 |_=>1
@[reducible] def Ty.isAgg:Ty->Bool
 | .agg _=>true
 | .arr _ _=>true
 |_=>false
@[reducible] def Ty.flat:Ty->Bool
 | .pair a b=>a.flat && b.flat
 | .agg t=>t.flat
 | .arr _ t=>t.flat
 | .slice _=>false
 | .ptr _=>false
 | .lst _=>false
 | .mo _ _ _=>false
 | .pl _ _ _=>false
 | .alt t=>t.flat
 |_=>true
def be:Value->Bool
 | .agg _=>false
 | .tuple _=>false
 |_=>true
def dA{α:Type}(R:α->List Value->Prop):List α->List Value->Prop
 |[],cs=>cs=[]
 |x::l,cs=>∃c1 c2,cs=c1++c2/\R x c1/\dA R l c2
def N3{α:Type}(S:FS)(w:World)(R:α->List Value->Prop)(n:Nat):List α->List Value->Prop
 |[],cs=>cs=[.pointer none]
 |x::l,cs=>∃b off c T fz c1 c2,cs=[.pointer (some ⟨b,off,none⟩)]/\S b/\w.heap[b]? =some (.cells c T fz)/\(c.toList.drop off).take (n+1)=c1++c2/\R x c1/\N3 S w R n l c2
def rd(S:FS)(w:World):(t:Ty)->t.den->List Value->Prop
 | .int k,n,cs=>cs=[.int k n]
 | .bool,b,cs=>cs=[.bool b]
 | .val,v,cs=>cs=[v]/\be v=true
 | .pair a b,x,cs=>∃c1 c2,cs=c1++c2/\rd S w a x.1 c1/\rd S w b x.2 c2
 | .agg t,x,cs=>rd S w t x cs
 | .arr n t,l,cs=>l.length=n/\dA (rd S w t) l cs
 | .slice t,l,cs=>(∃a cap,cs=[.slice a 0 cap]/\l=[])\/
  ∃b off cap c T fz,cs=[.slice (some ⟨b,off,none⟩) l.length cap]/\l.length≤cap/\S b/\w.heap[b]? =some (.cells c T fz)/\
   dA (rd S w t) l ((c.toList.drop off).take (l.length * t.cells))
 | .ptr t,x,cs=>∃b off c T fz,cs=[.pointer (some ⟨b,off,none⟩)]/\S b/\w.heap[b]? =some (.cells c T fz)/\
  rd S w t x ((c.toList.drop off).take t.cells)
 | .tag t0 t1,x,cs=>cs=[.iface (if x.1 then t1 else t0) (.int .i64 x.2)]
 | .ign,_,cs=>∃v,cs=[v]/\be v=true
 | .alt t,x,cs=>match x with
  | .inl d=>rd S w t d cs/\cs.length=1
  | .inr v=>cs=[v]/\be v=true
 | .lst t,l,cs=>N3 S w (rd S w t) t.cells l cs
 | .str,s,cs=>cs=[.string s]
 | .mo p cs0 t,x,cs=>cs=[p]/\be p=true/\rd S w t x cs0
 | .pl t0 t1 t,x,cs=>match x with
  | .inl n=>cs=[.iface t0 (.agg #[.int .i64 n])]
  | .inr d=>∃s,cs=[.iface t1 (.agg #[s])]/\rd S w t d [s]
theorem cH{α:Type}{R R':α->List Value->Prop}(h:∀x cs,R x cs->R' x cs):∀{l:List α} {cs:List Value},dA R l cs->dA R' l cs
 |[],_,e=>e
 |_::_,_,⟨c1,c2,e,h1,h2⟩=>⟨c1,c2,e,h _ _ h1,cH h h2⟩
theorem kJ{α:Type}{R:α->List Value->Prop}{n:Nat}(h:∀x cs,R x cs->cs.length=n):∀{l:List α} {cs:List Value},dA R l cs->cs.length=l.length * n
 |[],_,e=>by simp_all [dA]
 |_::l,_,⟨c1,c2,e,h1,h2⟩=>by
  have:=kJ h h2
  grind
theorem aN{S:FS}{w:World}(t:Ty):∀{x:t.den} {cs:List Value},rd S w t x cs->cs.length=t.cells:=by
 induction t with
 |int _=>simp_all [rd,Ty.cells]
 |bool=>simp_all [rd,Ty.cells]
 |str=>simp_all [rd,Ty.cells]
 |val=>simp_all [rd,Ty.cells]
 |pair a b iha ihb=>
  rintro x cs ⟨c1,c2,rfl,h1,h2⟩;grind
 |agg t ih=>intro x cs h;exact ih h
 |arr n t ih=>
  rintro l cs ⟨hn,h⟩;grind [kJ]
 |slice t ih=>
  intro l cs h;rcases h with⟨a,cap,rfl,_⟩ |⟨b,off,cap,c,T,fz,rfl,_⟩ <;> rfl
 |ptr t ih=>rintro x cs ⟨b,off,c,T,fz,rfl,_⟩;rfl
 |tag _ _=>simp_all [rd,Ty.cells]
 |ign=>rintro x cs ⟨v,rfl,_⟩;rfl
 |alt t ih=>
  intro x cs h;cases x with
  |inl d=>exact h.2
  |inr v=>obtain⟨rfl,_⟩:=h;rfl
 |lst t ih=>
  intro l cs h;cases l with
  |nil=>have h:cs=[.pointer none]:=h;grind
  |cons x l=>obtain⟨b,off,c,T,fz,c1,c2,rfl,_⟩:=h;rfl
 |mo p cs0 t ih=>rintro x cs ⟨rfl,_⟩;rfl
 |pl t0 t1 t ih=>
  intro x cs h;cases x with
  |inl n=>have h:cs=_:=h;grind
  |inr d=>obtain⟨s,rfl,_⟩:=h;rfl
theorem sE{α:Type}{R:α->List Value->Prop}(h:∀x cs,R x cs->∀c∈cs,be c=true):∀{l:List α} {cs:List Value},dA R l cs->∀c∈cs,be c=true
 |[],_,e=>by simp_all [dA]
 |_::_,_,⟨c1,c2,e,h1,h2⟩=>by
  subst e
  intro c hc
  rcases List.mem_append.1 hc with hc |hc
  .
   grind
  .
   exact sE h h2 c hc
theorem xY{S:FS}{w:World}(t:Ty):∀{x:t.den} {cs:List Value},rd S w t x cs->∀c∈cs,be c=true:=by
 induction t with
 |int _=>simp_all [rd,be]
 |bool=>simp_all [rd,be]
 |str=>simp_all [rd,be]
 |val=>simp_all [rd]
 |pair a b iha ihb=>
  rintro x cs ⟨c1,c2,rfl,h1,h2⟩ c hc;grind
 |agg t ih=>intro x cs h;exact ih h
 |arr n t ih=>intro l cs h;exact sE (λ_ _ h=>ih h) h.2
 |slice t ih=>
  intro l cs h;rcases h with⟨a,cap,rfl,_⟩ |⟨b,off,cap,c,T,fz,rfl,_⟩ <;> simp [be]
 |ptr t ih=>rintro x cs ⟨b,off,c,T,fz,rfl,_⟩;simp [be]
 |tag _ _=>simp_all [rd,be]
 |ign=>rintro x cs ⟨v,rfl,hv⟩;simp_all
 |alt t ih=>
  intro x cs h;cases x with
  |inl d=>exact ih h.1
  |inr v=>obtain⟨rfl,hv⟩:=h;simp_all
 |lst t ih=>
  intro l cs h;cases l with
  |nil=>have h:cs=[.pointer none]:=h;simp_all [be]
  |cons x l=>obtain⟨b,off,c,T,fz,c1,c2,rfl,_⟩:=h;simp [be]
 |mo p cs0 t ih=>
  rintro x cs ⟨rfl,h,_⟩;simp_all
 |pl t0 t1 t ih=>
  intro x cs h;cases x with
  |inl n=>have h:cs=_:=h;simp_all [be]
  |inr d=>obtain⟨s,rfl,_⟩:=h;simp [be]
def gr(S:FS)(w w':World):Prop:=∀b,S b->w'.heap[b]? =w.heap[b]?
theorem dS{S S':FS}{w w':World}(hS:∀b,S b->S' b)(hw:gr S w w')(t:Ty):∀{x:t.den} {cs:List Value},rd S w t x cs->rd S' w' t x cs:=by
 induction t with
 |int _=>intro x cs h;exact h
 |bool=>intro x cs h;exact h
 |str=>intro x cs h;exact h
 |val=>intro x cs h;exact h
 |pair a b iha ihb=>rintro x cs ⟨c1,c2,e,h1,h2⟩;exact⟨c1,c2,e,iha h1,ihb h2⟩
 |agg t ih=>intro x cs h;exact ih h
 |arr n t ih=>intro l cs h;exact⟨h.1,cH (λ_ _ h=>ih h) h.2⟩
 |slice t ih=>
  intro l cs h;rcases h with h |⟨b,off,cap,c,T,fz,e,hl,hb,hc,h⟩
  .exact .inl h
  .exact .inr ⟨b,off,cap,c,T,fz,e,hl,hS _ hb,(hw _ hb).trans hc,cH (λ_ _ h=>ih h) h⟩
 |ptr t ih=>rintro x cs ⟨b,off,c,T,fz,e,hb,hc,h⟩;exact⟨b,off,c,T,fz,e,hS _ hb,(hw _ hb).trans hc,ih h⟩
 |tag _ _=>intro x cs h;exact h
 |ign=>intro x cs h;exact h
 |alt t ih=>
  intro x cs h;cases x with
  |inl d=>exact⟨ih h.1,h.2⟩
  |inr v=>exact h
 |lst t ih=>
  intro l
  induction l with
  |nil=>intro cs h;exact h
  |cons x l ihl=>rintro cs ⟨b,off,c,T,fz,c1,c2,e,hb,hc,e2,h1,h2⟩;exact⟨b,off,c,T,fz,c1,c2,e,hS _ hb,(hw _ hb).trans hc,e2,ih h1,ihl h2⟩
 |mo p cs0 t ih=>
  rintro x cs ⟨e,h1,h⟩;exact⟨e,h1,ih h⟩
 |pl t0 t1 t ih=>
  intro x cs h;cases x with
  |inl n=>exact h
  |inr d=>obtain⟨s,e,h⟩:=h;exact⟨s,e,ih h⟩
theorem xZ{S S':FS}{w w':World}(t:Ty):∀{x:t.den} {cs:List Value},t.flat=true->rd S w t x cs->rd S' w' t x cs:=by
 induction t with
 |int _=>intro x cs _ h;exact h
 |bool=>intro x cs _ h;exact h
 |str=>intro x cs _ h;exact h
 |val=>intro x cs _ h;exact h
 |pair a b iha ihb=>
  rintro x cs hf ⟨c1,c2,e,h1,h2⟩;simp [Ty.flat] at hf;exact⟨c1,c2,e,iha hf.1 h1,ihb hf.2 h2⟩
 |agg t ih=>intro x cs hf h;exact ih hf h
 |arr n t ih=>intro l cs hf h;exact⟨h.1,cH (λ_ _ h=>ih hf h) h.2⟩
 |slice t ih=>simp_all
 |ptr t ih=>simp_all
 |tag _ _=>intro x cs _ h;exact h
 |ign=>intro x cs _ h;exact h
 |alt t ih=>
  intro x cs hf h;cases x with
  |inl d=>exact⟨ih hf h.1,h.2⟩
  |inr v=>exact h
 |lst t ih=>simp_all
 |mo _ _ _ ih=>simp_all
 |pl _ _ _ ih=>simp_all
inductive A where
 |eq (v:Value)
 |rep (t:Ty) (x:t.den)
 |at (t:Ty) (x:t.den)
 |pair (a b:A)
 |agg (a:A)
 |tup (a:A)
 |fn (f:Nat) (a:A)
 |full (t:Ty) (l:List t.den)
 |any
def A.cells(S:FS)(w:World):A->List Value->Prop
 | .eq v,cs=>cs=[v]/\be v=true
 | .rep t x,cs=>rd S w t x cs
 | .at t x,cs=>rd S w (.ptr t) x cs
 | .pair a b,cs=>∃c1 c2,cs=c1++c2/\a.cells S w c1/\b.cells S w c2
 | .agg a,cs=>a.cells S w cs
 | .tup _,_=>False
 | .fn _ _,_=>False
 | .full _ _,_=>False
 | .any,_=>False
@[reducible] def A.n:A->Nat
 | .rep t _=>t.cells
 | .pair a b=>a.n+b.n
 | .agg a=>a.n
 |_=>1
def mk(isAgg:Bool)(cs:List Value):Value:=if isAgg then .agg cs.toArray else cs.headD undef
def A.holds(S:FS)(w:World):A->Value->Prop
 | .eq v0,v=>v=v0
 | .rep t x,v=>∃cs,rd S w t x cs/\v=mk t.isAgg cs
 | .at t x,v=>rd S w (.ptr t) x [v]
 | .pair _ _,_=>False
 | .agg a,v=>∃cs,a.cells S w cs/\v= .agg cs.toArray
 | .tup a,v=>∃vs:List Value,v= .tuple vs.toArray/\holdsAll a vs
 | .fn f a,v=>∃vs:List Value,v= .func (.func f) vs.toArray #[]/\holdsAll a vs
 | .full t l,v=>(∃cs,rd S w (.slice t) l cs/\v=mk false cs)/\∃p,v= .slice p l.length l.length
 | .any,_=>True
where
 holdsAll:A->List Value->Prop
 | .pair a b,vs=>∃v vs',vs=v::vs'/\A.holds S w a v/\holdsAll b vs'
 | .any,vs=>vs=[]
 |_,_=>False
structure VW extends World where
 A:Nat->Prop
 Z:Nat->Prop
instance:Coe VW World:=⟨VW.toWorld⟩
@[reducible] def VW.upd(v:VW)(w:World):VW:=⟨w,v.A,v.Z⟩
def j7(o' o:Os):Prop:=∃d:Nat,o'={ o with wall:=o.wall+d,mono:=o.mono+d }
theorem j7.refl(o:Os):j7 o o:=⟨0,rfl⟩
theorem j7.of{o' o:Os}(h:o'=o):j7 o' o:=h▸j7.refl o
theorem j7.trans{c b a:Os}(h:j7 c b)(k:j7 b a):j7 c a:=by
 obtain⟨d,rfl⟩:=h;obtain⟨e,rfl⟩:=k;exact⟨e+d,by grind⟩
structure bu(v v1:VW):Prop where
 keep:∀b,b < v.heap.size->¬v.A b->v1.heap[b]? =v.heap[b]?
 size:v.heap.size≤v1.heap.size
 sub:∀b,v.A b->v1.A b
 old:∀b,v1.A b->v.A b\/v.heap.size≤b
 dom:(∀b,v.A b->b < v.heap.size)->∀b,v1.A b->b < v1.heap.size
 Z:v1.Z=v.Z
 os:j7 v1.os v.os
 tape:v1.tape=v.tape
 output:v1.output=v.output
theorem bu.refl(v:VW):bu v v:=⟨λ_ _ _=>rfl,Nat.le_refl _,λ_ h=>h,λ_ h=>.inl h,λh=>h,rfl,.refl _,rfl,rfl⟩
theorem bu.trans{v v1 v2:VW}(h:bu v v1)(h':bu v1 v2):bu v v2 where
 keep b hb ha:=by
  have h1:¬v1.A b:=λh1=>(h.old b h1).elim ha (λh2=>by omega);exact(h'.keep b (Nat.lt_of_lt_of_le hb h.size) h1).trans (h.keep b hb ha)
 size:=Nat.le_trans h.size h'.size
 sub b hb:=h'.sub b (h.sub b hb)
 old b hb:=by
  rcases h'.old b hb with h1 |h1
  .exact h.old b h1
  .exact .inr (Nat.le_trans h.size h1)
 dom hd:=h'.dom (h.dom hd)
 Z:=h'.Z.trans h.Z
 os:=h'.os.trans h.os
 tape:=h'.tape.trans h.tape
 output:=h'.output.trans h.output
theorem bu.drawn(v:VW)(d:Nat):bu v (v.upd { v.toWorld with drawn:=d }):=⟨λ_ _ _=>rfl,Nat.le_refl _,λ_ h=>h,λ_ h=>.inl h,λh=>h,rfl,.refl _,rfl,rfl⟩
def QE:Mark->Bool
 | .noRoom=>true
 | .extern _=>true
 |_=>false
def lL(v:VW)(n:Nat)(e:Event):Prop:=match e.loc with
 | .cell a=>e.sync=false/\a.block < n/\¬v.A a.block/\(e.write=true->¬v.Z a.block)
 | .obj b=>e.sync=false/\b < n/\¬v.A b/\(e.write=true->¬v.Z b)
 | .mark m=>QE m=true
 |_=>False
structure eP(v:VW)(w':World)(es:Array Event):Prop where
 keep:∀b,b < v.heap.size->v.A b\/v.Z b->w'.heap[b]? =v.heap[b]?
 size:v.heap.size≤w'.heap.size
 os:j7 w'.os v.os
 tape:w'.tape=v.tape
 output:w'.output=v.output
 evs:∀e∈es,lL v w'.heap.size e
theorem eP.refl(v:VW):eP v v.toWorld #[]:=⟨λ_ _ _=>rfl,Nat.le_refl _,.refl _,rfl,rfl,λe h=>by simp at h⟩
theorem eP.sub{v:VW}{w':World}{es es':Array Event}(h:eP v w' es)(hs:∀e∈es',e∈es):eP v w' es':=⟨h.keep,h.size,h.os,h.tape,h.output,λe he=>h.evs e (hs e he)⟩
abbrev Gr(fr:Frame)(cs:List Frame):Goroutine:={ frame:=fr,callers:=cs,status:=.running,dying:=none }
abbrev Tq:=VW->Frame->List Frame->Prop
structure BC(P:Program)(T:Tq):Prop where
 rely:∀v v1 fr cs,bu v v1->T v fr cs->T v1 fr cs
 step:∀v fr cs,(∀v1,bu v v1->∃fr' cs' w' es,(∀main,stepG P main (Gr fr cs) v1.toWorld= .go (Gr fr' cs') w' es)/\eP v1 w' es/\T (v1.upd w') fr' cs')->T v fr cs
theorem BC.move{P:Program}{T:Tq}(h:BC P T){v:VW}{fr fr':Frame}{cs cs':List Frame}(hs:∀(main:Bool) (w:World),stepG P main (Gr fr cs) w= .go (Gr fr' cs') w #[])(ht:T v fr' cs'):T v fr cs:=
 h.step v fr cs λv1 hr=>⟨fr',cs',v1.toWorld, #[],λm=>hs m _,eP.refl v1,h.rely _ _ _ _ hr ht⟩
structure lK(pk:Event->Prop)(v:VW)(w':World)(es:Array Event):Prop where
 base:eP v w' #[]
 evs:∀e∈es,lL v w'.heap.size e\/pk e
theorem eP.k{pk:Event->Prop}{v:VW}{w':World}{es:Array Event}(h:eP v w' es):lK pk v w' es:=⟨h.sub λe he=>by simp at he,λe he=>.inl (h.evs e he)⟩
theorem lK.sub{pk:Event->Prop}{v:VW}{w':World}{es es':Array Event}(h:lK pk v w' es)(hs:∀e∈es',e∈es):lK pk v w' es':=⟨h.base,λe he=>h.evs e (hs e he)⟩
theorem lK.no{v:VW}{w':World}{es:Array Event}(h:lK (λ_=>False) v w' es):eP v w' es:=⟨h.base.keep,h.base.size,h.base.os,h.base.tape,h.base.output,λe he=>(h.evs e he).elim id False.elim⟩
def U2(P:Program)(kf:World->Prop)(pk:Event->Prop)(T:Tq):Prop:=∀v fr cs,(∀v1,bu v v1->kf v1.toWorld->∃fr' cs' w' es,(∀main,stepG P main (Gr fr cs) v1.toWorld= .go (Gr fr' cs') w' es)/\lK pk v1 w' es/\T (v1.upd w') fr' cs')->T v fr cs
structure Md(P:Program) where
 ok:Tq->Prop
 kf:World->Prop
 pk:Event->Prop
 bc:∀T,ok T->BC P T
 st:∀T,ok T->U2 P kf pk T
@[reducible] def Md.of{P:Program}(ok:Tq->Prop)(bc:∀T,ok T->BC P T):Md P:=⟨ok,λ_=>True,λ_=>False,bc,λT hT v fr cs h=>(bc T hT).step v fr cs λv1 hr=>by
 obtain⟨a,b,c,d,h1,h2,h3⟩:=h v1 hr trivial
 exact⟨a,b,c,d,h1,h2.no,h3⟩⟩
def Md.plain(P:Program):Md P:=.of (BC P) λ_ h=>h
section moves
variable {P:Program}{main:Bool}{b:Frame}{a:Act}{k:List Item}{cs:List Frame}{w:World}
theorem yq:stepG P main (Gr (b.atR a (.code .skip::k)) cs) w= .go (Gr (b.atR a k) cs) w #[]:=by simp [stepG,stepG.exec,Frame.atR]
theorem L8{l:Nat}:stepG P main (Gr (b.atR a (.code (.label l)::k)) cs) w= .go (Gr (b.atR a k) cs) w #[]:=by simp [stepG,stepG.exec,Frame.atR]
theorem pu{id:Nat}:stepG P main (Gr (b.atR a (.inBlock id::k)) cs) w= .go (Gr (b.atR a k) cs) w #[]:=by simp [stepG,stepG.exec,Frame.atR]
theorem dR{x y:Code}:stepG P main (Gr (b.atR a (.code (.seq x y)::k)) cs) w= .go (Gr (b.atR a (.code x:: .code y::k)) cs) w #[]:=by simp [stepG,stepG.exec,Frame.atR]
theorem qF{c:Operand}{x y:Code}{t:Bool}(h:a.eval c= .bool t):stepG P main (Gr (b.atR a (.code (.cond c x y)::k)) cs) w= .go (Gr (b.atR a (.code (if t then x else y)::k)) cs) w #[]:=by
 have h':(b.atR a (.code (.cond c x y)::k)).eval c= .bool t:=by rw [Frame.eval_atR];exact h
 simp_all [Frame.atR,stepG,stepG.exec]
theorem nG{id:Nat}{c:Code}:stepG P main (Gr (b.atR a (.code (.block id c)::k)) cs) w= .go (Gr (b.atR a (.code c:: .inBlock id::k)) cs) w #[]:=by simp [stepG,stepG.exec,Frame.atR]
theorem yr{c:Code}:stepG P main (Gr (b.atR a (.code (.loop c)::k)) cs) w= .go (Gr (b.atR a (.code c:: .inLoop c::k)) cs) w #[]:=by simp [stepG,stepG.exec,Frame.atR]
theorem rO{c:Code}:stepG P main (Gr (b.atR a (.inLoop c::k)) cs) w= .go (Gr (b.atR a (.code c:: .inLoop c::k)) cs) w #[]:=by simp [stepG,stepG.exec,Frame.atR]
theorem CL{id:Nat}{k':List Item}(h:exitTo id k=some k'):stepG P main (Gr (b.atR a (.code (.exit id)::k)) cs) w= .go (Gr (b.atR a k') cs) w #[]:=by simp [stepG,stepG.exec,Frame.atR,h]
theorem PR{l:Nat}{k':List Item}(h:gotoIn l k=some k'):stepG P main (Gr (b.atR a (.code (.goto l)::k)) cs) w= .go (Gr (b.atR a k') cs) w #[]:=by simp [stepG,stepG.exec,Frame.atR,h]
theorem RO(hb:b.roundOf=none):stepG P main (Gr (b.atR a (.code .ret::k)) cs) w= .go (Gr { b.atR a (.code .ret::k) with mode:=.returning } cs) w #[]:=by simp [stepG,stepG.exec,Frame.atR,hb]
theorem xf(hb:b.roundOf=none):stepG P main (Gr (b.atR a []) cs) w= .go (Gr { b.atR a [] with mode:=.returning } cs) w #[]:=by simp [stepG,stepG.exec,Frame.atR,hb]
theorem fi{id:Nat}{ops:Array Oper}:stepG P main (Gr (b.atR a (.code (.region id ops false)::k)) cs) w= .go (Gr (b.atR a (.inRegion ops (List.range ops.size)::k)) cs) w #[]:=by simp [stepG,stepG.exec,Frame.atR]
theorem PS{id:Nat}{ops:Array Oper}:stepG P main (Gr (b.atR a (.code (.region id ops true)::k)) cs) w=
 .go (Gr (b.atR a (.inRegion ops (Region.schedule (P.follows .mixedOrders) ops (w.tape w.drawn (.order b.fn id)))::k)) cs) { w with drawn:=w.drawn+1 } #[]:=by
 simp [stepG,stepG.exec,Frame.atR,choose,Sem.run,Question.forced,Question.cut]
theorem c8{ops:Array Oper}:stepG P main (Gr (b.atR a (.inRegion ops []::k)) cs) w= .go (Gr (b.atR a k) cs) w #[]:=by simp [stepG,stepG.exec,Frame.atR]
theorem xe{ops:Array Oper}{i:Nat}{rest:List Nat}(h:((ops[i]?).map (Region.wanted · (yielded ops a.tmps))).getD false=false):
 stepG P main (Gr (b.atR a (.inRegion ops (i::rest)::k)) cs) w= .go (Gr (b.atR (a.put ((ops[i]?).bind (·.dst)) undef) (.inRegion ops rest::k)) cs) w #[]:=by
 grind [Frame.finish_atR,Frame.atR,stepG,stepG.exec]
theorem vg{ops:Array Oper}{i:Nat}{rest:List Nat}{o:Oper}(ho:ops[i]? =some o)(hw:Region.wanted o (yielded ops a.tmps)=true):
 stepG P main (Gr (b.atR a (.inRegion ops (i::rest)::k)) cs) w=stepG.apply P true (b.atR a (.inRegion ops (i::rest)::k)) cs none (o.semAt b.roundOf a.eval) w:=by
 have he:=Frame.eval_atR b a (.inRegion ops (i::rest)::k)
 simp only [Frame.atR] at he
 simp only [stepG,stepG.exec,stepG.oper,Frame.oper?,Frame.atR,ho,hw,he,Option.map_some,Option.getD_some,if_true,Oper.semAt]
 grind
end moves
def bQ(M:Act->VW->Prop)(Q:Exit->Act->VW->Prop):Exit->Act->VW->Prop
 | .normal=>M
 |e=>Q e
def Ex.blk(id:Nat)(Q:Exit->Act->VW->Prop):Exit->Act->VW->Prop
 | .exit id',a,v=>if id'=id then Q .normal a v else Q (.exit id') a v
 |e,a,v=>Q e a v
def nh(T:Tq)(b:Frame)(k:List Item)(cs:List Frame):Exit->Act->VW->Prop
 | .normal,a,v=>T v (b.atR a k) cs
 | .exit id,a,v=>(∃k',exitTo id k=some k'/\T v (b.atR a k') cs)\/(exitTo id k=none/\b.roundOf.isSome=true/\∀k1,exitTo id k1=none->T v (b.atR a (.code (.exit id)::k1)) cs)
 | .goto l,a,v=>(∃k',gotoIn l k=some k'/\T v (b.atR a k') cs)\/(gotoIn l k=none/\b.roundOf.isSome=true/\∀k1,gotoIn l k1=none->T v (b.atR a (.code (.goto l)::k1)) cs)
 | .ret,a,v=>(b.roundOf=none->∀todo,T v { b.atR a todo with mode:=.returning } cs)/\(b.roundOf.isSome=true->∀k1,T v (b.atR a (.code .ret::k1)) cs)
 | .panic chain,a,v=>∀todo,T v { b.atR a todo with mode:=.panicking chain } cs
 | .outgrown,_,_=>False
theorem nh.push{T:Tq}{b:Frame}{x:Item}{k:List Item}{cs:List Frame}{e:Exit}{a:Act}{v:VW}(hx:x.plain=true)(he:e≠.normal)(h:nh T b k cs e a v):nh T b (x::k) cs e a v:=by
 cases e with
 |normal=>simp_all
 |exit id=>simp_all [nh,exitTo_plain]
 |goto l=>simp_all [nh,gotoIn_plain]
 |ret=>exact h
 |panic chain=>exact h
 |outgrown=>exact h
end K
end Go.Proofs.YtflilincnacbpaaGreat
namespace Go
open Proofs.YtflilincnacbpaaGreat Proofs.YtflilincnacbpaaGreat.K
def Code.wk{P:Program}(M:Md P)(rd:Option Nat)(C:Code)(Q:Exit->Act->VW->Prop)(a:Act)(v:VW):Prop:=
 ∀T,M.ok T->∀(b:Frame) (k:List Item) (cs:List Frame),b.roundOf=rd->(∀e a' v',Q e a' v'->nh T b k cs e a' v')->T v (b.atR a (.code C::k)) cs
end Go
namespace Go.Proofs.YtflilincnacbpaaGreat
namespace K
open Go
section rules
variable {P:Program}{M:Md P}{rd:Option Nat}{Q:Exit->Act->VW->Prop}{a:Act}{v:VW}
theorem nj{C:Code}{Q':Exit->Act->VW->Prop}(hq:∀e a v,Q e a v->Q' e a v)(h:C.wk M rd Q a v):C.wk M rd Q' a v:=
 λT hT b k cs hb hc=>h T hT b k cs hb λe a' v' q=>hc e a' v' (hq e a' v' q)
theorem Kv(h:Q .normal a v):Code.skip.wk M rd Q a v:=λT hT _ _ _ _ hc=>(M.bc T hT).move (λ_ _=>yq) (hc _ _ _ h)
theorem G3{l:Nat}(h:Q .normal a v):(Code.label l).wk M rd Q a v:=λT hT _ _ _ _ hc=>(M.bc T hT).move (λ_ _=>L8) (hc _ _ _ h)
theorem Ky{id:Nat}(h:Q (.exit id) a v):(Code.exit id).wk M rd Q a v:=λT hT _ _ _ _ hc=>by
 rcases hc _ _ _ h with⟨k',h1,h2⟩ |⟨h1,_,h2⟩
 .
  exact(M.bc T hT).move (λ_ _=>CL h1) h2
 simp_all
theorem Kx{l:Nat}(h:Q (.goto l) a v):(Code.goto l).wk M rd Q a v:=λT hT _ _ _ _ hc=>by
 rcases hc _ _ _ h with⟨k',h1,h2⟩ |⟨h1,_,h2⟩
 .
  exact(M.bc T hT).move (λ_ _=>PR h1) h2
 simp_all
theorem OC(h:Q .ret a v):Code.ret.wk M rd Q a v:=λT hT b _ _ _ hc=>by
 obtain⟨h1,h2⟩:=hc _ _ _ h
 cases hr:b.roundOf with
 |none=>exact(M.bc T hT).move (λ_ _=>RO hr) (h1 hr _)
 |some l=>grind
theorem G0{x y:Code}(h:x.wk M rd (bQ (y.wk M rd Q) Q) a v):(Code.seq x y).wk M rd Q a v:=λT hT b k cs hb hc=>
 (M.bc T hT).move (λ_ _=>dR) (h T hT b (.code y::k) cs hb λe a' v' q=>by
  cases e with
  |normal=>exact q T hT b k cs hb hc
  |exit id=>exact(hc _ _ _ q).push rfl (by simp)
  |goto l=>exact(hc _ _ _ q).push rfl (by simp)
  |ret=>exact hc _ _ _ q
  |panic ch=>exact hc _ _ _ q
  |outgrown=>exact hc _ _ _ q)
theorem KB{c:Operand}{x y:Code}{t:Bool}(hc:a.eval c= .bool t)(h:(if t then x else y).wk M rd Q a v):(Code.cond c x y).wk M rd Q a v:=λT hT b k cs hb hq=>
 (M.bc T hT).move (λ_ _=>qF hc) (h T hT b k cs hb hq)
theorem pS{c:Operand}{x y:Code}{t:Bool}(hc:a.eval c= .bool t)(ht:t=true->x.wk M rd Q a v)(hf:t=false->y.wk M rd Q a v):(Code.cond c x y).wk M rd Q a v:=by
 grind [KB]
theorem G4{id:Nat}{c:Code}(h:c.wk M rd (Ex.blk id Q) a v):(Code.block id c).wk M rd Q a v:=λT hT b k cs hb hc=>
 (M.bc T hT).move (λ_ _=>nG) (h T hT b (.inBlock id::k) cs hb λe a' v' q=>by
  cases e with
  |normal=>exact(M.bc T hT).move (λ_ _=>pu) (hc _ _ _ q)
  |exit id'=>
   by_cases hid:id'=id
   .
    simp only [Ex.blk,hid,if_true] at q
    exact .inl ⟨k,by simp [exitTo,hid],hc _ _ _ q⟩
   .
    simp only [Ex.blk,hid,if_false] at q
    grind [exitTo,nh]
  |goto l=>
   have:=hc _ _ _ q
   simp_all [gotoIn,nh]
  |ret=>exact hc _ _ _ q
  |panic ch=>exact hc _ _ _ q
  |outgrown=>exact hc _ _ _ q)
theorem xJ{C:Code}(I:Nat->Act->VW->Prop)(round:∀n a v,I n a v->C.wk M rd (bQ (λa' v'=>∃m,m < n/\I m a' v') Q) a v):∀n a v,I n a v->(Code.loop C).wk M rd Q a v:=by
 intro n a v hI T hT b k cs hb hc
 have key:∀n a v,I n a v->T v (b.atR a (.code C:: .inLoop C::k)) cs:=by
  intro n
  induction n using Nat.strongRecOn with
  |_ n ih=>
   intro a v hI;refine round n a v hI T hT b (.inLoop C::k) cs hb λe a' v' q=>?_;cases e with
   |normal=>
    obtain⟨m,hm,hI'⟩:=q;exact(M.bc T hT).move (λ_ _=>rO) (ih m hm a' v' hI')
   |exit id=>exact(hc _ _ _ q).push rfl (by simp)
   |goto l=>exact(hc _ _ _ q).push rfl (by simp)
   |ret=>exact hc _ _ _ q
   |panic ch=>exact hc _ _ _ q
   |outgrown=>exact hc _ _ _ q
 exact(M.bc T hT).move (λ_ _=>yr) (key n a v hI)
end rules
def Lv(P:Program)(fr:Frame)(v:VW):Ending->Prop
 | .returned x=>fr.mode= .returning/\fr.defers=[]/\∃fn,P.funcs[fr.fn]? =some fn/\∀v1,bu v v1->(results fn fr.tmps).run P v1= .ok x v1/\eP v1 v1 ((results fn fr.tmps).events P v1 #[])
 | .panicked chain=>fr.mode= .panicking chain/\fr.defers=[]/\∃fn,P.funcs[fr.fn]? =some fn
 | .outgrown=>False
def jC{P:Program}(M:Md P)(kind:CallKind)(f:FuncId)(args:Array Value)(v:VW)(R:Ending->VW->Prop):Prop:=
 ∀T,M.ok T->∀cs,(∀e v' fr,R e v'->fr.fn=f->fr.kind=kind->Lv P fr v' e->T v' fr cs)->T v (Frame.enter P f args kind) cs
theorem jC.mono{P:Program}{M:Md P}{kind:CallKind}{f:FuncId}{args:Array Value}{v:VW}{R R':Ending->VW->Prop}(h:jC M kind f args v R)(hr:∀e v',R e v'->R' e v'):jC M kind f args v R':=
 λT hT cs hc=>h T hT cs λe v' fr q=>hc e v' fr (hr e v' q)
theorem L6{P:Program}{main:Bool}{fr c:Frame}{cs:List Frame}{w:World}{x:Value}{fn:Func}(h1:fr.mode= .returning)(h2:fr.defers=[])(hk:fr.kind= .normal)(h3:P.funcs[fr.fn]? =some fn)(h4:(results fn fr.tmps).run P w= .ok x w):
 stepG P main (Gr fr (c::cs)) w= .go (Gr (c.finish x) cs) w (seen P fr.fn ((results fn fr.tmps).events P w #[])):=by
 simp_all [stepG,unwind,doReturn,GStep.after]
theorem L2{P:Program}{main:Bool}{fr c:Frame}{cs:List Frame}{w:World}{chain:List PanicEntry}{fn:Func}(h1:fr.mode= .panicking chain)(h2:fr.defers=[])(h3:P.funcs[fr.fn]? =some fn):
 stepG P main (Gr fr (c::cs)) w= .go (Gr (c.raise chain) cs) w #[]:=by
 simp_all [Frame.catches,stepG,unwind]
theorem pr{P:Program}{T:Tq}(h:BC P T){fr c:Frame}{cs:List Frame}{v:VW}{x:Value}(hl:Lv P fr v (.returned x))(hk:fr.kind= .normal)(ht:T v (c.finish x) cs):T v fr (c::cs):=by
 obtain⟨h1,h2,fn,h3,h4⟩:=hl;refine h.step _ _ _ λv1 hr=>⟨_,_,v1.toWorld,_,λm=>L6 h1 h2 hk h3 (h4 v1 hr).1,(h4 v1 hr).2.sub λe he=>Conc.mem_seen he,h.rely _ _ _ _ hr ht⟩
theorem tR{P:Program}{T:Tq}(h:BC P T){fr c:Frame}{cs:List Frame}{v:VW}{chain:List PanicEntry}(hl:Lv P fr v (.panicked chain))(ht:T v (c.raise chain) cs):T v fr (c::cs):=by
 obtain⟨h1,h2,fn,h3⟩:=hl;exact h.move (λm w=>L2 h1 h2 h3) ht
def o5{P:Program}(M:Md P)(l:Nat)(f:FuncId)(tmps:Array Value)(assign body:Code)(v:VW)(R:Ending->VW->Prop):Prop:=
 ∀T,M.ok T->∀(c:Frame) (cs:List Frame),(∀x v',R (.returned x) v'->T v' (c.finish x) cs)->(∀ch v',R (.panicked ch) v'->T v' (c.raise ch) cs)->(∀v',¬R .outgrown v')->T v (Frame.round l f tmps assign body .normal) (c::cs)
theorem o5.mono{P:Program}{M:Md P}{l:Nat}{f:FuncId}{tmps:Array Value}{assign body:Code}{v:VW}{R R':Ending->VW->Prop}(h:o5 M l f tmps assign body v R)(hr:∀e v',R e v'->R' e v'):o5 M l f tmps assign body v R':=
 λT hT c cs h1 h2 h3=>h T hT c cs (λx v' q=>h1 x v' (hr _ _ q)) (λx v' q=>h2 x v' (hr _ _ q)) λv' q=>h3 v' (hr _ _ q)
def GE{P:Program}(M:Md P)(v:VW)(o:Oper)(a:Act)(next:Act->VW->Prop)(Q:Exit->Act->VW->Prop):Result Next->Prop
 | .ok (.value x) w'=>next (a.put o.dst x) (v.upd w')
 | .ok .skip w'=>next (a.put o.dst undef) (v.upd w')
 | .ok (.defer d) w'=>next ({ a with defers:=d::a.defers }.put o.dst undef) (v.upd w')
 | .ok (.enter f args) w'=>jC M .normal f args (v.upd w') λ
  | .returned x,v''=>next (a.put o.dst x) v''
  | .panicked chain,v''=>Q (.panic chain) a v''
  | .outgrown,_=>False
 | .ok (.round l f tmps assign body) w'=>o5 M l f tmps assign body (v.upd w') λ
  | .returned x,v''=>next (a.put o.dst x) v''
  | .panicked chain,v''=>Q (.panic chain) a v''
  | .outgrown,_=>False
 | .halt (.panic x) w'=>Q (.panic [{ v:=x,recovered:=false }]) a (v.upd w')
 |_=>False
def Sg{α:Type}(P:Program)(v:VW)(s:Sem α):Prop:=match s.run P v with
 | .ok _ w'=>eP v w' (s.events P v #[])
 | .halt _ w'=>eP v w' (s.events P v #[])
theorem Sg.ok{α:Type}{P:Program}{v:VW}{s:Sem α}{x:α}{w':World}(h:Sg P v s)(hr:s.run P v= .ok x w'):eP v w' (s.events P v #[]):=by
 simp_all [Sg]
theorem Sg.halt{α:Type}{P:Program}{v:VW}{s:Sem α}{x:Halt}{w':World}(h:Sg P v s)(hr:s.run P v= .halt x w'):eP v w' (s.events P v #[]):=by
 simp_all [Sg]
def JG{α:Type}(pk:Event->Prop)(P:Program)(v:VW)(s:Sem α):Prop:=match s.run P v with
 | .ok _ w'=>lK pk v w' (s.events P v #[])
 | .halt _ w'=>lK pk v w' (s.events P v #[])
theorem JG.ok{α:Type}{pk:Event->Prop}{P:Program}{v:VW}{s:Sem α}{x:α}{w':World}(h:JG pk P v s)(hr:s.run P v= .ok x w'):lK pk v w' (s.events P v #[]):=by
 simp_all [JG]
theorem JG.halt{α:Type}{pk:Event->Prop}{P:Program}{v:VW}{s:Sem α}{x:Halt}{w':World}(h:JG pk P v s)(hr:s.run P v= .halt x w'):lK pk v w' (s.events P v #[]):=by
 simp_all [JG]
theorem Sg.k{α:Type}{pk:Event->Prop}{P:Program}{v:VW}{s:Sem α}(h:Sg P v s):JG pk P v s:=by
 unfold JG;cases hr:s.run P v with
 |ok x w'=>exact(h.ok hr).k
 |halt x w'=>exact(h.halt hr).k
end K
end Go.Proofs.YtflilincnacbpaaGreat
namespace Go
open Proofs.YtflilincnacbpaaGreat Proofs.YtflilincnacbpaaGreat.K
def Oper.wk{P:Program}(M:Md P)(rd:Option Nat)(o:Oper)(a:Act)(v:VW)(next:Act->VW->Prop)(Q:Exit->Act->VW->Prop):Prop:=
 ∀v1,bu v v1->M.kf v1.toWorld->JG M.pk P v1 (o.semAt rd a.eval)/\GE M v1 o a next Q ((o.semAt rd a.eval).run P v1)
end Go
namespace Go.Proofs.YtflilincnacbpaaGreat
namespace K
open Go
theorem O7{P:Program}{M:Md P}{rd:Option Nat}{o:Oper}{a:Act}{v:VW}{next:Act->VW->Prop}{Q:Exit->Act->VW->Prop}(h:∀v1,bu v v1->Sg P v1 (o.semAt rd a.eval)/\GE M v1 o a next Q ((o.semAt rd a.eval).run P v1)):o.wk M rd a v next Q:=
 λv1 hr _=>⟨(h v1 hr).1.k,(h v1 hr).2⟩
section ops
variable {P:Program}{M:Md P}{rd:Option Nat}{Q:Exit->Act->VW->Prop}{a:Act}{v:VW}{ops:Array Oper}
theorem Hg{o:Oper}{K K':Act->VW->Prop}(h:∀a v,K a v->K' a v){r:Result Next}(hh:GE M v o a K Q r):GE M v o a K' Q r:=by
 cases r with
 |ok x w'=>
  cases x <;> simp only [GE] at hh⊢ <;> first
   |simp_all
   |grind [jC.mono]
   |grind [o5.mono]
 |halt x w'=>cases x <;> simp only [GE] at hh⊢ <;> exact hh
theorem oz{o:Oper}{K K':Act->VW->Prop}(h:∀a v,K a v->K' a v)(hh:o.wk M rd a v K Q):o.wk M rd a v K' Q:=λv1 hr hk=>⟨(hh v1 hr hk).1,Hg h (hh v1 hr hk).2⟩
def lS(M:Md P)(rd:Option Nat)(ops:Array Oper)(Q:Exit->Act->VW->Prop):List Nat->Act->VW->Prop
 |[],a,v=>Q .normal a v
 |i::rest,a,v=>match ops[i]? with
  |none=>lS M rd ops Q rest a v
  |some o=>if Region.wanted o (yielded ops a.tmps) then o.wk M rd a v (lS M rd ops Q rest) Q else lS M rd ops Q rest (a.put o.dst undef) v
theorem Ea{b:Frame}{k:List Item}{cs:List Frame}{w w':World}{i:Nat}{rest:List Nat}{o:Oper}{x:Value}(ho:ops[i]? =some o)(hw:Region.wanted o (yielded ops a.tmps)=true)(hr:(o.semAt b.roundOf a.eval).run P w= .ok (.value x) w'):
 ∃es,(∀e∈es,e∈(o.semAt b.roundOf a.eval).events P w #[])/\∀main,stepG P main (Gr (b.atR a (.inRegion ops (i::rest)::k)) cs) w= .go (Gr (b.atR (a.put o.dst x) (.inRegion ops rest::k)) cs) w' es:=by
 have hfin:(b.atR a (.inRegion ops (i::rest)::k)).finish x=b.atR (a.put o.dst x) (.inRegion ops rest::k):=by grind [Frame.finish_atR]
 refine⟨seen P b.fn (if b.kind == .early then #[] else(o.semAt b.roundOf a.eval).events P w #[]),λe he=>?_,λmain=>?_⟩
 .
  have:=Conc.mem_seen he;simp_all
 .
  rw [vg ho hw,<-hfin];simp [stepG.apply,hr,Frame.atR,GStep.after]
theorem I0{b:Frame}{k:List Item}{cs:List Frame}{w w':World}{i:Nat}{rest:List Nat}{o:Oper}(ho:ops[i]? =some o)(hw:Region.wanted o (yielded ops a.tmps)=true)(hr:(o.semAt b.roundOf a.eval).run P w= .ok .skip w'):
 ∃es,(∀e∈es,e∈(o.semAt b.roundOf a.eval).events P w #[])/\∀main,stepG P main (Gr (b.atR a (.inRegion ops (i::rest)::k)) cs) w= .go (Gr (b.atR (a.put o.dst undef) (.inRegion ops rest::k)) cs) w' es:=by
 have hfin:(b.atR a (.inRegion ops (i::rest)::k)).finish undef=b.atR (a.put o.dst undef) (.inRegion ops rest::k):=by grind [Frame.finish_atR]
 refine⟨seen P b.fn (if b.kind == .early then #[] else(o.semAt b.roundOf a.eval).events P w #[]),λe he=>?_,λmain=>?_⟩
 .
  have:=Conc.mem_seen he;simp_all
 .
  rw [vg ho hw,<-hfin];simp [stepG.apply,hr,Frame.atR,GStep.after]
theorem Ee{b:Frame}{k:List Item}{cs:List Frame}{w w':World}{i:Nat}{rest:List Nat}{o:Oper}{d:Deferred}(ho:ops[i]? =some o)(hw:Region.wanted o (yielded ops a.tmps)=true)(hr:(o.semAt b.roundOf a.eval).run P w= .ok (.defer d) w'):
 ∃es,(∀e∈es,e∈(o.semAt b.roundOf a.eval).events P w #[])/\∀main,stepG P main (Gr (b.atR a (.inRegion ops (i::rest)::k)) cs) w= .go (Gr (b.atR ({ a with defers:=d::a.defers }.put o.dst undef) (.inRegion ops rest::k)) cs) w' es:=by
 have hfin:({ b.atR a (.inRegion ops (i::rest)::k) with defers:=d::a.defers }:Frame).finish undef=b.atR ({ a with defers:=d::a.defers }.put o.dst undef) (.inRegion ops rest::k):=by
  have:=Frame.finish_atR b { a with defers:=d::a.defers } ops i rest k undef;rw [ho] at this;exact this
 refine⟨seen P b.fn (if b.kind == .early then #[] else(o.semAt b.roundOf a.eval).events P w #[]),λe he=>?_,λmain=>?_⟩
 .
  have:=Conc.mem_seen he;simp_all
 .
  rw [vg ho hw,<-hfin];simp [stepG.apply,hr,Frame.atR,GStep.after]
theorem yt{b:Frame}{k:List Item}{cs:List Frame}{w w':World}{i:Nat}{rest:List Nat}{o:Oper}{f:FuncId}{args:Array Value}(ho:ops[i]? =some o)(hw:Region.wanted o (yielded ops a.tmps)=true)(hr:(o.semAt b.roundOf a.eval).run P w= .ok (.enter f args) w'):
 ∃es,(∀e∈es,e∈(o.semAt b.roundOf a.eval).events P w #[])/\∀main,stepG P main (Gr (b.atR a (.inRegion ops (i::rest)::k)) cs) w= .go (Gr (Frame.enter P f args .normal) (b.atR a (.inRegion ops (i::rest)::k)::cs)) w' es:=by
 refine⟨seen P b.fn (if b.kind == .early then #[] else(o.semAt b.roundOf a.eval).events P w #[]),λe he=>?_,λmain=>?_⟩
 .
  have:=Conc.mem_seen he;simp_all
 .
  rw [vg ho hw];simp [stepG.apply,hr,Frame.atR,GStep.after]
theorem Eb{b:Frame}{k:List Item}{cs:List Frame}{w w':World}{i:Nat}{rest:List Nat}{o:Oper}{l:Nat}{f:FuncId}{tmps:Array Value}{assign body:Code}(ho:ops[i]? =some o)(hw:Region.wanted o (yielded ops a.tmps)=true)(hr:(o.semAt b.roundOf a.eval).run P w= .ok (.round l f tmps assign body) w'):
 ∃es,(∀e∈es,e∈(o.semAt b.roundOf a.eval).events P w #[])/\∀main,stepG P main (Gr (b.atR a (.inRegion ops (i::rest)::k)) cs) w= .go (Gr (Frame.round l f tmps assign body .normal) (b.atR a (.inRegion ops (i::rest)::k)::cs)) w' es:=by
 refine⟨seen P b.fn (if b.kind == .early then #[] else(o.semAt b.roundOf a.eval).events P w #[]),λe he=>?_,λmain=>?_⟩
 .
  have:=Conc.mem_seen he;simp_all
 .
  rw [vg ho hw];simp [stepG.apply,hr,Frame.atR,GStep.after]
theorem Ec{b:Frame}{k:List Item}{cs:List Frame}{w w':World}{i:Nat}{rest:List Nat}{o:Oper}{x:Value}(ho:ops[i]? =some o)(hw:Region.wanted o (yielded ops a.tmps)=true)(hr:(o.semAt b.roundOf a.eval).run P w= .halt (.panic x) w'):
 ∃es,(∀e∈es,e∈(o.semAt b.roundOf a.eval).events P w #[])/\∀main,stepG P main (Gr (b.atR a (.inRegion ops (i::rest)::k)) cs) w= .go (Gr { b.atR a (.inRegion ops (i::rest)::k) with mode:=.panicking [{ v:=x,recovered:=false }] } cs) w' es:=by
 refine⟨seen P b.fn (if b.kind == .early then #[] else(o.semAt b.roundOf a.eval).events P w #[]),λe he=>?_,λmain=>?_⟩
 .
  have:=Conc.mem_seen he;simp_all
 .
  rw [vg ho hw,<-Frame.raise_atR];simp [stepG.apply,hr,Frame.atR,GStep.after]
theorem og(l:List Nat):∀{a:Act} {v:VW},lS M rd ops Q l a v->∀T,M.ok T->∀(b:Frame) (k:List Item) (cs:List Frame),b.roundOf=rd->(∀e a' v',Q e a' v'->nh T b k cs e a' v')->T v (b.atR a (.inRegion ops l::k)) cs:=by
 induction l with
 |nil=>exact λh T hT b k cs hb hc=>(M.bc T hT).move (λ_ _=>c8) (hc _ _ _ h)
 |cons i rest ih=>
  intro a v h T hT b k cs hb hc;have B:=M.bc T hT;simp only [lS] at h;cases ho:ops[i]? with
  |none=>
   simp only [ho] at h;refine B.move (λm w=>?_) (ih h T hT b k cs hb hc);simp_all [xe,Option.bind_none,Act.put]
  |some o=>
   simp only [ho] at h;by_cases hw:Region.wanted o (yielded ops a.tmps)=true
   .rw [if_pos hw] at h;subst hb;refine M.st T hT _ _ _ λv1 hr hkf=>?_;obtain⟨hS,hU⟩:=h v1 hr hkf;generalize hres:(o.semAt b.roundOf a.eval).run P v1.toWorld=r at hU;cases r with
    |ok x w'=>
     have hG:=hS.ok hres;cases x with
     |value x=>
      obtain⟨es,h1,h2⟩:=Ea (b:=b) (k:=k) (cs:=cs) (rest:=rest) ho hw hres;exact⟨_,_,w',es,h2,hG.sub h1,ih hU T hT b k cs rfl hc⟩
     |skip=>
      obtain⟨es,h1,h2⟩:=I0 (b:=b) (k:=k) (cs:=cs) (rest:=rest) ho hw hres;exact⟨_,_,w',es,h2,hG.sub h1,ih hU T hT b k cs rfl hc⟩
     |«defer» d=>
      obtain⟨es,h1,h2⟩:=Ee (b:=b) (k:=k) (cs:=cs) (rest:=rest) ho hw hres;exact⟨_,_,w',es,h2,hG.sub h1,ih hU T hT b k cs rfl hc⟩
     |enter f args=>
      obtain⟨es,h1,h2⟩:=yt (b:=b) (k:=k) (cs:=cs) (rest:=rest) ho hw hres;refine⟨_,_,w',es,h2,hG.sub h1,hU T hT _ λe v' fr q hf hk hl=>?_⟩;cases e with
      |returned x=>
       refine pr B hl hk ?_;simp_all [Frame.finish_atR]
      |panicked chain=>exact tR B hl (by rw [Frame.raise_atR];exact hc _ _ _ q _)
      |outgrown=>grind
     |round l f tmps assign body=>
      obtain⟨es,h1,h2⟩:=Eb (b:=b) (k:=k) (cs:=cs) (rest:=rest) ho hw hres;refine⟨_,_,w',es,h2,hG.sub h1,hU T hT _ _ (λx v' q=>?_) (λch v' q=>by rw [Frame.raise_atR];exact hc _ _ _ q _) (λv' q=>q)⟩;simp_all [Frame.finish_atR]
     |_=>exact hU.elim
    |halt x w'=>
     have hG:=hS.halt hres;cases x with
     |panic x=>
      obtain⟨es,h1,h2⟩:=Ec (b:=b) (k:=k) (cs:=cs) (rest:=rest) ho hw hres;exact⟨_,_,w',es,h2,hG.sub h1,hc _ _ _ hU _⟩
     |_=>exact hU.elim
   .rw [if_neg hw] at h;refine B.move (λm w=>?_) (ih h T hT b k cs hb hc);simp_all [xe,Option.map_some,Option.getD_some,Option.bind_some]
theorem E2{id:Nat}(h:lS M rd ops Q (List.range ops.size) a v):(Code.region id ops false).wk M rd Q a v:=λT hT b k cs hb hc=>
 (M.bc T hT).move (λ_ _=>fi) (og _ h T hT b k cs hb hc)
def E3(M:Md P)(rd:Option Nat)(ops:Array Oper)(Q:Exit->Act->VW->Prop):List Oper->Act->VW->Prop
 |[],a,v=>Q .normal a v
 |o::l,a,v=>if Region.wanted o (yielded ops a.tmps) then o.wk M rd a v (E3 M rd ops Q l) Q else E3 M rd ops Q l (a.put o.dst undef) v
theorem kX{o:Oper}{l:List Oper}(h:∀K:Act->VW->Prop,(∀a v,E3 M rd ops Q l a v->K a v)->if Region.wanted o (yielded ops a.tmps)=true then o.wk M rd a v K Q else K (a.put o.dst undef) v):E3 M rd ops Q (o::l) a v:=h _ λ_ _ h=>h
theorem kF:∀(l:List Oper) (i:Nat) {a:Act} {v:VW},(∀j,ops[i+j]? =l[j]?)->E3 M rd ops Q l a v->lS M rd ops Q (List.range' i l.length) a v
 |[],_,_,_,_,h=>h
 |o::l,i,a,v,hl,h=>by
  have h0:ops[i]? =some o:=by have:=hl 0;simp_all
  simp only [length_cons,List.range'_succ,lS,h0]
  simp only [E3] at h
  have hl':∀j,ops[i+1+j]? =l[j]? :=λj=>by have:=hl (j+1);grind
  split at h
  .
   rename_i hw
   rw [if_pos hw]
   exact oz (λa v h=>kF l (i+1) hl' h) h
  .
   rename_i hw
   rw [if_neg hw]
   exact kF l (i+1) hl' h
theorem vT{id:Nat}{l:List Oper}(h:E3 M rd l.toArray Q l a v):(Code.region id l.toArray false).wk M rd Q a v:=by
 simp_all [E2,kF,List.range_eq_range']
def nV(M:Md P)(rd:Option Nat)(ops:Array Oper)(Q:Exit->Act->VW->Prop)(i:Nat)(K:Act->VW->Prop)(a:Act)(v:VW):Prop:=
 match ops[i]? with
 |none=>K a v
 |some o=>if Region.wanted o (yielded ops a.tmps) then o.wk M rd a v K Q else K (a.put o.dst undef) v
theorem Bw(i:Nat)(rest:List Nat):lS M rd ops Q (i::rest) a v=nV M rd ops Q i (lS M rd ops Q rest) a v:=by
 simp_all [lS,nV]
theorem kR{i:Nat}{K K':Act->VW->Prop}(h:∀a v,K a v->K' a v)(hh:nV M rd ops Q i K a v):nV M rd ops Q i K' a v:=by
 unfold nV at *;split
 .simp_all
 .rename_i o ho;simp only [ho] at hh;split
  .rename_i hw;simp only [hw,if_true] at hh;exact oz h hh
  simp_all
def fN(M:Md P)(rd:Option Nat)(md:Region.Mode)(ops:Array Oper)(Q:Exit->Act->VW->Prop):Nat->Array Bool->Act->VW->Prop
 |0,L,a,v=>Region.ready md ops L=[]/\Q .normal a v
 |aL+1,L,a,v=>(Region.ready md ops L=[]->Q .normal a v)/\∀i∈Region.ready md ops L,nV M rd ops Q i (fN M rd md ops Q aL (L.setIfInBounds i true)) a v
theorem zk{md:Region.Mode}:∀(aL t:Nat) (L:Array Bool) (a:Act) (v:VW),fN M rd md ops Q aL L a v->lS M rd ops Q (Region.linearise.go md ops aL t L []) a v:=by
 intro aL
 induction aL with
 |zero=>intro t L a v h;simpa [Region.linearise.go,lS] using h.2
 |succ aL ih=>
  intro t L a v ⟨h0,h1⟩;simp only [Region.linearise.go]
  change lS M rd ops Q (match (Region.ready md ops L)[t % (Region.ready md ops L).length]? with
   |some i=>Region.linearise.go md ops aL (t / (Region.ready md ops L).length) (L.setIfInBounds i true) [i]
   |none=>[].reverse) a v
  cases hi:(Region.ready md ops L)[t % (Region.ready md ops L).length]? with
  |none=>
   refine h0 ?_;cases hr:Region.ready md ops L with
   |nil=>rfl
   |cons x xs=>
    simp_all [mod_lt,List.getElem?_eq_getElem]
  |some i=>
   grind [linearise_go_acc,reverse_singleton,singleton_append,Bw,kR,List.mem_of_getElem?]
theorem pR{id:Nat}(hm:P.follows .mixedOrders=true)(h:∀v1,bu v v1->fN M rd .any ops Q ops.size (Array.replicate ops.size false) a (v1.upd { v1.toWorld with drawn:=v1.drawn+1 })):(Code.region id ops true).wk M rd Q a v:=λT hT b k cs hb hc=>by
 refine(M.bc T hT).step _ _ _ λv1 hr=>⟨_,_,_, #[],λm=>PS,⟨λ_ _ _=>rfl,Nat.le_refl _,.refl _,rfl,rfl,λe h=>by simp at h⟩,?_⟩
 simp only [Region.schedule,hm,Bool.true_or,if_true]
 exact og _ (zk ops.size _ _ a _ (h v1 hr)) T hT b k cs hb hc
end ops
theorem A.cells_length{S:FS}{w:World}(r:A):∀{cs:List Value},r.cells S w cs->cs.length=r.n:=by
 induction r with
 |eq v=>rintro cs ⟨rfl,_⟩;rfl
 |rep t x=>intro cs h;exact aN t h
 |«at» t x=>intro cs h;exact aN (.ptr t) h
 |pair a b iha ihb=>rintro cs ⟨c1,c2,rfl,h1,h2⟩;simp_all
 |agg a ih=>intro cs h;exact ih h
 |tup a _=>intro cs h;exact h.elim
 |fn f a _=>intro cs h;exact h.elim
 |full t l=>intro cs h;exact h.elim
 |any=>intro cs h;exact h.elim
theorem o9{S:FS}{w:World}(r:A):∀{cs:List Value},r.cells S w cs->∀c∈cs,be c=true:=by
 induction r with
 |eq v=>rintro cs ⟨rfl,h⟩ c hc;simp_all
 |rep t x=>intro cs h;exact xY t h
 |«at» t x=>intro cs h;exact xY (.ptr t) h
 |pair a b iha ihb=>
  rintro cs ⟨c1,c2,rfl,h1,h2⟩ c hc;grind
 |agg a ih=>intro cs h;exact ih h
 |tup a _=>intro cs h;exact h.elim
 |fn f a _=>intro cs h;exact h.elim
 |full t l=>intro cs h;exact h.elim
 |any=>intro cs h;exact h.elim
section
variable {S S':FS}{w w':World}
theorem A.cells_mono(hS:∀b,S b->S' b)(hw:gr S w w')(r:A):∀{cs:List Value},r.cells S w cs->r.cells S' w' cs:=by
 induction r with
 |eq v=>intro cs h;exact h
 |rep t x=>intro cs h;exact dS hS hw t h
 |«at» t x=>intro cs h;exact dS hS hw (.ptr t) h
 |pair a b iha ihb=>rintro cs ⟨c1,c2,e,h1,h2⟩;exact⟨c1,c2,e,iha h1,ihb h2⟩
 |agg a ih=>intro cs h;exact ih h
 |tup a _=>intro cs h;exact h
 |fn f a _=>intro cs h;exact h
 |full t l=>intro cs h;exact h
 |any=>intro cs h;exact h
theorem Bi(hS:∀b,S b->S' b)(hw:gr S w w')(r:A):(∀{v:Value},r.holds S w v->r.holds S' w' v)/\(∀{vs:List Value},A.holds.holdsAll S w r vs->A.holds.holdsAll S' w' r vs):=by
 induction r with
 |eq v=>exact⟨λh=>h,λh=>h⟩
 |rep t x=>exact⟨λ⟨cs,h,e⟩=>⟨cs,dS hS hw t h,e⟩,λh=>h⟩
 |«at» t x=>exact⟨λh=>dS hS hw (.ptr t) h,λh=>h⟩
 |pair a b iha ihb=>exact⟨λh=>h,λ⟨v,vs,e,h1,h2⟩=>⟨v,vs,e,iha.1 h1,ihb.2 h2⟩⟩
 |agg a _=>exact⟨λ⟨cs,h,e⟩=>⟨cs,A.cells_mono hS hw a h,e⟩,λh=>h⟩
 |tup a ih=>exact⟨λ⟨vs,e,h⟩=>⟨vs,e,ih.2 h⟩,λh=>h⟩
 |fn f a ih=>exact⟨λ⟨vs,e,h⟩=>⟨vs,e,ih.2 h⟩,λh=>h⟩
 |full t l=>exact⟨λ⟨⟨cs,h,e⟩,hp⟩=>⟨⟨cs,dS hS hw (.slice t) h,e⟩,hp⟩,λh=>h⟩
 |any=>exact⟨λh=>h,λh=>h⟩
theorem A.mono(hS:∀b,S b->S' b)(hw:gr S w w')(r:A){v:Value}(h:r.holds S w v):r.holds S' w' v:=(Bi hS hw r).1 h
end
inductive D where
 |obj (b:Nat) (T:TypeId) (a:A)
 |sl (v:Value) (T:TypeId) (t:Ty) (l:List t.den)
 |raw (b:Nat) (o:Obj)
 |inv (b:Nat) (p:Obj->Prop)
def D.foot:D->Option Nat
 | .obj b _ _=>some b
 | .sl v _ _ _=>v.ownBlock
 | .raw b _=>some b
 | .inv b _=>some b
def D.holds(S:FS)(w:World):D->Prop
 | .obj b T a=>∃cs:List Value,w.heap[b]? =some (.cells cs.toArray T (0,0))/\a.cells S w cs
 | .sl v T t l=>(v= .slice none 0 0/\l=[])\/∃b cap c,v= .slice (some ⟨b,0,none⟩) l.length cap/\l.length≤cap/\cap≤maxLen/\
  w.heap[b]? =some (.cells c T (0,0))/\c.size=cap * t.cells/\dA (rd S w t) l (c.toList.take (l.length * t.cells))
 | .raw b o=>w.heap[b]? =some o
 | .inv b p=>∃o,w.heap[b]? =some o/\p o
theorem cp{S S':FS}{w w':World}(hS:∀b,S b->S' b)(hw:gr S w w')(d:D)(hd:∀b,d.foot=some b->w'.heap[b]? =w.heap[b]?)(h:d.holds S w):d.holds S' w':=by
 cases d with
 |obj b T a=>
  obtain⟨cs,h1,h2⟩:=h;exact⟨cs,(hd b rfl).trans h1,a.cells_mono hS hw h2⟩
 |sl v T t l=>
  rcases h with h |⟨b,cap,c,rfl,h1,h1',h2,h3,h4⟩
  .exact .inl h
  .exact .inr ⟨b,cap,c,rfl,h1,h1',(hd b rfl).trans h2,h3,cH (λ_ _ h=>dS hS hw t h) h4⟩
 |raw b o=>exact(hd b rfl).trans h
 |inv b p=>obtain⟨o,h1,h2⟩:=h;exact⟨o,(hd b rfl).trans h1,h2⟩
def av(Δ:List D)(b:Nat):Prop:=∃d∈Δ,d.foot=some b
structure gR(Δ:List D)(S:FS)(w:World):Prop where
 holds:∀d∈Δ,d.holds S w
 own:∀b,av Δ b->¬S b/\b < w.heap.size
 apart:Δ.Pairwise λd d'=>∀b,d.foot=some b->d'.foot≠some b
structure j6(X:Nat->Prop)(S:FS)(w:World)(S':FS)(w':World):Prop where
 sub:∀b,S b->S' b
 new:∀b,S' b->S b\/w.heap.size≤b\/X b
 dom:∀b,S' b->b < w'.heap.size
 size:w.heap.size≤w'.heap.size
 keep:∀b,b < w.heap.size->¬X b->w'.heap[b]? =w.heap[b]?
 os:w'.os=w.os
 tape:w'.tape=w.tape
 output:w'.output=w.output
theorem j6.refl{X:Nat->Prop}{S:FS}{w:World}(h:∀b,S b->b < w.heap.size):j6 X S w S w:=
 ⟨λ_ h=>h,λ_ h=>.inl h,h,Nat.le_refl _,λ_ _ _=>rfl,rfl,rfl,rfl⟩
theorem j6.trans{X Y:Nat->Prop}{S S1 S2:FS}{w w1 w2:World}(h:j6 X S w S1 w1)(h':j6 Y S1 w1 S2 w2)
 (hY:∀b,Y b->X b\/w.heap.size≤b):j6 X S w S2 w2 where
 sub b hb:=h'.sub b (h.sub b hb)
 new b hb:=by
  rcases h'.new b hb with h1 |h1 |h1
  .exact h.new b h1
  .exact .inr (.inl (Nat.le_trans h.size h1))
  grind
 dom:=h'.dom
 size:=Nat.le_trans h.size h'.size
 keep b hb hx:=(h'.keep b (Nat.lt_of_lt_of_le hb h.size) (λhy=>(hY b hy).elim (λh2=>hx h2) (λh2=>by omega))).trans (h.keep b hb hx)
 os:=h'.os.trans h.os
 tape:=h'.tape.trans h.tape
 output:=h'.output.trans h.output
theorem j6.mono{X Y:Nat->Prop}{S S1:FS}{w w1:World}(h:j6 X S w S1 w1)(hX:∀b,X b->Y b):j6 Y S w S1 w1:=
 ⟨h.sub,λb hb=>(h.new b hb).imp id (Or.imp id (hX b)),h.dom,h.size,λb hb hx=>h.keep b hb (λhh=>hx (hX b hh)),h.os,h.tape,h.output⟩
theorem gR.frame{Δ Δ' F:List D}{S S':FS}{w w':World}(hd:∀b,S b->b < w.heap.size)(h:gR (Δ++F) S w)(hs:j6 (av Δ) S w S' w')(h':gR Δ' S' w')
 (hf:∀b,av Δ' b->av Δ b\/w.heap.size≤b):gR (Δ'++F) S' w':=by
 have hap:=pairwise_append.1 h.apart
 have hnot:∀b,av F b->¬av Δ b:=λb ⟨d',hd',e'⟩ ⟨d,hd,e⟩=>hap.2.2 d hd d' hd' b e e'
 have hF:∀b,av F b->w'.heap[b]? =w.heap[b]? :=λb hb=>hs.keep b (h.own b (by obtain⟨d,hd,e⟩:=hb;exact⟨d,List.mem_append.2 (.inr hd),e⟩)).2 (hnot b hb)
 have hK:gr S w w':=λb hb=>hs.keep b (hd b hb) (λhx=>(h.own b (by obtain⟨d,hd,e⟩:=hx;exact⟨d,List.mem_append.2 (.inl hd),e⟩)).1 hb)
 refine⟨λd hd=>?_,λb hb=>?_,?_⟩
 .
  rcases List.mem_append.1 hd with hd |hd
  .exact h'.holds d hd
  .exact cp hs.sub hK d (λb e=>hF b ⟨d,hd,e⟩) (h.holds d (List.mem_append.2 (.inr hd)))
 .
  obtain⟨d,hd,e⟩:=hb;rcases List.mem_append.1 hd with hd |hd
  .exact h'.own b ⟨d,hd,e⟩
  .have hb:av F b:=⟨d,hd,e⟩;have ho:=h.own b ⟨d,List.mem_append.2 (.inr hd),e⟩;refine⟨λhS=>?_,Nat.lt_of_lt_of_le ho.2 hs.size⟩;rcases hs.new b hS with h1 |h1 |h1
   .simp_all
   .omega
   simp_all
 .
  refine pairwise_append.2 ⟨h'.apart,hap.2.1,λd hd d' hd' b e e'=>?_⟩;have ho:=h.own b ⟨d',List.mem_append.2 (.inr hd'),e'⟩;rcases hf b ⟨d,hd,e⟩ with h1 |h1
  .exact hnot b ⟨d',hd',e'⟩ h1
  .omega
theorem gR.perm{Δ Δ':List D}{S:FS}{w:World}(hp:Δ.Perm Δ')(h:gR Δ S w):gR Δ' S w:=
 ⟨λd hd=>h.holds d (hp.mem_iff.2 hd),λb ⟨d,hd,e⟩=>h.own b ⟨d,hp.mem_iff.2 hd,e⟩,
  (hp.pairwise_iff (λh b e e'=>h b e' e)).1 h.apart⟩
theorem nc{Δ Δ':List D}(hp:Δ.Perm Δ')(b:Nat):av Δ b↔av Δ' b:=
 ⟨λ⟨d,hd,e⟩=>⟨d,hp.mem_iff.1 hd,e⟩,λ⟨d,hd,e⟩=>⟨d,hp.mem_iff.2 hd,e⟩⟩
abbrev Ga:=List (Nat×A)
def lk:Ga->Nat->Option A
 |[],_=>none
 |(s,r)::l,k=>if s=k then some r else lk l k
def bI(S:FS)(w:World)(a:Act):List (Operand×A)->Prop
 |[]=>True
 |(x,r)::l=>r.holds S w (a.eval x)/\bI S w a l
def nd:Op->Bool
 | .defer _=>false
 |_=>true
def Tj(o:Oper)(a:Act)(next:Act->World->Prop):Result Next->Prop
 | .ok (.value x) w'=>next (a.put o.dst x) w'
 | .ok .skip w'=>next (a.put o.dst undef) w'
 |_=>False
def vP(P:Program)(o:Oper)(N:List (Operand×A))(Δ:List D){X:Type}(R:X->A×List D):Prop:=
 nd o.op=true/\∀(S:FS) (w:World) (a:Act) (next:Act->World->Prop),(∀b,S b->b < w.heap.size)->bI S w a N->gR Δ S w->
  (∀x S' w' v,j6 (av Δ) S w S' w'->(R x).1.holds S' w' v->gR (R x).2 S' w'->(∀b,av (R x).2 b->av Δ b\/w.heap.size≤b)->next (a.put o.dst v) w')->
  Tj o a next ((execOp a.eval o).run P w)
def Hs{α:Type}(P:Program):Sem α->Prop
 | .pure _=>False
 | .load _ _ k=>∀v,Hs P (k v)
 | .store _ _ _ k=>Hs P k
 | .new _ k=>∀r,Hs P (k r)
 | .shape _ k=>∀x,Hs P (k x)
 | .freeze _ _ k=>Hs P k
 | .frozen _ k=>∀x,Hs P (k x)
 | .getObj _ k=>∀o,Hs P (k o)
 | .setObj _ _ k=>Hs P k
 | .choose _ k=>∀n,Hs P (k n)
 | .sys _ k=>∀r,Hs P (k r)
 | .program k=>Hs P (k P)
 | .mark _ k=>Hs P k
 | .halt _=>True
def uQ:Value->Bool
 | .int .. | .bool _ | .string _=>true
 |_=>false
def kU:Value->Bool
 | .agg cs=>cs.toList.all uQ
 |v=>uQ v
def calm:Obj->Bool
 | .cells .. =>true
 | .map es _=>es.toList.all λe=>kU e.key
 | .loop .. =>true
 | .deferred .. =>true
 | .mapIter .. =>true
 | .stringIter .. =>true
 |_=>false
def Ns{α:Type}(P:Program):Sem α->Prop
 | .pure _=>True
 | .load m _ k=>m= .plain/\∀v,Ns P (k v)
 | .store m _ _ k=>m= .plain/\Ns P k
 | .new o k=>calm o=true/\∀r,Ns P (k r)
 | .shape _ k=>∀x,Hs P (k x)
 | .freeze _ _ _=>False
 | .frozen _ k=>∀x,Hs P (k x)
 | .getObj _ k=>∀o,calm o=true->Ns P (k o)
 | .setObj _ o k=>calm o=true/\Ns P k
 | .choose _ k=>∀n,Ns P (k n)
 | .sys _ _=>False
 | .program k=>Ns P (k P)
 | .mark m k=>QE m=true/\Ns P k
 | .halt _=>True
theorem Hs.run{α:Type}{P:Program}{s:Sem α}:Hs P s->∀(w:World) (x:α) (w':World),s.run P w≠.ok x w':=by
 induction s with
 |pure a=>exact λh=>h.elim
 |load m a k ih=>
  intro h w x w';simp only [Sem.run];split
  .exact ih _ (h _) w x w'
  .split
   .exact ih _ (h _) w x w'
   .exact λh=>by cases h
 |store m a v k ih=>
  intro h w x w';cases v <;> simp only [Sem.run] <;> (repeat' split) <;> first |exact ih h _ x w' |exact λh=>by cases h
 |new o k ih=>intro h w x w';exact ih _ (h _) _ x w'
 |shape r k ih=>intro h w x w';exact ih _ (h _) _ x w'
 |freeze a n k ih=>intro h w x w';exact ih h _ x w'
 |frozen a k ih=>intro h w x w';exact ih _ (h _) _ x w'
 |getObj r k ih=>
  intro h w x w';simp only [Sem.run];split
  .exact λh=>by cases h
  .exact ih _ (h _) w x w'
  .exact λh=>by cases h
 |setObj r o k ih=>
  intro h w x w';simp only [Sem.run];split
  .exact λh=>by cases h
  .exact ih h _ x w'
  .exact λh=>by cases h
 |choose q k ih=>
  intro h w x w';simp only [Sem.run];split
  .exact ih _ (h _) w x w'
  .exact ih _ (h _) _ x w'
 |sys c k ih=>intro h w x w';exact ih _ (h _) _ x w'
 |program k ih=>intro h w x w';exact ih _ h _ x w'
 |mark m k ih=>intro h w x w';exact ih h _ x w'
 |halt h=>intro _ w x w' h;cases h
structure ew(n0:Nat)(W R:Nat->Prop)(w w0:World):Prop where
 size:w0.heap.size=w.heap.size
 le:n0≤w.heap.size
 tape:w0.tape=w.tape
 drawn:w0.drawn=w.drawn
 own:∀b,n0≤b\/W b->w0.heap[b]? =w.heap[b]? /\∀o,w.heap[b]? =some o->calm o=true
 read:∀b,b < n0->¬W b->R b->∃c T fz,w.heap[b]? =some (.cells c T fz)/\w0.heap[b]? =some (.cells c T (0,c.size))
 bad:∀b,b < n0->¬W b->¬R b->w0.heap[b]? =some (.cells #[] 0 (0,0))
def ng(n0:Nat)(W R:Nat->Prop)(n:Nat)(e:Event):Prop:=match e.loc with
 | .cell a=>e.sync=false/\a.block < n/\(n0≤a.block\/W a.block\/(R a.block/\e.write=false))
 | .obj b=>e.sync=false/\b < n/\(n0≤b\/W b\/(R b/\e.write=false))
 | .mark m=>QE m=true
 |_=>False
theorem ng.mono{n0:Nat}{W R:Nat->Prop}{n n':Nat}{e:Event}(hn:n≤n')(h:ng n0 W R n e):ng n0 W R n' e:=by
 unfold ng at *;split at h
 .grind
 .grind
 .exact h
 .exact h
theorem Es{w:World}{a:Addr}{v:Value}(h:w.cell? a=some v):a.block < w.heap.size:=by
 unfold World.cell? at h;grind
section
variable {P:Program}{n0:Nat}{W R:Nat->Prop}{w w0:World}
theorem ew.calm0(h:ew n0 W R w w0)(b:Nat)(o:Obj)(ho:w0.heap[b]? =some o):calm o=true:=by
 by_cases h1:n0≤b\/W b
 .obtain⟨e,hc⟩:=h.own b h1;simp_all
 .have h2:b < n0:=Nat.lt_of_not_le λx=>h1 (.inl x);have h3:¬W b:=λx=>h1 (.inr x);by_cases h4:R b
  .obtain⟨c,T,fz,_,e⟩:=h.read b h2 h3 h4;rw [e] at ho;cases ho;rfl
  .rw [h.bad b h2 h3 h4] at ho;cases ho;rfl
theorem ew.noFar(h:ew n0 W R w w0){a:Addr}{m:Bool}{r:Value×List Addr}:w0.farLoad P a m≠.ok r:=by
 unfold World.farLoad;split
 .rename_i e;have:=h.calm0 _ _ e;cases this
 simp_all
theorem ew.noFarS(h:ew n0 W R w w0){a:Addr}{v:Value}{m:Bool}{r:World×List Addr}:w0.farStore P a v m≠.ok r:=by
 unfold World.farStore;split
 .rename_i e;have:=h.calm0 _ _ e;cases this
 simp_all
theorem ew.cell(h:ew n0 W R w w0){a:Addr}{v:Value}(hc:w0.cell? a=some v):w.cell? a=some v/\(n0≤a.block\/W a.block\/R a.block):=by
 by_cases h1:n0≤a.block\/W a.block
 .obtain⟨e,_⟩:=h.own _ h1;grind [World.cell?]
 .have h2:a.block < n0:=Nat.lt_of_not_le λx=>h1 (.inl x);have h3:¬W a.block:=λx=>h1 (.inr x);by_cases h4:R a.block
  .obtain⟨c,T,fz,e1,e2⟩:=h.read _ h2 h3 h4;simp_all [World.cell?]
  .exfalso;have:w0.cell? a=none:=by unfold World.cell?;rw [h.bad _ h2 h3 h4];simp
   simp_all
theorem ew.writes(h:ew n0 W R w w0){a:Addr}{v:Value}(hc:w0.cell? a=some v)(hf:w0.frozen? a=false):n0≤a.block\/W a.block:=by
 apply Classical.byContradiction;intro h1;have h2:a.block < n0:=Nat.lt_of_not_le λx=>h1 (.inl x);have h3:¬W a.block:=λx=>h1 (.inr x);rcases(h.cell hc).2 with h4 |h4 |h4
 .omega
 .simp_all
 .obtain⟨c,T,fz,e1,e2⟩:=h.read _ h2 h3 h4;grind [World.cell?,Array.getElem?_eq_some_iff,World.frozen?]
theorem ew.put(h:ew n0 W R w w0){b:Nat}(hb:n0≤b\/W b){H H0:Array Obj}(hs:H.size=w.heap.size)(hs0:H0.size=w0.heap.size)(he:∀b',b'≠b->H[b']? =w.heap[b']? /\H0[b']? =w0.heap[b']?)(hx:H0[b]? =H[b]?)(hc:∀o,H[b]? =some o->calm o=true):
 ew n0 W R { w with heap:=H } { w0 with heap:=H0 } where
 size:=by show H0.size=H.size;rw [hs,hs0,h.size]
 le:=by show n0≤H.size;rw [hs];exact h.le
 tape:=h.tape
 drawn:=h.drawn
 own b' hb':=by
  show H0[b']? =H[b']? /\_;by_cases e:b'=b
  .simp_all
  .obtain⟨e1,e2⟩:=he b' e;obtain⟨o1,o2⟩:=h.own b' hb';simp_all
 read b' h1 h2 h3:=by
  show∃c T fz,H[b']? =_/\H0[b']? =_;have e:b'≠b:=λe=>by grind
  obtain⟨e1,e2⟩:=he b' e;rw [e1,e2];exact h.read b' h1 h2 h3
 bad b' h1 h2 h3:=by
  show H0[b']? =_;have e:b'≠b:=λe=>by grind
  rw [(he b' e).2];exact h.bad b' h1 h2 h3
theorem ew.setCell(h:ew n0 W R w w0){a:Addr}{v:Value}(hb:n0≤a.block\/W a.block):ew n0 W R (w.setCell a v) (w0.setCell a v):=by
 obtain⟨e,hcm⟩:=h.own _ hb;refine h.put hb (by simp) (by simp) (λb' hne=>?_) ?_ (λo ho=>?_)
 .grind
 .grind
 .simp only [Array.getElem?_modify,if_true] at ho;cases hw:w.heap[a.block]? with
  |none=>simp_all
  |some x=>
   rw [hw] at ho;simp only [Option.map_some,Option.some.injEq] at ho;have:=hcm x hw;subst ho;cases x <;> first |rfl |exact this
theorem ew.setObj(h:ew n0 W R w w0){b:Nat}{o:Obj}(hb:n0≤b\/W b)(ho:calm o=true):ew n0 W R { w with heap:=w.heap.setIfInBounds b o } { w0 with heap:=w0.heap.setIfInBounds b o }:=by
 have hs:=h.size;refine h.put hb (by simp) (by simp) (λb' hne=>?_) ?_ (λo' ho'=>?_)
 .grind
 .grind
 grind
theorem ew.new(h:ew n0 W R w w0){o:Obj}(ho:calm o=true):ew n0 W R { w with heap:=w.heap.push o } { w0 with heap:=w0.heap.push o }:=by
 have hs:=h.size;have hle:=h.le;have hne:∀b,b < n0->b≠w.heap.size:=λb hb=>by omega
 refine⟨by simp [hs],by simp;omega,h.tape,h.drawn,λb hb=>?_,λb h1 h2 h3=>?_,λb h1 h2 h3=>?_⟩
 .obtain⟨e1,e2⟩:=h.own b hb;grind
 .obtain⟨c,T,fz,e1,e2⟩:=h.read b h1 h2 h3;grind
 .simp only [getElem?_push,hs];rw [if_neg (hne b h1)];exact h.bad b h1 h2 h3
theorem uG{α:Type}{m:Mode}{a:Addr}{u:Value}{k:Sem α}(ho:be u=true):(Sem.store m a u k).run P w=match w.cell? a with
 |some _=>if w.frozen? a then .halt (.unsupported (.unsafePointer "a write to bytes that a string shares")) w else k.run P (w.setCell a u)
 |none=>match w.farStore P a u (m == .atomic) with
  | .ok (w,_)=>k.run P w
  | .error h=>.halt h w:=by cases u <;> first |rfl |cases ho
theorem BM{α:Type}{m:Mode}{a:Addr}{u:Value}{k:Sem α}(ho:be u=false):(Sem.store m a u k).run P w= .halt (.stuck "store: not the value of one cell") w:=by cases u <;> first |rfl |cases ho
theorem Hv{α:Type}{s:Sem α}:Ns P s->∀{w w0:World},ew n0 W R w w0->∀{x:α} {w1:World},s.run P w0= .ok x w1->
 ∃w',s.run P w= .ok x w'/\w.heap.size≤w'.heap.size/\∀es,(∀e∈es,ng n0 W R w'.heap.size e)->∀e∈s.events P w es,ng n0 W R w'.heap.size e:=by
 induction s with
 |pure a=>
  simp_all
 |load m a k ih=>
  intro hn w w0 h x w1 hr;obtain⟨rfl,hk⟩:=hn;simp only [Sem.run] at hr;cases hc:w0.cell? a with
  |none=>
   rw [hc] at hr;simp only at hr;split at hr
   .rename_i hf;exact absurd hf h.noFar
   .cases hr
  |some u=>
   rw [hc] at hr;obtain⟨c1,c2⟩:=h.cell hc;obtain⟨w',r1,r2,r3⟩:=ih u (hk u) h hr;refine⟨w',by simp_all [Sem.run],r2,λes hes e he=>?_⟩;have e1:(Sem.load Mode.plain a k).events P w es=(k u).events P w (es.push ⟨.cell a,false,false⟩):=by grind [Sem.events,Sem.runT]
   rw [e1] at he;refine r3 _ (λe he=>?_) e he;rcases mem_push.1 he with he |rfl
   .simp_all
   .refine⟨rfl,Nat.lt_of_lt_of_le (Es c1) r2,?_⟩;rcases c2 with c2 |c2 |c2
    .omega
    .simp_all
    simp_all
 |store m a u k ih=>
  intro hn w w0 h x w1 hr;obtain⟨rfl,hk⟩:=hn
  have h1:be u=true:=by
   grind [be,BM]
  rw [uG h1] at hr;cases hc:w0.cell? a with
  |none=>
   rw [hc] at hr;simp only at hr;split at hr
   .rename_i hf;exact absurd hf h.noFarS
   .cases hr
  |some u'=>
   rw [hc] at hr;simp only at hr;cases hf:w0.frozen? a with
   |true=>simp_all
   |false=>
    rw [hf,if_neg (by decide)] at hr;have hb:=h.writes hc hf;obtain⟨c1,_⟩:=h.cell hc
    have hf1:w.frozen? a=false:=by
     unfold World.frozen? at hf⊢;rw [<-(h.own _ hb).1];exact hf
    obtain⟨w',r1,r2,r3⟩:=ih hk (h.setCell hb) hr;have hsz:(w.setCell a u).heap.size=w.heap.size:=by simp
    refine⟨w',?_,by omega,λes hes e he=>?_⟩
    .simp_all [uG]
    .have e1:(Sem.store Mode.plain a u k).events P w es=k.events P (w.setCell a u) (es.push ⟨.cell a,true,false⟩):=by
      cases u <;> first |(cases h1;done) |grind [Sem.events,Sem.runT]
     rw [e1] at he;refine r3 _ (λe he=>?_) e he;rcases mem_push.1 he with he |rfl
     .simp_all
     .exact⟨rfl,by have:=Es c1;omega,hb.elim .inl λx=>.inr (.inl x)⟩
 |new o k ih=>
  intro hn w w0 h x w1 hr;simp only [Sem.run] at hr;rw [h.size] at hr;obtain⟨w',r1,r2,r3⟩:=ih _ (hn.2 _) (h.new hn.1) hr;exact⟨w',r1,by grind,λes hes e he=>r3 es hes e he⟩
 |shape r k ih=>intro hn w w0 h x w1 hr;exact absurd hr (Hs.run (hn _) _ _ _)
 |freeze a n k ih=>intro hn;exact hn.elim
 |frozen a k ih=>intro hn w w0 h x w1 hr;exact absurd hr (Hs.run (hn _) _ _ _)
 |getObj r k ih=>
  intro hn w w0 h x w1 hr;simp only [Sem.run] at hr;split at hr
  .cases hr
  .rename_i o ho hne
   have hb:n0≤r\/W r:=by
    apply Classical.byContradiction;intro h1;have h2:r < n0:=Nat.lt_of_not_le λx=>h1 (.inl x);have h3:¬W r:=λx=>h1 (.inr x);by_cases h4:R r
    .obtain⟨c,T,fz,_,e⟩:=h.read r h2 h3 h4;grind
    .rw [h.bad r h2 h3 h4] at hne;grind
   obtain⟨e1,e2⟩:=h.own r hb;have hw:w.heap[r]? =some o:=by simp_all
   have hcm:=e2 o hw;obtain⟨w',r1,r2,r3⟩:=ih o (hn o hcm) h hr;have hnc:∀c T fz,o≠.cells c T fz:=λc T fz e=>ho c T fz e;have hch:o.isChan=false:=by cases o <;> first |rfl |cases hcm
   refine⟨w',?_,r2,λes hes e he=>?_⟩
   .simp_all [Sem.run]
   .have ev:(Sem.getObj r k).events P w es=(k o).events P w (es.push ⟨.obj r,false,false⟩):=by
     grind [Sem.events,Sem.runT]
    rw [ev] at he;refine r3 _ (λe he=>?_) e he;rcases mem_push.1 he with he |rfl
    .simp_all
    .exact⟨rfl,Nat.lt_of_lt_of_le (Array.getElem?_eq_some_iff.1 hw).1 r2,hb.elim .inl λx=>.inr (.inl x)⟩
  .cases hr
 |setObj r o k ih=>
  intro hn w w0 h x w1 hr;obtain⟨hcm,hk⟩:=hn;simp only [Sem.run] at hr;split at hr
  .cases hr
  .rename_i o' ho hne
   have hb:n0≤r\/W r:=by
    apply Classical.byContradiction;intro h1;have h2:r < n0:=Nat.lt_of_not_le λx=>h1 (.inl x);have h3:¬W r:=λx=>h1 (.inr x);by_cases h4:R r
    .obtain⟨c,T,fz,_,e⟩:=h.read r h2 h3 h4;grind
    .rw [h.bad r h2 h3 h4] at hne;grind
   obtain⟨e1,e2⟩:=h.own r hb;have hw:w.heap[r]? =some o':=by simp_all
   obtain⟨w',r1,r2,r3⟩:=ih hk (h.setObj hb hcm) hr;have hnc:∀c T fz,o'≠.cells c T fz:=λc T fz e=>ho c T fz e;have hch:o.isChan=false:=by cases o <;> first |rfl |cases hcm
   have hsz:({ w with heap:=w.heap.setIfInBounds r o }:World).heap.size=w.heap.size:=by simp
   refine⟨w',?_,by omega,λes hes e he=>?_⟩
   .simp_all [Sem.run]
   .have ev:(Sem.setObj r o k).events P w es=k.events P { w with heap:=w.heap.setIfInBounds r o } (es.push ⟨.obj r,true,false⟩):=by
     grind [Sem.events,Sem.runT]
    rw [ev] at he;refine r3 _ (λe he=>?_) e he;rcases mem_push.1 he with he |rfl
    .simp_all
    .refine⟨rfl,?_,hb.elim .inl λx=>.inr (.inl x)⟩;grind
  .cases hr
 |choose q k ih=>
  intro hn w w0 h x w1 hr;simp only [Sem.run] at hr;split at hr
  .rename_i hq;obtain⟨w',r1,r2,r3⟩:=ih _ (hn _) h hr;exact⟨w',by simp_all [Sem.run,if_true],r2,λes hes e he=>r3 es hes e (by simp only [Sem.events,Sem.runT] at he⊢;simp_all)⟩
  .rename_i hq;rw [h.tape,h.drawn] at hr;obtain⟨w',r1,r2,r3⟩:=ih _ (hn _) (w:={ w with drawn:=w.drawn+1 }) (w0:={ w0 with tape:=w.tape,drawn:=w.drawn+1 }) ⟨h.size,h.le,rfl,rfl,h.own,h.read,h.bad⟩ hr;exact⟨w',by simp_all [Sem.run],r2,λes hes e he=>r3 es hes e (by simp only [Sem.events,Sem.runT] at he⊢;simp_all)⟩
 |sys c k ih=>intro hn;exact hn.elim
 |program k ih=>intro hn w w0 h x w1 hr;exact ih P hn h hr
 |mark m k ih=>
  intro hn w w0 h x w1 hr;obtain⟨hm,hk⟩:=hn;obtain⟨w',r1,r2,r3⟩:=ih hk h hr;refine⟨w',r1,r2,λes hes e he=>r3 (es.push ⟨.mark m,false,true⟩) (λe he=>?_) e he⟩;rcases mem_push.1 he with he |rfl
  .simp_all
  .exact hm
 |halt h=>simp_all
end
section
variable {S S':FS}{w w':World}
theorem pm(h:∀b c T fz,S b->w.heap[b]? =some (.cells c T fz)->S' b/\∃fz',w'.heap[b]? =some (.cells c T fz'))(t:Ty):∀{x:t.den} {cs:List Value},rd S w t x cs->rd S' w' t x cs:=by
 induction t with
 |int _=>intro x cs h;exact h
 |bool=>intro x cs h;exact h
 |str=>intro x cs h;exact h
 |val=>intro x cs h;exact h
 |pair a b iha ihb=>rintro x cs ⟨c1,c2,e,h1,h2⟩;exact⟨c1,c2,e,iha h1,ihb h2⟩
 |agg t ih=>intro x cs h;exact ih h
 |arr n t ih=>intro l cs h;exact⟨h.1,cH (λ_ _ h=>ih h) h.2⟩
 |slice t ih=>
  intro l cs hr;rcases hr with hr |⟨b,off,cap,c,T,fz,e,hl,hb,hc,hr⟩
  .exact .inl hr
  .obtain⟨hb',fz',hc'⟩:=h b c T fz hb hc;exact .inr ⟨b,off,cap,c,T,fz',e,hl,hb',hc',cH (λ_ _ h=>ih h) hr⟩
 |ptr t ih=>
  rintro x cs ⟨b,off,c,T,fz,e,hb,hc,hr⟩;obtain⟨hb',fz',hc'⟩:=h b c T fz hb hc;exact⟨b,off,c,T,fz',e,hb',hc',ih hr⟩
 |tag _ _=>intro x cs h;exact h
 |ign=>intro x cs h;exact h
 |alt t ih=>
  intro x cs h;cases x with
  |inl d=>exact⟨ih h.1,h.2⟩
  |inr v=>exact h
 |lst t ih=>
  intro l
  induction l with
  |nil=>intro cs h;exact h
  |cons x l ihl=>
   rintro cs ⟨b,off,c,T,fz,c1,c2,e,hb,hc,e2,h1,h2⟩;obtain⟨hb',fz',hc'⟩:=h b c T fz hb hc;exact⟨b,off,c,T,fz',c1,c2,e,hb',hc',e2,ih h1,ihl h2⟩
 |mo p cs0 t ih=>
  rintro x cs ⟨e,h1,hr⟩;exact⟨e,h1,ih hr⟩
 |pl t0 t1 t ih=>
  intro x cs hr;cases x with
  |inl n=>exact hr
  |inr d=>obtain⟨s,e,hr⟩:=hr;exact⟨s,e,ih hr⟩
variable (h:∀b c T fz,S b->w.heap[b]? =some (.cells c T fz)->S' b/\∃fz',w'.heap[b]? =some (.cells c T fz'))
include h
theorem sc(r:A):∀{cs:List Value},r.cells S w cs->r.cells S' w' cs:=by
 induction r with
 |eq v=>intro cs h;exact h
 |rep t x=>intro cs hr;exact pm h t hr
 |«at» t x=>intro cs hr;exact pm h (.ptr t) hr
 |pair a b iha ihb=>rintro cs ⟨c1,c2,e,h1,h2⟩;exact⟨c1,c2,e,iha h1,ihb h2⟩
 |agg a ih=>intro cs h;exact ih h
 |tup a _=>intro cs h;exact h
 |fn f a _=>intro cs h;exact h
 |full t l=>intro cs h;exact h
 |any=>intro cs h;exact h
theorem tZ(r:A):(∀{v:Value},r.holds S w v->r.holds S' w' v)/\(∀{vs:List Value},A.holds.holdsAll S w r vs->A.holds.holdsAll S' w' r vs):=by
 induction r with
 |eq v=>exact⟨λh=>h,λh=>h⟩
 |rep t x=>exact⟨λ⟨cs,hr,e⟩=>⟨cs,pm h t hr,e⟩,λh=>h⟩
 |«at» t x=>exact⟨λhr=>pm h (.ptr t) hr,λh=>h⟩
 |pair a b iha ihb=>exact⟨λh=>h,λ⟨v,vs,e,h1,h2⟩=>⟨v,vs,e,iha.1 h1,ihb.2 h2⟩⟩
 |agg a _=>exact⟨λ⟨cs,hr,e⟩=>⟨cs,sc h a hr,e⟩,λh=>h⟩
 |tup a ih=>exact⟨λ⟨vs,e,h⟩=>⟨vs,e,ih.2 h⟩,λh=>h⟩
 |fn f a ih=>exact⟨λ⟨vs,e,h⟩=>⟨vs,e,ih.2 h⟩,λh=>h⟩
 |full t l=>exact⟨λ⟨⟨cs,hr,e⟩,hp⟩=>⟨⟨cs,pm h (.slice t) hr,e⟩,hp⟩,λh=>h⟩
 |any=>exact⟨λh=>h,λh=>h⟩
theorem vA{a:Act}:∀{N:List (Operand×A)},bI S w a N->bI S' w' a N
 |[],_=>trivial
 |(_,r)::_,hn=>⟨(tZ h r).1 hn.1,vA hn.2⟩
theorem Qy{d:D}(hd:∀b,d.foot=some b->w'.heap[b]? =w.heap[b]?)(hh:d.holds S w):d.holds S' w':=by
 cases d with
 |obj b T a=>
  obtain⟨cs,h1,h2⟩:=hh;exact⟨cs,(hd b rfl).trans h1,sc h a h2⟩
 |sl v T t l=>
  rcases hh with hh |⟨b,cap,c,rfl,h1,h1',h2,h3,h4⟩
  .exact .inl hh
  .exact .inr ⟨b,cap,c,rfl,h1,h1',(hd b rfl).trans h2,h3,cH (λ_ _ hr=>pm h t hr) h4⟩
 |raw b o=>exact(hd b rfl).trans hh
 |inv b p=>obtain⟨o,h1,h2⟩:=hh;exact⟨o,(hd b rfl).trans h1,h2⟩
end
def D.calmP:D->Prop
 | .raw _ o=>calm o=true
 | .inv _ p=>∀o,p o->calm o=true
 |_=>True
theorem Be{S:FS}{w:World}{d:D}(hd:d.calmP)(hh:d.holds S w){b:Nat}(hb:d.foot=some b){o:Obj}(ho:w.heap[b]? =some o):calm o=true:=by
 cases d with
 |obj b' T a=>
  obtain⟨cs,h1,_⟩:=hh;cases hb;rw [h1] at ho;cases ho;rfl
 |sl v T t l=>
  rcases hh with⟨rfl,_⟩ |⟨b',cap,c,rfl,_,_,h2,_⟩
  .cases hb
  .cases hb;rw [h2] at ho;cases ho;rfl
 |raw b' o'=>
  cases hb;have h1:w.heap[b]? =some o':=hh;rw [h1] at ho;cases ho;exact hd
 |inv b' p=>
  obtain⟨o',h1,h2⟩:=hh;cases hb;rw [h1] at ho;cases ho;exact hd o h2
open Classical in
noncomputable def mQ (S:FS) (Δ:List D) (w:World):World:={ w with heap:=w.heap.mapIdx λi o=>if av Δ i then o else if S i then(match o with | .cells c T _=>.cells c T (0,c.size) |_=>.cells #[] 0 (0,0)) else .cells #[] 0 (0,0) }
theorem oq{S:FS}{Δ:List D}{w:World}(b:Nat):(mQ S Δ w).heap[b]? =(w.heap[b]?).map λo=>open Classical in if av Δ b then o else if S b then(match o with | .cells c T _=>.cells c T (0,c.size) |_=>.cells #[] 0 (0,0)) else .cells #[] 0 (0,0):=by
 simp [mQ]
theorem zC{S:FS}{Δ:List D}{w:World}(hO:gR Δ S w)(hc:∀d∈Δ,d.calmP):ew w.heap.size (av Δ) (λb=>S b/\∃c T fz,w.heap[b]? =some (.cells c T fz)) w (mQ S Δ w):=by
 refine⟨by simp [mQ],Nat.le_refl _,rfl,rfl,λb hb=>?_,λb h1 h2 ⟨h3,c,T,fz,h4⟩=>⟨c,T,fz,h4,?_⟩,λb h1 h2 h3=>?_⟩
 .rw [oq];rcases hb with hb |hb
  .simp_all
  .refine⟨?_,λo ho=>?_⟩
   .simp_all
   .obtain⟨d,hd,e⟩:=hb;exact Be (hc d hd) (hO.holds d hd) e ho
 .simp_all [oq]
 simp_all [oq,Array.getElem?_eq_getElem,Option.map_some,if_false]
theorem qe{S:FS}{Δ:List D}{w:World}(hO:gR Δ S w):∀b c T fz,S b->w.heap[b]? =some (.cells c T fz)->S b/\∃fz',(mQ S Δ w).heap[b]? =some (.cells c T fz'):=by grind [av,oq]
theorem qd{S:FS}{Δ:List D}{w:World}(hO:gR Δ S w):gR Δ S (mQ S Δ w):=by
 refine⟨λd hd=>Qy (qe hO) (λb hb=>?_) (hO.holds d hd),λb hb=>?_,hO.apart⟩
 .grind [av,oq]
 .have:=hO.own b hb;simp_all [mQ]
theorem vP.events{P:Program}{o:Oper}{N:List (Operand×A)}{Δ:List D}{X:Type}{R:X->A×List D}(h:vP P o N Δ R){S:FS}{w:World}{a:Act}(hd:∀b,S b->b < w.heap.size)(hN:bI S w a N)(hO:gR Δ S w)
 (hns:Ns P (execOp a.eval o)) (hc:∀d∈Δ,d.calmP):∃y w',(execOp a.eval o).run P w= .ok y w'/\∀e∈(execOp a.eval o).events P w #[],ng w.heap.size (av Δ) S w'.heap.size e:=by
 have h0:=h.2 S (mQ S Δ w) a (λ_ _=>True) (λb hb=>by simp_all [mQ]) (vA (qe hO) hN) (qd hO) (λ_ _ _ _ _ _ _ _=>trivial)
 have key:∀y w1,(execOp a.eval o).run P (mQ S Δ w)= .ok y w1->∃y w',(execOp a.eval o).run P w= .ok y w'/\∀e∈(execOp a.eval o).events P w #[],ng w.heap.size (av Δ) S w'.heap.size e:=λy w1 hr=>by
  obtain⟨w',r1,_,r3⟩:=Hv hns (zC hO hc) hr;refine⟨y,w',r1,λe he=>?_⟩;have:=r3 #[] (λe he=>by simp at he) e he;unfold ng at this⊢;split at this
  .grind
  .grind
  .exact this
  omega
 generalize hr:(execOp a.eval o).run P (mQ S Δ w)=r at h0
 cases r with
 |ok y w1=>simp_all
 |halt y w1=>exact h0.elim
structure bD(X:Nat->Prop)(S:FS)(v:VW)(S':FS)(v':VW):Prop where
 sub:∀b,S b->S' b
 new:∀b,S' b->S b\/v.heap.size≤b\/X b
 dom:∀b,S' b->b < v'.heap.size
 size:v.heap.size≤v'.heap.size
 keep:∀b,b < v.heap.size->¬v.A b->¬X b->v'.heap[b]? =v.heap[b]?
 os:j7 v'.os v.os
 tape:v'.tape=v.tape
 output:v'.output=v.output
 subA:∀b,v.A b->v'.A b
 oldA:∀b,v'.A b->v.A b\/v.heap.size≤b
 Z:v'.Z=v.Z
theorem bD.refl{X:Nat->Prop}{S:FS}{v:VW}(h:∀b,S b->b < v.heap.size):bD X S v S v:=
 ⟨λ_ h=>h,λ_ h=>.inl h,h,Nat.le_refl _,λ_ _ _ _=>rfl,.refl _,rfl,rfl,λ_ h=>h,λ_ h=>.inl h,rfl⟩
theorem bD.rely{X:Nat->Prop}{S:FS}{v v1:VW}(h:∀b,S b->b < v.heap.size)(hr:bu v v1):bD X S v S v1:=
 ⟨λ_ h=>h,λ_ h=>.inl h,λb hb=>Nat.lt_of_lt_of_le (h b hb) hr.size,hr.size,λb hb ha _=>hr.keep b hb ha,hr.os,hr.tape,hr.output,hr.sub,hr.old,hr.Z⟩
theorem bD.of{X:Nat->Prop}{S S':FS}{v:VW}{w':World}(h:j6 X S v S' w'):bD X S v S' (v.upd w'):=
 ⟨h.sub,h.new,h.dom,h.size,λb hb _ hx=>h.keep b hb hx,.of h.os,h.tape,h.output,λ_ h=>h,λ_ h=>.inl h,rfl⟩
theorem bD.trans{X Y:Nat->Prop}{S S1 S2:FS}{v v1 v2:VW}(h:bD X S v S1 v1)(h':bD Y S1 v1 S2 v2)(hY:∀b,Y b->X b\/v.heap.size≤b):bD X S v S2 v2 where
 sub b hb:=h'.sub b (h.sub b hb)
 new b hb:=by
  rcases h'.new b hb with h1 |h1 |h1
  .exact h.new b h1
  .exact .inr (.inl (Nat.le_trans h.size h1))
  grind
 dom:=h'.dom
 size:=Nat.le_trans h.size h'.size
 keep b hb ha hx:=(h'.keep b (Nat.lt_of_lt_of_le hb h.size) (λh1=>(h.oldA b h1).elim ha λh2=>by omega) (λhy=>(hY b hy).elim (λh2=>hx h2) (λh2=>by omega))).trans (h.keep b hb ha hx)
 os:=h'.os.trans h.os
 tape:=h'.tape.trans h.tape
 output:=h'.output.trans h.output
 subA b hb:=h'.subA b (h.subA b hb)
 oldA b hb:=by
  rcases h'.oldA b hb with h1 |h1
  .exact h.oldA b h1
  .exact .inr (Nat.le_trans h.size h1)
 Z:=h'.Z.trans h.Z
theorem bD.mono{X Y:Nat->Prop}{S S1:FS}{v v1:VW}(h:bD X S v S1 v1)(hX:∀b,X b->Y b):bD Y S v S1 v1:=
 ⟨h.sub,λb hb=>(h.new b hb).imp id (Or.imp id (hX b)),h.dom,h.size,λb hb ha hx=>h.keep b hb ha (λhh=>hx (hX b hh)),h.os,h.tape,h.output,h.subA,h.oldA,h.Z⟩
structure aS(Δ:List D)(S:FS)(v:VW):Prop where
 holds:∀d∈Δ,d.holds S v
 own:∀b,av Δ b->¬S b/\b < v.heap.size
 apart:Δ.Pairwise λd d'=>∀b,d.foot=some b->d'.foot≠some b
 far:∀b,av Δ b->¬v.A b/\¬v.Z b
 sees:∀b,S b->¬v.A b
 domA:∀b,v.A b->b < v.heap.size
 domZ:∀b,v.Z b->b < v.heap.size
theorem aS.p{Δ:List D}{S:FS}{v:VW}(h:aS Δ S v):gR Δ S v:=⟨h.holds,h.own,h.apart⟩
theorem aS.part{Δ F:List D}{S:FS}{v:VW}(h:aS (Δ++F) S v):aS Δ S v:=
 ⟨λe he=>h.holds e (List.mem_append.2 (.inl he)),λb ⟨e,he,hb⟩=>h.own b ⟨e,List.mem_append.2 (.inl he),hb⟩,(pairwise_append.1 h.apart).1,
  λb ⟨e,he,hb⟩=>h.far b ⟨e,List.mem_append.2 (.inl he),hb⟩,h.sees,h.domA,h.domZ⟩
theorem aS.of{Δ Δ':List D}{S S':FS}{v:VW}{w':World}(h:aS Δ S v)(hs:j6 (av Δ) S v S' w')(h':gR Δ' S' w')(hf:∀b,av Δ' b->av Δ b\/v.heap.size≤b):aS Δ' S' (v.upd w'):=by
 refine⟨h'.holds,h'.own,h'.apart,λb hb=>?_,λb hb ha=>?_,λb hb=>Nat.lt_of_lt_of_le (h.domA b hb) hs.size,λb hb=>Nat.lt_of_lt_of_le (h.domZ b hb) hs.size⟩
 .rcases hf b hb with h1 |h1
  .exact h.far b h1
  .exact⟨λha=>by have:=h.domA b ha;omega,λhz=>by have:=h.domZ b hz;omega⟩
 .rcases hs.new b hb with h1 |h1 |h1
  .exact h.sees b h1 ha
  .have:=h.domA b ha;omega
  .exact(h.far b h1).1 ha
theorem fG{S:FS}{v v1:VW}(hd:∀b,S b->b < v.heap.size)(hs:∀b,S b->¬v.A b)(hr:bu v v1):gr S v v1:=λb hb=>hr.keep b (hd b hb) (hs b hb)
theorem aS.rely{Δ:List D}{S:FS}{v v1:VW}(hd:∀b,S b->b < v.heap.size)(h:aS Δ S v)(hr:bu v v1):aS Δ S v1:=by
 have hn:∀b,b < v.heap.size->¬v.A b->¬v1.A b:=λb hb ha h1=>(hr.old b h1).elim ha λh2=>by omega
 refine⟨λd hd'=>cp (λ_ h=>h) (fG hd h.sees hr) d (λb hb=>?_) (h.holds d hd'),λb hb=>⟨(h.own b hb).1,Nat.lt_of_lt_of_le (h.own b hb).2 hr.size⟩,h.apart,λb hb=>?_,λb hb=>hn b (hd b hb) (h.sees b hb),hr.dom h.domA,λb hb=>?_⟩
 .have hf:av Δ b:=⟨d,hd',hb⟩;exact hr.keep b (h.own b hf).2 (h.far b hf).1
 .exact⟨hn b (h.own b hb).2 (h.far b hb).1,by rw [hr.Z];exact(h.far b hb).2⟩
 .rw [hr.Z] at hb;exact Nat.lt_of_lt_of_le (h.domZ b hb) hr.size
theorem aS.frame{Δ Δ' F:List D}{S S':FS}{v v':VW}(hd:∀b,S b->b < v.heap.size)(h:aS (Δ++F) S v)(hs:bD (av Δ) S v S' v')(h':aS Δ' S' v')
 (hf:∀b,av Δ' b->av Δ b\/v.heap.size≤b):aS (Δ'++F) S' v':=by
 have hap:=pairwise_append.1 h.apart
 have hnot:∀b,av F b->¬av Δ b:=λb ⟨d',hd',e'⟩ ⟨d,hd,e⟩=>hap.2.2 d hd d' hd' b e e'
 have hin:∀b,av F b->av (Δ++F) b:=λb ⟨d,hd,e⟩=>⟨d,List.mem_append.2 (.inr hd),e⟩
 have hF:∀b,av F b->v'.heap[b]? =v.heap[b]? :=λb hb=>hs.keep b (h.own b (hin b hb)).2 (h.far b (hin b hb)).1 (hnot b hb)
 have hK:gr S v v':=λb hb=>hs.keep b (hd b hb) (h.sees b hb) (λhx=>(h.own b (by obtain⟨d,hd,e⟩:=hx;exact⟨d,List.mem_append.2 (.inl hd),e⟩)).1 hb)
 refine⟨λd hd=>?_,λb hb=>?_,?_,λb hb=>?_,h'.sees,h'.domA,h'.domZ⟩
 .
  rcases List.mem_append.1 hd with hd |hd
  .exact h'.holds d hd
  .exact cp hs.sub hK d (λb e=>hF b ⟨d,hd,e⟩) (h.holds d (List.mem_append.2 (.inr hd)))
 .
  obtain⟨d,hd,e⟩:=hb;rcases List.mem_append.1 hd with hd |hd
  .exact h'.own b ⟨d,hd,e⟩
  .have hb:av F b:=⟨d,hd,e⟩;have ho:=h.own b (hin b hb);refine⟨λhS=>?_,Nat.lt_of_lt_of_le ho.2 hs.size⟩;rcases hs.new b hS with h1 |h1 |h1
   .simp_all
   .omega
   simp_all
 .
  refine pairwise_append.2 ⟨h'.apart,hap.2.1,λd hd d' hd' b e e'=>?_⟩;have ho:=h.own b ⟨d',List.mem_append.2 (.inr hd'),e'⟩;rcases hf b ⟨d,hd,e⟩ with h1 |h1
  .exact hnot b ⟨d',hd',e'⟩ h1
  .omega
 .
  obtain⟨d,hd,e⟩:=hb;rcases List.mem_append.1 hd with hd |hd
  .exact h'.far b ⟨d,hd,e⟩
  .have hb:av F b:=⟨d,hd,e⟩;have hz:=h.far b (hin b hb);have ho:=h.own b (hin b hb);exact⟨λha=>(hs.oldA b ha).elim hz.1 λh2=>by omega,by rw [hs.Z];exact hz.2⟩
theorem aS.perm{Δ Δ':List D}{S:FS}{v:VW}(hp:Δ.Perm Δ')(h:aS Δ S v):aS Δ' S v:=
 ⟨λd hd=>h.holds d (hp.mem_iff.2 hd),λb ⟨d,hd,e⟩=>h.own b ⟨d,hp.mem_iff.2 hd,e⟩,
  (hp.pairwise_iff (λh b e e'=>h b e' e)).1 h.apart,λb ⟨d,hd,e⟩=>h.far b ⟨d,hp.mem_iff.2 hd,e⟩,h.sees,h.domA,h.domZ⟩
def bB{P:Program}(M:Md P)(o:Oper)(N:List (Operand×A))(Δ:List D){X:Type}(R:X->A×List D):Prop:=
 nd o.op=true/\∀(rd:Option Nat) (S:FS) (v:VW) (a:Act) (next:Act->VW->Prop) (Q:Exit->Act->VW->Prop),(∀b,S b->b < v.heap.size)->bI S v a N->aS Δ S v->
  (∀x S' v' u,bD (av Δ) S v S' v'->(R x).1.holds S' v' u->aS (R x).2 S' v'->(∀b,av (R x).2 b->av Δ b\/v.heap.size≤b)->next (a.put o.dst u) v')->o.wk M rd a v next Q
theorem bB.run{P:Program}{M:Md P}{o:Oper}{N:List (Operand×A)}{Δ:List D}{X:Type}{R:X->A×List D}(ht:bB M o N Δ R)(rd:Option Nat)(S:FS)(v:VW)(a:Act)(next:Act->VW->Prop)(Q:Exit->Act->VW->Prop)
 (hd:∀b,S b->b < v.heap.size) (hN:bI S v a N) (hO:aS Δ S v)
 (k:∀x S' v' u,bD (av Δ) S v S' v'->(R x).1.holds S' v' u->aS (R x).2 S' v'->(∀b,av (R x).2 b->av Δ b\/v.heap.size≤b)->next (a.put o.dst u) v'):o.wk M rd a v next Q:=ht.2 rd S v a next Q hd hN hO k
theorem bI.rely{S:FS}{v v1:VW}{a:Act}(hd:∀b,S b->b < v.heap.size)(hs:∀b,S b->¬v.A b)(hr:bu v v1):∀{N:List (Operand×A)},bI S v a N->bI S v1 a N
 |[],_=>trivial
 |(_,r)::_,hn=>⟨A.mono (λ_ h=>h) (fG hd hs hr) r hn.1,bI.rely hd hs hr hn.2⟩
theorem vP.T{P:Program}{M:Md P}{o:Oper}{N:List (Operand×A)}{Δ:List D}{X:Type}{R:X->A×List D}(h:vP P o N Δ R)(hns:∀(S:FS) (w:World) (a:Act),bI S w a N->gR Δ S w->Ns P (execOp a.eval o))(hc:∀d∈Δ,d.calmP):bB M o N Δ R:=by
 refine⟨h.1,λrd S v a next Q hd hN hO k=>O7 λv1 hr=>?_⟩;have hd1:∀b,S b->b < v1.heap.size:=λb hb=>Nat.lt_of_lt_of_le (hd b hb) hr.size;have hN1:=bI.rely hd hO.sees hr hN;have hO1:=hO.rely hd hr;have e1:o.semAt rd a.eval=execOp a.eval o:=Oper.semAt_eq _ _ _ λc e=>by have:=h.1;rw [e] at this;cases this
 rw [e1];obtain⟨y,w',hrun,hev⟩:=h.events hd1 hN1 hO1.p (hns S v1 a hN1 hO1.p) hc
 have hstep:=h.2 S v1 a (λa' w1=>w1=w'->(∃S',j6 (av Δ) S v1 S' w1)/\next a' (v1.upd w1)) hd1 hN1 hO1.p λx S' w1 u g1 g2 g3 g4 e=>by
  refine⟨⟨S',g1⟩,k x S' (v1.upd w1) u ((bD.rely (X:=av Δ) hd hr).trans (bD.of g1) λb hb=>.inl hb) g2 (hO1.of g1 g3 g4) λb hb=>(g4 b hb).imp id λh=>Nat.le_trans hr.size h⟩
 rw [hrun] at hstep⊢
 have fin:∀a',(∃S',j6 (av Δ) S v1 S' w')/\next a' (v1.upd w')->Sg P v1 (execOp a.eval o)/\next a' (v1.upd w'):=λa' ⟨⟨S',g1⟩,g2⟩=>by
  refine⟨?_,g2⟩;unfold Sg;rw [hrun];refine⟨λb hb hz=>g1.keep b hb λhf=>?_,g1.size,.of g1.os,g1.tape,g1.output,λe he=>?_⟩
  .exact hz.elim (hO1.far b hf).1 (hO1.far b hf).2
  .have:=hev e he;unfold ng at this;unfold lL
   have good:∀b:Nat,(v1.heap.size≤b\/av Δ b\/(S b/\e.write=false))->¬v1.A b/\(e.write=true->¬v1.Z b):=λb hb=>by
    rcases hb with hb |hb |⟨hb,hw⟩
    .exact⟨λha=>by have:=hO1.domA b ha;omega,λ_ hz=>by have:=hO1.domZ b hz;omega⟩
    .exact⟨(hO1.far b hb).1,λ_=>(hO1.far b hb).2⟩
    .exact⟨hO1.sees b hb,λh=>by simp_all⟩
   split at this
   .grind
   .grind
   .simp_all
   simp_all
 cases y with
 |value u=>exact fin _ (hstep rfl)
 |skip=>exact fin _ (hstep rfl)
 |_=>exact hstep.elim
theorem aS.none{Δ:List D}{S:FS}{v:VW}(h:aS Δ S v):aS [] S v:=
 ⟨λ_ h=>by simp at h,λb ⟨e,he,_⟩=>by simp at he,Pairwise.nil,λb ⟨e,he,_⟩=>by simp at he,h.sees,h.domA,h.domZ⟩
structure Cx where
 P:Program
 N:Nat
 S0:FS
 w0:VW
 X:Nat->Prop
 rd:Option Nat:=none
 dfs:List Deferred:=[]
 M:Md P
structure St(c:Cx)(Γ:Ga)(Δ:List D)(a:Act)(w:VW):Prop where
 defers:a.defers=c.dfs
 size:a.tmps.size=c.N
 ex:∃S:FS,bD c.X c.S0 c.w0 S w/\(∀b,av Δ b->c.X b\/c.w0.heap.size≤b)/\aS Δ S w/\∀s r,lk Γ s=some r->r.holds S w (a.tmps.getD s undef)
def JC(c:Cx)(C:Code)(Q:Exit->Act->VW->Prop)(Γ:Ga)(Δ:List D):Prop:=∀a w,St c Γ Δ a w->C.wk c.M c.rd Q a w
def JO(c:Cx)(ops:Array Oper)(l:List Oper)(Q:Exit->Act->VW->Prop)(Γ:Ga)(Δ:List D):Prop:=∀a w,St c Γ Δ a w->E3 c.M c.rd ops Q l a w
def JN(c:Cx)(M:Act->VW->Prop)(Γ:Ga)(Δ:List D):Prop:=∀a w,St c Γ Δ a w->M a w
def ek(Γ:Ga):List (Operand×A)->Prop
 |[]=>True
 |(.tmp t,r)::l=>lk Γ t=some r/\ek Γ l
 |(.const v,r)::l=>r= .eq v/\ek Γ l
 |(.func f,r)::l=>r= .eq (.func (.func f) #[] #[])/\ek Γ l
 |(.global g,r)::l=>r= .eq (.pointer (some ⟨g,0,none⟩))/\ek Γ l
theorem gg{c:Cx}{Γ:Ga}{S:FS}{w:VW}{a:Act}(h:∀s r,lk Γ s=some r->r.holds S w (a.tmps.getD s undef)):∀{N:List (Operand×A)},ek Γ N->bI S w a N
 |[],_=>trivial
 |(.tmp t,r)::l,hh=>⟨h t r hh.1,gg (c:=c) h hh.2⟩
 |(.const v,r)::l,hh=>⟨by rw [hh.1];rfl,gg (c:=c) h hh.2⟩
 |(.func f,r)::l,hh=>⟨by rw [hh.1];rfl,gg (c:=c) h hh.2⟩
 |(.global g,r)::l,hh=>⟨by rw [hh.1];rfl,gg (c:=c) h hh.2⟩
theorem lE{a:Act}{d s:Nat}{v:Value}(hd:d < a.tmps.size):((a.put (some d) v).tmps.getD s undef)=if d=s then v else a.tmps.getD s undef:=by
 simp only [Act.put,getD_eq_getD_getElem?,getElem?_setIfInBounds];grind
theorem St.put{c:Cx}{Γ:Ga}{Δ Δ' F:List D}{a:Act}{w w':VW}{S S':FS}{d:Nat}{v:Value}{r:A}(hdf:a.defers=c.dfs)(hsz:a.tmps.size=c.N)
 (h1:bD c.X c.S0 c.w0 S w) (h2:∀b,av (Δ++F) b->c.X b\/c.w0.heap.size≤b) (h3:aS (Δ++F) S w) (h4:∀s r,lk Γ s=some r->r.holds S w (a.tmps.getD s undef))
 (hs:bD (av Δ) S w S' w') (hr:r.holds S' w' v) (ho:aS Δ' S' w') (hf:∀b,av Δ' b->av Δ b\/w.heap.size≤b) (hd:d < c.N):
 St c ((d,r)::Γ) (Δ'++F) (a.put (some d) v) w':=by
 have hin:∀b,av Δ b->av (Δ++F) b:=λb ⟨e,he,hb⟩=>⟨e,List.mem_append.2 (.inl he),hb⟩
 have hX:∀b,av Δ b->c.X b\/c.w0.heap.size≤b:=λb hb=>h2 b (hin b hb)
 have hK:gr S w w':=λb hb=>hs.keep b (h1.dom b hb) (h3.sees b hb) (λhx=>(h3.own b (hin b hx)).1 hb)
 refine⟨by simp_all [Act.put],by simp_all [Act.put],S',h1.trans hs hX,?_,h3.frame h1.dom hs ho hf,?_⟩
 .
  rintro b ⟨e,he,hb⟩;rcases List.mem_append.1 he with he |he
  .rcases hf b ⟨e,he,hb⟩ with h |h
   .grind
   .exact .inr (Nat.le_trans h1.size h)
  .exact h2 b ⟨e,List.mem_append.2 (.inr he),hb⟩
 .
  intro s r' hl;rw [lE (by omega)];simp only [lk] at hl;split at hl
  .simp_all
  .rename_i e;rw [if_neg e];exact A.mono hs.sub hK r' (h4 s r' hl)
theorem tX{c:Cx}{Γ:Ga}{Δ Δ' F:List D}{a:Act}{w w':VW}{S S':FS}{v:Value}(hdf:a.defers=c.dfs)(hsz:a.tmps.size=c.N)
 (h1:bD c.X c.S0 c.w0 S w) (h2:∀b,av (Δ++F) b->c.X b\/c.w0.heap.size≤b) (h3:aS (Δ++F) S w) (h4:∀s r,lk Γ s=some r->r.holds S w (a.tmps.getD s undef))
 (hs:bD (av Δ) S w S' w') (ho:aS Δ' S' w') (hf:∀b,av Δ' b->av Δ b\/w.heap.size≤b):
 St c Γ (Δ'++F) (a.put none v) w':=by
 have hin:∀b,av Δ b->av (Δ++F) b:=λb ⟨e,he,hb⟩=>⟨e,List.mem_append.2 (.inl he),hb⟩
 have hX:∀b,av Δ b->c.X b\/c.w0.heap.size≤b:=λb hb=>h2 b (hin b hb)
 have hK:gr S w w':=λb hb=>hs.keep b (h1.dom b hb) (h3.sees b hb) (λhx=>(h3.own b (hin b hx)).1 hb)
 refine⟨hdf,hsz,S',h1.trans hs hX,?_,h3.frame h1.dom hs ho hf,λs r' hl=>A.mono hs.sub hK r' (h4 s r' hl)⟩
 rintro b ⟨e,he,hb⟩
 rcases List.mem_append.1 he with he |he
 .
  rcases hf b ⟨e,he,hb⟩ with h |h
  .grind
  .exact .inr (Nat.le_trans h1.size h)
 .
  exact h2 b ⟨e,List.mem_append.2 (.inr he),hb⟩
section
variable {c:Cx}{ops:Array Oper}{o:Oper}{l:List Oper}{Q:Exit->Act->VW->Prop}{Γ:Ga}{Δ Δ' F:List D}{N:List (Operand×A)}{d:Nat}{X:Type}{R:X->A×List D}{r:A}
theorem St.perm{a:Act}{w:VW}(hp:Δ.Perm Δ')(h:St c Γ Δ a w):St c Γ Δ' a w:=by
 obtain⟨h1,h2,S,h3,h4,h5,h6⟩:=h;exact⟨h1,h2,S,h3,λb hb=>h4 b ((nc hp b).2 hb),h5.perm hp,h6⟩
theorem f6(k:Nat)(e:D)(h:Δ[k]? =some e):Δ.Perm (e::Δ.eraseIdx k):=by
 induction Δ generalizing k with
 |nil=>simp at h
 |cons x Δ ih=>
  cases k with
  |zero=>simp_all
  |succ k=>
   simp at h;exact((ih k h).cons x).trans (List.Perm.swap _ _ _)
theorem dN(k:Nat){e:D}(h:Δ[k]? =some e)(hj:JO c ops l Q Γ (e::Δ.eraseIdx k)):JO c ops l Q Γ Δ:=λa w hs=>hj a w (hs.perm (f6 k e h))
theorem dE{C:Code}(k:Nat){e:D}(h:Δ[k]? =some e)(hj:JC c C Q Γ (e::Δ.eraseIdx k)):JC c C Q Γ Δ:=λa w hs=>hj a w (hs.perm (f6 k e h))
theorem bv{M:Act->VW->Prop}(k:Nat){e:D}(h:Δ[k]? =some e)(hj:JN c M Γ (e::Δ.eraseIdx k)):JN c M Γ Δ:=λa w hs=>hj a w (hs.perm (f6 k e h))
theorem aO(hg:∀a w,St c Γ (Δ++F) a w->Region.wanted o (yielded ops a.tmps)=true)(hd:o.dst=some d)(hdN:blt d c.N=true)(ht:bB c.M o N Δ R)(hh:ek Γ N)
 (h:∀x,JO c ops l Q ((d,(R x).1)::Γ) ((R x).2++F)):JO c ops (o::l) Q Γ (Δ++F):=by
 intro a w hst
 have hw:=hg a w hst
 obtain⟨h1,h2,S,h3,h4,h5,h6⟩:=hst
 refine kX λK hK=>?_
 rw [if_pos hw]
 have hO:aS Δ S w:=h5.part
 refine ht.run c.rd S w a K Q h3.dom (gg (c:=c) h6 hh) hO λx S' w' v hs hr ho hf=>hK _ _ ?_
 rw [hd]
 exact h x _ _ (St.put h1 h2 h3 h4 h5 h6 hs hr ho hf (blt_eq▸hdN))
theorem Gu(hg:∀a w,St c Γ (Δ++F) a w->Region.wanted o (yielded ops a.tmps)=true)(hd:o.dst=none)(ht:bB c.M o N Δ R)(hh:ek Γ N)
 (h:∀x,JO c ops l Q Γ ((R x).2++F)):JO c ops (o::l) Q Γ (Δ++F):=by
 intro a w hst
 have hw:=hg a w hst
 obtain⟨h1,h2,S,h3,h4,h5,h6⟩:=hst
 refine kX λK hK=>?_
 rw [if_pos hw]
 have hO:aS Δ S w:=h5.part
 refine ht.run c.rd S w a K Q h3.dom (gg (c:=c) h6 hh) hO λx S' w' v hs hr ho hf=>hK _ _ ?_
 rw [hd]
 exact h x _ _ (tX h1 h2 h3 h4 h5 h6 hs ho hf)
theorem ag(hg:o.guard=none)(y:Nat->Option Bool):Region.wanted o y=true:=by simp [Region.wanted,hg]
theorem sj{j s:Nat}{g:Bool}{oj:Oper}(hg:o.guard=some (j,g))(hj:ops[j]? =some oj)(hs:oj.dst=some s){b:Bool}(hl:lk Γ s=some (.eq (.bool b))){a:Act}{w:VW}(h:St c Γ Δ a w):
 Region.wanted o (yielded ops a.tmps)=(b == g):=by
 obtain⟨_,_,S,_,_,_,h6⟩:=h
 have h7:a.tmps.getD s undef= .bool b:=h6 s _ hl
 have h8:yielded ops a.tmps j=some b:=by
  unfold yielded;simp only [hj,Option.bind_some,hs];rw [getD_eq_getD_getElem?] at h7;grind [undef]
 simp_all [Region.wanted]
theorem Qq(hg:o.guard=none)(hd:o.dst=some d)(hdN:blt d c.N=true)(ht:bB c.M o N [] (λ_:Unit=>(r,[])))(hh:ek Γ N)(h:JO c ops l Q ((d,r)::Γ) Δ):JO c ops (o::l) Q Γ Δ:=
 aO (Δ:=[]) (λ_ _ _=>ag hg _) hd hdN ht hh λ_=>h
theorem aX{e:X->D}{r:X->A}(hg:o.guard=none)(hd:o.dst=some d)(hdN:blt d c.N=true)(ht:bB c.M o N [] (λx=>(r x,[e x])))(hh:ek Γ N)(h:∀x,JO c ops l Q ((d,r x)::Γ) (e x::Δ)):JO c ops (o::l) Q Γ Δ:=
 aO (Δ:=[]) (λ_ _ _=>ag hg _) hd hdN ht hh λx=>h x
theorem fu{e e':D}(hg:o.guard=none)(hd:o.dst=some d)(hdN:blt d c.N=true)(ht:bB c.M o N [e] (λ_:Unit=>(r,[e'])))(hh:ek Γ N)(h:JO c ops l Q ((d,r)::Γ) (e'::F)):JO c ops (o::l) Q Γ (e::F):=
 aO (Δ:=[e]) (λ_ _ _=>ag hg _) hd hdN ht hh λ_=>h
theorem dZ{e:D}{e':X->D}{r:X->A}(hg:o.guard=none)(hd:o.dst=some d)(hdN:blt d c.N=true)(ht:bB c.M o N [e] (λx=>(r x,[e' x])))(hh:ek Γ N)(h:∀x,JO c ops l Q ((d,r x)::Γ) (e' x::F)):JO c ops (o::l) Q Γ (e::F):=
 aO (Δ:=[e]) (λ_ _ _=>ag hg _) hd hdN ht hh λx=>h x
theorem aP{e e':D}(hg:o.guard=none)(hd:o.dst=none)(ht:bB c.M o N [e] (λ_:Unit=>(r,[e'])))(hh:ek Γ N)(h:JO c ops l Q Γ (e'::F)):JO c ops (o::l) Q Γ (e::F):=
 Gu (Δ:=[e]) (λ_ _ _=>ag hg _) hd ht hh λ_=>h
section
variable {j s:Nat}{g:Bool}{oj:Oper}
theorem mI(hg:o.guard=some (j,g))(hj:ops[j]? =some oj)(hs:oj.dst=some s)(hl:lk Γ s=some (.eq (.bool g)))(hd:o.dst=some d)(hdN:blt d c.N=true)(ht:bB c.M o N [] (λ_:Unit=>(r,[])))(hh:ek Γ N)(h:JO c ops l Q ((d,r)::Γ) Δ):JO c ops (o::l) Q Γ Δ:=
 aO (Δ:=[]) (λ_ _ h=>by grind [sj]) hd hdN ht hh λ_=>h
theorem nL{e e':D}(hg:o.guard=some (j,g))(hj:ops[j]? =some oj)(hs:oj.dst=some s)(hl:lk Γ s=some (.eq (.bool g)))(hd:o.dst=some d)(hdN:blt d c.N=true)(ht:bB c.M o N [e] (λ_:Unit=>(r,[e'])))(hh:ek Γ N)(h:JO c ops l Q ((d,r)::Γ) (e'::F)):JO c ops (o::l) Q Γ (e::F):=
 aO (Δ:=[e]) (λ_ _ h=>by grind [sj]) hd hdN ht hh λ_=>h
theorem Qs(hg:o.guard=some (j,g))(hj:ops[j]? =some oj)(hs:oj.dst=some s){b:Bool}(hl:lk Γ s=some (.eq (.bool b)))(hb:(b == g)=false)(hd:o.dst=some d)(hdN:blt d c.N=true)(h:JO c ops l Q ((d,.eq undef)::Γ) Δ):JO c ops (o::l) Q Γ Δ:=by
 intro a w hst;have hw:Region.wanted o (yielded ops a.tmps)=false:=by grind [sj]
 obtain⟨h1,h2,S,h3,h4,h5,h6⟩:=hst;refine kX λK hK=>?_;rw [if_neg (by simp_all)];refine hK _ _ ?_;rw [hd];refine h _ _ (St.put (Δ:=[]) (Δ':=[]) h1 h2 h3 h4 h5 h6 (bD.refl h3.dom) rfl h5.none (λb ⟨e,he,_⟩=>by simp at he) (blt_eq▸hdN))
end
theorem aD(h:JN c (Q .normal) Γ Δ):JO c ops [] Q Γ Δ:=h
end
section
variable {P:Program}
theorem aj{α β:Type}{s:Sem α}{f:α->Sem β}(hs:Ns P s)(hf:∀a,Ns P (f a)):Ns P (s >>=f):=by
 show Ns P (s.bind f)
 induction s with
 |pure a=>exact hf a
 |load m a k ih=>exact⟨hs.1,λv=>ih v (hs.2 v)⟩
 |store m a v k ih=>exact⟨hs.1,ih hs.2⟩
 |new o k ih=>exact⟨hs.1,λr=>ih r (hs.2 r)⟩
 |shape r k ih=>
  have:∀{γ:Type} {t:Sem γ} {g:γ->Sem β},Hs P t->Hs P (t.bind g):=λ{γ t g} h=>by
   induction t with
   |pure a=>exact h.elim
   |load m a k ih=>exact λv=>ih v (h v)
   |store m a v k ih=>exact ih h
   |new o k ih=>exact λr=>ih r (h r)
   |shape r k ih=>exact λx=>ih x (h x)
   |freeze a n k ih=>exact ih h
   |frozen a k ih=>exact λx=>ih x (h x)
   |getObj r k ih=>exact λo=>ih o (h o)
   |setObj r o k ih=>exact ih h
   |choose q k ih=>exact λn=>ih n (h n)
   |sys c k ih=>exact λr=>ih r (h r)
   |program k ih=>exact ih P h
   |mark m k ih=>exact ih h
   |halt h=>trivial
  exact λx=>this (hs x)
 |freeze a n k ih=>exact hs.elim
 |frozen a k ih=>
  have:∀{γ:Type} {t:Sem γ} {g:γ->Sem β},Hs P t->Hs P (t.bind g):=λ{γ t g} h=>by
   induction t with
   |pure a=>exact h.elim
   |load m a k ih=>exact λv=>ih v (h v)
   |store m a v k ih=>exact ih h
   |new o k ih=>exact λr=>ih r (h r)
   |shape r k ih=>exact λx=>ih x (h x)
   |freeze a n k ih=>exact ih h
   |frozen a k ih=>exact λx=>ih x (h x)
   |getObj r k ih=>exact λo=>ih o (h o)
   |setObj r o k ih=>exact ih h
   |choose q k ih=>exact λn=>ih n (h n)
   |sys c k ih=>exact λr=>ih r (h r)
   |program k ih=>exact ih P h
   |mark m k ih=>exact ih h
   |halt h=>trivial
  exact λx=>this (hs x)
 |getObj r k ih=>exact λo ho=>ih o (hs o ho)
 |setObj r o k ih=>exact⟨hs.1,ih hs.2⟩
 |choose q k ih=>exact λn=>ih n (hs n)
 |sys c k ih=>exact hs.elim
 |program k ih=>exact ih P hs
 |mark m k ih=>exact⟨hs.1,ih hs.2⟩
 |halt h=>trivial
theorem cI{α:Type}{a:α}:Ns P (pure a:Sem α):=trivial
theorem lw{α:Type}{f:Program->Sem α}(h:Ns P (f P)):Ns P (program >>=f):=h
theorem Im{α β:Type}{s:Sem α}{f:α->β}(h:Ns P s):Ns P (f <$> s):=aj h λ_=>trivial
theorem kT{t:TypeId}{v:Value}:Ns P (newVar t v):=⟨rfl,λ_=>trivial⟩
theorem sL{t:TypeId}{v:Array Value}:Ns P (newRow t v):=⟨rfl,λ_=>trivial⟩
theorem fP{t:TypeId}:Ns P (typeInfo t):=by
 show Ns P ((match P.info? t with |some i=>pure i |none=>stuck "no such type" :Sem TypeInfo));split <;> trivial
theorem aI{t:TypeId}:Ns P (underlying t):=by
 show Ns P ((match P.underlying t with |some d=>pure d |none=>stuck "no such type" :Sem TypeDesc));split <;> trivial
theorem dx{t:TypeId}:Ns P (sizeOf t):=aj fP λ_=>trivial
theorem eY{t:TypeId}:Ns P (zeroValue t):=aj fP λi=>by split <;> trivial
theorem zV{t:TypeId}:Ns P (isAgg t):=aj aI λi=>by split <;> trivial
theorem wT{t:TypeId}:Ns P (elemOf t):=aj aI λi=>by split <;> trivial
theorem D1{a:Addr}:Ns P (load a):=⟨rfl,λ_=>trivial⟩
theorem Ih{a:Addr}{v:Value}:Ns P (store a v):=⟨rfl,trivial⟩
theorem tN{a:Addr}:∀(n i:Nat) (acc:Array Value),Ns P (loadCellsFrom a i n acc)
 |0,_,_=>trivial
 |n+1,i,_=>aj D1 λ_=>tN n (i+1) _
theorem ry{a:Addr}{n:Nat}:Ns P (loadCells a n):=tN _ _ _
theorem io{a:Addr}:∀(vs:List Value) (i:Nat),Ns P (storeCells a vs i)
 |[],_=>trivial
 |_::vs,i=>aj Ih λ_=>io vs (i+1)
theorem uU{t:TypeId}{a:Addr}:Ns P (loadVar t a):=aj zV λb=>by
 split
 .
  exact aj dx λ_=>aj ry λ_=>trivial
 .
  exact D1
theorem zT{t:TypeId}{a:Addr}{v:Value}:Ns P (storeVar t a v):=aj dx λn=>by
 dsimp only
 split
 .
  trivial
 grind [io]
theorem iz{t:TypeId}{cs:Array Value}{off:Nat}:Ns P (part t cs off):=aj zV λb=>by
 split
 .
  exact aj dx λ_=>trivial
 .
  split <;> trivial
theorem qo{n:Nat}:Ns P (askRoom n):=by
 unfold askRoom;split
 .exact⟨rfl,trivial⟩
 .trivial
theorem fB{α:Type}{e:RuntimeError}:Ns P (runtimePanic e:Sem α):=by
 refine lw ?_;dsimp only;split
 .trivial
 .trivial
 .trivial
 .trivial
 .exact aj wT λ_=>aj kT λ_=>trivial
 .exact aj wT λ_=>aj kT λ_=>trivial
 .trivial
theorem iM{q:Question}:Ns P (choose q):=λ_=>trivial
theorem mX{α:Type}{k:IntKind}{x y:Int}{c:BoundsCode}:Ns P (boundsPanic k x y c:Sem α):=by
 grind [boundsPanic,aj,Im,iM,fB,cI]
theorem nz{v:Value}:Ns P (asIntOf v):=by unfold asIntOf;split <;> trivial
theorem rA{v:Value}:Ns P (asInt v):=aj nz λ_=>trivial
theorem sO{v:Value}:Ns P (asBool v):=by unfold asBool;split <;> trivial
theorem Iz{v:Value}:Ns P (asAgg v):=by unfold asAgg;split <;> trivial
theorem wU{v:Value}:Ns P (asAddr v):=by
 unfold asAddr;split
 .trivial
 .exact fB
 .trivial
theorem jP{v:Value}:Ns P (Instr.sureAddr v):=by unfold Instr.sureAddr;split <;> trivial
theorem tO{α β:Type}{f:α->Sem β}(h:∀a,Ns P (f a)):∀l:List α,Ns P (l.mapM f)
 |[]=>by rw [mapM_nil];trivial
 |a::l=>by rw [mapM_cons];exact aj (h a) λ_=>aj (tO h l) λ_=>trivial
theorem DZ{α β:Type}{f:α->Sem β}(h:∀a,Ns P (f a))(l:Array α):Ns P (l.mapM f):=by
 simp_all [mapM_eq_mapM_toList,Im,tO]
theorem IA{t:TypeId}:Ns P (Instr.alloc t true (.tuple #[])):=aj eY λ_=>aj kT λ_=>trivial
theorem PG{t:TypeId}{v:Value}:Ns P (Instr.box t v):=aj kT λ_=>trivial
theorem Iy{t:TypeId}{ps:Array (Nat×Value)}:Ns P (Instr.build t ps):=by
 refine aj eY λ_=>aj aI λd=>?_;split
 .refine aj (DZ (λf=>aj dx λ_=>cI) _) λpl=>?_;split <;> trivial
 .refine aj dx λn=>?_;split <;> trivial
 .trivial
theorem wa{t:TypeId}{n:Nat}{ps:Array (Nat×Value)}:Ns P (Instr.buildSlice t n ps):=by
 refine aj aI λd=>?_;repeat' (first |exact trivial |exact fB |exact mX |exact sL |exact kT |exact dx |exact eY |exact aI |exact fP |exact iM |exact rA |exact qo |refine aj ?_ λ_=>?_ |split |dsimp only)
theorem Fv{t:TypeId}{v:Value}:Ns P (Instr.loadAt t v):=aj jP λ_=>uU
theorem BY{t:TypeId}{v u:Value}:Ns P (Instr.storeAt t v u):=aj jP λ_=>zT
theorem sM{t:TypeId}{v:Value}:Ns P (Instr.makeInterface t v):=aj aI λd=>by split <;> trivial
theorem B0{t:TypeId}{r:Option Value}:Ns P (Instr.makeMap t r):=by
 have fin:Ns P (do pure (.map (some (<-newObj (.map #[] 0)))):Sem Value):=aj (⟨rfl,λ_=>trivial⟩:Ns P (newObj (.map #[] 0))) λ_=>trivial;unfold Instr.makeMap;cases r with
 |none=>exact fin
 |some h=>
  refine aj aI λd=>?_;split
  .simp_all [aj,rA]
  .trivial
theorem yh{t:TypeId}{l c:Value}:Ns P (Instr.makeSlice t l c):=by
 refine aj aI λd=>?_;repeat' (first |exact trivial |exact fB |exact mX |exact sL |exact kT |exact dx |exact eY |exact aI |exact fP |exact iM |exact rA |exact qo |refine aj ?_ λ_=>?_ |split |dsimp only)
theorem rz{x:Value}{y:Nat}{c:BoundsCode}:Ns P (Instr.sliceBound x y c):=aj nz λz=>by
 dsimp only
 split
 .
  trivial
 .
  exact mX
theorem lZ{b:Bool}{len cap:Nat}{lo hi mx:Option Value}:Ns P (Instr.sliceBounds b len cap lo hi mx):=by
 unfold Instr.sliceBounds
 have h3:∀m h:Nat,Ns P (do
  let l<-match lo with
   |some v=>Instr.sliceBound v h (if mx.isSome then .slice3C else .sliceB)
   |none=>pure 0
  pure (l,h,m):Sem (Nat×Nat×Nat)):=λm h=>by
  cases lo with
  |none=>trivial
  |some v=>exact aj rz λ_=>trivial
 have h2:∀m:Nat,Ns P (do
  let h<-match hi,mx with
   |some v,some _=>Instr.sliceBound v m .slice3B
   |some v,none=>Instr.sliceBound v m (if b then .sliceAcap else .sliceAlen)
   |none,none=>pure len
   |none,some _=>stuck "Slice: max without high"
  let l<-match lo with
   |some v=>Instr.sliceBound v h (if mx.isSome then .slice3C else .sliceB)
   |none=>pure 0
  pure (l,h,m):Sem (Nat×Nat×Nat)):=λm=>by
  cases hi with
  |none=>cases mx with
   |none=>exact h3 _ _
   |some _=>trivial
  |some v=>cases mx with
   |none=>simp_all [aj,rz]
   |some _=>simp_all [aj,rz]
 cases mx with
 |none=>exact h2 _
 |some v=>exact aj rz λ_=>h2 _
theorem Ii{t:TypeId}{x:Value}{lo hi mx:Option Value}:Ns P (Instr.slice t x lo hi mx):=aj aI λd=>by
 split
 .
  dsimp only
  split
  .
   trivial
  .
   exact aj lZ λ_=>trivial
 .
  exact aj lZ λ_=>aj dx λ_=>trivial
 .
  refine aj wU λa=>aj aI λd=>?_
  split
  .
   exact aj lZ λ_=>aj dx λ_=>trivial
  .
   trivial
 .
  trivial
theorem BZ{t:TypeId}{x:Value}{lo hi mx:Option Value}:Ns P (Instr.sliceAt t x lo hi mx):=aj aI λd=>by
 split
 .
  exact aj jP λa=>aj lZ λ_=>aj dx λ_=>trivial
 .
  exact Ii
theorem Cb{t:TypeId}{x y:Value}:Ns P (Instr.indexAt t x y):=by
 refine aj nz λki=>aj aI λd=>?_;repeat' (first |exact trivial |exact mX |exact dx |exact aI |exact jP |refine aj ?_ λ_=>?_ |split |dsimp only)
theorem Iq{t:TypeId}{x y:Value}:Ns P (Instr.index t x y):=by
 refine aj nz λki=>aj aI λd=>?_;repeat' (first |exact trivial |exact mX |exact dx |exact iz |refine aj ?_ λ_=>?_ |split |dsimp only)
theorem Is{t:TypeId}{x:Value}{f:Nat}:Ns P (Instr.field t x f):=aj aI λd=>by
 split
 .
  split
  .
   grind [aj,Iz,iz]
  .
   trivial
 .
  trivial
theorem Cc{x:Value}{i:Nat}:Ns P (Instr.extract x i):=by
 unfold Instr.extract;split
 .split <;> trivial
 .trivial
end
section
variable {P:Program}
def Pq{α:Type}(P:Program)(q:α->Prop):Sem α->Prop
 | .pure a=>q a
 | .load _ _ k=>∀v,Pq P q (k v)
 | .store _ _ _ k=>Pq P q k
 | .new _ k=>∀r,Pq P q (k r)
 | .shape _ k=>∀x,Pq P q (k x)
 | .freeze _ _ k=>Pq P q k
 | .frozen _ k=>∀x,Pq P q (k x)
 | .getObj _ k=>∀o,calm o=true->Pq P q (k o)
 | .setObj _ _ k=>Pq P q k
 | .choose _ k=>∀n,Pq P q (k n)
 | .sys _ k=>∀r,Pq P q (k r)
 | .program k=>Pq P q (k P)
 | .mark _ k=>Pq P q k
 | .halt _=>True
theorem lx{α β:Type}{q:α->Prop}{s:Sem α}{f:α->Sem β}(hs:Ns P s)(hq:Pq P q s)(hf:∀a,q a->Ns P (f a)):Ns P (s >>=f):=by
 show Ns P (s.bind f)
 have hb:∀{γ:Type} {t:Sem γ} {g:γ->Sem β},Hs P t->Hs P (t.bind g):=λ{γ t g} h=>by
  induction t with
  |pure a=>exact h.elim
  |load m a k ih=>exact λv=>ih v (h v)
  |store m a v k ih=>exact ih h
  |new o k ih=>exact λr=>ih r (h r)
  |shape r k ih=>exact λx=>ih x (h x)
  |freeze a n k ih=>exact ih h
  |frozen a k ih=>exact λx=>ih x (h x)
  |getObj r k ih=>exact λo=>ih o (h o)
  |setObj r o k ih=>exact ih h
  |choose q k ih=>exact λn=>ih n (h n)
  |sys c k ih=>exact λr=>ih r (h r)
  |program k ih=>exact ih P h
  |mark m k ih=>exact ih h
  |halt h=>trivial
 induction s with
 |pure a=>exact hf a hq
 |load m a k ih=>exact⟨hs.1,λv=>ih v (hs.2 v) (hq v)⟩
 |store m a v k ih=>exact⟨hs.1,ih hs.2 hq⟩
 |new o k ih=>exact⟨hs.1,λr=>ih r (hs.2 r) (hq r)⟩
 |shape r k ih=>exact λx=>hb (hs x)
 |freeze a n k ih=>exact hs.elim
 |frozen a k ih=>exact λx=>hb (hs x)
 |getObj r k ih=>exact λo ho=>ih o (hs o ho) (hq o ho)
 |setObj r o k ih=>exact⟨hs.1,ih hs.2 hq⟩
 |choose q k ih=>exact λn=>ih n (hs n) (hq n)
 |sys c k ih=>exact hs.elim
 |program k ih=>exact ih P hs hq
 |mark m k ih=>exact⟨hs.1,ih hs.2 hq⟩
 |halt h=>trivial
theorem eS{α:Type}{r:Nat}{f:Obj->Sem α}(h:∀o,calm o=true->Ns P (f o)):Ns P (getObj r >>=f):=h
theorem fA{r:Nat}{o:Obj}(h:calm o=true):Ns P (setObj r o):=⟨h,trivial⟩
theorem ql{α β:Type}{f:α->β->Sem (ForInStep β)}(h:∀a b,Ns P (f a b)):∀(l:List α) (b:β),Ns P (forIn l b f)
 |[],_=>by rw [forIn_nil];trivial
 |a::l,b=>by
  rw [forIn_cons]
  refine aj (h a b) λx=>?_
  cases x with
  |done b=>trivial
  |yield b=>exact ql h l b
theorem oI{α β:Type}{f:α->β->Sem (ForInStep β)}(h:∀a b,Ns P (f a b))(l:Array α)(b:β):Ns P (forIn l b f):=by
 rw [<-forIn_toList];exact ql h _ _
theorem oH{β:Type}{n:Nat}{f:Nat->β->Sem (ForInStep β)}(h:∀a b,Ns P (f a b))(b:β):Ns P (forIn [0:n] b f):=by
 simp_all [Std.Legacy.Range.forIn_eq_forIn_range',ql]
theorem yb{α β:Type}{q:β->Prop}{s:Sem α}{f:α->Sem β}(h:∀a,Pq P q (f a)):Pq P q (s >>=f):=by
 show Pq P q (s.bind f)
 induction s with
 |pure a=>exact h a
 |load m a k ih=>exact λv=>ih v
 |store m a v k ih=>exact ih
 |new o k ih=>exact λr=>ih r
 |shape r k ih=>exact λx=>ih x
 |freeze a n k ih=>exact ih
 |frozen a k ih=>exact λx=>ih x
 |getObj r k ih=>exact λo _=>ih o
 |setObj r o k ih=>exact ih
 |choose q k ih=>exact λn=>ih n
 |sys c k ih=>exact λr=>ih r
 |program k ih=>exact ih P
 |mark m k ih=>exact ih
 |halt h=>trivial
theorem PH{cs:Array Value}(h:cs.toList.all uQ=true){i:Nat}{v:Value}(hv:cs[i]? =some v):uQ v=true:=by
 grind
theorem Lu{v:Value}(h:uQ v=true):kU v=true:=by cases v <;> first |exact h |cases h
theorem po{t:TypeId}{cs:Array Value}{off:Nat}(h:cs.toList.all uQ=true):Pq P (λv=>kU v=true) (part t cs off):=by
 have hx:∀a b,kU (.agg (cs.extract a b))=true:=λa b=>by
  show(cs.extract a b).toList.all uQ=true;grind
 unfold part;refine yb λb=>?_;split
 .exact yb λn=>hx _ _
 .split
  .rename_i v hv;exact Lu (PH h hv)
  .trivial
theorem pq{cs:Array Value}(h:kU (.agg cs)=true):cs.toList.all uQ=true:=h
theorem lY{e:Bool}:∀(n:Nat) (t:TypeId) (v:Value),kU v=true->Ns P (Instr.checkKey e n t v)
 |0,_,_,_=>trivial
 |n+1,t,v,hv=>by
  unfold Instr.checkKey
  refine aj aI λd=>?_
  split
  .
   cases hv
  .
   refine aj (oH (λi _=>aj dx λ_=>lx iz (po (pq hv)) λx hx=>aj (lY n _ _ hx) λ_=>cI) _) λ_=>cI
  .
   refine aj (oI (λf _=>?_) _ _) λ_=>cI
   split
   .
    exact lx iz (po (pq hv)) λx hx=>aj (lY n _ _ hx) λ_=>cI
   .
    exact cI
  .
   trivial
  .
   trivial
  .
   trivial
  .
   trivial
  .
   trivial
theorem qm:∀(n:Nat) (t:TypeId) (x y:Value),kU x=true->kU y=true->Ns P (Op.equalIn n t x y)
 |0,_,_,_,_,_=>trivial
 |n+1,t,x,y,hx,hy=>by
  unfold Op.equalIn
  refine aj aI λd=>?_
  split <;> first
   |trivial
   |(cases hx;done)
   |(cases hy;done)
   |(split <;> trivial)
   |skip
  .
   refine lw ?_
   dsimp only
   split
   .
    trivial
   .
    refine aj (oI (λf _=>?_) _ _) λs=>?_
    .
     split
     .
      refine lx iz (po (pq hx)) λx1 h1=>lx iz (po (pq hy)) λy1 h2=>aj (qm n _ _ _ h1 h2) λb=>?_
      split <;> trivial
     .
      trivial
    .
     split <;> trivial
  .
   refine aj dx λm=>aj (oH (λi _=>?_) _) λs=>?_
   .
    refine lx iz (po (pq hx)) λx1 h1=>lx iz (po (pq hy)) λy1 h2=>aj (qm n _ _ _ h1 h2) λb=>?_
    split <;> trivial
   .
    dsimp only
    split <;> trivial
theorem zX{t:TypeId}{x y:Value}(hx:kU x=true)(hy:kU y=true):Ns P (Op.equal t x y):=qm _ _ _ _ hx hy
theorem pU{t:TypeId}{k:Value}(hk:kU k=true):∀(es:List MapEntry) (i:Nat),es.all (λe=>kU e.key)=true->Ns P (Instr.findAsking t k es i)
 |[],_,_=>trivial
 |e::es,i,h=>by
  simp only [all_cons,Bool.and_eq_true] at h
  unfold Instr.findAsking
  refine aj (zX hk h.1) λb=>?_
  split
  .
   trivial
  .
   exact pU hk es _ h.2
theorem uV{t:TypeId}{k:Value}{es:List MapEntry}(hk:kU k=true)(h:es.all (λe=>kU e.key)=true):Ns P (Instr.findKey t k es):=by
 unfold Instr.findKey;refine aj aI λd=>?_;split
 .trivial
 simp_all [pU]
theorem Ft{t:TypeId}{x k:Value}{b:Bool}(hk:kU k=true):Ns P (Instr.lookup t x k b):=by
 unfold Instr.lookup
 refine aj aI λd=>?_
 split
 .
  have fin:∀(kt e:TypeId) (es:Array MapEntry),es.toList.all (λe=>kU e.key)=true->Ns P (do
   Instr.checkKey es.isEmpty 10000 kt k
   let (v,ok)<-match<-Instr.findKey kt k es.toList with
    |some (_,v)=>pure (v,true)
    |none=>pure (<-zeroValue e,false)
   pure (if b then .tuple #[v,.bool ok] else v):Sem Value):=λkt e es he=>by
   grind [aj,lY,uV,eY,cI]
  dsimp only
  split
  .
   exact fin _ _ _ rfl
  .
   refine eS λo ho=>?_
   split
   .
    exact fin _ _ _ ho
   .
    trivial
  .
   trivial
 .
  trivial
theorem zU{x y:Value}:Ns P (Instr.keyThatStays x y):=by
 grind [Instr.keyThatStays,aj,iM,cI]
theorem zL{q:Value->Prop}{x y:Value}(hx:q x)(hy:q y):Pq P q (Instr.keyThatStays x y):=by
 unfold Instr.keyThatStays;split
 .exact hy
 .refine yb λn=>?_;show q _;grind
theorem yG{es:Array MapEntry}(h:es.toList.all (λe=>kU e.key)=true){i:Nat}{f:MapEntry->MapEntry}(hf:∀e,kU e.key=true->kU (f e).key=true):(es.modify i f).toList.all (λe=>kU e.key)=true:=by
 grind
theorem AM{es:Array MapEntry}(h:es.toList.all (λe=>kU e.key)=true){i:Nat}{f:MapEntry->MapEntry}(hf:∀e,kU (f e).key=true):(es.modify i f).toList.all (λe=>kU e.key)=true:=by grind
theorem Jo{es:Array MapEntry}(h:es.toList.all (λe=>kU e.key)=true){k:Value}(hk:kU k=true)(i:Nat):kU (((es[i]?).map (·.key)).getD k)=true:=by
 grind
theorem F6{es:Array MapEntry}(h:es.toList.all (λe=>kU e.key)=true){e:MapEntry}(he:kU e.key=true):(es.push e).toList.all (λe=>kU e.key)=true:=by
 grind
theorem yg{t:TypeId}{m k x:Value}(hk:kU k=true):Ns P (Instr.mapUpdate t m k x):=by
 unfold Instr.mapUpdate;refine aj aI λd=>?_;split
 .split
  .exact fB
  .refine eS λo ho=>?_;split
   .refine aj (lY _ _ _ hk) λ_=>aj (uV hk ho) λr=>?_;split
    .exact lx (q:=λv=>kU v=true) zU (zL (Jo ho hk _) hk) λk' hk'=>fA (AM ho λ_=>hk')
    .exact fA (F6 ho hk)
   .trivial
  .trivial
 .trivial
theorem vZ{t:TypeId}{m s x:Value}:Ns P (Instr.entryStore t m s x):=by
 unfold Instr.entryStore;split
 .refine eS λo ho=>?_;split
  .refine aj rA λb=>?_;split
   .exact fA (yG ho λ_ h=>h)
   .trivial
  .trivial
 .trivial
theorem Il{t:TypeId}{x:Value}:Ns P (Instr.range t x):=by
 have fin:∀it:Obj,calm it=true->Ns P (do pure (.pointer (some ⟨<-newObj it,0,none⟩)):Sem Value):=λit h=>aj (⟨h,λ_=>trivial⟩:Ns P (newObj it)) λ_=>cI;unfold Instr.range;refine aj aI λd=>?_;dsimp only;split
 .exact fin _ rfl
 .exact fin _ rfl
 .refine eS λo ho=>?_;split
  .exact fin _ rfl
  .trivial
 .trivial
theorem Lp{it:Value}{b:Bool}{t:TypeId}:Ns P (Instr.next it b t):=by
 unfold Instr.next;split
 .refine eS λo ho=>?_;split
  .split
   .exact aj (fA rfl) λ_=>cI
   .trivial
  .trivial
  .refine eS λo ho=>?_;split
   .dsimp only;split
    .trivial
    .refine aj iM λn=>?_;split
     .exact aj (fA rfl) λ_=>cI
     .trivial
     .trivial
   .trivial
  .trivial
 .trivial
theorem Iw{it:Value}:Ns P (Instr.entry it):=by
 unfold Instr.entry;repeat' (first |exact trivial |refine eS λo ho=>?_ |split |dsimp only)
theorem vY{x:Value}{s t:TypeId}{b:Bool}:Ns P (Instr.typeAssert x s t b):=by
 unfold Instr.typeAssert;refine aj aI λd=>?_;repeat' (first |exact trivial |exact fB |exact eY |exact fP |refine aj ?_ λ_=>?_ |split |dsimp only)
end
end K
