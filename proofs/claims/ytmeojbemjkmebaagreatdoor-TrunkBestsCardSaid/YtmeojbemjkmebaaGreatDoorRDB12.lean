import Derived.Test.YtmeojbemjkmebaaGreatDoorRDB6
import Derived.Test.YtmeojbemjkmebaaGreatDoorRDB5
import Derived.Test.YtmeojbemjkmebaaGreatDoorRDB7
import Derived.Test.YtmeojbemjkmebaaGreatDoorRDF2
set_option linter.unusedSimpArgs false
set_option linter.unusedVariables false
namespace Go.Proofs.YtmeojbemjkmebaaGreatDoor
namespace K
open Go Go.ChangeShapes Go.WideShapes Go.ChangeAt Go.RowKit
@[reducible] def j7:Ty→Bool
 | .int _=>true
 | .bool=>true
 | .str=>true
 | .pair a b=>j7 a && j7 b
 | .agg t=>j7 t
 | .arr _ t=>j7 t
 | .slice t=>j7 t && Nat.blt 0 t.cells
 |_=>false
def xH:Value→Bool
 | .iface _ _=>true
 |_=>false
theorem vD{α:Type}{R:α→List Value→Prop}(h:∀x cs,R x cs→∀v∈cs,xH v=false):∀{l:List α} {cs:List Value},cN R l cs→∀v∈cs,xH v=false
 |[],_,e=>by simp [cN] at e;simp [e]
 |_::_,_,⟨c1,c2,e,h1,h2⟩=>by
  subst e
  intro v hv
  rcases List.mem_append.1 hv with hv |hv
  ·
   exact h _ _ h1 v hv
  ·
   exact vD h h2 v hv
theorem P7{S:FS}{w:World}(t:Ty):∀{x:t.den} {cs:List Value},j7 t=true→rd S w t x cs→∀v∈cs,xH v=false:=by
 induction t with
 |int k=>intro x cs _ h v hv;simp only [rd] at h;subst h;simp at hv;subst hv;rfl
 |bool=>intro x cs _ h v hv;simp only [rd] at h;subst h;simp at hv;subst hv;rfl
 |str=>intro x cs _ h v hv;simp only [rd] at h;subst h;simp at hv;subst hv;rfl
 |pair a b iha ihb=>
  rintro x cs hp ⟨c1,c2,rfl,h1,h2⟩ v hv;simp [j7] at hp;rcases List.mem_append.1 hv with hv |hv
  ·exact iha hp.1 h1 v hv
  ·exact ihb hp.2 h2 v hv
 |agg t ih=>intro x cs hp h;exact ih hp h
 |arr n t ih=>intro l cs hp h;exact vD (fun _ _ h=>ih hp h) h.2
 |slice t ih=>
  intro l cs hp h v hv;rcases h with⟨a,cap,rfl,_⟩ |⟨b,off,cap,c,T,fz,rfl,_⟩ <;> (simp at hv;subst hv;rfl)
 |_=>intro x cs hp;cases hp
theorem KC{S:FS}{w:World}{b0:Nat}{c0:Array Value}{T0:TypeId}{fz0:Nat×Nat}(h0:w.heap[b0]? =some (.cells c0 T0 fz0))(hc:∀v∈c0.toList,xH v=true)(t:Ty):
 ∀{x:t.den} {cs:List Value},j7 t=true→rd S w t x cs→rd (fun b=>S b∧b≠b0) w t x cs:=by
 induction t with
 |int k=>intro x cs _ h;exact h
 |bool=>intro x cs _ h;exact h
 |str=>intro x cs _ h;exact h
 |pair a b iha ihb=>
  rintro x cs hp ⟨c1,c2,rfl,h1,h2⟩;simp [j7] at hp;exact⟨c1,c2,rfl,iha hp.1 h1,ihb hp.2 h2⟩
 |agg t ih=>intro x cs hp h;exact ih hp h
 |arr n t ih=>intro l cs hp h;exact⟨h.1,bB (fun _ _ h=>ih hp h) h.2⟩
 |slice t ih=>
  intro l cs hp h;have hp1:j7 t=true:=by simp [j7] at hp;exact hp.1
  have hp2:0 < t.cells:=by simp [j7] at hp;exact hp.2
  rcases h with h |⟨b,off,cap,c,T,fz,rfl,hle,hS,hb,hr⟩
  ·exact .inl h
  ·by_cases hl:l=[]
   ·subst hl;exact .inl ⟨_,cap,rfl,rfl⟩
   ·refine .inr ⟨b,off,cap,c,T,fz,rfl,hle,⟨hS,fun e=>?_⟩,hb,bB (fun _ _ h=>ih hp1 h) hr⟩;subst e;rw [h0] at hb;cases hb;have hlen:=ia (fun _ _ h=>aM t h) hr;have hno:=vD (fun _ _ h=>P7 t hp1 h) hr;have hpos:0 < l.length:=List.length_pos_iff.2 hl;have:0 < ((c0.toList.drop off).take (l.length * t.cells)).length:=by rw [hlen];exact Nat.mul_pos hpos hp2
    obtain⟨v,hv⟩:=List.exists_mem_of_length_pos this;have h1:=hno v hv;have h2:=hc v (List.mem_of_mem_drop (List.mem_of_mem_take hv));rw [h1] at h2;cases h2
 |_=>intro x cs hp;cases hp
theorem xZ{S:FS}{w:World}{b0:Nat}{c0:Array Value}{T0:TypeId}{fz0:Nat×Nat}(h0:w.heap[b0]? =some (.cells c0 T0 fz0))(hc:∀v∈c0.toList,xH v=true):
 ∀{ts:List (TypeId×Ty)} {uz:List A} {vs:List Value},(∀p∈ts,j7 p.2=true)→Lk ts uz→gg S w uz vs→gg (fun b=>S b∧b≠b0) w uz vs
 |[],uz,vs,_,hl,h=>by
  have hl:uz=[]:=hl
  subst hl
  exact h
 |p::ts,uz,vs,hp,hl,h=>by
  obtain⟨d,uz',rfl,hl'⟩:=hl
  obtain⟨v,vs',e,⟨cs,hr,hv⟩,h2⟩:=h
  exact⟨v,vs',e,⟨cs,KC h0 hc p.2 (hp p (by simp)) hr,hv⟩,xZ h0 hc (fun q hq=>hp q (by simp [hq])) hl' h2⟩
section
variable {H:Type}{enc:TypeId×Value→H}{P:Program}
theorem A7{M:Md P}{f:Nat}{fn:Func}{B:TypeId}{s:ChangeSpec}{b0:Nat}{c0:Array Value}{T0:TypeId}{p0:Obj→Prop}(hp0:∀o,p0 o↔o= .cells c0 T0 (0,0))(hc0:∀v∈c0.toList,xH v=true)
 (ts:List (TypeId×Ty)) (hpl:∀p∈ts,j7 p.2=true) (hp:fn.params.toList=ts.map (·.1)) (hr:fn.resultTypes= #[B]) (hB:P.underlying B=some .bool)
 (hm:∀p∈ts,MT P p.2 (.inl p.1)) (laid:laidOutB P=true) (hT:∀T∈ts.map (·.1),P.readableRec T=true∧T < P.types.size)
 (hs:∀ds:List (DataW H),ds.length=ts.length→s.fn H ds={ results:=[.lit (.bool true)],args:=ds }) (hv:s.vars=[])
 (law:∀uz,Lk ts uz→dC M f uz [.inv b0 p0] (fun _:Unit=>(bj [.eq (.bool true)],[.inv b0 p0])))
 (W:World) (base:Nat) (args:Array Value) (ds gs:List (DataW H)) (before:List MemPlace) (hb0:W.heap[b0]? =some (.cells c0 T0 (0,0)))
 (hval:∀(j:Nat) t v,fn.params[j]? =some t→args[j]? =some v→Value.okWide P W .any base t v)
 (hW:DataW.Whole enc P fn.params.toList s.vars false W args.toList ds gs before):
 nj M .normal f args (vw W) fun e W'=>∃v,e= .returned v∧∀v1,bY W' v1→s.post enc P fn false true false false W args v v1.toWorld:=by
 have hW':=hW
 obtain⟨p,q,hA,hV,rfl,_,_⟩:=hW
 rw [hv] at hV
 obtain⟨rfl,rfl⟩:=trodVars_none hV
 have hlt:∀x∈p,x.block < W.heap.size:=hA.lt
 have hlen:=zJ hA
 rw [hp,List.length_map] at hlen
 rw [hp] at hA
 obtain⟨uz,hL,h2⟩:=ED (S:=fun b=>b < W.heap.size) (base:=base) hm (fun j t v h1 h2=>hval j t v (by rw [←hp] at h1;simpa using h1) (by simpa using h2)) hA hlt
 have h3:=xZ hb0 hc0 hpl hL h2
 have hlt0:b0 < W.heap.size:=(Array.getElem?_eq_some_iff.1 hb0).1
 have hft:∀b,aE [D.inv b0 p0] b↔b=b0:=fun b=>by
  rw [dE];exact⟨fun h=>(Option.some.inj h).symm,fun h=>by rw [h];rfl⟩
 have hO:bb [.inv b0 p0] (fun b=>b < W.heap.size∧b≠b0) (vw W):=by
  refine⟨fun d hd=>?_,fun b hb=>?_,List.pairwise_singleton _ _,fun b _=>⟨fun h=>h,fun h=>h⟩,fun _ _ h=>h,fun _ h=>h.elim,fun _ h=>h.elim⟩
  ·simp at hd;subst hd;exact⟨_,hb0,(hp0 _).2 rfl⟩
  ·rw [hft] at hb;subst hb;exact⟨fun h=>h.2 rfl,hlt0⟩
 have:=law uz hL .normal (fun e=>nomatch e) (fun b=>b < W.heap.size∧b≠b0) (vw W) args.toList (fun _ h=>h.1) h3 hO
 rw [Array.toArray_toList] at this
 refine this.mono ?_
 rintro e' W' ⟨_,S',v,rfl,h1,h2,h4,_⟩
 obtain rfl:v= .bool true:=h2
 refine⟨_,rfl,fun v1 hrel=>?_⟩
 have h5:=h4.rely h1.dom hrel
 replace h1:=h1.trans (bU.rely (X:=aE [D.inv b0 p0]) h1.dom hrel) fun b hb=>.inl hb
 obtain⟨o1,k0,k0'⟩:=h5.holds _ (List.mem_singleton.2 rfl)
 rw [(hp0 _).1 k0'] at k0
 have h6:bU (aE []) (fun b=>b < W.heap.size∧b≠b0) (vw W) S' v1:=by
  refine⟨h1.sub,fun b hb=>(h1.new b hb).imp id (Or.imp id fun hx=>absurd hb (h5.own b hx).1),h1.dom,h1.size,fun b hb ha hx=>?_,h1.os,h1.tape,h1.output,h1.subA,h1.oldA,h1.Z⟩;by_cases e:b=b0
  ·subst e;exact k0.trans hb0.symm
  ·exact h1.keep b hb ha (fun h=>e ((hft b).1 h))
 obtain⟨k1,k2⟩:=E8 (may:=(· ∈p++[])) h6
 have hk:∀b,b < W.heap.size→v1.heap[b]? =W.heap[b]? :=fun b hb=>h6.keep b hb (fun hx=>hx) (fun hx=>fw hx)
 refine Hw (pa:=p) (pv:=[]) hW' (fun _ _ _=>?_) (fun sp hsp=>?_) (fun _ _=>?_) rfl k1 k2 (ok_one hr rfl (okWide_bool_mk hB _))
 ·
  rw [hr,List.append_nil,hs ds hlen];exact trodAll_mk1 (shut_bool hB _)
 ·
  rw [hp,List.append_nil,hs ds hlen];exact Bi laid hk hT hA (fun x hx=>⟨hlt x hx,hsp x (by simpa using hx)⟩)
 ·
  rw [hv,List.append_nil,hs ds hlen];rfl
end
section
open Go.Conc
variable {H:Type}{enc:TypeId×Value→H}
theorem yN{a:Assume}{C:Checked}{os:Os}{f:FuncId}{fn:Func}{s:ChangeSpec}{conds:List PathCond}{apart fresh handsOn again:Bool}{X:World→Prop}
 (hX:∀(w w':World),w.heap=w'.heap→X w→X w') (own:ownKnob C.prog.godebug=none) (started:os.Started) (hfn:C.prog.funcs[f]? =some fn)
 (witness:∃(w:World) (tape:Tape) (i:Input),w.os=os∧(w.forCall tape i).Shaped C.prog∧i.vars=[]∧Input.okWide C.prog (w.forCall tape i) .any w.heap.size f i∧
  ((s.pre enc C.prog fn conds apart (w.forCall tape i).memory i.args∧X (w.forCall tape i).memory)∧sizedMet enc C.prog fn (OpenSpec.ofChange s) apart (w.forCall tape i).memory i.args)∧a.holds C.prog (lone (Frame.enter C.prog f i.args .normal) [] (w.forCall tape i)))
 (runs:∀(W:World) (base:Nat) (args:Array Value) (ds gs:List (DataW H)) (before:List MemPlace),W.ShapedOpen C.prog→
  (∀(j:Nat) t v,fn.params[j]? =some t→args[j]? =some v→Value.okWide C.prog W .any base t v)→
  DataW.Whole enc C.prog fn.params.toList s.vars apart W args.toList ds gs before→X W→
  a.holds C.prog (lone (Frame.enter C.prog f args .normal) [] W)→
  ∃M last o w' t',runNT C.prog (M+1) (solo (Conc.G (Frame.enter C.prog f args .normal) []) W) #[]=(.ended o w',t')∧runN C.prog M (solo (Conc.G (Frame.enter C.prog f args .normal) []) W)= .next last∧
   step C.prog last= .ended o w'∧Conc.Good C.prog (fun v W'=>s.post enc C.prog fn apart fresh handsOn again W args v W') last o w' t'):
 ReturnsInLeavingWide a C os f .any (fun w args=>(s.pre enc C.prog fn conds apart w args∧X w)∧sizedMet enc C.prog fn (OpenSpec.ofChange s) apart w args) (s.post enc C.prog fn apart fresh handsOn again):=by
 refine returnsInLeavingWide_of_good own started witness ?_
 intro w tape i _ hsh _ hok hpre hholds
 obtain⟨_,_,_,fn',hfn',_,_,_,_,hval⟩:=hok
 obtain rfl:fn'=fn:=Option.some.inj (hfn'.symm.trans hfn)
 obtain⟨⟨⟨ds,gs,before,hw,_⟩,hx⟩,_⟩:=hpre
 obtain⟨M,last,o,w',t',h1,h2,h3,h4⟩:=runs (w.forCall tape i) w.heap.size i.args ds gs before hsh hval (DataW.Whole.of_heap (w':=w.forCall tape i) (by rfl) hw) (hX _ _ (by rfl) hx) hholds
 exact⟨M,last,o,w',t',h1,h2,h3,h4.mono fun v hp=>ChangeSpec.post_blind hp⟩
end
end K
end Go.Proofs.YtmeojbemjkmebaaGreatDoor
namespace Go.Proofs.YtmeojbemjkmebaaGreatDoor
open K Go Go.Proofs
def W{α:Type}(x:Option α)(Q:α→Prop):Prop:=∃a,x=some a∧Q a
namespace W
variable {α β ε:Type}{Q:β→Prop}
theorem ret{a:β}(h:Q a):W (some a) Q:=⟨a,rfl,h⟩
theorem mono{x:Option β}{R:β→Prop}(h:W x R)(hq:∀a,R a→Q a):W x Q:=let ⟨a,e,r⟩:=h;⟨a,e,hq a r⟩
theorem bind{x:Option α}{f:α→Option β}{R:α→Prop}(h:W x R)(hf:∀a,R a→W (f a) Q):W (x.bind f) Q:=by
 obtain⟨a,rfl,r⟩:=h;exact hf a r
theorem ck{n:Int}{f:Int→Option β}(h1: -9223372036854775808≤n)(h2:n≤9223372036854775807)(hf:W (f n) Q):W ((K.ck n).bind f) Q:=by
 rw [K.ck,if_pos ⟨h1,h2⟩];exact hf
theorem chk{p:Prop}[Decidable p]{f:Unit→Option β}(h:p)(hf:W (f ()) Q):W ((cU p).bind f) Q:=by
 rw [cU,if_pos h];exact hf
theorem at_{l:List α}{i:Int}{f:α→Option β}(h0:0≤i)(h1:i < l.length)(hf:∀x,l[i.toNat]? =some x→W (f x) Q):W ((aQ l i).bind f) Q:=by
 have:i.toNat < l.length:=by omega
 rw [aQ,if_pos h0,List.getElem?_eq_getElem this];exact hf _ (List.getElem?_eq_getElem this)
theorem ite{p:Prop}[Decidable p]{a b:Option β}(h1:p→W a Q)(h2:¬p→W b Q):W (if p then a else b) Q:=by
 split
 ·exact h1 ‹_›
 ·exact h2 ‹_›
theorem iteB{p:Prop}[Decidable p]{a b:Option α}{f:α→Option β}(h1:p→W (a.bind f) Q)(h2:¬p→W (b.bind f) Q):W ((if p then a else b).bind f) Q:=by
 split
 ·exact h1 ‹_›
 ·exact h2 ‹_›
theorem bEE{x:Option (Except ε α)}{g:ε→Option β}{f:α→Option β}{R:Except ε α→Prop}(h:W x R)(hg:∀e,R (.error e)→W (g e) Q)(hf:∀a,R (.ok a)→W (f a) Q):W (K.bE x g f) Q:=by
 obtain⟨a,rfl,r⟩:=h;cases a with
 |error e=>exact hg e r
 |ok a=>exact hf a r
theorem loop{T:Type}{f:Nat→T→Option β}(I:Nat→T→Prop)(step:∀aS m y,I m y→(∀m' y',m' < m→I m' y'→W (f aS y') Q)→W (f (aS+1) y) Q):∀m aS y,m < aS→I m y→W (f aS y) Q:=by
 intro m
 induction m using Nat.strongRecOn with
 |_ m ih=>
  intro aS y hm hI;cases aS with
  |zero=>omega
  |succ aS=>exact step aS m y hI fun m' y' h hI'=>ih m' h aS y' (by omega) hI'
end W
theorem wrap_u64(n:Int):0≤IntKind.u64.wrap n∧IntKind.u64.wrap n < 18446744073709551616:=by
 have h1:=Int.emod_nonneg n (show(18446744073709551616:Int)≠0 by decide);have h2:=Int.emod_lt_of_pos n (show(0:Int) < 18446744073709551616 by decide)
 have e:IntKind.u64.wrap n=n % 18446744073709551616:=by
  simp [IntKind.wrap,IntKind.signed,IntKind.bits]
 rw [e];exact⟨h1,h2⟩
theorem zy{n:Int}(h0:0≤n)(h1:n < 18446744073709551616):IntKind.u64.wrap n=n:=by
 have e:IntKind.u64.wrap n=n % 18446744073709551616:=by
  simp [IntKind.wrap,IntKind.signed,IntKind.bits]
 rw [e];exact Int.emod_eq_of_lt h0 h1
def Lo(l:bV)(m:Int):Prop:=0≤l.2.1∧l.2.1≤m
theorem K0{k:Nat}{l:bV}{m:Int}(h:Lo l m)(hm:m≤1000000000):W (jx k l) fun r=>0≤r.1∧r.1 < 72057594037927936∧Lo r.2 (m+1):=by
 obtain⟨h0,h1⟩:=h;unfold jx
 have fin:∀x:Int,W ((K.ck (l.2.1+1)).bind fun x4=>some (iE .u64 (rK .u64 (IntKind.u64.wrap ((rK .u64 x (iE .u64 x (29:Int))) * (2685821657736338717:Int))) (iE .u64 (IntKind.u64.wrap ((rK .u64 x (iE .u64 x (29:Int))) * (2685821657736338717:Int))) (32:Int))) (8:Int),(l.1,x4,x)))
  fun r=>0≤r.1∧r.1 < 72057594037927936∧Lo r.2 (m+1):=fun x=>by
  refine W.ck (by omega) (by omega) (W.ret ?_)
  generalize IntKind.u64.wrap ((rK .u64 x (iE .u64 x (29:Int))) * (2685821657736338717:Int))=y
  have hx:0≤rK .u64 y (iE .u64 y 32)∧rK .u64 y (iE .u64 y 32) < 18446744073709551616:=wrap_u64 _
  have e:iE .u64 (rK .u64 y (iE .u64 y 32)) 8=(rK .u64 y (iE .u64 y 32)) / 256:=by
   unfold iE;rw [Int.fdiv_eq_ediv_of_nonneg _ (by decide)];rfl
  refine⟨?_,?_,?_,?_⟩
  ·
   show 0≤iE .u64 (rK .u64 y (iE .u64 y 32)) 8;rw [e];omega
  ·
   show iE .u64 (rK .u64 y (iE .u64 y 32)) 8 < _;rw [e];omega
  ·
   show 0≤l.2.1+1;omega
  ·
   show l.2.1+1≤m+1;omega
 refine W.iteB (fun hlt=>?_) (fun _=>fin _);cases hg:aQ l.1 l.2.1 with
 |some v=>exact fin _
 |none=>
  exfalso;have:l.2.1.toNat < l.1.length:=by omega
  rw [aQ,if_pos h0,List.getElem?_eq_getElem this] at hg;cases hg
theorem rX{k:Nat}{l:bV}{m n:Int}(h:Lo l m)(hm:m≤1000000000)(hn:n≤1000000000):W (dW k l n) fun r=>0≤r.1∧(0≤n→r.1≤n)∧Lo r.2 (m+1):=by
 unfold dW;refine W.ite (fun h1=>W.ret ⟨Int.le_refl 0,fun h=>h,h.1,by show l.2.1≤m+1;have:=h.2;omega⟩) (fun h1=>?_);refine W.bind (K0 h hm) fun r hr=>?_;refine W.ck (by omega) (by omega) ?_;have e:IntKind.u64.wrap (n+1)=n+1:=zy (by omega) (by omega);refine W.chk (by rw [e];omega) ?_;rw [e];have h2:Int.tmod r.1 (n+1)=r.1 % (n+1):=Int.tmod_eq_emod_of_nonneg hr.1;have h3:=Int.emod_nonneg r.1 (show n+1≠0 by omega);have h4:=Int.emod_lt_of_pos r.1 (show 0 < n+1 by omega);rw [h2];refine W.ck (by omega) (by omega) (W.ret ⟨h3,fun _=>by show r.1 % (n+1)≤n;omega,hr.2.2⟩)
theorem IG{k:Nat}{l:bV}{m a b:Int}(h:Lo l m)(hm:m≤1000000000)(ha:0≤a)(hab:a≤b)(hb:b≤1000000):W (fe k l a b) fun r=>a≤r.1∧r.1≤b∧Lo r.2 (m+1):=by
 unfold fe;refine W.ck (by omega) (by omega) (W.bind (rX h hm (by omega)) fun r hr=>?_);have:=hr.2.1 (by omega);refine W.ck (by omega) (by omega) (W.ret ⟨by show a≤a+r.1;omega,by show a+r.1≤b;omega,hr.2.2⟩)
theorem D6{k:Nat}{l:bV}{m a:Int}(h:Lo l m)(hm:m≤1000000000)(ha:0≤a)(hb:a≤1000000):W (gd k l a) fun r=>Lo r.2 (m+1):=by
 unfold gd;exact W.ck (by omega) (by omega) (W.bind (rX h hm (by omega)) fun r hr=>W.ret hr.2.2)
theorem M6{k:Nat}{l:bV}{m:Int}{some_:List Int}(h:Lo l m)(hm:m≤1000000000)(h0:0 < some_.length)(h1:some_.length≤1000000):W (jS k l some_) fun r=>r.1∈some_∧Lo r.2 (m+1):=by
 unfold jS;refine W.ck (by omega) (by omega) (W.bind (rX h hm (by omega)) fun r hr=>?_);have:=hr.2.1 (by omega);refine W.at_ hr.1 (by omega) fun x hx=>W.ret ⟨List.mem_of_getElem? hx,hr.2.2⟩
theorem cD{α:Type}{l:List α}{i:Nat}(h:i < l.length):aQ l (i:Int)=some l[i]:=by
 rw [aQ,if_pos (by omega)];exact List.getElem?_eq_getElem h
section
variable {α β γ ε σ T:Type}
theorem bs{a:α}{f:α→Option β}:(some a).bind f=f a:=by cases h:f a <;> simp [h]
theorem bh{n:Int}(h1: -9223372036854775808≤n)(h2:n≤9223372036854775807):K.ck n=some n:=by rw [K.ck,if_pos ⟨h1,h2⟩]
theorem bR{p:Prop}[Decidable p](h:p):cU p=some ():=by rw [cU,if_pos h]
theorem oH{l:List α}{i:Int}(h0:0≤i)(h:i.toNat < l.length):aQ l i=some l[i.toNat]:=by rw [aQ,if_pos h0];exact List.getElem?_eq_getElem h
theorem oG{l:List α}{i:Int}{x:α}(h0:0≤i)(h:l[i.toNat]? =some x):aQ l i=some x:=by rw [aQ,if_pos h0];exact h
theorem mJ{a:α}{g:ε→Option β}{f:α→Option β}:K.bE (some (.ok a)) g f=f a:=by cases h:f a <;> simp [K.bE,h]
theorem sZ{e:ε}{g:ε→Option β}{f:α→Option β}:K.bE (some (.error e)) g f=g e:=by cases h:g e <;> simp [K.bE,h]
theorem BF{n:Nat}(h:n≤4294967296):bm n:=h
def AY(g:σ→Nat→α→σ):Nat→List α→σ→σ
 |_,[],s=>s
 |j,x::l,s=>AY g (j+1) l (g s j x)
theorem AX(l:List α)(mk:σ→Int→T)(g:σ→Nat→α→σ)(P:Nat→σ→Prop){f:Nat→T→Option β}(fin:σ→Option β)
 (step:∀n s (j:Nat) (h:j < l.length),P j s→f (n+1) (mk s j)=f n (mk (g s j l[j]) ((j:Int)+1))∧P (j+1) (g s j l[j]))
 (stop:∀n s,P l.length s→f (n+1) (mk s l.length)=fin s) {s0:σ} {n:Nat} (hn:l.length < n) (h0:P 0 s0):f n (mk s0 0)=fin (AY g 0 l s0)∧P l.length (AY g 0 l s0):=by
 have key:∀(m:List α) (pre:List α) (n:Nat) (s:σ),l=pre++m→m.length < n→P pre.length s→f n (mk s pre.length)=fin (AY g pre.length m s)∧P l.length (AY g pre.length m s):=by
  intro m
  induction m with
  |nil=>
   intro pre n s e hn hp;obtain⟨n,rfl⟩:∃n',n=n'+1:=⟨n - 1,by omega⟩;have:l.length=pre.length:=by rw [e];simp
   rw [←this] at hp⊢;exact⟨stop n s hp,hp⟩
  |cons x m ih=>
   intro pre n s e hn hp;simp only [List.length_cons] at hn;obtain⟨n,rfl⟩:∃n',n=n'+1:=⟨n - 1,by omega⟩;have hl:pre.length < l.length:=by rw [e];simp
   have hx:l[pre.length]=x:=by simp [e]
   obtain⟨h1,h2⟩:=step n s pre.length hl hp;rw [hx] at h1 h2;have:=ih (pre++[x]) n (g s pre.length x) (by rw [e];simp) (by omega) (by rw [List.length_append];exact h2);rw [List.length_append] at this;simp only [List.length_cons,List.length_nil,Nat.zero_add] at this;rw [h1];exact this
 have:=key l [] n s0 rfl hn h0
 exact this
def bL(g:σ→Nat→α→Except ε σ):Nat→List α→σ→Except ε σ
 |_,[],s=>.ok s
 |j,x::l,s=>match g s j x with
  | .error e=>.error e
  | .ok s'=>bL g (j+1) l s'
theorem xP(l:List α)(mk:σ→Int→T)(g:σ→Nat→α→Except ε σ)(P:Nat→σ→Prop){f:Nat→T→Option β}(fin:Except ε σ→Option β)
 (step:∀n s (j:Nat) (h:j < l.length),P j s→(∃e,g s j l[j]= .error e∧f (n+1) (mk s j)=fin (.error e))∨(∃s',g s j l[j]= .ok s'∧f (n+1) (mk s j)=f n (mk s' ((j:Int)+1))∧P (j+1) s'))
 (stop:∀n s,P l.length s→f (n+1) (mk s l.length)=fin (.ok s)) {s0:σ} {n:Nat} (hn:l.length < n) (h0:P 0 s0):f n (mk s0 0)=fin (bL g 0 l s0):=by
 have key:∀(m:List α) (pre:List α) (n:Nat) (s:σ),l=pre++m→m.length < n→P pre.length s→f n (mk s pre.length)=fin (bL g pre.length m s):=by
  intro m
  induction m with
  |nil=>
   intro pre n s e hn hp;obtain⟨n,rfl⟩:∃n',n=n'+1:=⟨n - 1,by omega⟩;have:l.length=pre.length:=by rw [e];simp
   rw [←this] at hp⊢;exact stop n s hp
  |cons x m ih=>
   intro pre n s e hn hp;simp only [List.length_cons] at hn;obtain⟨n,rfl⟩:∃n',n=n'+1:=⟨n - 1,by omega⟩;have hl:pre.length < l.length:=by rw [e];simp
   have hx:l[pre.length]=x:=by simp [e]
   rcases step n s pre.length hl hp with⟨e',h1,h2⟩ |⟨s',h1,h2,h3⟩
   ·rw [hx] at h1;rw [h2,bL,h1]
   ·rw [hx] at h1;have:=ih (pre++[x]) n s' (by rw [e];simp) (by omega) (by rw [List.length_append];exact h3);rw [List.length_append] at this;simp only [List.length_cons,List.length_nil,Nat.zero_add] at this;rw [h2,bL,h1];exact this
 exact key l [] n s0 rfl hn h0
end
section
variable {α β ε σ T:Type}
theorem nT{a b:α}:(if¬(true=true) then a else b)=b:=rfl
theorem nF{a b:α}:(if¬(false=true) then a else b)=a:=rfl
theorem iT{a b:α}:(if true=true then a else b)=a:=rfl
theorem iF{a b:α}:(if false=true then a else b)=b:=rfl
theorem q7(l:List α)(mk:σ→Int→T)(g:σ→Nat→α→Except ε σ)(P:Nat→σ→Prop){f:Nat→T→Option β}(fin:Except ε σ→Option β)
 (step:∀n s (j:Nat) (h:j < l.length),P j s→(f (n+1) (mk s j)=match g s j l[j] with | .error e=>fin (.error e) | .ok s'=>f n (mk s' ((j:Int)+1)))∧∀s',g s j l[j]= .ok s'→P (j+1) s')
 (stop:∀n s,P l.length s→f (n+1) (mk s l.length)=fin (.ok s)) {s0:σ} {n:Nat} (hn:l.length < n) (h0:P 0 s0):f n (mk s0 0)=fin (bL g 0 l s0):=
 xP l mk g P fin (fun n s j h hp=>by
  obtain⟨h1,h2⟩:=step n s j h hp
  cases e:g s j l[j] with
  |error e'=>left;rw [e] at h1;exact⟨e',rfl,h1⟩
  |ok s'=>right;rw [e] at h1;exact⟨s',rfl,h1,h2 s' e⟩) stop hn h0
end
theorem wd{α:Type}(p:α→Bool):∀(l:List α) (j:Nat),bL (fun(_:Unit) j x=>if p x then Except.error (j:Int) else .ok ()) j l ()=match l.findIdx? p with |some i=>.error ((i+j:Nat):Int) |none=>.ok ()
 |[],j=>by simp [bL]
 |x::l,j=>by
  rw [bL,List.findIdx?_cons]
  by_cases h:p x=true
  ·
   simp [h]
  ·
   simp only [h,if_false,Bool.false_eq_true]
   rw [wd p l (j+1)]
   cases l.findIdx? p with
   |none=>rfl
   |some i=>simp only [Option.map_some];congr 2;omega
theorem zS{k:Nat}{a b:List Int}(h:a.length < k)(hk:a.length≤1000000):dV k a b=some (decide (a=b)):=by
 unfold dV;by_cases hl:a.length=b.length
 ·rw [if_neg (by simp [hl])]
  have key:=xP (f:=dJ k a b) a (fun(_:Unit) j=>j) (fun _ j x=>if x=b[j]?.getD 0 then .ok () else Except.error false) (fun _ _=>True) (fun r=>some r)
   (fun n s j hj _=>by
    have hjb:j < b.length:=by omega
    have hb:b[j]?.getD 0=b[j]:=by simp [List.getElem?_eq_getElem hjb]
    have hck:ck ((j:Int)+1)=some ((j:Int)+1):=bh (by omega) (by omega);rw [hb];simp only [dJ,Int.ofNat_lt,hj,if_true,cD hj,cD hjb,bs];by_cases e:a[j]=b[j] <;> simp [e,hck])
   (fun n s _=>by simp [dJ]) (n:=k) (s0:=()) h trivial
  rw [show dJ k a b k 0=_ from key]
  have:∀(a:List Int) (j:Nat),a.length+j=b.length→bL (fun(_:Unit) j x=>if x=b[j]?.getD 0 then .ok () else Except.error false) j a ()=if a=b.drop j then .ok () else .error false:=by
   intro a
   induction a with
   |nil=>
    intro j hj;have:b.drop j=[]:=List.drop_eq_nil_of_le (by simp only [List.length_nil] at hj;omega);rw [this];simp [bL]
   |cons x a ih=>
    intro j hj;simp only [List.length_cons] at hj;have hjb:j < b.length:=by omega
    have hd:b.drop j=b[j]::b.drop (j+1):=List.drop_eq_getElem_cons hjb;have hb:b[j]?.getD 0=b[j]:=by simp [List.getElem?_eq_getElem hjb]
    rw [bL,hb,hd];by_cases e:x=b[j]
    ·have h2:(x::a=b[j]::b.drop (j+1))=(a=b.drop (j+1)):=propext ⟨fun h=>(List.cons.inj h).2,fun h=>by rw [h,e]⟩;rw [if_pos e];simp only [h2];exact ih (j+1) (by omega)
    ·have h2:¬(x::a=b[j]::b.drop (j+1)):=fun h=>e (List.cons.inj h).1;rw [if_neg e];simp only [h2,if_false]
  rw [this a 0 (by omega),List.drop_zero];by_cases e:a=b
  ·rw [if_pos e,mJ,decide_eq_true e]
  ·rw [if_neg e,sZ,decide_eq_false e]
 ·rw [if_pos (by omega),decide_eq_false (fun e=>hl (by rw [e]))]
def mK(s:Int):Prop:=0≤s∧s < 256
def fm(s:Int)(i:Nat):Prop:=s.toNat.testBit i=true
instance (s:Int) (i:Nat):Decidable (fm s i):=by unfold fm;infer_instance
theorem yh{x:Nat}(h:x < 256):IntKind.u8.wrap (x:Int)=x:=by
 have e:IntKind.u8.wrap (x:Int)=(x:Int) % 256:=by simp [IntKind.wrap,IntKind.signed,IntKind.bits]
 rw [e];omega
theorem pH{s:Int}(h:mK s):∃n:Nat,n < 256∧s=n:=⟨s.toNat,by have:=h.1;have:=h.2;omega,by have:=h.1;omega⟩
theorem CH{n:Nat}(h:n < 256):(BitVec.ofInt IntKind.u8.bits (n:Int)).toNat=n:=by
 show(BitVec.ofInt 8 (n:Int)).toNat=n;rw [BitVec.ofInt_natCast,BitVec.toNat_ofNat];exact Nat.mod_eq_of_lt h
theorem Iq{n m:Nat}(hn:n < 256)(hm:m < 256):n |||m < 256:=Nat.or_lt_two_pow (n:=8) hn hm
theorem K1{n m:Nat}(hn:n < 256):n &&& m < 256:=Nat.lt_of_le_of_lt Nat.and_le_left hn
theorem yP{a b:Int}(ha:mK a)(hb:mK b):mK (Ei .u8 a b)∧∀i,fm (Ei .u8 a b) i↔fm a i∨fm b i:=by
 obtain⟨n,hn,rfl⟩:=pH ha;obtain⟨m,hm,rfl⟩:=pH hb
 have e:Ei .u8 (n:Int) (m:Int)=((n |||m:Nat):Int):=by
  unfold Ei;rw [BitVec.toNat_or,CH hn,CH hm];exact yh (Iq hn hm)
 rw [e];refine⟨⟨by omega,by have:=Iq hn hm;omega⟩,fun i=>?_⟩;simp [fm,Nat.testBit_or]
theorem yy{x:Int}(h0:0≤x)(h8:x < 8):mK (na .u8 1 x)∧∀i:Nat,fm (na .u8 1 x) i↔(i:Int)=x:=by
 obtain⟨n,rfl⟩:=Int.eq_ofNat_of_zero_le h0;have hn:n < 8:=by omega
 have e:na .u8 1 (n:Int)=((2 ^ n:Nat):Int):=by
  unfold na
  have h1:min (Int.toNat (n:Int)) IntKind.u8.bits=n:=by
   show min n 8=n;omega
  rw [h1,Int.one_mul];have h2:2 ^ n < 256:=Nat.pow_lt_pow_right (by decide) hn;have h3:((2:Int) ^ n)=((2 ^ n:Nat):Int):=by simp
  rw [h3];exact yh h2
 rw [e];have h9:2 ^ n < 256:=Nat.pow_lt_pow_right (by decide) hn;refine⟨⟨Int.natCast_nonneg _,Int.ofNat_lt.2 h9⟩,fun i=>?_⟩;simp only [fm,Int.toNat_natCast,Nat.testBit_two_pow,decide_eq_true_eq];omega
theorem yR{k:Nat}{s:Int}(hs:mK s){i:Nat}(hi:i < 8):dY k s (i:Int)=some (decide (fm s i)):=by
 obtain⟨n,hn,rfl⟩:=pH hs;unfold dY;rw [cU,if_pos (by omega)];show some _=some _;congr 1
 have e1:iE .u8 (n:Int) (i:Int)=((n >>> i:Nat):Int):=by
  unfold iE
  have h1:min (Int.toNat (i:Int)) IntKind.u8.bits=i:=by
   show min i 8=i;omega
  have h3:((2:Int) ^ i)=((2 ^ i:Nat):Int):=by simp
  rw [h1,h3,Int.fdiv_eq_ediv_of_nonneg _ (Int.natCast_nonneg _),Nat.shiftRight_eq_div_pow];rfl
 have hlt:n >>> i < 256:=Nat.lt_of_le_of_lt (by rw [Nat.shiftRight_eq_div_pow];exact Nat.div_le_self _ _) hn
 have e2:wZ .u8 ((n >>> i:Nat):Int) 1=(((n >>> i) &&& 1:Nat):Int):=by
  unfold wZ;have h1:(BitVec.ofInt IntKind.u8.bits 1).toNat=1:=rfl;rw [BitVec.toNat_and,CH hlt,h1];exact yh (K1 hlt)
 rw [e1,e2]
 have e3:(((n >>> i) &&& 1:Nat):Int)=1↔fm (n:Int) i:=by
  rw [fm,Int.toNat_natCast,Nat.testBit];have h5:(n >>> i) &&& 1=1 &&& (n >>> i):=Nat.and_comm _ _;rw [h5];have h4:1 &&& (n >>> i) < 2:=Nat.lt_of_le_of_lt Nat.and_le_left (by decide);simp only [bne_iff_ne,ne_eq];omega
 exact decide_eq_decide.2 e3
abbrev aW:=Int×(List (Int×(List Int)))×(List Int)
def nY(t:aW)(d n:Int):Bool:=match t.2.1[n.toNat]? with
 |some x=>decide (d∈x.2)
 |none=>false
def GN(w:Int→Bool)(l:List Int):List Int:=l.filter (fun n=> !w n)++l.filter w
def dq(w:Int→Bool):Bool→List Int→List Int
 |_,[]=>[]
 |u,n::l=>if w n then dq w true l else if u then n::dq w u l else dq w u l
theorem qz{w:Int→Bool}{n:Int}:∀{l:List Int} {u:Bool},n∈dq w u l↔w n=false∧∃p s,l=p++n::s∧(u=true∨∃m∈p,w m=true)
 |[],u=>by simp [dq]
 |m::l,u=>by
  have cut:∀(u':Bool),(u'=true↔u=true∨w m=true)→((∃p s,m::l=p++n::s∧(u=true∨∃x∈p,w x=true))↔(m=n∧u=true)∨∃p s,l=p++n::s∧(u'=true∨∃x∈p,w x=true)):=fun u' hu=>by
   constructor
   ·
    rintro⟨p,s,e,h⟩
    cases p with
    |nil=>
     obtain⟨rfl,rfl⟩:=List.cons.inj e
     rcases h with h |⟨x,hx,_⟩
     ·
      exact .inl ⟨rfl,h⟩
     ·
      cases hx
    |cons y p=>
     obtain⟨rfl,rfl⟩:=List.cons.inj e
     refine .inr ⟨p,s,rfl,?_⟩
     rcases h with h |⟨x,hx,hw⟩
     ·
      exact .inl (hu.2 (.inl h))
     ·
      rcases List.mem_cons.1 hx with rfl |hx
      ·
       exact .inl (hu.2 (.inr hw))
      ·
       exact .inr ⟨x,hx,hw⟩
   ·
    rintro(⟨rfl,h⟩ |⟨p,s,rfl,h⟩)
    ·
     exact⟨[],l,rfl,.inl h⟩
    ·
     refine⟨m::p,s,rfl,?_⟩
     rcases h with h |⟨x,hx,hw⟩
     ·
      rcases hu.1 h with h |h
      ·
       exact .inl h
      ·
       exact .inr ⟨m,by simp,h⟩
     ·
      exact .inr ⟨x,by simp [hx],hw⟩
  rw [dq]
  cases hm:w m with
  |true=>
   rw [if_pos rfl,qz,cut true (by simp [hm])]
   constructor
   ·
    rintro⟨h,h'⟩;exact⟨h,.inr h'⟩
   ·
    rintro⟨h,⟨rfl,_⟩ |h'⟩
    ·
     rw [hm] at h;cases h
    ·
     exact⟨h,h'⟩
  |false=>
   rw [if_neg (by simp)]
   have hc:=cut u (by simp [hm])
   cases u with
   |true=>
    rw [if_pos rfl,List.mem_cons,qz,hc]
    constructor
    ·
     rintro(rfl |⟨h,h'⟩)
     ·
      exact⟨hm,.inl ⟨rfl,rfl⟩⟩
     ·
      exact⟨h,.inr h'⟩
    ·
     rintro⟨h,⟨rfl,_⟩ |h'⟩
     ·
      exact .inl rfl
     ·
      exact .inr ⟨h,h'⟩
   |false=>
    rw [if_neg (by simp),qz,hc]
    simp
theorem mj{w:Int→Bool}{l:List Int}:(GN w l).Perm l:=by
 unfold GN;exact List.perm_append_comm.trans (List.filter_append_perm w l)
theorem jd{w:Int→Bool}{l:List Int}{u:Bool}{n:Int}(h:n∈dq w u l):n∈l:=by
 obtain⟨_,p,s,rfl,_⟩:=qz.1 h;simp
theorem nq{k:Nat}{n a b:Int}:eD k n a b=some (decide (a≤n∧n≤b)):=by
 unfold eD;by_cases h:a≤n <;> simp [h]
theorem qA{k:Nat}{n a b:Int}:iP k n a b=some (decide (a≤n∧n≤b)):=by
 unfold iP;by_cases h:a≤n <;> simp [h]
def uS(days:Int)(l:List Int)(j:Nat)(x:Int):Except Int Unit:=
 if¬(0≤x∧x≤days - 1) then .error 1 else if 0 < j∧x≤l[j - 1]?.getD 0 then .error 5 else .ok ()
def kh(days:Int)(x:Int×(List Int)):Except Int Unit:=
 if¬(1≤x.1∧x.1≤3) then .error 1 else bL (fun _ j y=>uS days x.2 j y) 0 x.2 ()
def lu(n:Int):Except Int Unit:=if 0≤n∧n≤9 then .ok () else .error 1
def Ey{α:Type}:Except Int α→Int
 | .error e=>e
 | .ok _=>0
def jp(t:aW):Int:=
 if¬(1≤t.1∧t.1≤6) then 1 else if 5 < t.2.1.length then 6 else
  match bL (fun _ _ x=>kh t.1 x) 0 t.2.1 () with
  | .error e=>e
  | .ok _=>if t.2.2.length < 1 then 7 else if 3 < t.2.2.length then 6 else Ey (bL (fun _ _ n=>lu n) 0 t.2.2 ())
structure eS(k:Nat)(t:aW):Prop where
 k1:k≤1000000
 things:t.2.1.length < k
 worn:∀x∈t.2.1,x.2.length < k
 trunks:t.2.2.length < k
section
variable {k:Nat}{t:aW}
theorem Hv{l:List Int}{j:Nat}(h:j < l.length)(h0:0 < j):aQ l ((j:Int) - 1)=some (l[j - 1]?.getD 0):=by
 have e:((j:Int) - 1).toNat=j - 1:=by omega
 rw [aQ,if_pos (by omega),e,List.getElem?_eq_getElem (by omega)];rfl
theorem Jf{x:Int×(List Int)}(hk:k≤1000000)(hx:x.2.length < k)(hd:1≤t.1∧t.1≤6):dh k t x k 0=some (bL (fun _ j y=>uS t.1 x.2 j y) 0 x.2 ()):=
 q7 (f:=dh k t x) x.2 (fun(_:Unit) j=>j) (fun _ j y=>uS t.1 x.2 j y) (fun _ _=>True) (fun r=>some r)
  (fun n s j h _=>⟨by
   rw [dh,if_pos (Int.ofNat_lt.2 h),cD h,bs,bh (by omega) (by omega),bs,nq,bs]
   unfold uS
   by_cases c1:0≤x.2[j]∧x.2[j]≤t.1 - 1
   ·
    rw [decide_eq_true c1,nT,if_neg (not_not_intro c1)]
    by_cases c2:0 < j
    ·
     rw [if_pos (show(0:Int) < (j:Int) by omega),bh (by omega) (by omega),bs,Hv h c2,bs,bs]
     by_cases c3:x.2[j]≤x.2[j - 1]?.getD 0
     ·
      rw [decide_eq_true c3,iT,if_pos (show 0 < j∧x.2[j]≤x.2[j - 1]?.getD 0 from⟨c2,c3⟩)]
     ·
      rw [decide_eq_false c3,iF,if_neg (show¬(0 < j∧x.2[j]≤x.2[j - 1]?.getD 0) from fun h=>c3 h.2),bh (by omega) (by omega),bs]
    ·
     rw [if_neg (show¬(0:Int) < (j:Int) by omega),bs,iF,if_neg (show¬(0 < j∧x.2[j]≤x.2[j - 1]?.getD 0) from fun h=>c2 h.1),bh (by omega) (by omega),bs]
   ·
    rw [decide_eq_false c1,nF,if_pos (show¬(0≤x.2[j]∧x.2[j]≤t.1 - 1) from c1)],fun _ _=>trivial⟩)
  (fun n s _=>by rw [dh,if_neg (by omega)]) (s0:=()) (n:=k) hx trivial
theorem Jg{x:Int×(List Int)}(hk:k≤1000000)(hx:x.2.length < k)(hd:1≤t.1∧t.1≤6):fU k t x k 0=some (bL (fun _ j y=>uS t.1 x.2 j y) 0 x.2 ()):=
 q7 (f:=fU k t x) x.2 (fun(_:Unit) j=>j) (fun _ j y=>uS t.1 x.2 j y) (fun _ _=>True) (fun r=>some r)
  (fun n s j h _=>⟨by
   rw [fU,if_pos (Int.ofNat_lt.2 h),cD h,bs,bh (by omega) (by omega),bs,qA,bs]
   unfold uS
   by_cases c1:0≤x.2[j]∧x.2[j]≤t.1 - 1
   ·
    rw [decide_eq_true c1,nT,if_neg (not_not_intro c1)]
    by_cases c2:0 < j
    ·
     rw [if_pos (show(0:Int) < (j:Int) by omega),bs,bh (by omega) (by omega),bs,Hv h c2,bs,bs]
     by_cases c3:x.2[j]≤x.2[j - 1]?.getD 0
     ·
      rw [decide_eq_true c3,iT,if_pos (show 0 < j∧x.2[j]≤x.2[j - 1]?.getD 0 from⟨c2,c3⟩)]
     ·
      rw [decide_eq_false c3,iF,if_neg (show¬(0 < j∧x.2[j]≤x.2[j - 1]?.getD 0) from fun h=>c3 h.2),bh (by omega) (by omega),bs]
    ·
     rw [if_neg (show¬(0:Int) < (j:Int) by omega),bs,iF,if_neg (show¬(0 < j∧x.2[j]≤x.2[j - 1]?.getD 0) from fun h=>c2 h.1),bh (by omega) (by omega),bs]
   ·
    rw [decide_eq_false c1,nF,if_pos (show¬(0≤x.2[j]∧x.2[j]≤t.1 - 1) from c1)],fun _ _=>trivial⟩)
  (fun n s _=>by rw [fU,if_neg (by omega)]) (s0:=()) (n:=k) hx trivial
theorem G8{x:Int×(List Int)}(hk:k≤1000000)(hx:x.2.length < k)(hd:1≤t.1∧t.1≤6):iK k t x=some (Ey (kh t.1 x)):=by
 unfold iK kh;rw [nq,bs,Jf hk hx hd];by_cases c:1≤x.1∧x.1≤3
 ·rw [decide_eq_true c,nT,if_neg (not_not_intro c)];cases bL (fun _ j y=>uS t.1 x.2 j y) 0 x.2 () with
  |error e=>rw [sZ];rfl
  |ok u=>rw [mJ];rfl
 ·rw [decide_eq_false c,nF,if_pos (show¬(1≤x.1∧x.1≤3) from c)];rfl
theorem lb{α σ:Type}{g:σ→Nat→α→Except Int σ}(hg:∀s j x,g s j x≠.error 0):∀(l:List α) (j:Nat) (s:σ),bL g j l s≠.error 0
 |[],j,s=>by simp [bL]
 |x::l,j,s=>by
  rw [bL]
  cases h:g s j x with
  |error e=>intro h';rw [Except.error.inj h'] at h;exact hg _ _ _ h
  |ok s'=>exact lb hg l (j+1) s'
theorem AP{d:Int}{x:Int×(List Int)}:kh d x≠.error 0:=by
 unfold kh;split
 ·simp
 ·refine lb (fun s j y=>?_) _ _ _;unfold uS;split
  ·simp
  ·split <;> simp
theorem FR(h:eS k t)(hd:1≤t.1∧t.1≤6):fO k t k 0=some (bL (fun _ _ x=>kh t.1 x) 0 t.2.1 ()):=
 q7 (f:=fO k t) t.2.1 (fun(_:Unit) j=>j) (fun _ _ x=>kh t.1 x) (fun _ _=>True) (fun r=>some r)
  (fun n s j hj _=>⟨by
   rw [fO,if_pos (Int.ofNat_lt.2 hj),cD hj,bs,G8 h.k1 (h.worn _ (List.getElem_mem hj)) hd,bs]
   have h0:=AP (d:=t.1) (x:=t.2.1[j])
   have h1:=h.things
   have h2:=h.k1
   cases e:kh t.1 t.2.1[j] with
   |error e'=>rw [if_pos (show¬Ey (Except.error e':Except Int Unit)=0 from fun h=>h0 (by rw [e];exact congrArg _ h))];rfl
   |ok u=>rw [if_neg (show¬¬Ey (Except.ok u:Except Int Unit)=0 from fun h=>h rfl),bh (by omega) (by omega),bs],fun _ _=>trivial⟩)
  (fun n s _=>by rw [fO,if_neg (by omega)]) (s0:=()) (n:=k) h.things trivial
theorem FT(h:eS k t)(hd:1≤t.1∧t.1≤6):fV k t k 0=some (bL (fun _ _ x=>kh t.1 x) 0 t.2.1 ()):=
 q7 (f:=fV k t) t.2.1 (fun(_:Unit) j=>j) (fun _ _ x=>kh t.1 x) (fun _ _=>True) (fun r=>some r)
  (fun n s j hj _=>⟨by
   rw [fV,if_pos (Int.ofNat_lt.2 hj),cD hj,bs,qA,bs,bs,Jg h.k1 (h.worn _ (List.getElem_mem hj)) hd]
   have h1:=h.things
   have h2:=h.k1
   unfold kh
   by_cases c:1≤t.2.1[j].1∧t.2.1[j].1≤3
   ·
    rw [decide_eq_true c,nT,if_neg (not_not_intro c)]
    cases bL (fun _ j' y=>uS t.1 t.2.1[j].2 j' y) 0 t.2.1[j].2 () with
    |error e=>rw [sZ]
    |ok u=>rw [mJ,bh (by omega) (by omega),bs]
   ·
    rw [decide_eq_false c,nF,if_pos (show¬(1≤t.2.1[j].1∧t.2.1[j].1≤3) from c),sZ],fun _ _=>trivial⟩)
  (fun n s _=>by rw [fV,if_neg (by omega)]) (s0:=()) (n:=k) h.things trivial
theorem Ff(h:eS k t):fN k t k 0=some (bL (fun _ _ n=>lu n) 0 t.2.2 ()):=
 q7 (f:=fN k t) t.2.2 (fun(_:Unit) j=>j) (fun _ _ n=>lu n) (fun _ _=>True) (fun r=>some r)
  (fun n s j hj _=>⟨by
   rw [fN,if_pos (Int.ofNat_lt.2 hj),cD hj,bs,nq,bs]
   have h1:=h.trunks
   have h2:=h.k1
   unfold lu
   by_cases c:0≤t.2.2[j]∧t.2.2[j]≤9
   ·
    rw [decide_eq_true c,nT,if_pos c,bh (by omega) (by omega),bs]
   ·
    rw [decide_eq_false c,nF,if_neg c],fun _ _=>trivial⟩)
  (fun n s _=>by rw [fN,if_neg (by omega)]) (s0:=()) (n:=k) h.trunks trivial
theorem Fg(h:eS k t):fS k t k 0=some (bL (fun _ _ n=>lu n) 0 t.2.2 ()):=
 q7 (f:=fS k t) t.2.2 (fun(_:Unit) j=>j) (fun _ _ n=>lu n) (fun _ _=>True) (fun r=>some r)
  (fun n s j hj _=>⟨by
   rw [fS,if_pos (Int.ofNat_lt.2 hj),cD hj,bs,qA,bs]
   have h1:=h.trunks
   have h2:=h.k1
   unfold lu
   by_cases c:0≤t.2.2[j]∧t.2.2[j]≤9
   ·
    rw [decide_eq_true c,nT,if_pos c,bh (by omega) (by omega),bs]
   ·
    rw [decide_eq_false c,nF,if_neg c],fun _ _=>trivial⟩)
  (fun n s _=>by rw [fS,if_neg (by omega)]) (s0:=()) (n:=k) h.trunks trivial
theorem qH(h:eS k t):lJ k t=some (jp t):=by
 unfold lJ jp;rw [nq,bs];by_cases c:1≤t.1∧t.1≤6
 ·rw [decide_eq_true c,nT,if_neg (not_not_intro c),FR h c,Ff h];by_cases c1:5 < t.2.1.length
  ·rw [if_pos (show(5:Int) < (t.2.1.length:Int) by omega),if_pos c1]
  ·rw [if_neg (show¬(5:Int) < (t.2.1.length:Int) by omega),if_neg c1];cases bL (fun _ _ x=>kh t.1 x) 0 t.2.1 () with
   |error e=>rw [sZ]
   |ok u=>
    rw [mJ];by_cases c2:t.2.2.length < 1
    ·rw [if_pos (by omega)];simp only [c2,if_true]
    ·rw [if_neg (by omega)];by_cases c3:3 < t.2.2.length
     ·rw [if_pos (by omega)];simp only [c2,c3,if_true,if_false]
     ·rw [if_neg (by omega)];simp only [c2,c3,if_false];cases bL (fun _ _ n=>lu n) 0 t.2.2 () with
      |error e=>rw [sZ];rfl
      |ok u=>rw [mJ];rfl
 ·rw [decide_eq_false c,nF,if_pos (show¬(1≤t.1∧t.1≤6) from c)]
theorem qI(h:eS k t):lO k t=some (jp t):=by
 unfold lO jp;rw [qA,bs];by_cases c:1≤t.1∧t.1≤6
 ·rw [decide_eq_true c,nT,if_neg (not_not_intro c),FT h c,Fg h];by_cases c1:5 < t.2.1.length
  ·rw [if_pos (show(5:Int) < (t.2.1.length:Int) by omega),if_pos c1]
  ·rw [if_neg (show¬(5:Int) < (t.2.1.length:Int) by omega),if_neg c1];cases bL (fun _ _ x=>kh t.1 x) 0 t.2.1 () with
   |error e=>rw [sZ]
   |ok u=>
    rw [mJ];by_cases c2:t.2.2.length < 1
    ·rw [if_pos (by omega)];simp only [c2,if_true]
    ·rw [if_neg (by omega)];by_cases c3:3 < t.2.2.length
     ·rw [if_pos (by omega)];simp only [c2,c3,if_true,if_false]
     ·rw [if_neg (by omega)];simp only [c2,c3,if_false];cases bL (fun _ _ n=>lu n) 0 t.2.2 () with
      |error e=>rw [sZ];rfl
      |ok u=>rw [mJ];rfl
 ·rw [decide_eq_false c,nF,if_pos (show¬(1≤t.1∧t.1≤6) from c)]
end
theorem t8{α:Type}{f:α→Except Int Unit}:∀{l:List α} {j:Nat},bL (fun(_:Unit) _ x=>f x) j l ()= .ok ()→∀x∈l,f x= .ok ()
 |[],_,_,_,h=>by cases h
 |y::l,j,h,x,hx=>by
  rw [bL] at h
  cases e:f y with
  |error e'=>rw [e] at h;cases h
  |ok u=>
   rw [e] at h
   rcases List.mem_cons.1 hx with rfl |hx
   ·
    exact e
   ·
    exact t8 h x hx
structure jk(t:aW):Prop where
 days:1≤t.1∧t.1≤6
 things:t.2.1.length≤5
 sizes:∀x∈t.2.1,1≤x.1∧x.1≤3
 trunks:1≤t.2.2.length∧t.2.2.length≤3
 rooms:∀n∈t.2.2,0≤n∧n≤9
theorem oD{t:aW}(h:jp t=0):jk t:=by
 unfold jp at h;by_cases c:1≤t.1∧t.1≤6
 ·rw [if_neg (not_not_intro c)] at h;by_cases c1:5 < t.2.1.length
  ·rw [if_pos c1] at h;cases h
  ·rw [if_neg c1] at h;have h0:bL (fun(_:Unit) _ x=>kh t.1 x) 0 t.2.1 ()≠.error 0:=lb (fun _ _ _=>AP) _ _ _;cases e:bL (fun(_:Unit) _ x=>kh t.1 x) 0 t.2.1 () with
   |error e'=>rw [e] at h h0;exact absurd (congrArg _ h) h0
   |ok u=>
    rw [e] at h;have hi:=t8 e;by_cases c2:t.2.2.length < 1
    ·simp only [c2,if_true] at h;cases h
    ·by_cases c3:3 < t.2.2.length
     ·simp only [c2,c3,if_true,if_false] at h;cases h
     ·simp only [c2,c3,if_false] at h;refine⟨c,by omega,fun x hx=>?_,by omega,?_⟩
      ·have:=hi x hx;unfold kh at this;by_cases c4:1≤x.1∧x.1≤3
       ·exact c4
       ·rw [if_pos c4] at this;cases this
      ·have h1:bL (fun(_:Unit) _ n=>lu n) 0 t.2.2 ()≠.error 0:=lb (fun _ _ n=>by unfold lu;split <;> simp) _ _ _;cases e2:bL (fun(_:Unit) _ n=>lu n) 0 t.2.2 () with
       |error e'=>rw [e2] at h h1;exact absurd (congrArg _ h) h1
       |ok u=>
        intro n hn
        have:=t8 e2 n hn;unfold lu at this;by_cases c5:0≤n∧n≤9
        ·exact c5
        ·rw [if_neg c5] at this;cases this
 ·rw [if_pos c] at h;cases h
def nI(n:Nat)(met:List Int)(x:Int):Except Int (List Int):=if¬(0≤x∧x≤(n:Int) - 1) then .error 3 else if x∈met then .error 4 else .ok (met++[x])
def eN(t:aW)(x:Int):Int:=match t.2.1[x.toNat]? with |some y=>y.1 |none=>0
def cJ(t:aW):List Int→Int
 |[]=>0
 |x::l=>eN t x+cJ t l
def iH(t:aW)(met:List Int)(i:Nat)(l:List Int):Except Int (List Int):=
 match bL (fun m _ x=>nI t.2.1.length m x) 0 l met with
 | .error e=>.error e
 | .ok m=>if t.2.2[i]?.getD 0 < cJ t l then .error 12 else .ok m
def chkV(t:aW)(p:List (List Int)):Int:=
 if p.length < t.2.2.length then 7 else if t.2.2.length < p.length then 6 else
  match bL (iH t) 0 p [] with
  | .error e=>e
  | .ok m=>if m.length < t.2.1.length then 7 else 0
def pW(t:aW)(p:List (List Int)):Int:=if¬(jp t=0) then jp t else chkV t p
structure uG(n:Nat)(m:List Int):Prop where
 nd:m.Nodup
 rng:∀x∈m,0≤x∧x < (n:Int)
theorem uG.put{n:Nat}{m m':List Int}{x:Int}(h:uG n m)(e:nI n m x= .ok m'):m'=m++[x]∧uG n m'∧0≤x∧x < (n:Int):=by
 unfold nI at e;by_cases c:0≤x∧x≤(n:Int) - 1
 ·rw [if_neg (not_not_intro c)] at e;by_cases c1:x∈m
  ·rw [if_pos c1] at e;cases e
  ·rw [if_neg c1] at e;cases e;refine⟨rfl,⟨?_,fun y hy=>?_⟩,c.1,by omega⟩
   ·rw [List.nodup_append];exact⟨h.nd,by simp,fun a ha b hb=>by rw [List.mem_singleton] at hb;subst hb;exact fun e=>c1 (e▸ha)⟩
   ·rcases List.mem_append.1 hy with hy |hy
    ·exact h.rng y hy
    ·rw [List.mem_singleton] at hy;omega
 ·rw [if_pos c] at e;cases e
theorem uG.puts{n:Nat}:∀{l:List Int} {j:Nat} {m m':List Int},uG n m→bL (fun m _ x=>nI n m x) j l m= .ok m'→m'=m++l∧uG n m'∧∀x∈l,0≤x∧x < (n:Int)
 |[],_,m,m',h,e=>by simp only [bL] at e;cases e;exact⟨by simp,h,by simp⟩
 |x::l,j,m,m',h,e=>by
  rw [bL] at e
  cases e1:nI n m x with
  |error e'=>rw [e1] at e;cases e
  |ok m1=>
   rw [e1] at e
   obtain⟨rfl,h1,h2⟩:=h.put e1
   obtain⟨rfl,h3,h4⟩:=uG.puts h1 e
   refine⟨by simp,h3,fun y hy=>?_⟩
   rcases List.mem_cons.1 hy with rfl |hy
   ·
    exact h2
   ·
    exact h4 y hy
theorem tO:∀(n:Nat) (l:List Int),l.Nodup→(∀x∈l,0≤x∧x < (n:Int))→l.length≤n
 |0,l,_,h=>by
  cases l with
  |nil=>simp
  |cons x l=>have:=h x (by simp);omega
 |n+1,l,hn,h=>by
  have h1:=tO n (l.erase (n:Int)) (hn.erase _) (fun x hx=>by
   have h2:=(List.Nodup.mem_erase_iff hn).1 hx
   have:=h x h2.2
   have:=h2.1
   omega)
  have:l.length≤(l.erase (n:Int)).length+1:=by rw [List.length_erase];split <;> omega
  omega
theorem uG.len{n:Nat}{m:List Int}(h:uG n m):m.length≤n:=tO n m h.nd h.rng
theorem uG.full{n:Nat}{m:List Int}(h:uG n m):¬m.length < n↔∀i:Nat,i < n→(i:Int)∈m:=by
 constructor
 ·intro hl i hi;by_cases c:(i:Int)∈m
  ·exact c
  ·have:=tO n ((i:Int)::m) (List.nodup_cons.2 ⟨c,h.nd⟩) (fun x hx=>by
    rcases List.mem_cons.1 hx with rfl |hx
    ·omega
    ·exact h.rng x hx)
   simp only [List.length_cons] at this;omega
 ·intro ha hl
  have h1:((List.range n).map fun(i:Nat)=>(i:Int)).length≤m.length:=by
   have:∀(k:Nat) (q:List Int),(∀i:Nat,i < k→(i:Int)∈q)→k≤q.length:=by
    intro k
    induction k with
    |zero=>intros;omega
    |succ k ih=>
     intro q hq;have hk:=hq k (by omega);have h2:=ih (q.erase (k:Int)) (fun i hi=>(List.mem_erase_of_ne (by omega)).2 (hq i (by omega)));rw [List.length_erase,if_pos (by simpa using hk)] at h2;have:=List.length_pos_of_mem hk;omega
   have:=this n m ha;simpa using this
  simp at h1;omega
def ij(m:List Int):Int:=m.foldl (fun s x=>Ei .u8 s (na .u8 1 x)) 0
theorem C7{m:List Int}{x:Int}:ij (m++[x])=Ei .u8 (ij m) (na .u8 1 x):=by
 unfold ij;rw [List.foldl_append];rfl
theorem C9{m:List Int}(h:∀x∈m,0≤x∧x < 8):∀(s:Int),mK s→mK (m.foldl (fun s x=>Ei .u8 s (na .u8 1 x)) s)∧∀i:Nat,fm (m.foldl (fun s x=>Ei .u8 s (na .u8 1 x)) s) i↔fm s i∨(i:Int)∈m:=by
 induction m with
 |nil=>intro s hs;exact⟨hs,fun i=>by simp⟩
 |cons x m ih=>
  intro s hs;have hx:=h x (by simp);obtain⟨o1,o2⟩:=yy hx.1 hx.2;obtain⟨p1,p2⟩:=yP hs o1;obtain⟨q1,q2⟩:=ih (fun y hy=>h y (by simp [hy])) _ p1;refine⟨q1,fun i=>?_⟩;rw [List.foldl_cons,q2,p2,o2,List.mem_cons,or_assoc]
theorem pI{m:List Int}(h:∀x∈m,0≤x∧x < 8):mK (ij m)∧∀i:Nat,fm (ij m) i↔(i:Int)∈m:=by
 obtain⟨a,b⟩:=C9 h 0 ⟨by decide,by decide⟩;exact⟨a,fun i=>by rw [ij,b];simp [fm]⟩
theorem AG{a b:Int}(ha:mK a)(hb:mK b)(h:∀i:Nat,fm a i↔fm b i):a=b:=by
 obtain⟨n,hn,rfl⟩:=pH ha;obtain⟨m,hm,rfl⟩:=pH hb;congr 1;refine Nat.eq_of_testBit_eq fun i=>?_;have:=h i;simp only [fm,Int.toNat_natCast] at this;exact Bool.eq_iff_iff.2 this
theorem Lr:∀n:Nat,n≤5→mK (IntKind.u8.wrap ((na .u8 1 (n:Int)) - 1))∧∀i:Nat,fm (IntKind.u8.wrap ((na .u8 1 (n:Int)) - 1)) i↔i < n:=by
 have h1:∀n:Nat,n≤5→IntKind.u8.wrap ((na .u8 1 (n:Int)) - 1)=((2 ^ n - 1:Nat):Int):=by decide
 intro n hn
 rw [h1 n hn];have h2:2 ^ n≤32:=Nat.pow_le_pow_right (by decide) hn;refine⟨⟨by omega,by omega⟩,fun i=>?_⟩;simp only [fm,Int.toNat_natCast,Nat.testBit_two_pow_sub_one,decide_eq_true_eq]
theorem AW{n:Nat}{m:List Int}(hn:n≤5)(h:uG n m):ij m=IntKind.u8.wrap ((na .u8 1 (n:Int)) - 1)↔¬m.length < n:=by
 have h8:∀x∈m,0≤x∧x < 8:=fun x hx=>by have:=h.rng x hx;omega
 obtain⟨a,b⟩:=pI h8;obtain⟨c,d⟩:=Lr n hn;rw [h.full];constructor
 ·intro e i hi;rw [←b,e,d];exact hi
 ·intro hi;refine AG a c fun i=>?_;rw [b,d];refine⟨fun hm=>?_,hi i⟩;have:=h.rng _ hm;omega
section
variable {k:Nat}{t:aW}
theorem Dc{k:Nat}{l:List Int}{x:Int}(hk:l.length < k)(hk1:k≤1000000):ow k l x=some (decide (x∈l)):=by
 unfold ow
 have:=q7 (f:=iQ k l x) l (fun(_:Unit) j=>j) (fun _ _ y=>if y=x then Except.error true else .ok ()) (fun _ _=>True) (fun r=>some r)
  (fun n s j h _=>⟨by
   rw [iQ,if_pos (Int.ofNat_lt.2 h),cD h,bs];by_cases c:l[j]=x
   ·rw [if_pos c,if_pos c]
   ·rw [if_neg c,if_neg c,bh (by omega) (by omega),bs],fun _ _=>trivial⟩)
  (fun n s _=>by rw [iQ,if_neg (by omega)]) (s0:=()) (n:=k) hk trivial
 rw [show iQ k l x k 0=_ from this]
 have key:∀(l:List Int) (j:Nat),bL (fun(_:Unit) _ y=>if y=x then Except.error true else .ok ()) j l ()=if x∈l then .error true else .ok ():=by
  intro l
  induction l with
  |nil=>intro j;simp [bL]
  |cons y l ih=>
   intro j;rw [bL];by_cases c:y=x
   ·rw [if_pos c,if_pos (by simp [c])]
   ·rw [if_neg c];show bL _ (j+1) l ()=_;rw [ih];have:x∈y::l↔x∈l:=by simp [List.mem_cons,Ne.symm c]
    simp only [this]
 rw [key];by_cases c:x∈l
 ·rw [if_pos c,sZ,decide_eq_true c]
 ·rw [if_neg c,mJ,decide_eq_false c]
theorem zN{x:Int}(h0:0≤x)(h:x < (t.2.1.length:Int)):∃y,aQ t.2.1 x=some y∧y∈t.2.1∧eN t x=y.1:=by
 have hx:x.toNat < t.2.1.length:=by omega
 refine⟨t.2.1[x.toNat],oH h0 hx,List.getElem_mem hx,?_⟩;rw [eN,List.getElem?_eq_getElem hx]
theorem rz(g:jk t){x:Int}:0≤eN t x∧eN t x≤3:=by
 unfold eN;cases h:t.2.1[x.toNat]? with
 |none=>simp
 |some y=>have:=g.sizes y (List.mem_of_getElem? h);simp only;omega
theorem lK(g:jk t):∀{l:List Int},0≤cJ t l∧cJ t l≤3 * (l.length:Int)
 |[]=>by simp [cJ]
 |x::l=>by have:=rz g (x:=x);have:=lK g (l:=l);simp only [cJ,List.length_cons];omega
theorem qm{l l':List Int}:cJ t (l++l')=cJ t l+cJ t l':=by
 induction l with
 |nil=>simp [cJ]
 |cons x l ih=>simp only [List.cons_append,cJ,ih];omega
theorem D2(g:jk t)(hk1:k≤1000000){l:List Int}(hl:l.length < k)(hx:∀x∈l,0≤x∧x < (t.2.1.length:Int)):nw k t l=some (cJ t l):=by
 unfold nw
 have:=AX (f:=gR k t l) l (fun(s:Int) j=>(s,j)) (fun s _ x=>s+eN t x) (fun j s=>s=cJ t (l.take j)) (fun s=>some s)
  (fun n s j h hp=>by
   have hm:=hx _ (List.getElem_mem h);obtain⟨y,h1,h2,h3⟩:=zN hm.1 hm.2;have hs:=lK g (l:=l.take j);have ho:=rz g (x:=l[j]);rw [List.length_take] at hs;refine⟨?_,?_⟩
   ·rw [gR,if_pos (Int.ofNat_lt.2 h)];dsimp only;rw [cD h,bs,h1,bs,←h3,bh (by omega) (by omega),bs,bh (by omega) (by omega),bs]
   ·rw [List.take_add_one,List.getElem?_eq_getElem h,hp,Option.toList_some,qm];simp [cJ])
  (fun n s _=>by rw [gR,if_neg (by omega)]) (s0:=0) (n:=k) hl (by simp [cJ])
 obtain⟨h1,h2⟩:=this;rw [show gR k t l k (0,0)=_ from h1,bs,h2,List.take_length]
def tu(e:Int):Value:=.iface 140 (.agg #[.int .i64 e])
def UI(e:Int):Value:=if e=0 then .nilIface else tu e
theorem HE{e:Int}(h:¬e=0):UI e=tu e:=if_neg h
theorem KE(g:jk t)(hk1:k≤1000000){l m:List Int}(hl:l.length < k)(hm:uG t.2.1.length m):
 eM k t l k (ij m,0)=match bL (fun m _ x=>nI t.2.1.length m x) 0 l m with | .error e=>some (.error (tu e)) | .ok m'=>some (.ok (ij m')):=
 q7 (f:=eM k t l) l (fun m j=>(ij m,j)) (fun m _ x=>nI t.2.1.length m x) (fun _ m=>uG t.2.1.length m) (fun r=>match r with | .error e=>some (.error (tu e)) | .ok m'=>some (.ok (ij m')))
  (fun n m j h hm=>⟨by
   have h5:=g.things
   rw [eM,if_pos (Int.ofNat_lt.2 h)]
   dsimp only
   rw [cD h,bs,bh (by omega) (by omega),bs,nq,bs]
   unfold nI
   by_cases c:0≤l[j]∧l[j]≤(t.2.1.length:Int) - 1
   ·
    rw [decide_eq_true c,nT,if_neg (not_not_intro c)]
    obtain⟨i,hi⟩:=Int.eq_ofNat_of_zero_le c.1
    have h8:∀x∈m,0≤x∧x < 8:=fun x hx=>by have:=hm.rng x hx;omega
    obtain⟨a,b⟩:=pI h8
    rw [hi,yR a (by omega),bs]
    have hb:=b i
    by_cases c1:(i:Int)∈m
    ·
     rw [decide_eq_true (hb.2 c1),iT,if_pos c1];rfl
    ·
     rw [decide_eq_false (fun h=>c1 (hb.1 h)),iF,if_neg c1]
     unfold dT
     rw [bR (by omega),bs,bs,bh (by omega) (by omega),bs]
     show _=eM k t l n (ij (m++[(i:Int)]),(j:Int)+1)
     rw [C7]
   ·
    rw [decide_eq_false c,nF,if_pos (show¬(0≤l[j]∧l[j]≤(t.2.1.length:Int) - 1) from c)];rfl,fun m' e=>(hm.put e).2.1⟩)
  (fun n m _=>by rw [eM,if_neg (by omega)]) (s0:=m) (n:=k) hl hm
theorem BP(g:jk t)(hk1:k≤1000000){p:List (List Int)}(hp:p.length=t.2.2.length)(hpk:p.length < k)(hl:∀l∈p,l.length < k):
 fM k t p k (0,0)=match bL (iH t) 0 p [] with | .error e=>some (.error (tu e)) | .ok m'=>some (.ok (ij m')):=
 q7 (f:=fM k t p) p (fun m j=>(ij m,j)) (iH t) (fun _ m=>uG t.2.1.length m) (fun r=>match r with | .error e=>some (.error (tu e)) | .ok m'=>some (.ok (ij m')))
  (fun n m j h hm=>by
   refine⟨?_,fun m' e=>?_⟩
   ·
    rw [fM,if_pos (Int.ofNat_lt.2 h)]
    dsimp only
    rw [cD h,bs,KE g hk1 (hl _ (List.getElem_mem h)) hm]
    unfold iH
    cases e:bL (fun m _ x=>nI t.2.1.length m x) 0 p[j] m with
    |error e'=>dsimp only;rw [sZ,sZ]
    |ok m'=>
     obtain⟨_,_,h3⟩:=hm.puts e
     have hj:j < t.2.2.length:=by omega
     dsimp only
     rw [mJ,D2 g hk1 (hl _ (List.getElem_mem h)) h3,bs,cD hj,bs]
     have e2:t.2.2[j]?.getD 0=t.2.2[j]:=by rw [List.getElem?_eq_getElem hj];rfl
     rw [e2]
     by_cases c:t.2.2[j] < cJ t p[j]
     ·
      rw [if_pos c,if_pos c,sZ];rfl
     ·
      rw [if_neg c,if_neg c,mJ,bh (by omega) (by omega),bs]
   ·
    unfold iH at e
    cases e1:bL (fun m _ x=>nI t.2.1.length m x) 0 p[j] m with
    |error e'=>rw [e1] at e;cases e
    |ok m1=>
     rw [e1] at e
     dsimp only at e
     split at e
     ·
      cases e
     ·
      cases e;exact(hm.puts e1).2.1)
  (fun n m _=>by rw [fM,if_neg (by omega)]) (s0:=[]) (n:=k) hpk ⟨by simp,by simp⟩
theorem Ef{p:List (List Int)}{m':List Int}:∀{j:Nat} {m:List Int},uG t.2.1.length m→bL (iH t) j p m= .ok m'→m'=m++p.flatten∧uG t.2.1.length m'∧∀i (h:i < p.length),(∀x∈p[i],0≤x∧x < (t.2.1.length:Int))∧cJ t p[i]≤t.2.2[j+i]?.getD 0:=by
 induction p with
 |nil=>intro j m hm e;simp only [bL] at e;cases e;exact⟨by simp,hm,fun i h=>by simp at h⟩
 |cons l p ih=>
  intro j m hm e;rw [bL] at e;cases e1:iH t m j l with
  |error e'=>rw [e1] at e;cases e
  |ok m1=>
   rw [e1] at e;unfold iH at e1;cases e2:bL (fun m _ x=>nI t.2.1.length m x) 0 l m with
   |error e'=>rw [e2] at e1;cases e1
   |ok m2=>
    rw [e2] at e1;dsimp only at e1;split at e1
    ·cases e1
    ·rename_i hs;cases e1;obtain⟨rfl,h3,h4⟩:=hm.puts e2;obtain⟨h5,h6,h7⟩:=ih h3 e;refine⟨by rw [h5];simp,h6,fun i hi=>?_⟩;cases i with
     |zero=>exact⟨h4,by simp only [List.getElem_cons_zero,Nat.add_zero];omega⟩
     |succ i=>
      have:=h7 i (by simpa using hi);have e3:j+1+i=j+(i+1):=by omega
      rw [e3] at this;exact this
theorem E2(g:jk t)(hk1:k≤1000000){p:List (List Int)}(hpk:3 < k)(hl:∀l∈p,l.length < k):
 lI k t p=some (UI (chkV t p)):=by
 unfold lI chkV
 by_cases c1:p.length < t.2.2.length
 ·
  rw [if_pos (show(p.length:Int) < (t.2.2.length:Int) by omega),if_pos c1];rfl
 ·
  rw [if_neg (show¬(p.length:Int) < (t.2.2.length:Int) by omega),if_neg c1];by_cases c2:t.2.2.length < p.length
  ·rw [if_pos (show(t.2.2.length:Int) < (p.length:Int) by omega),if_pos c2];rfl
  ·rw [if_neg (show¬(t.2.2.length:Int) < (p.length:Int) by omega),if_neg c2,BP g hk1 (by omega) (by have:=g.trunks;omega) hl]
   have hne:bL (iH t) 0 p []≠.error 0:=lb (fun m j l=>by
    unfold iH;have:=lb (g:=fun m _ x=>nI t.2.1.length m x) (fun m _ x=>by unfold nI;split;(· simp);(· split <;> simp)) l 0 m;cases e:bL (fun m _ x=>nI t.2.1.length m x) 0 l m with
    |error e'=>intro h;rw [e] at this;exact this h
    |ok m'=>dsimp only;split <;> simp) _ _ _
   cases e:bL (iH t) 0 p [] with
   |error e'=>
    rw [e] at hne;have h0:¬e'=0:=fun h=>hne (by rw [h]);dsimp only;rw [sZ,HE h0]
   |ok m=>
    obtain⟨_,h3,_⟩:=Ef (t:=t) ⟨by simp,by simp⟩ e;dsimp only;rw [mJ,bR (by omega),bs];have:=AW g.things h3;by_cases c3:m.length < t.2.1.length
    ·rw [if_pos (show¬ij m=_ from fun h=>this.1 h c3),if_pos c3];rfl
    ·rw [if_neg (show¬¬ij m=_ from fun h=>h (this.2 c3)),if_neg c3];rfl
theorem Ds(h:eS k t)(hpk:3 < k){p:List (List Int)}(hl:∀l∈p,l.length < k):cY k t p=some (pW t p):=by
 unfold cY pW;rw [qH h,bs];by_cases c:jp t=0
 ·have g:=oD c;rw [if_neg (not_not_intro c),if_neg (not_not_intro c),E2 g h.k1 hpk hl,bs];by_cases c1:chkV t p=0
  ·rw [c1];rfl
  ·rw [HE c1];rfl
 ·rw [if_pos c,if_pos c]
end
section
variable {k:Nat}{t:aW}
structure eK(t:aW)(p:List (List Int)):Prop where
 g:jk t
 len:p.length=t.2.2.length
 nd:p.flatten.Nodup
 rng:∀x∈p.flatten,0≤x∧x < (t.2.1.length:Int)
 all:∀i:Nat,i < t.2.1.length→(i:Int)∈p.flatten
 room:∀i (h:i < p.length),cJ t p[i]≤t.2.2[i]?.getD 0
theorem AS{p:List (List Int)}(h:pW t p=0):eK t p:=by
 unfold pW at h;by_cases c:jp t=0
 ·rw [if_neg (not_not_intro c)] at h;have g:=oD c;unfold chkV at h;by_cases c1:p.length < t.2.2.length
  ·rw [if_pos c1] at h;cases h
  ·rw [if_neg c1] at h;by_cases c2:t.2.2.length < p.length
   ·rw [if_pos c2] at h;cases h
   ·rw [if_neg c2] at h;cases e:bL (iH t) 0 p [] with
    |error e'=>
     exfalso;rw [e] at h
     have hne:bL (iH t) 0 p []≠.error 0:=lb (fun m j l=>by
      unfold iH;have:=lb (g:=fun m _ x=>nI t.2.1.length m x) (fun m _ x=>by unfold nI;split;(· simp);(· split <;> simp)) l 0 m;cases e:bL (fun m _ x=>nI t.2.1.length m x) 0 l m with
      |error e'=>intro h;rw [e] at this;exact this h
      |ok m'=>dsimp only;split <;> simp) _ _ _
     rw [e] at hne;exact hne (congrArg _ h)
    |ok m=>
     rw [e] at h;obtain⟨h3,h4,h5⟩:=Ef (t:=t) ⟨by simp,by simp⟩ e;rw [List.nil_append] at h3;subst h3;by_cases c3:p.flatten.length < t.2.1.length
     ·simp only [c3,if_true] at h;cases h
     ·exact⟨g,by omega,h4.nd,h4.rng,h4.full.1 c3,fun i hi=>by have:=(h5 i hi).2;rw [Nat.zero_add] at this;exact this⟩
 ·rw [if_pos c] at h;exact absurd h c
end
theorem Lo.mono{l:bV}{m n:Int}(h:Lo l m)(hn:m≤n):Lo l n:=⟨h.1,Int.le_trans h.2 hn⟩
theorem zr{α:Type}{l:List α}{x:α}{n:Nat}(h:l.length≤n)(hn:n≤1000000):bm (List.length l+List.length [x]):=by
 show List.length l+List.length [x]≤4294967296;simp only [List.length_cons,List.length_nil];omega
structure Bw(t:aW)(things trunks:Int):Prop where
 days:1≤t.1∧t.1≤4
 things:(t.2.1.length:Int)≤things
 item:∀x∈t.2.1,1≤x.1∧x.1≤3∧x.2.length≤4∧(∀d∈x.2,0≤d∧d < t.1)∧x.2.Pairwise (· < ·)
 trunks:1≤t.2.2.length∧(t.2.2.length:Int)≤trunks
 rooms:∀n∈t.2.2,0≤n∧n≤9
theorem yQ{a b:Int}(ha:0≤a)(hb:0≤b):0≤kj a b∧kj a b≤a:=by
 unfold kj;split <;> omega
section
variable {k:Nat}
theorem J5(hk:50≤k){r2:Int×bV}(hd:1≤r2.1∧r2.1≤4){l:bV}{m:Int}(hl:Lo l m)(hm:0≤m∧m≤1000):
 W (eY k r2 k (l.1,l.2.1,l.2.2,[],0)) fun r=>Lo (r.1,r.2.1,r.2.2.1) (m+4)∧r.2.2.2.length≤4∧(∀d∈r.2.2.2,0≤d∧d < r2.1)∧r.2.2.2.Pairwise (· < ·):=by
 refine W.loop (f:=eY k r2) (fun q y=>∃j:Nat,y.2.2.2.2=(j:Int)∧(j:Int)≤r2.1∧q=r2.1.toNat - j∧Lo (y.1,y.2.1,y.2.2.1) (m+j)∧y.2.2.2.1.length≤j∧(∀d∈y.2.2.2.1,0≤d∧d < (j:Int))∧y.2.2.2.1.Pairwise (· < ·)) ?_ r2.1.toNat k _ (by omega)
  ⟨0,rfl,by omega,by omega,by simpa using hl,by simp,by simp,by simp⟩
 rintro aS q ⟨a,b,c,o,y⟩ ⟨j,hj,hle,hq,hlo,hlen,hr,hpw⟩ ih
 simp only at hj hlo hlen hr hpw
 subst hj
 unfold eY
 dsimp only
 refine W.ite (fun hlt=>?_) (fun hge=>W.ret ⟨hlo.mono (by omega),by show o.length≤4;omega,fun d hd'=>by have:=hr d hd';omega,hpw⟩)
 obtain⟨r,er,hr'⟩:=D6 (k:=k) (a:=2) hlo (by omega) (by decide) (by decide)
 rw [er,bs]
 cases hb:r.1 with
 |true=>
  rw [iT,bR (zr hlen (by omega)),bs,bs,bh (by omega) (by omega),bs]
  exact ih (q - 1) _ (by omega) ⟨j+1,by show(j:Int)+1=((j+1:Nat):Int);omega,by omega,by omega,hr'.mono (by omega),by simp only [List.length_append,List.length_cons,List.length_nil];omega,fun d hd'=>by
   rcases List.mem_append.1 hd' with h |h
   ·have:=hr d h;omega
   ·rw [List.mem_singleton] at h;omega,by
   refine List.pairwise_append.2 ⟨hpw,by simp,fun a ha b hb=>?_⟩;rw [List.mem_singleton] at hb;have:=hr a ha;omega⟩
 |false=>
  rw [iF,bs,bh (by omega) (by omega),bs];exact ih (q - 1) _ (by omega) ⟨j+1,by show(j:Int)+1=((j+1:Nat):Int);omega,by omega,by omega,hr'.mono (by omega),by simp only;omega,fun d hd'=>by have:=hr d hd';omega,hpw⟩
theorem E6(hk:50≤k){r2:Int×bV}(hd:1≤r2.1∧r2.1≤4){l:bV}{m:Int}(hl:Lo l m)(hm:0≤m∧m≤100){n:Nat}(hn:n≤8):
 W (eZ k r2 k (l.1,l.2.1,l.2.2,[],0,(n:Int))) fun r=>Lo (r.1,r.2.1,r.2.2.1) (m+50)∧r.2.2.2.1.length=n∧(∀x∈r.2.2.2.1,1≤x.1∧x.1≤3∧x.2.length≤4∧(∀d∈x.2,0≤d∧d < r2.1)∧x.2.Pairwise (· < ·))∧0≤r.2.2.2.2∧r.2.2.2.2≤30:=by
 refine W.loop (f:=eZ k r2) (fun q y=>∃j:Nat,y.2.2.2.2.2=(n:Int) - (j:Int)∧j≤n∧q=n - j∧Lo (y.1,y.2.1,y.2.2.1) (m+5 * j)∧y.2.2.2.1.length=j∧(∀x∈y.2.2.2.1,1≤x.1∧x.1≤3∧x.2.length≤4∧(∀d∈x.2,0≤d∧d < r2.1)∧x.2.Pairwise (· < ·))∧0≤y.2.2.2.2.1∧y.2.2.2.2.1≤3 * j) ?_ n k _ (by omega)
  ⟨0,by simp,by omega,by omega,by simpa using hl,rfl,by simp,by simp,by simp⟩
 rintro aS q ⟨a,b,c,o,s,y⟩ ⟨j,hj,hle,hq,hlo,hlen,hx,hs0,hs1⟩ ih
 simp only at hj hlo hlen hx hs0 hs1
 subst hj
 unfold eZ
 dsimp only
 refine W.ite (fun hlt=>?_) (fun hge=>W.ret ⟨hlo.mono (by omega),by show o.length=n;omega,hx,hs0,by show s≤30;omega⟩)
 obtain⟨r,er,hm1,hr⟩:=M6 (k:=k) (some_:=[1,1,1,2,3]) hlo (by omega) (by decide) (by decide)
 have hr3:1≤r.1∧r.1≤3:=by simp only [List.mem_cons,List.not_mem_nil,or_false] at hm1;omega
 rw [er,bs]
 obtain⟨w,ew,hw1,hw2,hw3,hw4⟩:=J5 hk hd (l:=r.2) hr (by omega)
 rw [show eY k r2 k (r.2.1,r.2.2.1,r.2.2.2,[],0)=some w from ew,bs,bR (zr (n:=8) (by omega) (by omega)),bs,bh (by omega) (by omega),bs,bs,bh (by omega) (by omega),bs]
 refine ih (q - 1) _ (by omega) ⟨j+1,by show(n:Int) - (j:Int) - 1=(n:Int) - ((j+1:Nat):Int);omega,by omega,by omega,hw1.mono (by omega),by simp only [List.length_append,List.length_cons,List.length_nil];omega,fun x hx'=>?_,by show 0≤s+r.1;omega,by show s+r.1≤3 * ((j+1:Nat):Int);omega⟩
 rcases List.mem_append.1 hx' with h |h
 ·
  exact hx x h
 ·
  rw [List.mem_singleton] at h;subst h;exact⟨hr3.1,hr3.2,hw2,hw3,hw4⟩
theorem E5(hk:50≤k){x4:(List Int)×Int×Int×(List gf)×Int}(hs:0≤x4.2.2.2.2∧x4.2.2.2.2≤30){l:bV}{m:Int}(hl:Lo l m)(hm:0≤m∧m≤200){n:Nat}(hn:n≤8):
 W (eX k x4 k (l.1,l.2.1,l.2.2,[],(n:Int))) fun r=>Lo (r.1,r.2.1,r.2.2.1) (m+10)∧r.2.2.2.length=n∧(∀x∈r.2.2.2,0≤x∧x≤9):=by
 refine W.loop (f:=eX k x4) (fun q y=>∃j:Nat,y.2.2.2.2=(n:Int) - (j:Int)∧j≤n∧q=n - j∧Lo (y.1,y.2.1,y.2.2.1) (m+j)∧y.2.2.2.1.length=j∧(∀x∈y.2.2.2.1,0≤x∧x≤9)) ?_ n k _ (by omega)
  ⟨0,by simp,by omega,by omega,by simpa using hl,rfl,by simp⟩
 rintro aS q ⟨a,b,c,o,y⟩ ⟨j,hj,hle,hq,hlo,hlen,hx⟩ ih
 simp only at hj hlo hlen hx
 subst hj
 unfold eX
 dsimp only
 refine W.ite (fun hlt=>?_) (fun hge=>W.ret ⟨hlo.mono (by omega),by show o.length=n;omega,hx⟩)
 rw [bh (by omega) (by omega),bs]
 obtain⟨r,er,hm1,hr⟩:=M6 (k:=k) (some_:=[1,2,3,kj 9 x4.2.2.2.2,kj 9 (x4.2.2.2.2+1)]) hlo (by omega) (by simp) (by simp)
 have i1:=yQ (a:=9) (b:=x4.2.2.2.2) (by decide) hs.1
 have i2:=yQ (a:=9) (b:=x4.2.2.2.2+1) (by decide) (by omega)
 have hr3:0≤r.1∧r.1≤9:=by simp only [List.mem_cons,List.not_mem_nil,or_false] at hm1;omega
 rw [er,bs,bR (zr (n:=8) (by omega) (by omega)),bs,bh (by omega) (by omega),bs]
 refine ih (q - 1) _ (by omega) ⟨j+1,by show(n:Int) - (j:Int) - 1=(n:Int) - ((j+1:Nat):Int);omega,by omega,by omega,hr.mono (by omega),by simp only [List.length_append,List.length_cons,List.length_nil];omega,fun x hx'=>?_⟩
 rcases List.mem_append.1 hx' with h |h
 ·
  exact hx x h
 ·
  rw [List.mem_singleton] at h;subst h;exact hr3
theorem Ku(hk:50≤k){l:bV}{m:Int}(hl:Lo l m)(hm:0≤m∧m≤50){a b:Nat}(ha:a≤8)(hb:1≤b∧b≤8):
 W (kD k l (a:Int) (b:Int)) fun r=>Bw r.1 a b∧Lo r.2 (m+100):=by
 unfold kD
 obtain⟨r,er,h1,h2,h3⟩:=IG (k:=k) (a:=1) (b:=4) hl (by omega) (by decide) (by decide) (by decide)
 rw [show fe k (l.1,l.2.1,l.2.2) 1 4=some r from er,bs]
 obtain⟨r6,e6,h61,h62,h63⟩:=IG (k:=k) (a:=0) (b:=(a:Int)) h3 (by omega) (by decide) (by omega) (by omega)
 rw [show fe k (r.2.1,r.2.2.1,r.2.2.2) 0 (a:Int)=some r6 from e6,bs]
 obtain⟨n,hn⟩:=Int.eq_ofNat_of_zero_le h61
 obtain⟨x4,e4,hl4,hlen4,hit,hs0,hs1⟩:=E6 hk (r2:=r) ⟨h1,h2⟩ h63 (by omega) (n:=n) (by omega)
 rw [show eZ k r k (r6.2.1,r6.2.2.1,r6.2.2.2,[],0,r6.1)=some x4 by rw [hn];exact e4,bs]
 obtain⟨r31,e31,h311,h312,h313⟩:=IG (k:=k) (a:=1) (b:=(b:Int)) hl4 (by omega) (by decide) (by omega) (by omega)
 rw [show fe k (x4.1,x4.2.1,x4.2.2.1) 1 (b:Int)=some r31 from e31,bs]
 obtain⟨n3,hn3⟩:=Int.eq_ofNat_of_zero_le (show 0≤r31.1 by omega)
 obtain⟨x29,e29,hl29,hlen29,hroom⟩:=E5 hk (x4:=x4) ⟨hs0,hs1⟩ h313 (by omega) (n:=n3) (by omega)
 rw [show eX k x4 k (r31.2.1,r31.2.2.1,r31.2.2.2,[],r31.1)=some x29 by rw [hn3];exact e29,bs]
 obtain⟨r42,e42,h42⟩:=D6 (k:=k) (a:=2) hl29 (by omega) (by decide) (by decide)
 rw [show gd k (x29.1,x29.2.1,x29.2.2.1) 2=some r42 from e42,bs]
 cases hb:r42.1 with
 |true=>
  have i1:=yQ (a:=9) (b:=x4.2.2.2.2) (by decide) hs0;rw [iT,show aQ x29.2.2.2 0=some (x29.2.2.2[0]'(by omega)) from cD (i:=0) (by omega),bs,bs];refine W.ret ⟨⟨⟨h1,h2⟩,by show(x4.2.2.2.1.length:Int)≤_;omega,hit,by simp only [List.length_set];omega,fun y hy=>?_⟩,h42.mono (by omega)⟩;rcases List.mem_or_eq_of_mem_set hy with h |h
  ·exact hroom y h
  ·omega
 |false=>
  rw [iF,bs];exact W.ret ⟨⟨⟨h1,h2⟩,by show(x4.2.2.2.1.length:Int)≤_;omega,hit,by simp only;omega,hroom⟩,h42.mono (by omega)⟩
theorem qD{α:Type}{g:Nat→α→Except Int Unit}:∀(l:List α) (i:Nat),(∀(j:Nat) (h:j < l.length),g (i+j) l[j]= .ok ())→bL (fun(_:Unit) j x=>g j x) i l ()= .ok ()
 |[],_,_=>rfl
 |x::l,i,h=>by
  have h0:g i x= .ok ():=h 0 (by simp)
  rw [bL,h0]
  exact qD l (i+1) fun j hj=>by
   have:=h (j+1) (by simp;omega)
   rw [show i+1+j=i+(j+1) by omega]
   exact this
theorem Bw.chk{t:aW}{a b:Int}(h:Bw t a b)(ha:a≤5)(hb:b≤3):jp t=0:=by
 have h1:=h.days;have h2:=h.things;have h3:=h.trunks;unfold jp
 rw [if_neg (not_not_intro (show 1≤t.1∧t.1≤6 by omega)),if_neg (show¬5 < t.2.1.length by omega),qD (g:=fun _ x=>kh t.1 x) t.2.1 0 (fun j hj=>by
  obtain⟨a1,a2,_,a4,a5⟩:=h.item _ (List.getElem_mem hj);show kh t.1 t.2.1[j]= .ok ();unfold kh;rw [if_neg (not_not_intro ⟨a1,a2⟩)];refine qD (g:=fun i y=>uS t.1 t.2.1[j].2 i y) _ 0 (fun i hi=>?_);have hd:=a4 _ (List.getElem_mem hi);rw [Nat.zero_add];unfold uS;rw [if_neg (not_not_intro (show 0≤t.2.1[j].2[i]∧t.2.1[j].2[i]≤t.1 - 1 by omega)),if_neg];rintro⟨h0,hle⟩;have:=List.pairwise_iff_getElem.1 a5 (i - 1) i (by omega) hi (by omega);rw [List.getElem?_eq_getElem (show i - 1 < t.2.1[j].2.length by omega),Option.getD_some] at hle;omega)]
 simp only [show¬t.2.2.length < 1 by omega,show¬3 < t.2.2.length by omega,if_false]
 rw [qD (g:=fun _ n=>lu n) t.2.2 0 (fun j hj=>by
  have:=h.rooms _ (List.getElem_mem hj);show lu t.2.2[j]= .ok ();unfold lu;rw [if_pos this])]
 rfl
end
section
variable {k:Nat}
theorem Il(hk:50≤k){l:bV}{m:Int}{n:Nat}(hl:Lo l m)(hm:0≤m∧m≤1000)(hn:n≤8):W (gG k l (n:Int)) fun r=>Lo r.2 (m+10)∧r.1.length=n∧∀x∈r.1,0≤x∧x < (n:Int):=by
 unfold gG;refine W.bind (R:=fun r=>Lo (r.2.1,r.2.2.1,r.2.2.2) (m+10)∧r.1.length=n∧∀x∈r.1,0≤x∧x < (n:Int)) ?_ fun r h=>W.ret h
 refine W.loop (f:=eA k (n:Int)) (fun q y=>∃j:Nat,y.2.2.2.2=(j:Int)∧j≤n∧q=n - j∧Lo (y.1,y.2.1,y.2.2.1) (m+j)∧y.2.2.2.1.length=j∧∀x∈y.2.2.2.1,0≤x∧x < (n:Int)) ?_ n k _ (by omega)
  ⟨0,rfl,by omega,by omega,by simpa using hl,rfl,by simp⟩
 rintro aS q ⟨nums,d,s,o,y⟩ ⟨j,hj,hle,hq,hlo,hlen,hx⟩ ih;simp only at hj hlo hlen hx;subst hj;unfold eA;dsimp only;refine W.ite (fun hlt=>?_) (fun hge=>W.ret ⟨hlo.mono (by omega),by show o.length=n;omega,hx⟩);obtain⟨r5,e5,a5,b5,c5⟩:=rX (k:=k) (n:=(j:Int)) hlo (by omega) (by omega);have b5:=b5 (by omega);have ho:(o++[(j:Int)]).length=j+1:=by simp [hlen]
 have hr5:r5.1.toNat < (o++[(j:Int)]).length:=by omega
 have hmem:∀x∈o++[(j:Int)],0≤x∧x < (n:Int):=fun x hx'=>by
  rcases List.mem_append.1 hx' with h |h
  ·exact hx x h
  ·simp only [List.mem_singleton] at h;omega
 rw [e5,bs,bR (zr (n:=8) (by omega) (by omega)),bs,oH a5 hr5,bs,cD (by omega),bs];have hgs:aQ (List.set (o++[(j:Int)]) (Int.toNat (j:Int)) (o++[(j:Int)])[r5.1.toNat]) r5.1=some ((List.set (o++[(j:Int)]) (Int.toNat (j:Int)) (o++[(j:Int)])[r5.1.toNat])[r5.1.toNat]'(by rw [List.length_set];exact hr5)):=oH a5 (by rw [List.length_set];exact hr5);rw [hgs,bs,bh (by omega) (by omega),bs];refine ih (q - 1) (_,_,_,_,(j:Int)+1) (by omega) ⟨j+1,by show(j:Int)+1=((j+1:Nat):Int);omega,by omega,by omega,c5.mono (by omega),by simp [hlen],fun x hx'=>?_⟩;rcases List.mem_or_eq_of_mem_set hx' with h |h
 ·rcases List.mem_or_eq_of_mem_set h with h |h
  ·exact hmem x h
  ·subst h;exact hmem _ (List.getElem_mem hr5)
 ·subst h;omega
theorem J4{a b:Int}(ha:0≤a∧a≤1000000)(hb:0 < b∧b≤1000000):W (pJ k a b) fun r=>0≤r∧r < b:=by
 unfold pJ;have e1:Int.tmod a b=a % b:=Int.tmod_eq_emod_of_nonneg ha.1;have h1:=Int.emod_nonneg a (show b≠0 by omega);have h2:=Int.emod_lt_of_pos a hb.1;rw [bR (show b≠0 by omega),bs,e1,bh (by omega) (by omega),bs,bs];have e2:Int.tmod (a % b+b) b=(a % b+b) % b:=Int.tmod_eq_emod_of_nonneg (by omega);rw [e2];exact W.ret ⟨Int.emod_nonneg _ (by omega),Int.emod_lt_of_pos _ hb.1⟩
structure Pk(N i:Nat)(room:List Int)(out:List (List Int)):Prop where
 rl:room.length=N
 ol:out.length=N
 rr:∀x∈room, -3 * (i:Int)≤x∧x≤9
 oo:∀l∈out,l.length≤i
theorem Pk.next{N i:Nat}{room:List Int}{out:List (List Int)}(h:Pk N i room out):Pk N (i+1) room out:=
 ⟨h.rl,h.ol,fun x hx=>by have:=h.rr x hx;omega,fun l hl=>by have:=h.oo l hl;omega⟩
theorem Hy(hk:50≤k){t:aW}{a b:Int}(ht:Bw t a b){r7:(List Int)×bV}(h7:∀x∈r7.1,0≤x∧x < (t.2.1.length:Int))
 {y:(List Int)×Int×Int×(List Int)×Int×(List (List Int))} {i N:Nat} (hi:y.2.2.2.2.1=(i:Int)) (hil:i < r7.1.length) (hi8:i≤8) (hN:N≤8) (hp:Pk N i y.2.2.2.1 y.2.2.2.2.2)
 {r15:Int×bV} {m:Int} (h15:0≤r15.1∧r15.1≤100) (hlo:Lo r15.2 m):
 W (dz k t r7 y r15 k (0,y.2.2.2.2.2)) fun r=>Lo (r.1,r.2.1,r.2.2.1) m∧Pk N (i+1) r.2.2.2.1 r.2.2.2.2:=by
 refine W.loop (f:=dz k t r7 y r15) (fun q z=>∃j:Nat,z.1=(j:Int)∧j≤N∧q=N - j∧z.2=y.2.2.2.2.2) ?_ N k _ (by omega) ⟨0,rfl,by omega,by omega,rfl⟩
 rintro aS q ⟨z,o⟩ ⟨j,hj,hle,hq,ho⟩ ih
 simp only at hj ho
 subst hj ho
 have hrl:=hp.rl
 have hol:=hp.ol
 unfold dz
 dsimp only
 refine W.ite (fun hlt=>?_) (fun hge=>W.ret ⟨hlo,hp.next⟩)
 rw [bh (by omega) (by omega),bs]
 obtain⟨r19,e19,h190,h191⟩:=J4 (k:=k) (a:=r15.1+(j:Int)) (b:=(y.2.2.2.1.length:Int)) (by omega) (by omega)
 have hw:r19.toNat < y.2.2.2.1.length:=by omega
 have hx:=h7 _ (List.getElem_mem hil)
 have hx2:(r7.1[i]).toNat < t.2.1.length:=by omega
 have hsz:=ht.item _ (List.getElem_mem hx2)
 have hrr:=hp.rr _ (List.getElem_mem hw)
 rw [e19,bs,oH h190 hw,bs,hi,cD hil,bs,oH hx.1 hx2,bs]
 have put:W ((aQ y.2.2.2.2.2 r19).bind fun x26=>(some r7.1[i]).bind fun x27=>(cU (bm (List.length x26+List.length [x27]))).bind fun _=>
  (some y.2.2.2.1[r19.toNat]).bind fun x30=>(some r7.1[i]).bind fun x31=>(aQ t.2.1 x31).bind fun x32=>(ck (x30 - x32.1)).bind fun x33=>
  (some y.2.2.2.1[r19.toNat]).bind fun x35=>some (r15.2.1,r15.2.2.1,r15.2.2.2,List.set y.2.2.2.1 (Int.toNat r19) x33,List.set y.2.2.2.2.2 (Int.toNat r19) (x26++[x27])))
  fun r=>Lo (r.1,r.2.1,r.2.2.1) m∧Pk N (i+1) r.2.2.2.1 r.2.2.2.2:=by
  have hw2:r19.toNat < y.2.2.2.2.2.length:=by omega
  have hoo:=hp.oo _ (List.getElem_mem hw2);rw [oH h190 hw2,bs,bs,bR (zr (n:=8) (by omega) (by omega)),bs,bs,bs,oH hx.1 hx2,bs,bh (by omega) (by omega),bs,bs];refine W.ret ⟨hlo,⟨by simp only [List.length_set];exact hrl,by simp only [List.length_set];exact hol,fun x hx=>?_,fun l hl=>?_⟩⟩
  ·rcases List.mem_or_eq_of_mem_set hx with h |h
   ·have:=hp.rr x h;omega
   ·omega
  ·rcases List.mem_or_eq_of_mem_set hl with h |h
   ·have:=hp.oo l h;omega
   ·subst h;simp only [List.length_append,List.length_cons,List.length_nil];omega
 refine W.iteB (fun c=>?_) (fun c=>?_)
 ·
  rw [bs,iT];exact put
 ·
  rw [bh (by omega) (by omega),bs,bs];dsimp only;by_cases c1:(j:Int)=(y.2.2.2.1.length:Int) - 1
  ·rw [decide_eq_true c1,iT];exact put
  ·rw [decide_eq_false c1,iF,bh (by omega) (by omega),bs];exact ih (q - 1) _ (by omega) ⟨j+1,by show(j:Int)+1=((j+1:Nat):Int);omega,by omega,by omega,rfl⟩
theorem vH(hk:50≤k){t:aW}{a b:Nat}(ht:Bw t a b)(ha:a≤8)(hb:b≤8){l:bV}{m:Int}(hl:Lo l m)(hm:0≤m∧m≤500):
 W (fa k l t) fun r=>r.1.length=t.2.2.length∧(∀x∈r.1,x.length≤8)∧Lo r.2 (m+20):=by
 have h1:=ht.things
 have h2:=ht.trunks
 unfold fa
 rw [bR (by exact⟨by omega,BF (by omega)⟩),bs,bR (BF (by simp only [List.length_nil];omega)),bs]
 obtain⟨r7,e7,hlo7,hlen7,hr7⟩:=Il hk hl (by omega) (n:=t.2.1.length) (by omega)
 rw [show gG k (l.1,l.2.1,l.2.2) (t.2.1.length:Int)=some r7 from e7,bs]
 refine W.bind (R:=fun r=>Lo (r.1,r.2.1,r.2.2.1) (m+20)∧r.2.2.2.length=t.2.2.length∧∀x∈r.2.2.2,x.length≤8) ?_ fun r h=>W.ret ⟨h.2.1,h.2.2,h.1⟩
 refine W.loop (f:=fj k t r7) (fun q y=>∃j:Nat,y.2.2.2.2.1=(j:Int)∧j≤r7.1.length∧q=r7.1.length - j∧Lo (y.1,y.2.1,y.2.2.1) (m+10+j)∧Pk t.2.2.length j y.2.2.2.1 y.2.2.2.2.2) ?_ r7.1.length k _ (by omega)
  ⟨0,rfl,by omega,by omega,by simpa using hlo7,⟨by simp,by simp,fun x hx=>by have:=ht.rooms x (by simpa using hx);omega,fun l hl=>by simp at hl;simp [hl.2]⟩⟩
 rintro aS q ⟨nums,d,s,room,y,o⟩ ⟨j,hj,hle,hq,hlo,hp⟩ ih
 simp only at hj hlo hp
 subst hj
 have hrl:=hp.rl
 unfold fj
 dsimp only
 refine W.ite (fun hlt=>?_) (fun hge=>W.ret ⟨hlo.mono (by omega),hp.ol,fun x hx=>by have:=hp.oo x hx;omega⟩)
 rw [bh (by omega) (by omega),bs]
 obtain⟨r15,e15,a15,b15,c15⟩:=rX (k:=k) (n:=(room.length:Int) - 1) hlo (by omega) (by omega)
 have b15:=b15 (by omega)
 rw [e15,bs]
 obtain⟨r,er,h3,h4⟩:=Hy hk ht (r7:=r7) hr7 (y:=(nums,d,s,room,(j:Int),o)) (i:=j) (N:=t.2.2.length) rfl (by omega) (by omega) (by omega) hp (r15:=r15) ⟨a15,by omega⟩ c15
 rw [show dz k t r7 (nums,d,s,room,(j:Int),o) r15 k (0,o)=some r from er,bs,bh (by omega) (by omega),bs]
 exact ih (q - 1) _ (by omega) ⟨j+1,by show(j:Int)+1=((j+1:Nat):Int);omega,by omega,by omega,h3.mono (by omega),h4⟩
structure EU(t:aW)(p:List (List Int))(a:Int):Prop where
 kit:Bw t a 3
 len:p.length=t.2.2.length
 short:∀l∈p,l.length≤8
theorem EU.small{t:aW}{p:List (List Int)}{a:Nat}(h:EU t p a)(hk:50≤k)(hk1:k≤1000000)(ha:a≤8):eS k t:=
 ⟨hk1,by have:=h.kit.things;omega,fun x hx=>by have:=h.kit.item x hx;omega,by have:=h.kit.trunks;omega⟩
end
def IH(l:List Int)(x:Int):Int:=match l.findIdx? (fun y=>decide (y=x)) with
 |some i=>(i:Int)
 |none=> -1
theorem K8{l:List Int}{x:Int}:0≤IH l x↔x∈l:=by
 unfold IH;cases h:l.findIdx? (fun y=>decide (y=x)) with
 |none=>
  rw [List.findIdx?_eq_none_iff] at h;constructor
  ·intro h0;simp only at h0;omega
  ·intro hx;have:=h x hx;simp at this
 |some i=>
  rw [List.findIdx?_eq_some_iff_getElem] at h;obtain⟨hi,h1,_⟩:=h;have:l[i]=x:=by simpa using h1
  exact⟨fun _=>this▸List.getElem_mem hi,fun _=>by simp only;omega⟩
section
variable {k:Nat}
theorem I0{l:List Int}{x:Int}:K.bE (some (bL (fun(_:Unit) j y=>if decide (y=x) then Except.error (j:Int) else .ok ()) 0 l ())) some (fun _=>some (-1))=some (IH l x):=by
 rw [wd];unfold IH;cases l.findIdx? (fun y=>decide (y=x)) with
 |none=>exact mJ
 |some i=>exact sZ
theorem IF{l:List Int}{x:Int}(hk:l.length < k)(hk1:k≤1000000):jt k l x=some (IH l x):=by
 unfold jt
 have:=q7 (f:=dw k l x) l (fun(_:Unit) j=>j) (fun _ j y=>if decide (y=x) then Except.error (j:Int) else .ok ()) (fun _ _=>True) (fun r=>some r)
  (fun n s j h _=>⟨by
   rw [dw,if_pos (Int.ofNat_lt.2 h),cD h,bs];by_cases c:l[j]=x
   ·rw [if_pos c.symm,decide_eq_true c,iT]
   ·rw [if_neg (fun h=>c h.symm),decide_eq_false c,iF,bh (by omega) (by omega),bs],fun _ _=>trivial⟩)
  (fun n s _=>by rw [dw,if_neg (by omega)]) (s0:=()) (n:=k) hk trivial
 rw [show dw k l x k 0=_ from this];exact I0
theorem A5{l:List Int}{x:Int}(hk:l.length < k)(hk1:k≤1000000):gw k l x=some (decide (x∈l)):=by
 unfold gw;rw [IF hk hk1,bs];congr 1;exact decide_eq_decide.2 K8
def o7(l:List Int):List Int:=[l[0]?.getD (-1),l[1]?.getD (-1),l[2]?.getD (-1),l[3]?.getD (-1),l[4]?.getD (-1)]
def dR(p:List (List Int)):List (List Int):=[o7 (p[0]?.getD []),o7 (p[1]?.getD []),o7 (p[2]?.getD [])]
theorem xx{p ld:List (List Int)}{row:List Int}{i j n:Nat}{y:List (List Int)}(hi:i < 3)(hj:j < 5)(hr:ld[i]? =some row)(hl:row.length=5):
 cS k p (y,(i:Int)) (n+1) (ld,(j:Int))=cS k p (y,(i:Int)) n (ld.set i (row.set j ((p[i]?.getD [])[j]?.getD (-1))),((j+1:Nat):Int)):=by
 have hil:i < ld.length:=by
  rcases Nat.lt_or_ge i ld.length with h |h
  ·exact h
  ·rw [List.getElem?_eq_none h] at hr;cases hr
 have hg:aQ ld (i:Int)=some row:=oG (by omega) hr
 rw [cS]
 dsimp only
 rw [if_pos (show(j:Int) < 5 by omega),bR (by omega),bs,hg,bs,bR (by omega),bs]
 have ei:Int.toNat (i:Int)=i:=rfl
 have ej:Int.toNat (j:Int)=j:=rfl
 rw [ei,ej]
 by_cases c:i < p.length
 ·
  have ep:p[i]?.getD []=p[i]:=by rw [List.getElem?_eq_getElem c];rfl
  rw [if_pos (show(i:Int) < (p.length:Int) by omega),cD c,bs,bs,ep];by_cases c1:j < p[i].length
  ·have e2:p[i][j]?.getD (-1)=p[i][j]:=by rw [List.getElem?_eq_getElem c1];rfl
   rw [decide_eq_true (show(j:Int) < (p[i].length:Int) by omega),iT,bs,cD c1,bs,bs]
   have hg2:aQ (ld.set i (row.set j (-1))) (i:Int)=some (row.set j (-1)):=oG (by omega) (by
    show(ld.set i (row.set j (-1)))[i]? =_;rw [List.getElem?_set_self hil])
   rw [hg2,bs,bs,bs,bh (by omega) (by omega),bs,List.set_set,List.set_set,e2];rfl
  ·have e2:p[i][j]?.getD (-1)= -1:=by rw [List.getElem?_eq_none (by omega)];rfl
   rw [decide_eq_false (show¬(j:Int) < (p[i].length:Int) by omega),iF,bs,bh (by omega) (by omega),bs,e2];rfl
 ·
  have ep:p[i]?.getD []=[]:=by rw [List.getElem?_eq_none (by omega)];rfl
  rw [if_neg (show¬(i:Int) < (p.length:Int) by omega),bs,iF,bs,bh (by omega) (by omega),bs,ep];rfl
theorem Iu(hk:50≤k){p ld:List (List Int)}{row:List Int}{i:Nat}{y:List (List Int)}(hi:i < 3)(hr:ld[i]? =some row)(hl:row.length=5):
 cS k p (y,(i:Int)) k (ld,0)=some (ld.set i (o7 (p[i]?.getD []))):=by
 obtain⟨n,rfl⟩:∃n,k=n+6:=⟨k - 6,by omega⟩
 have hil:i < ld.length:=by
  rcases Nat.lt_or_ge i ld.length with h |h
  ·exact h
  ·rw [List.getElem?_eq_none h] at hr;cases hr
 match row,hl with
 |[a,b,c,d,e],_=>
  have st:∀(j m:Nat) (row':List Int),j < 5→row'.length=5→cS (n+6) p (y,(i:Int)) (m+1) (ld.set i row',(j:Int))=cS (n+6) p (y,(i:Int)) m (ld.set i (row'.set j ((p[i]?.getD [])[j]?.getD (-1))),((j+1:Nat):Int)):=fun j m row' hj hl'=>by
   rw [xx hi hj (List.getElem?_set_self hil) hl',List.set_set]
  have h0:=xx (k:=n+6) (p:=p) (y:=y) (n:=n+5) (j:=0) hi (by omega) hr rfl;rw [show((0:Nat):Int)=0 from rfl] at h0;rw [h0,st 1 _ _ (by omega) (by simp),st 2 _ _ (by omega) (by simp),st 3 _ _ (by omega) (by simp),st 4 _ _ (by omega) (by simp),cS];dsimp only;rw [if_neg (show¬(((4+1:Nat):Int) < 5) by omega)];rfl
theorem C6(hk:50≤k){p:List (List Int)}:dZ k p=some (dR p):=by
 unfold dZ;obtain⟨n,e⟩:∃n,k=n+4:=⟨k - 4,by omega⟩
 have st:∀(i m:Nat) (ld:List (List Int)) (row:List Int),i < 3→ld[i]? =some row→row.length=5→dj k p (m+1) (ld,(i:Int))=dj k p m (ld.set i (o7 (p[i]?.getD [])),((i+1:Nat):Int)):=fun i m ld row hi hr hl=>by
  rw [dj];dsimp only;rw [if_pos (show(i:Int) < 3 by omega),Iu hk hi hr hl,bs,bh (by omega) (by omega),bs];rfl
 have h0:=st 0 (n+3) [[0,0,0,0,0],[0,0,0,0,0],[0,0,0,0,0]] _ (by omega) rfl rfl;rw [show((0:Nat):Int)=0 from rfl] at h0;have e2:dj k p k ([[0,0,0,0,0],[0,0,0,0,0],[0,0,0,0,0]],0)=dj k p (n+3+1) ([[0,0,0,0,0],[0,0,0,0,0],[0,0,0,0,0]],0):=by rw [←e]
 rw [e2,h0,st 1 _ _ _ (by omega) rfl rfl,st 2 _ _ _ (by omega) rfl rfl,dj];dsimp only;rw [if_neg (show¬(((2+1:Nat):Int) < 3) by omega),bs];rfl
def MJ(l:List Int):Prop:=l.length≤5∧∀x∈l,0≤x
theorem CE{l:List Int}(h:MJ l):(o7 l).filter (fun x=>decide (0≤x))=l:=by
 obtain⟨h1,h2⟩:=h;match l,h1 with
 |[],_=>rfl
 |[a],_=>have:=h2 a (by simp);simp [o7,this]
 |[a,b],_=>have:=h2 a (by simp);have:=h2 b (by simp);simp [o7, *]
 |[a,b,c],_=>have:=h2 a (by simp);have:=h2 b (by simp);have:=h2 c (by simp);simp [o7, *]
 |[a,b,c,d],_=>have:=h2 a (by simp);have:=h2 b (by simp);have:=h2 c (by simp);have:=h2 d (by simp);simp [o7, *]
 |[a,b,c,d,e],_=>have:=h2 a (by simp);have:=h2 b (by simp);have:=h2 c (by simp);have:=h2 d (by simp);have:=h2 e (by simp);simp [o7, *]
theorem Iy(hk:50≤k){row:List Int}(hr:row.length=5):cX k row k ([],0)=some (row.filter fun x=>decide (0≤x)):=by
 have:=AX (f:=cX k row) row (fun(s:List Int) j=>(s,j)) (fun s _ x=>if 0≤x then s++[x] else s) (fun j s=>s.length≤j∧s=(row.take j).filter fun x=>decide (0≤x)) (fun s=>some s)
  (fun n s j h hp=>by
   have hl:=hp.1;refine⟨?_,?_,?_⟩
   ·rw [cX];dsimp only;rw [if_pos (show(j:Int) < 5 by omega),cD h,bs];by_cases c:0≤row[j]
    ·rw [if_pos c,bR (zr (n:=5) (by omega) (by omega)),bs,bs,bh (by omega) (by omega),bs,if_pos c]
    ·rw [if_neg c,bs,bh (by omega) (by omega),bs,if_neg c]
   ·split
    ·simp only [List.length_append,List.length_cons,List.length_nil];omega
    ·omega
   ·rw [List.take_add_one,List.getElem?_eq_getElem h,Option.toList_some,List.filter_append,←hp.2];by_cases c:0≤row[j]
    ·rw [if_pos c];simp [c]
    ·rw [if_neg c];simp [c])
  (fun n s _=>by rw [cX,if_neg (show¬((row.length:Int) < 5) by omega)]) (s0:=[]) (n:=k) (by omega) ⟨by simp,by simp⟩
 obtain⟨h1,h2,h3⟩:=this;rw [show cX k row k ([],0)=_ from h1,h3,List.take_of_length_le (Nat.le_refl _)]
theorem yL(hk:50≤k){p:List (List Int)}{i:Nat}(hi:i < 3)(hf:MJ (p[i]?.getD [])):dU k (dR p) (i:Int)=some (p[i]?.getD []):=by
 unfold dU
 have hg:aQ (dR p) (i:Int)=some (o7 (p[i]?.getD [])):=oG (by omega) (by
  match i,hi with
  |0,_=>rfl
  |1,_=>rfl
  |2,_=>rfl)
 rw [bR (by omega),bs,hg,bs,Iy hk rfl,bs,CE hf]
end
section
variable {k:Nat}
theorem DI{t:aW}{d:Int}{n:Nat}:nY t d (n:Int)=true↔∃h:n < t.2.1.length,d∈t.2.1[n].2:=by
 unfold nY;rw [show((n:Int)).toNat=n from rfl];rcases Nat.lt_or_ge n t.2.1.length with h |h
 ·rw [List.getElem?_eq_getElem h];simp [h]
 ·rw [List.getElem?_eq_none h];simp [Nat.not_lt.2 h]
theorem GU(hk1:k≤1000000){t:aW}(hn:t.2.1.length≤8)(hnk:t.2.1.length < k)(hw:∀x∈t.2.1,x.2.length < k){d:Int}:W (ip k (t,()) d) fun m=>mK m∧∀i:Nat,fm m i↔nY t d (i:Int)=true:=by
 unfold ip;refine W.bind (R:=fun m=>mK m∧∀i:Nat,fm m i↔nY t d (i:Int)=true) ?_ fun r h=>W.ret h
 refine W.loop (f:=fg k (t,()) d) (fun q y=>∃j:Nat,y.2=(j:Int)∧j≤t.2.1.length∧q=t.2.1.length - j∧mK y.1∧∀i:Nat,fm y.1 i↔i < j∧nY t d (i:Int)=true) ?_ t.2.1.length k (0,0) hnk
  ⟨0,rfl,by omega,by omega,⟨by decide,by decide⟩,fun i=>by simp [fm]⟩
 rintro aS q ⟨s,y⟩ ⟨j,hj,hle,hq,hm,hh⟩ ih;simp only at hj hm hh;subst hj;unfold fg;dsimp only;refine W.ite (fun hlt=>?_) (fun hge=>W.ret ⟨hm,fun i=>?_⟩)
 ·have hlt':j < t.2.1.length:=by omega
  rw [cD hlt',bs,A5 (hw _ (List.getElem_mem hlt')) hk1,bs];have hj:nY t d (j:Int)=true↔d∈t.2.1[j].2:=by rw [DI];exact⟨fun⟨_,h⟩=>h,fun h=>⟨hlt',h⟩⟩
  by_cases c:d∈t.2.1[j].2
  ·obtain⟨o1,o2⟩:=yy (x:=(j:Int)) (by omega) (by omega);obtain⟨p1,p2⟩:=yP hm o1;rw [decide_eq_true c,iT];unfold dT;rw [bR (by omega),bs,bs,bs,bh (by omega) (by omega),bs];refine ih (q - 1) (_,(j:Int)+1) (by omega) ⟨j+1,by show(j:Int)+1=((j+1:Nat):Int);omega,by omega,by omega,p1,fun i=>?_⟩;rw [p2,hh,o2];constructor
   ·rintro(⟨a,b⟩ |h)
    ·exact⟨by omega,b⟩
    ·have:i=j:=by omega
     subst this;exact⟨by omega,hj.2 c⟩
   ·rintro⟨a,b⟩;by_cases e:i=j
    ·exact .inr (by omega)
    ·exact .inl ⟨by omega,b⟩
  ·rw [decide_eq_false c,iF,bs,bh (by omega) (by omega),bs];refine ih (q - 1) (_,(j:Int)+1) (by omega) ⟨j+1,by show(j:Int)+1=((j+1:Nat):Int);omega,by omega,by omega,hm,fun i=>?_⟩;rw [hh];constructor
   ·rintro⟨a,b⟩;exact⟨by omega,b⟩
   ·rintro⟨a,b⟩;have:i≠j:=fun e=>c (hj.1 (e▸b));exact⟨by omega,b⟩
 ·rw [hh];constructor
  ·exact fun h=>h.2
  ·intro h;obtain⟨h1,_⟩:=DI.1 h;exact⟨by omega,h⟩
theorem KG{l:List Int}(hk:l.length < k)(hk1:k≤1000000):pn k l=some l:=by
 have key:∀(j n:Nat),j≤l.length→j < n→cI k l (l6 fun(y3:List Int) (p5:Int×Int)=>some ((p5.2::y3),true)) n ((j:Int) - 1,(l.drop j,false))=some (l,false):=by
  intro j
  induction j with
  |zero=>
   intro n _ hn
   obtain⟨n,rfl⟩:∃n',n=n'+1:=⟨n - 1,by omega⟩;rw [cI];dsimp only;rw [if_neg (by omega),List.drop_zero]
  |succ j ih=>
   intro n hj hn
   obtain⟨n,rfl⟩:∃n',n=n'+1:=⟨n - 1,by omega⟩;have e1:((j+1:Nat):Int) - 1=(j:Int):=by omega
   rw [cI,e1];dsimp only;rw [if_pos (show(0:Int)≤(j:Int) by omega),cD (by omega),bs];rw [show l6 (fun(y3:List Int) (p5:Int×Int)=>some ((p5.2::y3),true)) (List.drop (j+1) l,false) ((j:Int),l[j])=some ((l[j]::List.drop (j+1) l,false),true) from rfl,bs];dsimp only;rw [nT,bh (by omega) (by omega),bs];have:=ih n (by omega) (by omega);rw [List.drop_eq_getElem_cons (show j < l.length by omega)] at this;exact this
 unfold pn hC;rw [bh (by omega) (by omega),bs];have:=key l.length k (by omega) hk;rw [List.drop_length] at this;rw [this,bs,iF]
theorem Fv{m:Int}(hm:mK m){w:Int→Bool}(hw:∀i:Nat,i < 8→(fm m i↔w (i:Int)=true)):∀(l:List Int) (n:Nat) (lf:Int) (up stay:List Int),l.length < n→(∀x∈l,0≤x∧x < 8)→mK lf→up.length+stay.length+l.length≤1000→
 W (gU k m n (lf,up,stay,l)) fun r=>r.2=(stay++l.filter (fun x=> !w x))++(up++l.filter w)∧mK r.1∧∀i:Nat,fm r.1 i↔fm lf i∨(i:Int)∈dq w (!up.isEmpty) l:=by
 intro l
 induction l with
 |nil=>
  intro n lf up stay hn _ hlf hlen
  obtain⟨n,rfl⟩:∃n',n=n'+1:=⟨n - 1,by omega⟩;rw [gU];dsimp only;rw [show List.isEmpty ([]:List Int)=true from rfl,iT,bR (BF (by simp only [List.length_nil] at hlen;omega)),bs];exact W.ret ⟨by simp,hlf,fun i=>by simp [dq]⟩
 |cons x l ih=>
  intro n lf up stay hn hx hlf hlen
  simp only [List.length_cons] at hn hlen;obtain⟨n,rfl⟩:∃n',n=n'+1:=⟨n - 1,by omega⟩;have hx0:=hx x (by simp);have hxl:∀y∈l,0≤y∧y < 8:=fun y hy=>hx y (by simp [hy]);obtain⟨xi,hxi⟩:=Int.eq_ofNat_of_zero_le hx0.1;subst hxi;have hhx:=hw xi (by omega);rw [gU];dsimp only;rw [show List.isEmpty ((xi:Int)::l)=false from rfl,iF,show pj ((xi:Int)::l)=some ((xi:Int),l) from rfl,bs,yR hm (by omega),bs];by_cases c:w (xi:Int)=true
  ·rw [decide_eq_true (hhx.2 c),iT,bs,bR (zr (n:=1000) (by omega) (by omega)),bs,bs];refine(ih n lf (up++[(xi:Int)]) stay (by omega) hxl hlf (by simp only [List.length_append,List.length_cons,List.length_nil];omega)).mono fun r hr=>?_;obtain⟨h1,h2,h3⟩:=hr;refine⟨?_,h2,fun i=>?_⟩
   ·rw [h1];simp [c]
   ·rw [h3,dq,if_pos c,show(!(up++[(xi:Int)]).isEmpty)=true by cases up <;> rfl]
  ·have c':w (xi:Int)=false:=by simpa using c
   rw [decide_eq_false (fun h=>c (hhx.1 h)),iF];cases up with
   |nil=>
    rw [if_neg (show¬(0:Int) < (([]:List Int).length:Int) by simp),bs,bs,bR (zr (n:=1000) (by omega) (by omega)),bs,bs];refine(ih n lf [] (stay++[(xi:Int)]) (by omega) hxl hlf (by simp only [List.length_append,List.length_cons,List.length_nil] at hlen⊢;omega)).mono fun r hr=>?_;obtain⟨h1,h2,h3⟩:=hr;refine⟨?_,h2,fun i=>?_⟩
    ·rw [h1];simp [c']
    ·rw [h3,dq,if_neg c];simp
   |cons u up=>
    obtain⟨o1,o2⟩:=yy (x:=(xi:Int)) (by omega) (by omega);obtain⟨p1,p2⟩:=yP hlf o1;rw [if_pos (show(0:Int) < ((u::up).length:Int) by simp only [List.length_cons];omega),bs];unfold dT;rw [bR (show(0:Int)≤(xi:Int) by omega),bs,bs,bs,bs,bR (zr (n:=1000) (by omega) (by omega)),bs,bs];refine(ih n _ (u::up) (stay++[(xi:Int)]) (by omega) hxl p1 (by simp only [List.length_append,List.length_cons,List.length_nil] at hlen⊢;omega)).mono fun r hr=>?_;obtain⟨h1,h2,h3⟩:=hr;refine⟨?_,h2,fun i=>?_⟩
    ·rw [h1];simp [c']
    ·rw [h3,p2,o2,dq,if_neg c];simp only [List.isEmpty_cons,Bool.not_false,if_true,List.mem_cons,or_assoc]
theorem KI(hk1:k≤1000000){m:Int}(hm:mK m){w:Int→Bool}(hw:∀i:Nat,i < 8→(fm m i↔w (i:Int)=true)){l:List Int}(hl:l.length < k)(hl9:l.length≤1000)(hx:∀x∈l,0≤x∧x < 8):
 W (ny k l m) fun r=>r.2=GN w l∧mK r.1∧∀i:Nat,fm r.1 i↔(i:Int)∈dq w false l:=by
 unfold ny
 rw [KG hl hk1,bs]
 refine(Fv hm hw l k 0 [] [] hl hx ⟨by decide,by decide⟩ (by simp only [List.length_nil];omega)).mono fun r hr=>?_
 obtain⟨h1,h2,h3⟩:=hr
 refine⟨by rw [h1];simp [GN],h2,fun i=>?_⟩
 rw [h3];simp [fm]
structure J2(p:List (List Int)):Prop where
 len:p.length≤3
 fit:∀l∈p,l.length≤5∧∀x∈l,0≤x∧x < 8
theorem J2.at{p:List (List Int)}(h:J2 p)(i:Nat):(p[i]?.getD []).length≤5∧∀x∈p[i]?.getD [],0≤x∧x < 8:=by
 rcases Nat.lt_or_ge i p.length with hi |hi
 ·rw [List.getElem?_eq_getElem hi];exact h.fit _ (List.getElem_mem hi)
 ·rw [List.getElem?_eq_none hi];simp
theorem J2.fitL{p:List (List Int)}(h:J2 p)(i:Nat):MJ (p[i]?.getD []):=⟨(h.at i).1,fun x hx=>((h.at i).2 x hx).1⟩
theorem J2.next{p:List (List Int)}(h:J2 p){w:Int→Bool}:J2 (p.map (GN w)):=
 ⟨by rw [List.length_map];exact h.len,fun l hl=>by
  obtain⟨q,hq,rfl⟩:=List.mem_map.1 hl
  have:=h.fit q hq
  exact⟨by rw [mj.length_eq];exact this.1,fun x hx=>this.2 x (mj.mem_iff.1 hx)⟩⟩
structure mE(k:Nat)(t:aW):Prop where
 k0:50≤k
 k1:k≤1000000
 things:t.2.1.length≤8
 worn:∀x∈t.2.1,x.2.length < k
theorem Ix{t:aW}(hk0:50≤k){p:List (List Int)}(hp:J2 p)(hl:p.length=t.2.2.length):fp k (t,()) (dR p)=some p:=by
 have h3:=hp.len;unfold fp;rw [bR (by exact⟨by omega,show Int.toNat (t.2.2.length:Int)≤4294967296 by omega⟩),bs]
 have hb:=W.loop (f:=ek k (t,()) (dR p)) (Q:=fun r=>r=p) (fun q y=>∃j:Nat,y.2=(j:Int)∧j≤p.length∧q=p.length - j∧y.1=p.take j++List.replicate (p.length - j) []) (by
  rintro aS q ⟨o,y⟩ ⟨j,hj,hle,hq,ho⟩ ih;simp only at hj ho;subst hj;unfold ek;dsimp only;rw [List.length_replicate];refine W.ite (fun hlt=>?_) (fun hge=>W.ret ?_)
  ·have hj:j < p.length:=by omega
   have ho':j < o.length:=by rw [ho];simp only [List.length_append,List.length_take,List.length_replicate];omega
   rw [yL hk0 (by omega) (hp.fitL j),bs,cD ho',bs,bh (by omega) (by omega),bs];refine ih (q - 1) (_,(j:Int)+1) (by omega) ⟨j+1,by show(j:Int)+1=((j+1:Nat):Int);omega,by omega,by omega,?_⟩;show List.set o j (p[j]?.getD [])=_;have e1:p.length - j=p.length - (j+1)+1:=by omega
   rw [ho,List.set_append_right _ _ (by rw [List.length_take];omega),List.length_take,Nat.min_eq_left (by omega),Nat.sub_self,e1,List.replicate_succ,List.set_cons_zero,List.take_add_one,List.getElem?_eq_getElem hj];simp only [Option.toList_some,Option.getD_some,List.append_assoc,List.cons_append,List.nil_append]
  ·have:j=p.length:=by omega
   subst this;rw [ho];simp) p.length k (List.replicate (Int.toNat (t.2.2.length:Int)) [],0) (by omega) ⟨0,rfl,by omega,by omega,by simp [hl]⟩
 obtain⟨r,er,rfl⟩:=hb;rw [er,bs]
def yM(t:aW)(p:List (List Int))(d:Int):List Int:=((List.range t.2.1.length).filter fun(i:Nat)=>decide (∃l∈p,(i:Int)∈dq (nY t d) false l)).map fun(i:Nat)=>(i:Int)
theorem eK.fit{t:aW}{p:List (List Int)}(h:eK t p):J2 p:=by
 have h5:=h.g.things;refine⟨by have:=h.len;have:=h.g.trunks;omega,fun l hl=>?_⟩;have hsub:∀x∈l,x∈p.flatten:=fun x hx=>List.mem_flatten.2 ⟨l,hl,hx⟩;have hnd:l.Nodup:=(List.pairwise_flatten.1 h.nd).1 l hl;have hr:∀x∈l,0≤x∧x < (t.2.1.length:Int):=fun x hx=>h.rng x (hsub x hx);have:=tO _ l hnd hr;exact⟨by omega,fun x hx=>by have:=hr x hx;omega⟩
end
section
variable {k:Nat}
def pU(t:aW)(d:Int)(p:List (List Int)):List (List Int):=p.map (GN (nY t d))
def O2(t:aW)(p:List (List Int)):Nat→List (List Int)
 |0=>p
 |n+1=>pU t n (O2 t p n)
theorem BZ{t:aW}{l l':List Int}(h:l.Perm l'):cJ t l=cJ t l':=by
 induction h with
 |nil=>rfl
 |cons x _ ih=>simp only [cJ,ih]
 |swap x y l=>simp only [cJ];omega
 |trans _ _ h1 h2=>rw [h1,h2]
theorem Gj{t:aW}{d:Int}{p:List (List Int)}:(pU t d p).flatten.Perm p.flatten:=by
 unfold pU
 induction p with
 |nil=>exact List.Perm.refl _
 |cons l p ih=>
  simp only [List.map_cons,List.flatten_cons];exact mj.append ih
theorem eK.next{t:aW}{d:Int}{p:List (List Int)}(h:eK t p):eK t (pU t d p):=by
 have hp:=Gj (t:=t) (d:=d) (p:=p);refine⟨h.g,by unfold pU;rw [List.length_map];exact h.len,hp.nodup_iff.2 h.nd,fun x hx=>h.rng x (hp.mem_iff.1 hx),fun i hi=>hp.mem_iff.2 (h.all i hi),fun i hi=>?_⟩;have hi':i < p.length:=by unfold pU at hi;rwa [List.length_map] at hi
 have e:(pU t d p)[i]=GN (nY t d) p[i]:=by simp only [pU,List.getElem_map]
 rw [e,BZ mj];exact h.room i hi'
theorem eK.aft{t:aW}{p:List (List Int)}(h:eK t p):∀n,eK t (O2 t p n)
 |0=>h
 |n+1=>(h.aft n).next
theorem D7{n:Nat}:∀{l:List Int} {j:Nat} {m:List Int},(m++l).Nodup→(∀x∈l,0≤x∧x < (n:Int))→bL (fun m _ x=>nI n m x) j l m= .ok (m++l)
 |[],j,m,_,_=>by simp [bL]
 |x::l,j,m,hn,hr=>by
  have hx:=hr x (by simp)
  have hnm:x∉m:=fun h=>by
   rw [List.nodup_append] at hn
   exact hn.2.2 x h x (by simp) rfl
  have e:nI n m x= .ok (m++[x]):=by
   unfold nI;rw [if_neg (not_not_intro (show 0≤x∧x≤(n:Int) - 1 by omega)),if_neg hnm]
  rw [bL,e];show bL _ (j+1) l (m++[x])=_;rw [D7 (by simpa using hn) (fun y hy=>hr y (by simp [hy]))];simp
theorem xc{t:aW}:∀{p:List (List Int)} {j:Nat} {m:List Int},(m++p.flatten).Nodup→(∀x∈p.flatten,0≤x∧x < (t.2.1.length:Int))→(∀i (h:i < p.length),cJ t p[i]≤t.2.2[j+i]?.getD 0)→bL (iH t) j p m= .ok (m++p.flatten)
 |[],j,m,_,_,_=>by simp [bL]
 |l::p,j,m,hn,hr,hs=>by
  have h0:¬t.2.2[j]?.getD 0 < cJ t l:=by have:=hs 0 (by simp);simp only [List.getElem_cons_zero,Nat.add_zero] at this;omega
  have e:iH t m j l= .ok (m++l):=by
   unfold iH;rw [D7 (by rw [List.flatten_cons,←List.append_assoc] at hn;exact(List.nodup_append.1 hn).1) (fun x hx=>hr x (by simp [hx]))];exact if_neg h0
  rw [bL,e];show bL _ (j+1) p (m++l)=_
  rw [xc (by simpa using hn) (fun x hx=>hr x (by rw [List.flatten_cons];exact List.mem_append_right _ hx)) (fun i hi=>by
   have:=hs (i+1) (by simp;omega);have e3:j+1+i=j+(i+1):=by omega
   rw [e3];exact this)]
  simp
theorem eK.chkV{t:aW}{p:List (List Int)}(h:eK t p):chkV t p=0:=by
 unfold Go.Proofs.YtmeojbemjkmebaaGreatDoor.chkV;have hl:=h.len;have e:=xc (t:=t) (j:=0) (m:=[]) (by simpa using h.nd) h.rng (fun i hi=>by rw [Nat.zero_add];exact h.room i hi);rw [if_neg (by omega),if_neg (by omega),e,List.nil_append];have hm:uG t.2.1.length p.flatten:=⟨h.nd,h.rng⟩;simp only [hm.full.2 h.all,if_false]
theorem eK.chk{t:aW}{p:List (List Int)}(h:eK t p)(ht:jp t=0):pW t p=0:=by
 unfold pW;rw [if_neg (not_not_intro ht)];exact h.chkV
theorem Ez{t:aW}{p:List (List Int)}(h:pW t p=0):jp t=0:=by
 unfold pW at h;by_cases c:jp t=0
 ·exact c
 ·rw [if_pos c] at h;exact h
structure At(k:Nat)(t:aW)(p:List (List Int)):Prop where
 small:eS k t
 dayT:mE k t
 chk:pW t p=0
theorem At.good{t:aW}{p:List (List Int)}(h:At k t p):eK t p:=AS h.chk
theorem At.aft{t:aW}{p:List (List Int)}(h:At k t p)(n:Nat):At k t (O2 t p n):=⟨h.small,h.dayT,(h.good.aft n).chk (Ez h.chk)⟩
theorem At.ok{t:aW}{p:List (List Int)}(h:At k t p):cY k t p=some 0:=by
 have:=h.dayT.k0;rw [Ds h.small (by omega) (fun l hl=>by have:=(h.good.fit.fit l hl).1;omega),h.chk]
theorem EU.at{t:aW}{p:List (List Int)}{a:Nat}(h:EU t p a)(hk:50≤k)(hk1:k≤1000000)(ha:a≤8)(c:pW t p=0):At k t p:=by
 have hs:=h.small hk hk1 ha;exact⟨hs,⟨hk,hk1,by have:=(AS c).g.things;omega,hs.worn⟩,c⟩
theorem Fq{q:List (List Int)}(hn:q.flatten.Nodup){i i':Nat}(h:i < q.length)(h':i' < q.length){x:Int}(hx:x∈q[i])(hx':x∈q[i']):i=i':=by
 induction q generalizing i i' with
 |nil=>simp at h
 |cons l q ih=>
  rw [List.flatten_cons,List.nodup_append] at hn;cases i with
  |zero=>
   cases i' with
   |zero=>rfl
   |succ i'=>exact absurd rfl (hn.2.2 x hx x (List.mem_flatten.2 ⟨_,List.getElem_mem (by simpa using h'),by simpa using hx'⟩))
  |succ i=>
   cases i' with
   |zero=>exact absurd rfl (hn.2.2 x hx' x (List.mem_flatten.2 ⟨_,List.getElem_mem (by simpa using h),by simpa using hx⟩))
   |succ i'=>exact congrArg (· +1) (ih hn.2.1 (i:=i) (i':=i') (by simpa using h) (by simpa using h') (by simpa using hx) (by simpa using hx'))
end
section
variable {k:Nat}
theorem iZ{w:Int→Bool}:∀{l:List Int} {u:Bool},l.Nodup→(dq w u l).Nodup
 |[],_,_=>by simp [dq]
 |n::l,u,h=>by
  obtain⟨h1,h2⟩:=List.nodup_cons.1 h
  rw [dq]
  split
  ·
   exact iZ h2
  ·
   split
   ·
    exact List.nodup_cons.2 ⟨fun h'=>h1 (jd h'),iZ h2⟩
   ·
    exact iZ h2
theorem A4{q:List Int}(hn:q.Nodup){N:Nat}(hr:∀x∈q,0≤x∧x < (N:Int)):((List.range N).filter fun(i:Nat)=>decide ((i:Int)∈q)).length=q.length:=by
 have h:(((List.range N).filter fun(i:Nat)=>decide ((i:Int)∈q)).map fun(i:Nat)=>(i:Int)).Perm q:=by
  rw [List.perm_iff_count];intro a
  have h1:(((List.range N).filter fun(i:Nat)=>decide ((i:Int)∈q)).map fun(i:Nat)=>(i:Int)).Nodup:=by
   refine List.Pairwise.map _ (fun a b hab=>?_) (List.nodup_range.filter _);omega
  rw [h1.count,hn.count]
  have:a∈(((List.range N).filter fun(i:Nat)=>decide ((i:Int)∈q)).map fun(i:Nat)=>(i:Int))↔a∈q:=by
   simp only [List.mem_map,List.mem_filter,List.mem_range,decide_eq_true_eq];constructor
   ·rintro⟨i,⟨_,h⟩,rfl⟩;exact h
   ·intro h;have:=hr a h;exact⟨a.toNat,⟨by omega,by rw [Int.toNat_of_nonneg this.1];exact h⟩,Int.toNat_of_nonneg this.1⟩
  simp only [this]
 have:=h.length_eq;rwa [List.length_map] at this
theorem IW{s:Int}(hs:mK s){i:Nat}(hi:i < 8):xO s (i:Int)=decide (fm s i):=by
 have:=yR (k:=0) hs hi;unfold dY at this;rw [bR (by omega),bs] at this;exact Option.some.inj this
theorem Eo{s:Int}(hs:mK s):∀(n i:Nat),i+n≤8→rL s n i=((List.range' i n).filter fun j=>decide (fm s j)).length
 |0,i,_=>by simp [rL]
 |n+1,i,h=>by
  rw [rL,IW hs (by omega),Eo hs n (i+1) (by omega),List.range'_succ,List.filter_cons]
  by_cases c:fm s i
  ·
   simp [c];omega
  ·
   simp [c]
def vy(t:aW):Nat→Int→List Int→Nat
 |0,_,_=>0
 |n+1,d,l=>(dq (nY t d) false l).length+vy t n (d+1) (GN (nY t d) l)
theorem IX{t:aW}(h:mE k t):∀(n:Nat) (d:Int) (l:List Int),l.Nodup→(∀x∈l,0≤x∧x < (t.2.1.length:Int))→QO k (t,()) n d l=some (vy t n d l)
 |0,d,l,_,_=>rfl
 |n+1,d,l,hn,hx=>by
  have hk0:=h.k0
  have h8:=h.things
  have hl:=tO _ l hn hx
  obtain⟨m,em,hm,hmm⟩:=GU h.k1 (t:=t) (d:=d) h8 (by omega) h.worn
  obtain⟨r,er,h1,h2,h3⟩:=KI h.k1 (m:=m) hm (w:=nY t d) (fun j _=>hmm j) (l:=l) (by omega) (by omega) (fun x hx'=>by have:=hx x hx';omega)
  rw [QO,em,bs,er,bs,h1,IX h n (d+1) _ (mj.nodup_iff.2 hn) (fun x hx'=>hx x (mj.mem_iff.1 hx')),bs,vy]
  congr 2
  rw [Eo h2 _ _ (by simpa using h8)]
  show(List.filter _ (List.range' 0 t.2.1.length)).length=_
  rw [←List.range_eq_range',←A4 (iZ hn) (N:=t.2.1.length) (fun x hx'=>hx x (jd hx'))]
  congr 1
  exact List.filter_congr fun i _=>decide_eq_decide.2 (h3 i)
def oe(t:aW)(n:Nat)(d:Int)(p:List (List Int)):Nat:=(p.map (vy t n d)).sum
theorem tG{t:aW}{n:Nat}{d:Int}{p:List (List Int)}:oe t (n+1) d p=(p.map fun l=>(dq (nY t d) false l).length).sum+oe t n (d+1) (pU t d p):=by
 unfold oe pU
 induction p with
 |nil=>rfl
 |cons l p ih=>rw [List.map_cons,List.sum_cons,ih];simp only [List.map_cons,List.sum_cons,vy];omega
theorem D4{t:aW}:∀(n:Nat) (d:Int) (l:List Int),vy t n d l≤n * l.length
 |0,_,_=>by simp [vy]
 |n+1,d,l=>by
  have h1:=D4 (t:=t) n (d+1) (GN (nY t d) l)
  have h2:∀(l:List Int) (u:Bool),(dq (nY t d) u l).length≤l.length:=by
   intro l
   induction l with
   |nil=>intro u;simp [dq]
   |cons x l ih=>
    intro u;rw [dq];split
    ·have:=ih true;simp only [List.length_cons];omega
    ·split
     ·have:=ih u;simp only [List.length_cons];omega
     ·have:=ih u;simp only [List.length_cons];omega
  have h3:=h2 l false;rw [mj.length_eq] at h1;rw [vy,Nat.add_mul,Nat.one_mul];omega
theorem Ls{t:aW}{p:List (List Int)}(h:At k t p){q:List (List Int)}(hq:eK t q){d:Int}(hd:0≤d∧d≤t.1):f6 k (t,()) (dR q) d=some ((oe t (t.1 - d).toNat d q:Nat):Int):=by
 have g:=hq.g;have f:=hq.fit;have h3:=g.trunks;have h5:=g.things;have h6:=g.days;have hlen:=hq.len
 have hrow:∀i:Nat,(q[i]?.getD []).Nodup∧∀x∈q[i]?.getD [],0≤x∧x < (t.2.1.length:Int):=fun i=>by
  rcases Nat.lt_or_ge i q.length with hi |hi
  ·rw [List.getElem?_eq_getElem hi,Option.getD_some];exact⟨(List.pairwise_flatten.1 hq.nd).1 _ (List.getElem_mem hi),fun x hx=>hq.rng x (List.mem_flatten.2 ⟨_,List.getElem_mem hi,hx⟩)⟩
  ·rw [List.getElem?_eq_none hi,Option.getD_none];exact⟨List.nodup_nil,fun x hx=>by cases hx⟩
 have hone:∀i:Nat,i < 3→pQ k (t,()) (dR q) (i:Int) d=some (vy t (t.1 - d).toNat d (q[i]?.getD [])):=fun i hi=>by
  unfold pQ;dsimp only;rw [if_pos (show t.1≤1000000∧t.2.1.length≤1000000∧0≤d by omega),yL h.dayT.k0 hi (f.fitL i),bs,IX h.dayT _ _ _ (hrow i).1 (hrow i).2]
 have hsum:∀n:Nat,n≤q.length→wb k (t,()) (dR q) d n=some (oe t (t.1 - d).toNat d (q.take n)):=by
  intro n
  induction n with
  |zero=>intro _;simp [wb,oe]
  |succ n ih=>
   intro hn;rw [wb,ih (by omega),bs,hone n (by omega),bs,List.take_add_one,List.getElem?_eq_getElem (show n < q.length by omega)];simp only [oe,Option.toList_some,Option.getD_some,List.map_append,List.map_cons,List.map_nil,List.sum_append,List.sum_cons,List.sum_nil,Nat.add_zero]
 have hb:oe t (t.1 - d).toNat d q≤1000:=by
  have hl5:∀l∈q,vy t (t.1 - d).toNat d l≤30:=fun l hl=>by
   have h1:=D4 (t:=t) (t.1 - d).toNat d l;have h2:=(f.fit l hl).1;have h4:(t.1 - d).toNat≤6:=by omega
   have:=Nat.mul_le_mul h4 h2;omega
  have:∀(q:List (List Int)),(∀l∈q,vy t (t.1 - d).toNat d l≤30)→oe t (t.1 - d).toNat d q≤30 * q.length:=by
   intro q
   induction q with
   |nil=>intro _;simp [oe]
   |cons l q ih=>
    intro hq;have h1:=hq l (by simp);have h2:=ih fun l hl=>hq l (by simp [hl]);simp only [oe,List.map_cons,List.sum_cons,List.length_cons] at h2⊢;omega
  have:=this q hl5;have:=f.len;omega
 unfold f6;dsimp only;rw [if_pos (show t.2.2.length≤1000 by omega),←hlen,hsum q.length (Nat.le_refl _),List.take_of_length_le (Nat.le_refl _),bs,if_pos (show oe t (t.1 - d).toNat d q < 9223372036854775808 by omega)]
theorem N6{q:List (List Int)}(f:J2 q):JZ (dR q):=by
 have hp:∀i,NJ (o7 (q[i]?.getD [])):=fun i=>by
  obtain⟨h1,h2⟩:=f.at i
  have g:∀j:Nat, -1≤(q[i]?.getD [])[j]?.getD (-1)∧(q[i]?.getD [])[j]?.getD (-1) < 8:=fun j=>by
   rcases Nat.lt_or_ge j (q[i]?.getD []).length with hj |hj
   ·have:=h2 _ (List.getElem_mem hj);rw [List.getElem?_eq_getElem hj,Option.getD_some];omega
   ·rw [List.getElem?_eq_none hj,Option.getD_none];omega
  refine⟨rfl,fun n hn=>?_⟩;simp only [o7,List.mem_cons,List.not_mem_nil,or_false] at hn;rcases hn with rfl |rfl |rfl |rfl |rfl
  ·exact g 0
  ·exact g 1
  ·exact g 2
  ·exact g 3
  ·exact g 4
 refine⟨rfl,fun r hr=>?_⟩;simp only [dR,List.mem_cons,List.not_mem_nil,or_false] at hr;rcases hr with rfl |rfl |rfl
 ·exact hp 0
 ·exact hp 1
 ·exact hp 2
theorem AK{t:aW}{q:List (List Int)}(hq:eK t q){d:Int}:(yM t q d).length=(q.map fun l=>(dq (nY t d) false l).length).sum:=by
 have key:∀(q:List (List Int)),q.flatten.Nodup→(∀x∈q.flatten,0≤x∧x < (t.2.1.length:Int))→((List.range t.2.1.length).filter fun(i:Nat)=>decide (∃l∈q,(i:Int)∈dq (nY t d) false l)).length=(q.map fun l=>(dq (nY t d) false l).length).sum:=by
  intro q hn hr
  have e:(q.map fun l=>(dq (nY t d) false l).length).sum=(q.map (dq (nY t d) false)).flatten.length:=by
   rw [List.length_flatten,List.map_map];rfl
  have hsub:∀x∈(q.map (dq (nY t d) false)).flatten,x∈q.flatten:=fun x hx=>by
   obtain⟨l',hl',hx⟩:=List.mem_flatten.1 hx;obtain⟨l,hl,rfl⟩:=List.mem_map.1 hl';exact List.mem_flatten.2 ⟨l,hl,jd hx⟩
  have hnd:(q.map (dq (nY t d) false)).flatten.Nodup:=by
   rw [List.Nodup,List.pairwise_flatten] at hn⊢;refine⟨fun l' hl'=>?_,?_⟩
   ·obtain⟨l,hl,rfl⟩:=List.mem_map.1 hl';exact iZ (hn.1 l hl)
   ·exact List.Pairwise.map _ (fun a b hab x hx y hy=>hab x (jd hx) y (jd hy)) hn.2
  rw [e,←A4 hnd (N:=t.2.1.length) (fun x hx=>hr x (hsub x hx))];congr 1;refine List.filter_congr fun i _=>decide_eq_decide.2 ?_;simp only [List.mem_flatten,List.mem_map];constructor
  ·rintro⟨l,hl,h⟩;exact⟨_,⟨l,hl,rfl⟩,h⟩
  ·rintro⟨_,⟨l,hl,rfl⟩,h⟩;exact⟨l,hl,h⟩
 unfold yM;rw [List.length_map];exact key q hq.nd hq.rng
def gP(o:List Int)(L:Nat→Bool):List Int:=o.mapIdx fun i v=>if L i then v+1 else v
theorem wx{o:List Int}{L:Nat→Bool}:(gP o L).length=o.length:=by unfold gP;rw [List.length_mapIdx]
theorem Jr{o:List Int}{L:Nat→Bool}{i:Nat}(hi:i < o.length):(gP o L).set i (o[i]+1)=gP o (fun j=>L j || decide (j=i)):=by
 refine List.ext_getElem (by simp [gP]) fun j h1 h2=>?_;simp only [gP,List.length_set,List.length_mapIdx] at h1;rw [List.getElem_set];simp only [gP,List.getElem_mapIdx];by_cases e:i=j
 ·subst e;simp
 ·have:¬j=i:=fun h=>e h.symm;simp [e,this]
theorem Js{o:List Int}{L:Nat→Bool}{i:Nat}(hi:i < o.length)(hL:L i=false):aQ (gP o L) (i:Int)=some o[i]:=by
 rw [cD (by rw [wx];exact hi)];simp [gP,hL]
theorem wy{o:List Int}{L L':Nat→Bool}(h:∀i,i < o.length→L i=L' i):gP o L=gP o L':=by
 refine List.ext_getElem (by simp [gP]) fun j h1 h2=>?_;simp only [gP,List.length_mapIdx] at h1;simp only [gP,List.getElem_mapIdx,h j h1]
theorem ya{o:List Int}:gP o (fun _=>false)=o:=by
 refine List.ext_getElem (by simp [gP]) fun j h1 h2=>?_;simp [gP]
def Iz(t:aW)(q:List (List Int))(d:Int)(i:Nat):Bool:=decide (∃l∈q,(i:Int)∈dq (nY t d) false l)
end
end Go.Proofs.YtmeojbemjkmebaaGreatDoor
