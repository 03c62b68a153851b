import Derived.Test.YtcnpijmfgfnpiaaGreatDoorXZB5
import Derived.Test.YtcnpijmfgfnpiaaGreatDoorXZB6
import Derived.Test.YtcnpijmfgfnpiaaGreatDoorXZF2
set_option linter.unusedSimpArgs false
set_option linter.unusedVariables false
namespace Go.Proofs.YtcnpijmfgfnpiaaGreatDoor
namespace K
open Go Go.ChangeShapes Go.WideShapes Go.ChangeAt Go.RowKit
@[reducible] def jg:Ty→Bool
 | .int _=>true
 | .bool=>true
 | .pair a b=>jg a && jg b
 | .agg t=>jg t
 | .arr _ t=>jg t
 | .slice t=>jg t && Nat.blt 0 t.cells
 |_=>false
def we:Value→Bool
 | .iface _ _=>true
 |_=>false
theorem t6{α:Type}{R:α→List Value→Prop}(h:∀x cs,R x cs→∀v∈cs,we v=false):∀{l:List α} {cs:List Value},cR R l cs→∀v∈cs,we v=false
 |[],_,e=>by simp [cR] at e;simp [e]
 |_::_,_,⟨c1,c2,e,h1,h2⟩=>by
  subst e
  intro v hv
  rcases List.mem_append.1 hv with hv |hv
  ·
   exact h _ _ h1 v hv
  ·
   exact t6 h h2 v hv
theorem NQ{S:FS}{w:World}(t:Ty):∀{x:t.den} {cs:List Value},jg t=true→rd S w t x cs→∀v∈cs,we v=false:=by
 induction t with
 |int k=>intro x cs _ h v hv;simp only [rd] at h;subst h;simp at hv;subst hv;rfl
 |bool=>intro x cs _ h v hv;simp only [rd] at h;subst h;simp at hv;subst hv;rfl
 |pair a b iha ihb=>
  rintro x cs hp ⟨c1,c2,rfl,h1,h2⟩ v hv;simp [jg] at hp;rcases List.mem_append.1 hv with hv |hv
  ·exact iha hp.1 h1 v hv
  ·exact ihb hp.2 h2 v hv
 |agg t ih=>intro x cs hp h;exact ih hp h
 |arr n t ih=>intro l cs hp h;exact t6 (fun _ _ h=>ih hp h) h.2
 |slice t ih=>
  intro l cs hp h v hv;rcases h with⟨a,cap,rfl,_⟩ |⟨b,off,cap,c,T,fz,rfl,_⟩ <;> (simp at hv;subst hv;rfl)
 |_=>intro x cs hp;cases hp
theorem Io{S:FS}{w:World}{b0:Nat}{c0:Array Value}{T0:TypeId}{fz0:Nat×Nat}(h0:w.heap[b0]? =some (.cells c0 T0 fz0))(hc:∀v∈c0.toList,we v=true)(t:Ty):
 ∀{x:t.den} {cs:List Value},jg t=true→rd S w t x cs→rd (fun b=>S b∧b≠b0) w t x cs:=by
 induction t with
 |int k=>intro x cs _ h;exact h
 |bool=>intro x cs _ h;exact h
 |pair a b iha ihb=>
  rintro x cs hp ⟨c1,c2,rfl,h1,h2⟩;simp [jg] at hp;exact⟨c1,c2,rfl,iha hp.1 h1,ihb hp.2 h2⟩
 |agg t ih=>intro x cs hp h;exact ih hp h
 |arr n t ih=>intro l cs hp h;exact⟨h.1,bf (fun _ _ h=>ih hp h) h.2⟩
 |slice t ih=>
  intro l cs hp h;have hp1:jg t=true:=by simp [jg] at hp;exact hp.1
  have hp2:0 < t.cells:=by simp [jg] at hp;exact hp.2
  rcases h with h |⟨b,off,cap,c,T,fz,rfl,hle,hS,hb,hr⟩
  ·exact .inl h
  ·by_cases hl:l=[]
   ·subst hl;exact .inl ⟨_,cap,rfl,rfl⟩
   ·refine .inr ⟨b,off,cap,c,T,fz,rfl,hle,⟨hS,fun e=>?_⟩,hb,bf (fun _ _ h=>ih hp1 h) hr⟩;subst e;rw [h0] at hb;cases hb;have hlen:=f9 (fun _ _ h=>aF t h) hr;have hno:=t6 (fun _ _ h=>NQ t hp1 h) hr;have hpos:0 < l.length:=List.length_pos_iff.2 hl;have:0 < ((c0.toList.drop off).take (l.length * t.cells)).length:=by rw [hlen];exact Nat.mul_pos hpos hp2
    obtain⟨v,hv⟩:=List.exists_mem_of_length_pos this;have h1:=hno v hv;have h2:=hc v (List.mem_of_mem_drop (List.mem_of_mem_take hv));rw [h1] at h2;cases h2
 |_=>intro x cs hp;cases hp
theorem wF{S:FS}{w:World}{b0:Nat}{c0:Array Value}{T0:TypeId}{fz0:Nat×Nat}(h0:w.heap[b0]? =some (.cells c0 T0 fz0))(hc:∀v∈c0.toList,we v=true):
 ∀{ts:List (TypeId×Ty)} {uz:List A} {vs:List Value},(∀p∈ts,jg p.2=true)→Lk ts uz→fy S w uz vs→fy (fun b=>S b∧b≠b0) w uz vs
 |[],uz,vs,_,hl,h=>by
  have hl:uz=[]:=hl
  subst hl
  exact h
 |p::ts,uz,vs,hp,hl,h=>by
  obtain⟨d,uz',rfl,hl'⟩:=hl
  obtain⟨v,vs',e,⟨cs,hr,hv⟩,h2⟩:=h
  exact⟨v,vs',e,⟨cs,Io h0 hc p.2 (hp p (by simp)) hr,hv⟩,wF h0 hc (fun q hq=>hp q (by simp [hq])) hl' h2⟩
section
variable {H:Type}{enc:TypeId×Value→H}{P:Program}
theorem zE{M:Md P}{f:Nat}{fn:Func}{B:TypeId}{s:ChangeSpec}{b0:Nat}{c0:Array Value}{T0:TypeId}{p0:Obj→Prop}(hp0:∀o,p0 o↔o= .cells c0 T0 (0,0))(hc0:∀v∈c0.toList,we v=true)
 (ts:List (TypeId×Ty)) (hpl:∀p∈ts,jg p.2=true) (hp:fn.params.toList=ts.map (·.1)) (hr:fn.resultTypes= #[B]) (hB:P.underlying B=some .bool)
 (hm:∀p∈ts,MT P p.2 (.inl p.1)) (laid:laidOutB P=true) (hT:∀T∈ts.map (·.1),P.readableRec T=true∧T < P.types.size)
 (hs:∀ds:List (DataW H),ds.length=ts.length→s.fn H ds={ results:=[.lit (.bool true)],args:=ds }) (hv:s.vars=[])
 (law:∀uz,Lk ts uz→dc M f uz [.inv b0 p0] (fun _:Unit=>(bz [.eq (.bool true)],[.inv b0 p0])))
 (W:World) (base:Nat) (args:Array Value) (ds gs:List (DataW H)) (before:List MemPlace) (hb0:W.heap[b0]? =some (.cells c0 T0 (0,0)))
 (hval:∀(j:Nat) t v,fn.params[j]? =some t→args[j]? =some v→Value.okWide P W .any base t v)
 (hW:DataW.Whole enc P fn.params.toList s.vars false W args.toList ds gs before):
 l6 M .normal f args (vw W) fun e W'=>∃v,e= .returned v∧∀v1,bH W' v1→s.post enc P fn false true false false W args v v1.toWorld:=by
 have hW':=hW
 obtain⟨p,q,hA,hV,rfl,_,_⟩:=hW
 rw [hv] at hV
 obtain⟨rfl,rfl⟩:=trodVars_none hV
 have hlt:∀x∈p,x.block < W.heap.size:=hA.lt
 have hlen:=yo hA
 rw [hp,List.length_map] at hlen
 rw [hp] at hA
 obtain⟨uz,hL,h2⟩:=Cj (S:=fun b=>b < W.heap.size) (base:=base) hm (fun j t v h1 h2=>hval j t v (by rw [←hp] at h1;simpa using h1) (by simpa using h2)) hA hlt
 have h3:=wF hb0 hc0 hpl hL h2
 have hlt0:b0 < W.heap.size:=(Array.getElem?_eq_some_iff.1 hb0).1
 have hft:∀b,aw [D.inv b0 p0] b↔b=b0:=fun b=>by
  rw [cI];exact⟨fun h=>(Option.some.inj h).symm,fun h=>by rw [h];rfl⟩
 have hO:aU [.inv b0 p0] (fun b=>b < W.heap.size∧b≠b0) (vw W):=by
  refine⟨fun d hd=>?_,fun b hb=>?_,List.pairwise_singleton _ _,fun b _=>⟨fun h=>h,fun h=>h⟩,fun _ _ h=>h,fun _ h=>h.elim,fun _ h=>h.elim⟩
  ·simp at hd;subst hd;exact⟨_,hb0,(hp0 _).2 rfl⟩
  ·rw [hft] at hb;subst hb;exact⟨fun h=>h.2 rfl,hlt0⟩
 have:=law uz hL .normal (fun e=>nomatch e) (fun b=>b < W.heap.size∧b≠b0) (vw W) args.toList (fun _ h=>h.1) h3 hO
 rw [Array.toArray_toList] at this
 refine this.mono ?_
 rintro e' W' ⟨_,S',v,rfl,h1,h2,h4,_⟩
 obtain rfl:v= .bool true:=h2
 refine⟨_,rfl,fun v1 hrel=>?_⟩
 have h5:=h4.rely h1.dom hrel
 replace h1:=h1.trans (bF.rely (X:=aw [D.inv b0 p0]) h1.dom hrel) fun b hb=>.inl hb
 obtain⟨o1,k0,k0'⟩:=h5.holds _ (List.mem_singleton.2 rfl)
 rw [(hp0 _).1 k0'] at k0
 have h6:bF (aw []) (fun b=>b < W.heap.size∧b≠b0) (vw W) S' v1:=by
  refine⟨h1.sub,fun b hb=>(h1.new b hb).imp id (Or.imp id fun hx=>absurd hb (h5.own b hx).1),h1.dom,h1.size,fun b hb ha hx=>?_,h1.os,h1.tape,h1.output,h1.subA,h1.oldA,h1.Z⟩;by_cases e:b=b0
  ·subst e;exact k0.trans hb0.symm
  ·exact h1.keep b hb ha (fun h=>e ((hft b).1 h))
 obtain⟨k1,k2⟩:=Dc (may:=(· ∈p++[])) h6
 have hk:∀b,b < W.heap.size→v1.heap[b]? =W.heap[b]? :=fun b hb=>h6.keep b hb (fun hx=>hx) (fun hx=>eJ hx)
 refine Fo (pa:=p) (pv:=[]) hW' (fun _ _ _=>?_) (fun sp hsp=>?_) (fun _ _=>?_) rfl k1 k2 (ok_one hr rfl (okWide_bool_mk hB _))
 ·
  rw [hr,List.append_nil,hs ds hlen];exact trodAll_mk1 (shut_bool hB _)
 ·
  rw [hp,List.append_nil,hs ds hlen];exact zL laid hk hT hA (fun x hx=>⟨hlt x hx,hsp x (by simpa using hx)⟩)
 ·
  rw [hv,List.append_nil,hs ds hlen];rfl
end
section
open Go.Conc
variable {H:Type}{enc:TypeId×Value→H}
theorem xl{a:Assume}{C:Checked}{os:Os}{f:FuncId}{fn:Func}{s:ChangeSpec}{conds:List PathCond}{apart fresh handsOn again:Bool}{X:World→Prop}
 (hX:∀(w w':World),w.heap=w'.heap→X w→X w') (own:ownKnob C.prog.godebug=none) (started:os.Started) (hfn:C.prog.funcs[f]? =some fn)
 (witness:∃(w:World) (tape:Tape) (i:Input),w.os=os∧(w.forCall tape i).Shaped C.prog∧i.vars=[]∧Input.okWide C.prog (w.forCall tape i) .any w.heap.size f i∧
  ((s.pre enc C.prog fn conds apart (w.forCall tape i).memory i.args∧X (w.forCall tape i).memory)∧sizedMet enc C.prog fn (OpenSpec.ofChange s) apart (w.forCall tape i).memory i.args)∧a.holds C.prog (lone (Frame.enter C.prog f i.args .normal) [] (w.forCall tape i)))
 (runs:∀(W:World) (base:Nat) (args:Array Value) (ds gs:List (DataW H)) (before:List MemPlace),W.ShapedOpen C.prog→
  (∀(j:Nat) t v,fn.params[j]? =some t→args[j]? =some v→Value.okWide C.prog W .any base t v)→
  DataW.Whole enc C.prog fn.params.toList s.vars apart W args.toList ds gs before→X W→
  a.holds C.prog (lone (Frame.enter C.prog f args .normal) [] W)→
  ∃M last o w' t',runNT C.prog (M+1) (solo (Conc.G (Frame.enter C.prog f args .normal) []) W) #[]=(.ended o w',t')∧runN C.prog M (solo (Conc.G (Frame.enter C.prog f args .normal) []) W)= .next last∧
   step C.prog last= .ended o w'∧Conc.Good C.prog (fun v W'=>s.post enc C.prog fn apart fresh handsOn again W args v W') last o w' t'):
 ReturnsInLeavingWide a C os f .any (fun w args=>(s.pre enc C.prog fn conds apart w args∧X w)∧sizedMet enc C.prog fn (OpenSpec.ofChange s) apart w args) (s.post enc C.prog fn apart fresh handsOn again):=by
 refine returnsInLeavingWide_of_good own started witness ?_
 intro w tape i _ hsh _ hok hpre hholds
 obtain⟨_,_,_,fn',hfn',_,_,_,_,hval⟩:=hok
 obtain rfl:fn'=fn:=Option.some.inj (hfn'.symm.trans hfn)
 obtain⟨⟨⟨ds,gs,before,hw,_⟩,hx⟩,_⟩:=hpre
 obtain⟨M,last,o,w',t',h1,h2,h3,h4⟩:=runs (w.forCall tape i) w.heap.size i.args ds gs before hsh hval (DataW.Whole.of_heap (w':=w.forCall tape i) (by rfl) hw) (hX _ _ (by rfl) hx) hholds
 exact⟨M,last,o,w',t',h1,h2,h3,h4.mono fun v hp=>ChangeSpec.post_blind hp⟩
end
end K
end Go.Proofs.YtcnpijmfgfnpiaaGreatDoor
namespace Go.Proofs.YtcnpijmfgfnpiaaGreatDoor
open K Go Go.Proofs
def W{α:Type}(x:Option α)(Q:α→Prop):Prop:=∃a,x=some a∧Q a
namespace W
variable {α β ε:Type}{Q:β→Prop}
theorem ret{a:β}(h:Q a):W (some a) Q:=⟨a,rfl,h⟩
theorem mono{x:Option β}{R:β→Prop}(h:W x R)(hq:∀a,R a→Q a):W x Q:=let ⟨a,e,r⟩:=h;⟨a,e,hq a r⟩
theorem bind{x:Option α}{f:α→Option β}{R:α→Prop}(h:W x R)(hf:∀a,R a→W (f a) Q):W (x.bind f) Q:=by
 obtain⟨a,rfl,r⟩:=h;exact hf a r
theorem ck{n:Int}{f:Int→Option β}(h1: -9223372036854775808≤n)(h2:n≤9223372036854775807)(hf:W (f n) Q):W ((K.ck n).bind f) Q:=by
 rw [K.ck,if_pos ⟨h1,h2⟩];exact hf
theorem chk{p:Prop}[Decidable p]{f:Unit→Option β}(h:p)(hf:W (f ()) Q):W ((eK p).bind f) Q:=by
 rw [eK,if_pos h];exact hf
theorem at_{l:List α}{i:Int}{f:α→Option β}(h0:0≤i)(h1:i < l.length)(hf:∀x,l[i.toNat]? =some x→W (f x) Q):W ((bv l i).bind f) Q:=by
 have:i.toNat < l.length:=by omega
 rw [bv,if_pos h0,List.getElem?_eq_getElem this];exact hf _ (List.getElem?_eq_getElem this)
theorem ite{p:Prop}[Decidable p]{a b:Option β}(h1:p→W a Q)(h2:¬p→W b Q):W (if p then a else b) Q:=by
 split
 ·exact h1 ‹_›
 ·exact h2 ‹_›
theorem iteB{p:Prop}[Decidable p]{a b:Option α}{f:α→Option β}(h1:p→W (a.bind f) Q)(h2:¬p→W (b.bind f) Q):W ((if p then a else b).bind f) Q:=by
 split
 ·exact h1 ‹_›
 ·exact h2 ‹_›
theorem loop{T:Type}{f:Nat→T→Option β}(I:Nat→T→Prop)(step:∀aM m y,I m y→(∀m' y',m' < m→I m' y'→W (f aM y') Q)→W (f (aM+1) y) Q):∀m aM y,m < aM→I m y→W (f aM y) Q:=by
 intro m
 induction m using Nat.strongRecOn with
 |_ m ih=>
  intro aM y hm hI;cases aM with
  |zero=>omega
  |succ aM=>exact step aM m y hI fun m' y' h hI'=>ih m' h aM y' (by omega) hI'
end W
theorem wrap_u64(n:Int):0≤IntKind.u64.wrap n∧IntKind.u64.wrap n < 18446744073709551616:=by
 have h1:=Int.emod_nonneg n (show(18446744073709551616:Int)≠0 by decide);have h2:=Int.emod_lt_of_pos n (show(0:Int) < 18446744073709551616 by decide)
 have e:IntKind.u64.wrap n=n % 18446744073709551616:=by
  simp [IntKind.wrap,IntKind.signed,IntKind.bits]
 rw [e];exact⟨h1,h2⟩
theorem yf{n:Int}(h0:0≤n)(h1:n < 18446744073709551616):IntKind.u64.wrap n=n:=by
 have e:IntKind.u64.wrap n=n % 18446744073709551616:=by
  simp [IntKind.wrap,IntKind.signed,IntKind.bits]
 rw [e];exact Int.emod_eq_of_lt h0 h1
def Lo(l:cd)(m:Int):Prop:=0≤l.2.1∧l.2.1≤m
theorem IM{k:Nat}{l:cd}{m:Int}(h:Lo l m)(hm:m≤1000000000):W (iz k l) fun r=>0≤r.1∧r.1 < 72057594037927936∧Lo r.2 (m+1):=by
 obtain⟨h0,h1⟩:=h;unfold iz
 have fin:∀x:Int,W ((K.ck (l.2.1+1)).bind fun x4=>some (gR .u64 (qm .u64 (IntKind.u64.wrap ((qm .u64 x (gR .u64 x (29:Int))) * (2685821657736338717:Int))) (gR .u64 (IntKind.u64.wrap ((qm .u64 x (gR .u64 x (29:Int))) * (2685821657736338717:Int))) (32:Int))) (8:Int),(l.1,x4,x)))
  fun r=>0≤r.1∧r.1 < 72057594037927936∧Lo r.2 (m+1):=fun x=>by
  refine W.ck (by omega) (by omega) (W.ret ?_)
  generalize IntKind.u64.wrap ((qm .u64 x (gR .u64 x (29:Int))) * (2685821657736338717:Int))=y
  have hx:0≤qm .u64 y (gR .u64 y 32)∧qm .u64 y (gR .u64 y 32) < 18446744073709551616:=wrap_u64 _
  have e:gR .u64 (qm .u64 y (gR .u64 y 32)) 8=(qm .u64 y (gR .u64 y 32)) / 256:=by
   unfold gR;rw [Int.fdiv_eq_ediv_of_nonneg _ (by decide)];rfl
  refine⟨?_,?_,?_,?_⟩
  ·
   show 0≤gR .u64 (qm .u64 y (gR .u64 y 32)) 8;rw [e];omega
  ·
   show gR .u64 (qm .u64 y (gR .u64 y 32)) 8 < _;rw [e];omega
  ·
   show 0≤l.2.1+1;omega
  ·
   show l.2.1+1≤m+1;omega
 refine W.iteB (fun hlt=>?_) (fun _=>fin _);cases hg:bv l.1 l.2.1 with
 |some v=>exact fin _
 |none=>
  exfalso;have:l.2.1.toNat < l.1.length:=by omega
  rw [bv,if_pos h0,List.getElem?_eq_getElem this] at hg;cases hg
theorem oM{k:Nat}{l:cd}{m n:Int}(h:Lo l m)(hm:m≤1000000000)(hn:n≤1000000000):W (bW k l n) fun r=>0≤r.1∧(0≤n→r.1≤n)∧Lo r.2 (m+1):=by
 unfold bW;refine W.ite (fun h1=>W.ret ⟨Int.le_refl 0,fun h=>h,h.1,by show l.2.1≤m+1;have:=h.2;omega⟩) (fun h1=>?_);refine W.bind (IM h hm) fun r hr=>?_;refine W.ck (by omega) (by omega) ?_;have e:IntKind.u64.wrap (n+1)=n+1:=yf (by omega) (by omega);refine W.chk (by rw [e];omega) ?_;rw [e];have h2:Int.tmod r.1 (n+1)=r.1 % (n+1):=Int.tmod_eq_emod_of_nonneg hr.1;have h3:=Int.emod_nonneg r.1 (show n+1≠0 by omega);have h4:=Int.emod_lt_of_pos r.1 (show 0 < n+1 by omega);rw [h2];refine W.ck (by omega) (by omega) (W.ret ⟨h3,fun _=>by show r.1 % (n+1)≤n;omega,hr.2.2⟩)
theorem BS{k:Nat}{l:cd}{m a b:Int}(h:Lo l m)(hm:m≤1000000000)(ha:0≤a)(hab:a≤b)(hb:b≤1000000):W (di k l a b) fun r=>a≤r.1∧r.1≤b∧Lo r.2 (m+1):=by
 unfold di;refine W.ck (by omega) (by omega) (W.bind (oM h hm (by omega)) fun r hr=>?_);have:=hr.2.1 (by omega);refine W.ck (by omega) (by omega) (W.ret ⟨by show a≤a+r.1;omega,by show a+r.1≤b;omega,hr.2.2⟩)
theorem BG{k:Nat}{l:cd}{m a:Int}(h:Lo l m)(hm:m≤1000000000)(ha:0≤a)(hb:a≤1000000):W (fu k l a) fun r=>Lo r.2 (m+1):=by
 unfold fu;exact W.ck (by omega) (by omega) (W.bind (oM h hm (by omega)) fun r hr=>W.ret hr.2.2)
theorem Kx{k:Nat}{l:cd}{m:Int}{some_:List Int}(h:Lo l m)(hm:m≤1000000000)(h0:0 < some_.length)(h1:some_.length≤1000000):W (iV k l some_) fun r=>r.1∈some_∧Lo r.2 (m+1):=by
 unfold iV;refine W.ck (by omega) (by omega) (W.bind (oM h hm (by omega)) fun r hr=>?_);have:=hr.2.1 (by omega);refine W.at_ hr.1 (by omega) fun x hx=>W.ret ⟨List.mem_of_getElem? hx,hr.2.2⟩
theorem dT{α:Type}{l:List α}{i:Nat}(h:i < l.length):bv l (i:Int)=some l[i]:=by
 rw [bv,if_pos (by omega)];exact List.getElem?_eq_getElem h
section
variable {α β γ ε σ T:Type}
theorem bs{a:α}{f:α→Option β}:(some a).bind f=f a:=by cases h:f a <;> simp [h]
theorem cT{n:Int}(h1: -9223372036854775808≤n)(h2:n≤9223372036854775807):K.ck n=some n:=by rw [K.ck,if_pos ⟨h1,h2⟩]
theorem dk{p:Prop}[Decidable p](h:p):eK p=some ():=by rw [eK,if_pos h]
theorem xt{l:List α}{i:Int}(h0:0≤i)(h:i.toNat < l.length):bv l i=some l[i.toNat]:=by rw [bv,if_pos h0];exact List.getElem?_eq_getElem h
theorem xq{l:List α}{i:Int}{x:α}(h0:0≤i)(h:l[i.toNat]? =some x):bv l i=some x:=by rw [bv,if_pos h0];exact h
theorem tp{a:α}{g:ε→Option β}{f:α→Option β}:K.bE (some (.ok a)) g f=f a:=by cases h:f a <;> simp [K.bE,h]
theorem zI{e:ε}{g:ε→Option β}{f:α→Option β}:K.bE (some (.error e)) g f=g e:=by cases h:g e <;> simp [K.bE,h]
theorem Nc{n:Nat}(h:n≤4294967296):bR n:=h
def zt(g:σ→Nat→α→σ):Nat→List α→σ→σ
 |_,[],s=>s
 |j,x::l,s=>zt g (j+1) l (g s j x)
theorem zr(l:List α)(mk:σ→Int→T)(g:σ→Nat→α→σ)(P:Nat→σ→Prop){f:Nat→T→Option β}(fin:σ→Option β)
 (step:∀n s (j:Nat) (h:j < l.length),P j s→f (n+1) (mk s j)=f n (mk (g s j l[j]) ((j:Int)+1))∧P (j+1) (g s j l[j]))
 (stop:∀n s,P l.length s→f (n+1) (mk s l.length)=fin s) {s0:σ} {n:Nat} (hn:l.length < n) (h0:P 0 s0):f n (mk s0 0)=fin (zt g 0 l s0)∧P l.length (zt g 0 l s0):=by
 have key:∀(m:List α) (pre:List α) (n:Nat) (s:σ),l=pre++m→m.length < n→P pre.length s→f n (mk s pre.length)=fin (zt g pre.length m s)∧P l.length (zt g pre.length m s):=by
  intro m
  induction m with
  |nil=>
   intro pre n s e hn hp;obtain⟨n,rfl⟩:∃n',n=n'+1:=⟨n - 1,by omega⟩;have:l.length=pre.length:=by rw [e];simp
   rw [←this] at hp⊢;exact⟨stop n s hp,hp⟩
  |cons x m ih=>
   intro pre n s e hn hp;simp only [List.length_cons] at hn;obtain⟨n,rfl⟩:∃n',n=n'+1:=⟨n - 1,by omega⟩;have hl:pre.length < l.length:=by rw [e];simp
   have hx:l[pre.length]=x:=by simp [e]
   obtain⟨h1,h2⟩:=step n s pre.length hl hp;rw [hx] at h1 h2;have:=ih (pre++[x]) n (g s pre.length x) (by rw [e];simp) (by omega) (by rw [List.length_append];exact h2);rw [List.length_append] at this;simp only [List.length_cons,List.length_nil,Nat.zero_add] at this;rw [h1];exact this
 have:=key l [] n s0 rfl hn h0
 exact this
def bL(g:σ→Nat→α→Except ε σ):Nat→List α→σ→Except ε σ
 |_,[],s=>.ok s
 |j,x::l,s=>match g s j x with
  | .error e=>.error e
  | .ok s'=>bL g (j+1) l s'
theorem D5(l:List α)(mk:σ→Int→T)(g:σ→Nat→α→Except ε σ)(P:Nat→σ→Prop){f:Nat→T→Option β}(fin:Except ε σ→Option β)
 (step:∀n s (j:Nat) (h:j < l.length),P j s→(∃e,g s j l[j]= .error e∧f (n+1) (mk s j)=fin (.error e))∨(∃s',g s j l[j]= .ok s'∧f (n+1) (mk s j)=f n (mk s' ((j:Int)+1))∧P (j+1) s'))
 (stop:∀n s,P l.length s→f (n+1) (mk s l.length)=fin (.ok s)) {s0:σ} {n:Nat} (hn:l.length < n) (h0:P 0 s0):f n (mk s0 0)=fin (bL g 0 l s0):=by
 have key:∀(m:List α) (pre:List α) (n:Nat) (s:σ),l=pre++m→m.length < n→P pre.length s→f n (mk s pre.length)=fin (bL g pre.length m s):=by
  intro m
  induction m with
  |nil=>
   intro pre n s e hn hp;obtain⟨n,rfl⟩:∃n',n=n'+1:=⟨n - 1,by omega⟩;have:l.length=pre.length:=by rw [e];simp
   rw [←this] at hp⊢;exact stop n s hp
  |cons x m ih=>
   intro pre n s e hn hp;simp only [List.length_cons] at hn;obtain⟨n,rfl⟩:∃n',n=n'+1:=⟨n - 1,by omega⟩;have hl:pre.length < l.length:=by rw [e];simp
   have hx:l[pre.length]=x:=by simp [e]
   rcases step n s pre.length hl hp with⟨e',h1,h2⟩ |⟨s',h1,h2,h3⟩
   ·rw [hx] at h1;rw [h2,bL,h1]
   ·rw [hx] at h1;have:=ih (pre++[x]) n s' (by rw [e];simp) (by omega) (by rw [List.length_append];exact h3);rw [List.length_append] at this;simp only [List.length_cons,List.length_nil,Nat.zero_add] at this;rw [h2,bL,h1];exact this
 exact key l [] n s0 rfl hn h0
end
section
variable {α β ε σ T:Type}
theorem nT{a b:α}:(if¬(true=true) then a else b)=b:=rfl
theorem nF{a b:α}:(if¬(false=true) then a else b)=a:=rfl
theorem iT{a b:α}:(if true=true then a else b)=a:=rfl
theorem iF{a b:α}:(if false=true then a else b)=b:=rfl
theorem wq(l:List α)(mk:σ→Int→T)(g:σ→Nat→α→Except ε σ)(P:Nat→σ→Prop){f:Nat→T→Option β}(fin:Except ε σ→Option β)
 (step:∀n s (j:Nat) (h:j < l.length),P j s→(f (n+1) (mk s j)=match g s j l[j] with | .error e=>fin (.error e) | .ok s'=>f n (mk s' ((j:Int)+1)))∧∀s',g s j l[j]= .ok s'→P (j+1) s')
 (stop:∀n s,P l.length s→f (n+1) (mk s l.length)=fin (.ok s)) {s0:σ} {n:Nat} (hn:l.length < n) (h0:P 0 s0):f n (mk s0 0)=fin (bL g 0 l s0):=
 D5 l mk g P fin (fun n s j h hp=>by
  obtain⟨h1,h2⟩:=step n s j h hp
  cases e:g s j l[j] with
  |error e'=>left;rw [e] at h1;exact⟨e',rfl,h1⟩
  |ok s'=>right;rw [e] at h1;exact⟨s',rfl,h1,h2 s' e⟩) stop hn h0
end
theorem uC{α:Type}(p:α→Bool):∀(l:List α) (j:Nat),bL (fun(_:Unit) j x=>if p x then Except.error (j:Int) else .ok ()) j l ()=match l.findIdx? p with |some i=>.error ((i+j:Nat):Int) |none=>.ok ()
 |[],j=>by simp [bL]
 |x::l,j=>by
  rw [bL,List.findIdx?_cons]
  by_cases h:p x=true
  ·
   simp [h]
  ·
   simp only [h,if_false,Bool.false_eq_true]
   rw [uC p l (j+1)]
   cases l.findIdx? p with
   |none=>rfl
   |some i=>simp only [Option.map_some];congr 2;omega
def lw(s:Int):Prop:=0≤s∧s < 256
def eQ(s:Int)(i:Nat):Prop:=s.toNat.testBit i=true
instance (s:Int) (i:Nat):Decidable (eQ s i):=by unfold eQ;infer_instance
theorem wL{x:Nat}(h:x < 256):IntKind.u8.wrap (x:Int)=x:=by
 have e:IntKind.u8.wrap (x:Int)=(x:Int) % 256:=by simp [IntKind.wrap,IntKind.signed,IntKind.bits]
 rw [e];omega
theorem nW{s:Int}(h:lw s):∃n:Nat,n < 256∧s=n:=⟨s.toNat,by have:=h.1;have:=h.2;omega,by have:=h.1;omega⟩
theorem AB{n:Nat}(h:n < 256):(BitVec.ofInt IntKind.u8.bits (n:Int)).toNat=n:=by
 show(BitVec.ofInt 8 (n:Int)).toNat=n;rw [BitVec.ofInt_natCast,BitVec.toNat_ofNat];exact Nat.mod_eq_of_lt h
theorem Gn{n m:Nat}(hn:n < 256)(hm:m < 256):n |||m < 256:=Nat.or_lt_two_pow (n:=8) hn hm
theorem IP{n m:Nat}(hn:n < 256):n &&& m < 256:=Nat.lt_of_le_of_lt Nat.and_le_left hn
theorem xn{a b:Int}(ha:lw a)(hb:lw b):lw (BR .u8 a b)∧∀i,eQ (BR .u8 a b) i↔eQ a i∨eQ b i:=by
 obtain⟨n,hn,rfl⟩:=nW ha;obtain⟨m,hm,rfl⟩:=nW hb
 have e:BR .u8 (n:Int) (m:Int)=((n |||m:Nat):Int):=by
  unfold BR;rw [BitVec.toNat_or,AB hn,AB hm];exact wL (Gn hn hm)
 rw [e];refine⟨⟨by omega,by have:=Gn hn hm;omega⟩,fun i=>?_⟩;simp [eQ,Nat.testBit_or]
theorem wU{x:Int}(h0:0≤x)(h8:x < 8):lw (lV .u8 1 x)∧∀i:Nat,eQ (lV .u8 1 x) i↔(i:Int)=x:=by
 obtain⟨n,rfl⟩:=Int.eq_ofNat_of_zero_le h0;have hn:n < 8:=by omega
 have e:lV .u8 1 (n:Int)=((2 ^ n:Nat):Int):=by
  unfold lV
  have h1:min (Int.toNat (n:Int)) IntKind.u8.bits=n:=by
   show min n 8=n;omega
  rw [h1,Int.one_mul];have h2:2 ^ n < 256:=Nat.pow_lt_pow_right (by decide) hn;have h3:((2:Int) ^ n)=((2 ^ n:Nat):Int):=by simp
  rw [h3];exact wL h2
 rw [e];have h9:2 ^ n < 256:=Nat.pow_lt_pow_right (by decide) hn;refine⟨⟨Int.natCast_nonneg _,Int.ofNat_lt.2 h9⟩,fun i=>?_⟩;simp only [eQ,Int.toNat_natCast,Nat.testBit_two_pow,decide_eq_true_eq];omega
theorem xp{k:Nat}{s:Int}(hs:lw s){i:Nat}(hi:i < 8):dB k s (i:Int)=some (decide (eQ s i)):=by
 obtain⟨n,hn,rfl⟩:=nW hs;unfold dB;rw [eK,if_pos (by omega)];show some _=some _;congr 1
 have e1:gR .u8 (n:Int) (i:Int)=((n >>> i:Nat):Int):=by
  unfold gR
  have h1:min (Int.toNat (i:Int)) IntKind.u8.bits=i:=by
   show min i 8=i;omega
  have h3:((2:Int) ^ i)=((2 ^ i:Nat):Int):=by simp
  rw [h1,h3,Int.fdiv_eq_ediv_of_nonneg _ (Int.natCast_nonneg _),Nat.shiftRight_eq_div_pow];rfl
 have hlt:n >>> i < 256:=Nat.lt_of_le_of_lt (by rw [Nat.shiftRight_eq_div_pow];exact Nat.div_le_self _ _) hn
 have e2:vt .u8 ((n >>> i:Nat):Int) 1=(((n >>> i) &&& 1:Nat):Int):=by
  unfold vt;have h1:(BitVec.ofInt IntKind.u8.bits 1).toNat=1:=rfl;rw [BitVec.toNat_and,AB hlt,h1];exact wL (IP hlt)
 rw [e1,e2]
 have e3:(((n >>> i) &&& 1:Nat):Int)=1↔eQ (n:Int) i:=by
  rw [eQ,Int.toNat_natCast,Nat.testBit];have h5:(n >>> i) &&& 1=1 &&& (n >>> i):=Nat.and_comm _ _;rw [h5];have h4:1 &&& (n >>> i) < 2:=Nat.lt_of_le_of_lt Nat.and_le_left (by decide);simp only [bne_iff_ne,ne_eq];omega
 exact decide_eq_decide.2 e3
abbrev aL:=Int×(List (Int×(List Int)))×(List Int)
def mK(t:aL)(d n:Int):Bool:=match t.2.1[n.toNat]? with
 |some x=>decide (d∈x.2)
 |none=>false
def ya(w:Int→Bool)(l:List Int):List Int:=l.filter (fun n=> !w n)++l.filter w
def fi(w:Int→Bool):Bool→List Int→List Int
 |_,[]=>[]
 |u,n::l=>if w n then fi w true l else if u then n::fi w u l else fi w u l
theorem oY{w:Int→Bool}{n:Int}:∀{l:List Int} {u:Bool},n∈fi w u l↔w n=false∧∃p s,l=p++n::s∧(u=true∨∃m∈p,w m=true)
 |[],u=>by simp [fi]
 |m::l,u=>by
  have cut:∀(u':Bool),(u'=true↔u=true∨w m=true)→((∃p s,m::l=p++n::s∧(u=true∨∃x∈p,w x=true))↔(m=n∧u=true)∨∃p s,l=p++n::s∧(u'=true∨∃x∈p,w x=true)):=fun u' hu=>by
   constructor
   ·
    rintro⟨p,s,e,h⟩
    cases p with
    |nil=>
     obtain⟨rfl,rfl⟩:=List.cons.inj e
     rcases h with h |⟨x,hx,_⟩
     ·
      exact .inl ⟨rfl,h⟩
     ·
      cases hx
    |cons y p=>
     obtain⟨rfl,rfl⟩:=List.cons.inj e
     refine .inr ⟨p,s,rfl,?_⟩
     rcases h with h |⟨x,hx,hw⟩
     ·
      exact .inl (hu.2 (.inl h))
     ·
      rcases List.mem_cons.1 hx with rfl |hx
      ·
       exact .inl (hu.2 (.inr hw))
      ·
       exact .inr ⟨x,hx,hw⟩
   ·
    rintro(⟨rfl,h⟩ |⟨p,s,rfl,h⟩)
    ·
     exact⟨[],l,rfl,.inl h⟩
    ·
     refine⟨m::p,s,rfl,?_⟩
     rcases h with h |⟨x,hx,hw⟩
     ·
      rcases hu.1 h with h |h
      ·
       exact .inl h
      ·
       exact .inr ⟨m,by simp,h⟩
     ·
      exact .inr ⟨x,by simp [hx],hw⟩
  rw [fi]
  cases hm:w m with
  |true=>
   rw [if_pos rfl,oY,cut true (by simp [hm])]
   constructor
   ·
    rintro⟨h,h'⟩;exact⟨h,.inr h'⟩
   ·
    rintro⟨h,⟨rfl,_⟩ |h'⟩
    ·
     rw [hm] at h;cases h
    ·
     exact⟨h,h'⟩
  |false=>
   rw [if_neg (by simp)]
   have hc:=cut u (by simp [hm])
   cases u with
   |true=>
    rw [if_pos rfl,List.mem_cons,oY,hc]
    constructor
    ·
     rintro(rfl |⟨h,h'⟩)
     ·
      exact⟨hm,.inl ⟨rfl,rfl⟩⟩
     ·
      exact⟨h,.inr h'⟩
    ·
     rintro⟨h,⟨rfl,_⟩ |h'⟩
     ·
      exact .inl rfl
     ·
      exact .inr ⟨h,h'⟩
   |false=>
    rw [if_neg (by simp),oY,hc]
    simp
theorem ji{w:Int→Bool}{l:List Int}:(ya w l).Perm l:=by
 unfold ya;exact List.perm_append_comm.trans (List.filter_append_perm w l)
theorem vZ{w:Int→Bool}{l:List Int}{u:Bool}{n:Int}(h:n∈fi w u l):n∈l:=by
 obtain⟨_,p,s,rfl,_⟩:=oY.1 h;simp
theorem l9{k:Nat}{n a b:Int}:dP k n a b=some (decide (a≤n∧n≤b)):=by
 unfold dP;by_cases h:a≤n <;> simp [h]
def zz(days:Int)(l:List Int)(j:Nat)(x:Int):Except Int Unit:=
 if¬(0≤x∧x≤days - 1) then .error 1 else if 0 < j∧x≤l[j - 1]?.getD 0 then .error 5 else .ok ()
def k9(days:Int)(x:Int×(List Int)):Except Int Unit:=
 if¬(1≤x.1∧x.1≤3) then .error 1 else bL (fun _ j y=>zz days x.2 j y) 0 x.2 ()
def np(n:Int):Except Int Unit:=if 0≤n∧n≤9 then .ok () else .error 1
def Cd{α:Type}:Except Int α→Int
 | .error e=>e
 | .ok _=>0
def j8(t:aL):Int:=
 if¬(1≤t.1∧t.1≤6) then 1 else if 5 < t.2.1.length then 6 else
  match bL (fun _ _ x=>k9 t.1 x) 0 t.2.1 () with
  | .error e=>e
  | .ok _=>if t.2.2.length < 1 then 7 else if 3 < t.2.2.length then 6 else Cd (bL (fun _ _ n=>np n) 0 t.2.2 ())
structure lj(k:Nat)(t:aL):Prop where
 k1:k≤1000000
 things:t.2.1.length < k
 worn:∀x∈t.2.1,x.2.length < k
 trunks:t.2.2.length < k
section
variable {k:Nat}{t:aL}
theorem Ld{l:List Int}{j:Nat}(h:j < l.length)(h0:0 < j):bv l ((j:Int) - 1)=some (l[j - 1]?.getD 0):=by
 have e:((j:Int) - 1).toNat=j - 1:=by omega
 rw [bv,if_pos (by omega),e,List.getElem?_eq_getElem (by omega)];rfl
theorem Hl{x:Int×(List Int)}(hk:k≤1000000)(hx:x.2.length < k)(hd:1≤t.1∧t.1≤6):cM k t x k 0=some (bL (fun _ j y=>zz t.1 x.2 j y) 0 x.2 ()):=
 wq (f:=cM k t x) x.2 (fun(_:Unit) j=>j) (fun _ j y=>zz t.1 x.2 j y) (fun _ _=>True) (fun r=>some r)
  (fun n s j h _=>⟨by
   rw [cM,if_pos (Int.ofNat_lt.2 h),dT h,bs,cT (by omega) (by omega),bs,l9,bs]
   unfold zz
   by_cases c1:0≤x.2[j]∧x.2[j]≤t.1 - 1
   ·
    rw [decide_eq_true c1,nT,if_neg (not_not_intro c1)]
    by_cases c2:0 < j
    ·
     rw [if_pos (show(0:Int) < (j:Int) by omega),cT (by omega) (by omega),bs,Ld h c2,bs,bs]
     by_cases c3:x.2[j]≤x.2[j - 1]?.getD 0
     ·
      rw [decide_eq_true c3,iT,if_pos (show 0 < j∧x.2[j]≤x.2[j - 1]?.getD 0 from⟨c2,c3⟩)]
     ·
      rw [decide_eq_false c3,iF,if_neg (show¬(0 < j∧x.2[j]≤x.2[j - 1]?.getD 0) from fun h=>c3 h.2),cT (by omega) (by omega),bs]
    ·
     rw [if_neg (show¬(0:Int) < (j:Int) by omega),bs,iF,if_neg (show¬(0 < j∧x.2[j]≤x.2[j - 1]?.getD 0) from fun h=>c2 h.1),cT (by omega) (by omega),bs]
   ·
    rw [decide_eq_false c1,nF,if_pos (show¬(0≤x.2[j]∧x.2[j]≤t.1 - 1) from c1)],fun _ _=>trivial⟩)
  (fun n s _=>by rw [cM,if_neg (by omega)]) (s0:=()) (n:=k) hx trivial
theorem EZ{x:Int×(List Int)}(hk:k≤1000000)(hx:x.2.length < k)(hd:1≤t.1∧t.1≤6):gZ k t x=some (Cd (k9 t.1 x)):=by
 unfold gZ k9;rw [l9,bs,Hl hk hx hd];by_cases c:1≤x.1∧x.1≤3
 ·rw [decide_eq_true c,nT,if_neg (not_not_intro c)];cases bL (fun _ j y=>zz t.1 x.2 j y) 0 x.2 () with
  |error e=>rw [zI];rfl
  |ok u=>rw [tp];rfl
 ·rw [decide_eq_false c,nF,if_pos (show¬(1≤x.1∧x.1≤3) from c)];rfl
theorem jS{α σ:Type}{g:σ→Nat→α→Except Int σ}(hg:∀s j x,g s j x≠.error 0):∀(l:List α) (j:Nat) (s:σ),bL g j l s≠.error 0
 |[],j,s=>by simp [bL]
 |x::l,j,s=>by
  rw [bL]
  cases h:g s j x with
  |error e=>intro h';rw [Except.error.inj h'] at h;exact hg _ _ _ h
  |ok s'=>exact jS hg l (j+1) s'
theorem zk{d:Int}{x:Int×(List Int)}:k9 d x≠.error 0:=by
 unfold k9;split
 ·simp
 ·refine jS (fun s j y=>?_) _ _ _;unfold zz;split
  ·simp
  ·split <;> simp
theorem DU(h:lj k t)(hd:1≤t.1∧t.1≤6):fe k t k 0=some (bL (fun _ _ x=>k9 t.1 x) 0 t.2.1 ()):=
 wq (f:=fe k t) t.2.1 (fun(_:Unit) j=>j) (fun _ _ x=>k9 t.1 x) (fun _ _=>True) (fun r=>some r)
  (fun n s j hj _=>⟨by
   rw [fe,if_pos (Int.ofNat_lt.2 hj),dT hj,bs,EZ h.k1 (h.worn _ (List.getElem_mem hj)) hd,bs]
   have h0:=zk (d:=t.1) (x:=t.2.1[j])
   have h1:=h.things
   have h2:=h.k1
   cases e:k9 t.1 t.2.1[j] with
   |error e'=>rw [if_pos (show¬Cd (Except.error e':Except Int Unit)=0 from fun h=>h0 (by rw [e];exact congrArg _ h))];rfl
   |ok u=>rw [if_neg (show¬¬Cd (Except.ok u:Except Int Unit)=0 from fun h=>h rfl),cT (by omega) (by omega),bs],fun _ _=>trivial⟩)
  (fun n s _=>by rw [fe,if_neg (by omega)]) (s0:=()) (n:=k) h.things trivial
theorem Dl(h:lj k t):fa k t k 0=some (bL (fun _ _ n=>np n) 0 t.2.2 ()):=
 wq (f:=fa k t) t.2.2 (fun(_:Unit) j=>j) (fun _ _ n=>np n) (fun _ _=>True) (fun r=>some r)
  (fun n s j hj _=>⟨by
   rw [fa,if_pos (Int.ofNat_lt.2 hj),dT hj,bs,l9,bs]
   have h1:=h.trunks
   have h2:=h.k1
   unfold np
   by_cases c:0≤t.2.2[j]∧t.2.2[j]≤9
   ·
    rw [decide_eq_true c,nT,if_pos c,cT (by omega) (by omega),bs]
   ·
    rw [decide_eq_false c,nF,if_neg c],fun _ _=>trivial⟩)
  (fun n s _=>by rw [fa,if_neg (by omega)]) (s0:=()) (n:=k) h.trunks trivial
theorem wy(h:lj k t):kA k t=some (j8 t):=by
 unfold kA j8;rw [l9,bs];by_cases c:1≤t.1∧t.1≤6
 ·rw [decide_eq_true c,nT,if_neg (not_not_intro c),DU h c,Dl h];by_cases c1:5 < t.2.1.length
  ·rw [if_pos (show(5:Int) < (t.2.1.length:Int) by omega),if_pos c1]
  ·rw [if_neg (show¬(5:Int) < (t.2.1.length:Int) by omega),if_neg c1];cases bL (fun _ _ x=>k9 t.1 x) 0 t.2.1 () with
   |error e=>rw [zI]
   |ok u=>
    rw [tp];by_cases c2:t.2.2.length < 1
    ·rw [if_pos (by omega)];simp only [c2,if_true]
    ·rw [if_neg (by omega)];by_cases c3:3 < t.2.2.length
     ·rw [if_pos (by omega)];simp only [c2,c3,if_true,if_false]
     ·rw [if_neg (by omega)];simp only [c2,c3,if_false];cases bL (fun _ _ n=>np n) 0 t.2.2 () with
      |error e=>rw [zI];rfl
      |ok u=>rw [tp];rfl
 ·rw [decide_eq_false c,nF,if_pos (show¬(1≤t.1∧t.1≤6) from c)]
end
theorem sw{α:Type}{f:α→Except Int Unit}:∀{l:List α} {j:Nat},bL (fun(_:Unit) _ x=>f x) j l ()= .ok ()→∀x∈l,f x= .ok ()
 |[],_,_,_,h=>by cases h
 |y::l,j,h,x,hx=>by
  rw [bL] at h
  cases e:f y with
  |error e'=>rw [e] at h;cases h
  |ok u=>
   rw [e] at h
   rcases List.mem_cons.1 hx with rfl |hx
   ·
    exact e
   ·
    exact sw h x hx
structure iE(t:aL):Prop where
 days:1≤t.1∧t.1≤6
 things:t.2.1.length≤5
 sizes:∀x∈t.2.1,1≤x.1∧x.1≤3
 trunks:1≤t.2.2.length∧t.2.2.length≤3
 rooms:∀n∈t.2.2,0≤n∧n≤9
theorem o4{t:aL}(h:j8 t=0):iE t:=by
 unfold j8 at h;by_cases c:1≤t.1∧t.1≤6
 ·rw [if_neg (not_not_intro c)] at h;by_cases c1:5 < t.2.1.length
  ·rw [if_pos c1] at h;cases h
  ·rw [if_neg c1] at h;have h0:bL (fun(_:Unit) _ x=>k9 t.1 x) 0 t.2.1 ()≠.error 0:=jS (fun _ _ _=>zk) _ _ _;cases e:bL (fun(_:Unit) _ x=>k9 t.1 x) 0 t.2.1 () with
   |error e'=>rw [e] at h h0;exact absurd (congrArg _ h) h0
   |ok u=>
    rw [e] at h;have hi:=sw e;by_cases c2:t.2.2.length < 1
    ·simp only [c2,if_true] at h;cases h
    ·by_cases c3:3 < t.2.2.length
     ·simp only [c2,c3,if_true,if_false] at h;cases h
     ·simp only [c2,c3,if_false] at h;refine⟨c,by omega,fun x hx=>?_,by omega,?_⟩
      ·have:=hi x hx;unfold k9 at this;by_cases c4:1≤x.1∧x.1≤3
       ·exact c4
       ·rw [if_pos c4] at this;cases this
      ·have h1:bL (fun(_:Unit) _ n=>np n) 0 t.2.2 ()≠.error 0:=jS (fun _ _ n=>by unfold np;split <;> simp) _ _ _;cases e2:bL (fun(_:Unit) _ n=>np n) 0 t.2.2 () with
       |error e'=>rw [e2] at h h1;exact absurd (congrArg _ h) h1
       |ok u=>
        intro n hn
        have:=sw e2 n hn;unfold np at this;by_cases c5:0≤n∧n≤9
        ·exact c5
        ·rw [if_neg c5] at this;cases this
 ·rw [if_pos c] at h;cases h
def mn(n:Nat)(met:List Int)(x:Int):Except Int (List Int):=if¬(0≤x∧x≤(n:Int) - 1) then .error 3 else if x∈met then .error 4 else .ok (met++[x])
def bV(t:aL)(x:Int):Int:=match t.2.1[x.toNat]? with |some y=>y.1 |none=>0
def bK(t:aL):List Int→Int
 |[]=>0
 |x::l=>bV t x+bK t l
def gV(t:aL)(met:List Int)(i:Nat)(l:List Int):Except Int (List Int):=
 match bL (fun m _ x=>mn t.2.1.length m x) 0 l met with
 | .error e=>.error e
 | .ok m=>if t.2.2[i]?.getD 0 < bK t l then .error 12 else .ok m
def chkV(t:aL)(p:List (List Int)):Int:=
 if p.length < t.2.2.length then 7 else if t.2.2.length < p.length then 6 else
  match bL (gV t) 0 p [] with
  | .error e=>e
  | .ok m=>if m.length < t.2.1.length then 7 else 0
def pI(t:aL)(p:List (List Int)):Int:=if¬(j8 t=0) then j8 t else chkV t p
structure pK(n:Nat)(m:List Int):Prop where
 nd:m.Nodup
 rng:∀x∈m,0≤x∧x < (n:Int)
theorem pK.put{n:Nat}{m m':List Int}{x:Int}(h:pK n m)(e:mn n m x= .ok m'):m'=m++[x]∧pK n m'∧0≤x∧x < (n:Int):=by
 unfold mn at e;by_cases c:0≤x∧x≤(n:Int) - 1
 ·rw [if_neg (not_not_intro c)] at e;by_cases c1:x∈m
  ·rw [if_pos c1] at e;cases e
  ·rw [if_neg c1] at e;cases e;refine⟨rfl,⟨?_,fun y hy=>?_⟩,c.1,by omega⟩
   ·rw [List.nodup_append];exact⟨h.nd,by simp,fun a ha b hb=>by rw [List.mem_singleton] at hb;subst hb;exact fun e=>c1 (e▸ha)⟩
   ·rcases List.mem_append.1 hy with hy |hy
    ·exact h.rng y hy
    ·rw [List.mem_singleton] at hy;omega
 ·rw [if_pos c] at e;cases e
theorem pK.puts{n:Nat}:∀{l:List Int} {j:Nat} {m m':List Int},pK n m→bL (fun m _ x=>mn n m x) j l m= .ok m'→m'=m++l∧pK n m'∧∀x∈l,0≤x∧x < (n:Int)
 |[],_,m,m',h,e=>by simp only [bL] at e;cases e;exact⟨by simp,h,by simp⟩
 |x::l,j,m,m',h,e=>by
  rw [bL] at e
  cases e1:mn n m x with
  |error e'=>rw [e1] at e;cases e
  |ok m1=>
   rw [e1] at e
   obtain⟨rfl,h1,h2⟩:=h.put e1
   obtain⟨rfl,h3,h4⟩:=pK.puts h1 e
   refine⟨by simp,h3,fun y hy=>?_⟩
   rcases List.mem_cons.1 hy with rfl |hy
   ·
    exact h2
   ·
    exact h4 y hy
theorem ua:∀(n:Nat) (l:List Int),l.Nodup→(∀x∈l,0≤x∧x < (n:Int))→l.length≤n
 |0,l,_,h=>by
  cases l with
  |nil=>simp
  |cons x l=>have:=h x (by simp);omega
 |n+1,l,hn,h=>by
  have h1:=ua n (l.erase (n:Int)) (hn.erase _) (fun x hx=>by
   have h2:=(List.Nodup.mem_erase_iff hn).1 hx
   have:=h x h2.2
   have:=h2.1
   omega)
  have:l.length≤(l.erase (n:Int)).length+1:=by rw [List.length_erase];split <;> omega
  omega
theorem pK.len{n:Nat}{m:List Int}(h:pK n m):m.length≤n:=ua n m h.nd h.rng
theorem pK.full{n:Nat}{m:List Int}(h:pK n m):¬m.length < n↔∀i:Nat,i < n→(i:Int)∈m:=by
 constructor
 ·intro hl i hi;by_cases c:(i:Int)∈m
  ·exact c
  ·have:=ua n ((i:Int)::m) (List.nodup_cons.2 ⟨c,h.nd⟩) (fun x hx=>by
    rcases List.mem_cons.1 hx with rfl |hx
    ·omega
    ·exact h.rng x hx)
   simp only [List.length_cons] at this;omega
 ·intro ha hl
  have h1:((List.range n).map fun(i:Nat)=>(i:Int)).length≤m.length:=by
   have:∀(k:Nat) (q:List Int),(∀i:Nat,i < k→(i:Int)∈q)→k≤q.length:=by
    intro k
    induction k with
    |zero=>intros;omega
    |succ k ih=>
     intro q hq;have hk:=hq k (by omega);have h2:=ih (q.erase (k:Int)) (fun i hi=>(List.mem_erase_of_ne (by omega)).2 (hq i (by omega)));rw [List.length_erase,if_pos (by simpa using hk)] at h2;have:=List.length_pos_of_mem hk;omega
   have:=this n m ha;simpa using this
  simp at h1;omega
def gi(m:List Int):Int:=m.foldl (fun s x=>BR .u8 s (lV .u8 1 x)) 0
theorem AY{m:List Int}{x:Int}:gi (m++[x])=BR .u8 (gi m) (lV .u8 1 x):=by
 unfold gi;rw [List.foldl_append];rfl
theorem AZ{m:List Int}(h:∀x∈m,0≤x∧x < 8):∀(s:Int),lw s→lw (m.foldl (fun s x=>BR .u8 s (lV .u8 1 x)) s)∧∀i:Nat,eQ (m.foldl (fun s x=>BR .u8 s (lV .u8 1 x)) s) i↔eQ s i∨(i:Int)∈m:=by
 induction m with
 |nil=>intro s hs;exact⟨hs,fun i=>by simp⟩
 |cons x m ih=>
  intro s hs;have hx:=h x (by simp);obtain⟨o1,o2⟩:=wU hx.1 hx.2;obtain⟨p1,p2⟩:=xn hs o1;obtain⟨q1,q2⟩:=ih (fun y hy=>h y (by simp [hy])) _ p1;refine⟨q1,fun i=>?_⟩;rw [List.foldl_cons,q2,p2,o2,List.mem_cons,or_assoc]
theorem nX{m:List Int}(h:∀x∈m,0≤x∧x < 8):lw (gi m)∧∀i:Nat,eQ (gi m) i↔(i:Int)∈m:=by
 obtain⟨a,b⟩:=AZ h 0 ⟨by decide,by decide⟩;exact⟨a,fun i=>by rw [gi,b];simp [eQ]⟩
theorem zg{a b:Int}(ha:lw a)(hb:lw b)(h:∀i:Nat,eQ a i↔eQ b i):a=b:=by
 obtain⟨n,hn,rfl⟩:=nW ha;obtain⟨m,hm,rfl⟩:=nW hb;congr 1;refine Nat.eq_of_testBit_eq fun i=>?_;have:=h i;simp only [eQ,Int.toNat_natCast] at this;exact Bool.eq_iff_iff.2 this
theorem Jd:∀n:Nat,n≤5→lw (IntKind.u8.wrap ((lV .u8 1 (n:Int)) - 1))∧∀i:Nat,eQ (IntKind.u8.wrap ((lV .u8 1 (n:Int)) - 1)) i↔i < n:=by
 have h1:∀n:Nat,n≤5→IntKind.u8.wrap ((lV .u8 1 (n:Int)) - 1)=((2 ^ n - 1:Nat):Int):=by decide
 intro n hn
 rw [h1 n hn];have h2:2 ^ n≤32:=Nat.pow_le_pow_right (by decide) hn;refine⟨⟨by omega,by omega⟩,fun i=>?_⟩;simp only [eQ,Int.toNat_natCast,Nat.testBit_two_pow_sub_one,decide_eq_true_eq]
theorem zq{n:Nat}{m:List Int}(hn:n≤5)(h:pK n m):gi m=IntKind.u8.wrap ((lV .u8 1 (n:Int)) - 1)↔¬m.length < n:=by
 have h8:∀x∈m,0≤x∧x < 8:=fun x hx=>by have:=h.rng x hx;omega
 obtain⟨a,b⟩:=nX h8;obtain⟨c,d⟩:=Jd n hn;rw [h.full];constructor
 ·intro e i hi;rw [←b,e,d];exact hi
 ·intro hi;refine zg a c fun i=>?_;rw [b,d];refine⟨fun hm=>?_,hi i⟩;have:=h.rng _ hm;omega
section
variable {k:Nat}{t:aL}
theorem E0{x:Int}(h0:0≤x)(h:x < (t.2.1.length:Int)):∃y,bv t.2.1 x=some y∧y∈t.2.1∧bV t x=y.1:=by
 have hx:x.toNat < t.2.1.length:=by omega
 refine⟨t.2.1[x.toNat],xt h0 hx,List.getElem_mem hx,?_⟩;rw [bV,List.getElem?_eq_getElem hx]
theorem mU(g:iE t){x:Int}:0≤bV t x∧bV t x≤3:=by
 unfold bV;cases h:t.2.1[x.toNat]? with
 |none=>simp
 |some y=>have:=g.sizes y (List.mem_of_getElem? h);simp only;omega
theorem oO(g:iE t):∀{l:List Int},0≤bK t l∧bK t l≤3 * (l.length:Int)
 |[]=>by simp [bK]
 |x::l=>by have:=mU g (x:=x);have:=oO g (l:=l);simp only [bK,List.length_cons];omega
theorem rR{l l':List Int}:bK t (l++l')=bK t l+bK t l':=by
 induction l with
 |nil=>simp [bK]
 |cons x l ih=>simp only [List.cons_append,bK,ih];omega
theorem BB(g:iE t)(hk1:k≤1000000){l:List Int}(hl:l.length < k)(hx:∀x∈l,0≤x∧x < (t.2.1.length:Int)):mf k t l=some (bK t l):=by
 unfold mf
 have:=zr (f:=fU k t l) l (fun(s:Int) j=>(s,j)) (fun s _ x=>s+bV t x) (fun j s=>s=bK t (l.take j)) (fun s=>some s)
  (fun n s j h hp=>by
   have hm:=hx _ (List.getElem_mem h);obtain⟨y,h1,h2,h3⟩:=E0 hm.1 hm.2;have hs:=oO g (l:=l.take j);have ho:=mU g (x:=l[j]);rw [List.length_take] at hs;refine⟨?_,?_⟩
   ·rw [fU,if_pos (Int.ofNat_lt.2 h)];dsimp only;rw [dT h,bs,h1,bs,←h3,cT (by omega) (by omega),bs,cT (by omega) (by omega),bs]
   ·rw [List.take_add_one,List.getElem?_eq_getElem h,hp,Option.toList_some,rR];simp [bK])
  (fun n s _=>by rw [fU,if_neg (by omega)]) (s0:=0) (n:=k) hl (by simp [bK])
 obtain⟨h1,h2⟩:=this;rw [show fU k t l k (0,0)=_ from h1,bs,h2,List.take_length]
def rI(e:Int):Value:=.iface 118 (.agg #[.int .i64 e])
def Rq(e:Int):Value:=if e=0 then .nilIface else rI e
theorem Fv{e:Int}(h:¬e=0):Rq e=rI e:=if_neg h
theorem Iq(g:iE t)(hk1:k≤1000000){l m:List Int}(hl:l.length < k)(hm:pK t.2.1.length m):
 dX k t l k (gi m,0)=match bL (fun m _ x=>mn t.2.1.length m x) 0 l m with | .error e=>some (.error (rI e)) | .ok m'=>some (.ok (gi m')):=
 wq (f:=dX k t l) l (fun m j=>(gi m,j)) (fun m _ x=>mn t.2.1.length m x) (fun _ m=>pK t.2.1.length m) (fun r=>match r with | .error e=>some (.error (rI e)) | .ok m'=>some (.ok (gi m')))
  (fun n m j h hm=>⟨by
   have h5:=g.things
   rw [dX,if_pos (Int.ofNat_lt.2 h)]
   dsimp only
   rw [dT h,bs,cT (by omega) (by omega),bs,l9,bs]
   unfold mn
   by_cases c:0≤l[j]∧l[j]≤(t.2.1.length:Int) - 1
   ·
    rw [decide_eq_true c,nT,if_neg (not_not_intro c)]
    obtain⟨i,hi⟩:=Int.eq_ofNat_of_zero_le c.1
    have h8:∀x∈m,0≤x∧x < 8:=fun x hx=>by have:=hm.rng x hx;omega
    obtain⟨a,b⟩:=nX h8
    rw [hi,xp a (by omega),bs]
    have hb:=b i
    by_cases c1:(i:Int)∈m
    ·
     rw [decide_eq_true (hb.2 c1),iT,if_pos c1];rfl
    ·
     rw [decide_eq_false (fun h=>c1 (hb.1 h)),iF,if_neg c1]
     unfold dy
     rw [dk (by omega),bs,bs,cT (by omega) (by omega),bs]
     show _=dX k t l n (gi (m++[(i:Int)]),(j:Int)+1)
     rw [AY]
   ·
    rw [decide_eq_false c,nF,if_pos (show¬(0≤l[j]∧l[j]≤(t.2.1.length:Int) - 1) from c)];rfl,fun m' e=>(hm.put e).2.1⟩)
  (fun n m _=>by rw [dX,if_neg (by omega)]) (s0:=m) (n:=k) hl hm
theorem Af(g:iE t)(hk1:k≤1000000){p:List (List Int)}(hp:p.length=t.2.2.length)(hpk:p.length < k)(hl:∀l∈p,l.length < k):
 eZ k t p k (0,0)=match bL (gV t) 0 p [] with | .error e=>some (.error (rI e)) | .ok m'=>some (.ok (gi m')):=
 wq (f:=eZ k t p) p (fun m j=>(gi m,j)) (gV t) (fun _ m=>pK t.2.1.length m) (fun r=>match r with | .error e=>some (.error (rI e)) | .ok m'=>some (.ok (gi m')))
  (fun n m j h hm=>by
   refine⟨?_,fun m' e=>?_⟩
   ·
    rw [eZ,if_pos (Int.ofNat_lt.2 h)]
    dsimp only
    rw [dT h,bs,Iq g hk1 (hl _ (List.getElem_mem h)) hm]
    unfold gV
    cases e:bL (fun m _ x=>mn t.2.1.length m x) 0 p[j] m with
    |error e'=>dsimp only;rw [zI,zI]
    |ok m'=>
     obtain⟨_,_,h3⟩:=hm.puts e
     have hj:j < t.2.2.length:=by omega
     dsimp only
     rw [tp,BB g hk1 (hl _ (List.getElem_mem h)) h3,bs,dT hj,bs]
     have e2:t.2.2[j]?.getD 0=t.2.2[j]:=by rw [List.getElem?_eq_getElem hj];rfl
     rw [e2]
     by_cases c:t.2.2[j] < bK t p[j]
     ·
      rw [if_pos c,if_pos c,zI];rfl
     ·
      rw [if_neg c,if_neg c,tp,cT (by omega) (by omega),bs]
   ·
    unfold gV at e
    cases e1:bL (fun m _ x=>mn t.2.1.length m x) 0 p[j] m with
    |error e'=>rw [e1] at e;cases e
    |ok m1=>
     rw [e1] at e
     dsimp only at e
     split at e
     ·
      cases e
     ·
      cases e;exact(hm.puts e1).2.1)
  (fun n m _=>by rw [eZ,if_neg (by omega)]) (s0:=[]) (n:=k) hpk ⟨by simp,by simp⟩
theorem BN{p:List (List Int)}{m':List Int}:∀{j:Nat} {m:List Int},pK t.2.1.length m→bL (gV t) j p m= .ok m'→m'=m++p.flatten∧pK t.2.1.length m'∧∀i (h:i < p.length),(∀x∈p[i],0≤x∧x < (t.2.1.length:Int))∧bK t p[i]≤t.2.2[j+i]?.getD 0:=by
 induction p with
 |nil=>intro j m hm e;simp only [bL] at e;cases e;exact⟨by simp,hm,fun i h=>by simp at h⟩
 |cons l p ih=>
  intro j m hm e;rw [bL] at e;cases e1:gV t m j l with
  |error e'=>rw [e1] at e;cases e
  |ok m1=>
   rw [e1] at e;unfold gV at e1;cases e2:bL (fun m _ x=>mn t.2.1.length m x) 0 l m with
   |error e'=>rw [e2] at e1;cases e1
   |ok m2=>
    rw [e2] at e1;dsimp only at e1;split at e1
    ·cases e1
    ·rename_i hs;cases e1;obtain⟨rfl,h3,h4⟩:=hm.puts e2;obtain⟨h5,h6,h7⟩:=ih h3 e;refine⟨by rw [h5];simp,h6,fun i hi=>?_⟩;cases i with
     |zero=>exact⟨h4,by simp only [List.getElem_cons_zero,Nat.add_zero];omega⟩
     |succ i=>
      have:=h7 i (by simpa using hi);have e3:j+1+i=j+(i+1):=by omega
      rw [e3] at this;exact this
theorem C5(g:iE t)(hk1:k≤1000000){p:List (List Int)}(hpk:3 < k)(hl:∀l∈p,l.length < k):
 kz k t p=some (Rq (chkV t p)):=by
 unfold kz chkV
 by_cases c1:p.length < t.2.2.length
 ·
  rw [if_pos (show(p.length:Int) < (t.2.2.length:Int) by omega),if_pos c1];rfl
 ·
  rw [if_neg (show¬(p.length:Int) < (t.2.2.length:Int) by omega),if_neg c1];by_cases c2:t.2.2.length < p.length
  ·rw [if_pos (show(t.2.2.length:Int) < (p.length:Int) by omega),if_pos c2];rfl
  ·rw [if_neg (show¬(t.2.2.length:Int) < (p.length:Int) by omega),if_neg c2,Af g hk1 (by omega) (by have:=g.trunks;omega) hl]
   have hne:bL (gV t) 0 p []≠.error 0:=jS (fun m j l=>by
    unfold gV;have:=jS (g:=fun m _ x=>mn t.2.1.length m x) (fun m _ x=>by unfold mn;split;(· simp);(· split <;> simp)) l 0 m;cases e:bL (fun m _ x=>mn t.2.1.length m x) 0 l m with
    |error e'=>intro h;rw [e] at this;exact this h
    |ok m'=>dsimp only;split <;> simp) _ _ _
   cases e:bL (gV t) 0 p [] with
   |error e'=>
    rw [e] at hne;have h0:¬e'=0:=fun h=>hne (by rw [h]);dsimp only;rw [zI,Fv h0]
   |ok m=>
    obtain⟨_,h3,_⟩:=BN (t:=t) ⟨by simp,by simp⟩ e;dsimp only;rw [tp,dk (by omega),bs];have:=zq g.things h3;by_cases c3:m.length < t.2.1.length
    ·rw [if_pos (show¬gi m=_ from fun h=>this.1 h c3),if_pos c3];rfl
    ·rw [if_neg (show¬¬gi m=_ from fun h=>h (this.2 c3)),if_neg c3];rfl
theorem Bg(h:lj k t)(hpk:3 < k){p:List (List Int)}(hl:∀l∈p,l.length < k):cG k t p=some (pI t p):=by
 unfold cG pI;rw [wy h,bs];by_cases c:j8 t=0
 ·have g:=o4 c;rw [if_neg (not_not_intro c),if_neg (not_not_intro c),C5 g h.k1 hpk hl,bs];by_cases c1:chkV t p=0
  ·rw [c1];rfl
  ·rw [Fv c1];rfl
 ·rw [if_pos c,if_pos c]
end
section
variable {k:Nat}{t:aL}
structure dH(t:aL)(p:List (List Int)):Prop where
 g:iE t
 len:p.length=t.2.2.length
 nd:p.flatten.Nodup
 rng:∀x∈p.flatten,0≤x∧x < (t.2.1.length:Int)
 all:∀i:Nat,i < t.2.1.length→(i:Int)∈p.flatten
 room:∀i (h:i < p.length),bK t p[i]≤t.2.2[i]?.getD 0
theorem zm{p:List (List Int)}(h:pI t p=0):dH t p:=by
 unfold pI at h;by_cases c:j8 t=0
 ·rw [if_neg (not_not_intro c)] at h;have g:=o4 c;unfold chkV at h;by_cases c1:p.length < t.2.2.length
  ·rw [if_pos c1] at h;cases h
  ·rw [if_neg c1] at h;by_cases c2:t.2.2.length < p.length
   ·rw [if_pos c2] at h;cases h
   ·rw [if_neg c2] at h;cases e:bL (gV t) 0 p [] with
    |error e'=>
     exfalso;rw [e] at h
     have hne:bL (gV t) 0 p []≠.error 0:=jS (fun m j l=>by
      unfold gV;have:=jS (g:=fun m _ x=>mn t.2.1.length m x) (fun m _ x=>by unfold mn;split;(· simp);(· split <;> simp)) l 0 m;cases e:bL (fun m _ x=>mn t.2.1.length m x) 0 l m with
      |error e'=>intro h;rw [e] at this;exact this h
      |ok m'=>dsimp only;split <;> simp) _ _ _
     rw [e] at hne;exact hne (congrArg _ h)
    |ok m=>
     rw [e] at h;obtain⟨h3,h4,h5⟩:=BN (t:=t) ⟨by simp,by simp⟩ e;rw [List.nil_append] at h3;subst h3;by_cases c3:p.flatten.length < t.2.1.length
     ·simp only [c3,if_true] at h;cases h
     ·exact⟨g,by omega,h4.nd,h4.rng,h4.full.1 c3,fun i hi=>by have:=(h5 i hi).2;rw [Nat.zero_add] at this;exact this⟩
 ·rw [if_pos c] at h;exact absurd h c
end
theorem Lo.mono{l:cd}{m n:Int}(h:Lo l m)(hn:m≤n):Lo l n:=⟨h.1,Int.le_trans h.2 hn⟩
theorem Ll{α:Type}{l:List α}{x:α}{n:Nat}(h:l.length≤n)(hn:n≤1000000):bR (List.length l+List.length [x]):=by
 show List.length l+List.length [x]≤4294967296;simp only [List.length_cons,List.length_nil];omega
structure sL(t:aL)(things trunks:Int):Prop where
 days:1≤t.1∧t.1≤4
 things:(t.2.1.length:Int)≤things
 item:∀x∈t.2.1,1≤x.1∧x.1≤3∧x.2.length≤4∧(∀d∈x.2,0≤d∧d < t.1)∧x.2.Pairwise (· < ·)
 trunks:1≤t.2.2.length∧(t.2.2.length:Int)≤trunks
 rooms:∀n∈t.2.2,0≤n∧n≤9
theorem xo{a b:Int}(ha:0≤a)(hb:0≤b):0≤pA a b∧pA a b≤a:=by
 unfold pA;split <;> omega
section
variable {k:Nat}
theorem H5(hk:50≤k){r2:Int×cd}(hd:1≤r2.1∧r2.1≤4){l:cd}{m:Int}(hl:Lo l m)(hm:0≤m∧m≤1000):
 W (eu k r2 k (l.1,l.2.1,l.2.2,[],0)) fun r=>Lo (r.1,r.2.1,r.2.2.1) (m+4)∧r.2.2.2.length≤4∧(∀d∈r.2.2.2,0≤d∧d < r2.1)∧r.2.2.2.Pairwise (· < ·):=by
 refine W.loop (f:=eu k r2) (fun q y=>∃j:Nat,y.2.2.2.2=(j:Int)∧(j:Int)≤r2.1∧q=r2.1.toNat - j∧Lo (y.1,y.2.1,y.2.2.1) (m+j)∧y.2.2.2.1.length≤j∧(∀d∈y.2.2.2.1,0≤d∧d < (j:Int))∧y.2.2.2.1.Pairwise (· < ·)) ?_ r2.1.toNat k _ (by omega)
  ⟨0,rfl,by omega,by omega,by simpa using hl,by simp,by simp,by simp⟩
 rintro aM q ⟨a,b,c,o,y⟩ ⟨j,hj,hle,hq,hlo,hlen,hr,hpw⟩ ih
 simp only at hj hlo hlen hr hpw
 subst hj
 unfold eu
 dsimp only
 refine W.ite (fun hlt=>?_) (fun hge=>W.ret ⟨hlo.mono (by omega),by show o.length≤4;omega,fun d hd'=>by have:=hr d hd';omega,hpw⟩)
 obtain⟨r,er,hr'⟩:=BG (k:=k) (a:=2) hlo (by omega) (by decide) (by decide)
 rw [er,bs]
 cases hb:r.1 with
 |true=>
  rw [iT,dk (Ll hlen (by omega)),bs,bs,cT (by omega) (by omega),bs]
  exact ih (q - 1) _ (by omega) ⟨j+1,by show(j:Int)+1=((j+1:Nat):Int);omega,by omega,by omega,hr'.mono (by omega),by simp only [List.length_append,List.length_cons,List.length_nil];omega,fun d hd'=>by
   rcases List.mem_append.1 hd' with h |h
   ·have:=hr d h;omega
   ·rw [List.mem_singleton] at h;omega,by
   refine List.pairwise_append.2 ⟨hpw,by simp,fun a ha b hb=>?_⟩;rw [List.mem_singleton] at hb;have:=hr a ha;omega⟩
 |false=>
  rw [iF,bs,cT (by omega) (by omega),bs];exact ih (q - 1) _ (by omega) ⟨j+1,by show(j:Int)+1=((j+1:Nat):Int);omega,by omega,by omega,hr'.mono (by omega),by simp only;omega,fun d hd'=>by have:=hr d hd';omega,hpw⟩
theorem Da(hk:50≤k){r2:Int×cd}(hd:1≤r2.1∧r2.1≤4){l:cd}{m:Int}(hl:Lo l m)(hm:0≤m∧m≤100){n:Nat}(hn:n≤8):
 W (eA k r2 k (l.1,l.2.1,l.2.2,[],0,(n:Int))) fun r=>Lo (r.1,r.2.1,r.2.2.1) (m+50)∧r.2.2.2.1.length=n∧(∀x∈r.2.2.2.1,1≤x.1∧x.1≤3∧x.2.length≤4∧(∀d∈x.2,0≤d∧d < r2.1)∧x.2.Pairwise (· < ·))∧0≤r.2.2.2.2∧r.2.2.2.2≤30:=by
 refine W.loop (f:=eA k r2) (fun q y=>∃j:Nat,y.2.2.2.2.2=(n:Int) - (j:Int)∧j≤n∧q=n - j∧Lo (y.1,y.2.1,y.2.2.1) (m+5 * j)∧y.2.2.2.1.length=j∧(∀x∈y.2.2.2.1,1≤x.1∧x.1≤3∧x.2.length≤4∧(∀d∈x.2,0≤d∧d < r2.1)∧x.2.Pairwise (· < ·))∧0≤y.2.2.2.2.1∧y.2.2.2.2.1≤3 * j) ?_ n k _ (by omega)
  ⟨0,by simp,by omega,by omega,by simpa using hl,rfl,by simp,by simp,by simp⟩
 rintro aM q ⟨a,b,c,o,s,y⟩ ⟨j,hj,hle,hq,hlo,hlen,hx,hs0,hs1⟩ ih
 simp only at hj hlo hlen hx hs0 hs1
 subst hj
 unfold eA
 dsimp only
 refine W.ite (fun hlt=>?_) (fun hge=>W.ret ⟨hlo.mono (by omega),by show o.length=n;omega,hx,hs0,by show s≤30;omega⟩)
 obtain⟨r,er,hm1,hr⟩:=Kx (k:=k) (some_:=[1,1,1,2,3]) hlo (by omega) (by decide) (by decide)
 have hr3:1≤r.1∧r.1≤3:=by simp only [List.mem_cons,List.not_mem_nil,or_false] at hm1;omega
 rw [er,bs]
 obtain⟨w,ew,hw1,hw2,hw3,hw4⟩:=H5 hk hd (l:=r.2) hr (by omega)
 rw [show eu k r2 k (r.2.1,r.2.2.1,r.2.2.2,[],0)=some w from ew,bs,dk (Ll (n:=8) (by omega) (by omega)),bs,cT (by omega) (by omega),bs,bs,cT (by omega) (by omega),bs]
 refine ih (q - 1) _ (by omega) ⟨j+1,by show(n:Int) - (j:Int) - 1=(n:Int) - ((j+1:Nat):Int);omega,by omega,by omega,hw1.mono (by omega),by simp only [List.length_append,List.length_cons,List.length_nil];omega,fun x hx'=>?_,by show 0≤s+r.1;omega,by show s+r.1≤3 * ((j+1:Nat):Int);omega⟩
 rcases List.mem_append.1 hx' with h |h
 ·
  exact hx x h
 ·
  rw [List.mem_singleton] at h;subst h;exact⟨hr3.1,hr3.2,hw2,hw3,hw4⟩
theorem C9(hk:50≤k){x4:(List Int)×Int×Int×(List dF)×Int}(hs:0≤x4.2.2.2.2∧x4.2.2.2.2≤30){l:cd}{m:Int}(hl:Lo l m)(hm:0≤m∧m≤200){n:Nat}(hn:n≤8):
 W (ek k x4 k (l.1,l.2.1,l.2.2,[],(n:Int))) fun r=>Lo (r.1,r.2.1,r.2.2.1) (m+10)∧r.2.2.2.length=n∧(∀x∈r.2.2.2,0≤x∧x≤9):=by
 refine W.loop (f:=ek k x4) (fun q y=>∃j:Nat,y.2.2.2.2=(n:Int) - (j:Int)∧j≤n∧q=n - j∧Lo (y.1,y.2.1,y.2.2.1) (m+j)∧y.2.2.2.1.length=j∧(∀x∈y.2.2.2.1,0≤x∧x≤9)) ?_ n k _ (by omega)
  ⟨0,by simp,by omega,by omega,by simpa using hl,rfl,by simp⟩
 rintro aM q ⟨a,b,c,o,y⟩ ⟨j,hj,hle,hq,hlo,hlen,hx⟩ ih
 simp only at hj hlo hlen hx
 subst hj
 unfold ek
 dsimp only
 refine W.ite (fun hlt=>?_) (fun hge=>W.ret ⟨hlo.mono (by omega),by show o.length=n;omega,hx⟩)
 rw [cT (by omega) (by omega),bs]
 obtain⟨r,er,hm1,hr⟩:=Kx (k:=k) (some_:=[1,2,3,pA 9 x4.2.2.2.2,pA 9 (x4.2.2.2.2+1)]) hlo (by omega) (by simp) (by simp)
 have i1:=xo (a:=9) (b:=x4.2.2.2.2) (by decide) hs.1
 have i2:=xo (a:=9) (b:=x4.2.2.2.2+1) (by decide) (by omega)
 have hr3:0≤r.1∧r.1≤9:=by simp only [List.mem_cons,List.not_mem_nil,or_false] at hm1;omega
 rw [er,bs,dk (Ll (n:=8) (by omega) (by omega)),bs,cT (by omega) (by omega),bs]
 refine ih (q - 1) _ (by omega) ⟨j+1,by show(n:Int) - (j:Int) - 1=(n:Int) - ((j+1:Nat):Int);omega,by omega,by omega,hr.mono (by omega),by simp only [List.length_append,List.length_cons,List.length_nil];omega,fun x hx'=>?_⟩
 rcases List.mem_append.1 hx' with h |h
 ·
  exact hx x h
 ·
  rw [List.mem_singleton] at h;subst h;exact hr3
theorem Ie(hk:50≤k){l:cd}{m:Int}(hl:Lo l m)(hm:0≤m∧m≤50){a b:Nat}(ha:a≤8)(hb:1≤b∧b≤8):
 W (jy k l (a:Int) (b:Int)) fun r=>sL r.1 a b∧Lo r.2 (m+100):=by
 unfold jy
 obtain⟨r,er,h1,h2,h3⟩:=BS (k:=k) (a:=1) (b:=4) hl (by omega) (by decide) (by decide) (by decide)
 rw [show di k (l.1,l.2.1,l.2.2) 1 4=some r from er,bs]
 obtain⟨r6,e6,h61,h62,h63⟩:=BS (k:=k) (a:=0) (b:=(a:Int)) h3 (by omega) (by decide) (by omega) (by omega)
 rw [show di k (r.2.1,r.2.2.1,r.2.2.2) 0 (a:Int)=some r6 from e6,bs]
 obtain⟨n,hn⟩:=Int.eq_ofNat_of_zero_le h61
 obtain⟨x4,e4,hl4,hlen4,hit,hs0,hs1⟩:=Da hk (r2:=r) ⟨h1,h2⟩ h63 (by omega) (n:=n) (by omega)
 rw [show eA k r k (r6.2.1,r6.2.2.1,r6.2.2.2,[],0,r6.1)=some x4 by rw [hn];exact e4,bs]
 obtain⟨r31,e31,h311,h312,h313⟩:=BS (k:=k) (a:=1) (b:=(b:Int)) hl4 (by omega) (by decide) (by omega) (by omega)
 rw [show di k (x4.1,x4.2.1,x4.2.2.1) 1 (b:Int)=some r31 from e31,bs]
 obtain⟨n3,hn3⟩:=Int.eq_ofNat_of_zero_le (show 0≤r31.1 by omega)
 obtain⟨x29,e29,hl29,hlen29,hroom⟩:=C9 hk (x4:=x4) ⟨hs0,hs1⟩ h313 (by omega) (n:=n3) (by omega)
 rw [show ek k x4 k (r31.2.1,r31.2.2.1,r31.2.2.2,[],r31.1)=some x29 by rw [hn3];exact e29,bs]
 obtain⟨r42,e42,h42⟩:=BG (k:=k) (a:=2) hl29 (by omega) (by decide) (by decide)
 rw [show fu k (x29.1,x29.2.1,x29.2.2.1) 2=some r42 from e42,bs]
 cases hb:r42.1 with
 |true=>
  have i1:=xo (a:=9) (b:=x4.2.2.2.2) (by decide) hs0;rw [iT,show bv x29.2.2.2 0=some (x29.2.2.2[0]'(by omega)) from dT (i:=0) (by omega),bs,bs];refine W.ret ⟨⟨⟨h1,h2⟩,by show(x4.2.2.2.1.length:Int)≤_;omega,hit,by simp only [List.length_set];omega,fun y hy=>?_⟩,h42.mono (by omega)⟩;rcases List.mem_or_eq_of_mem_set hy with h |h
  ·exact hroom y h
  ·omega
 |false=>
  rw [iF,bs];exact W.ret ⟨⟨⟨h1,h2⟩,by show(x4.2.2.2.1.length:Int)≤_;omega,hit,by simp only;omega,hroom⟩,h42.mono (by omega)⟩
theorem o6{α:Type}{g:Nat→α→Except Int Unit}:∀(l:List α) (i:Nat),(∀(j:Nat) (h:j < l.length),g (i+j) l[j]= .ok ())→bL (fun(_:Unit) j x=>g j x) i l ()= .ok ()
 |[],_,_=>rfl
 |x::l,i,h=>by
  have h0:g i x= .ok ():=h 0 (by simp)
  rw [bL,h0]
  exact o6 l (i+1) fun j hj=>by
   have:=h (j+1) (by simp;omega)
   rw [show i+1+j=i+(j+1) by omega]
   exact this
theorem sL.chk{t:aL}{a b:Int}(h:sL t a b)(ha:a≤5)(hb:b≤3):j8 t=0:=by
 have h1:=h.days;have h2:=h.things;have h3:=h.trunks;unfold j8
 rw [if_neg (not_not_intro (show 1≤t.1∧t.1≤6 by omega)),if_neg (show¬5 < t.2.1.length by omega),o6 (g:=fun _ x=>k9 t.1 x) t.2.1 0 (fun j hj=>by
  obtain⟨a1,a2,_,a4,a5⟩:=h.item _ (List.getElem_mem hj);show k9 t.1 t.2.1[j]= .ok ();unfold k9;rw [if_neg (not_not_intro ⟨a1,a2⟩)];refine o6 (g:=fun i y=>zz t.1 t.2.1[j].2 i y) _ 0 (fun i hi=>?_);have hd:=a4 _ (List.getElem_mem hi);rw [Nat.zero_add];unfold zz;rw [if_neg (not_not_intro (show 0≤t.2.1[j].2[i]∧t.2.1[j].2[i]≤t.1 - 1 by omega)),if_neg];rintro⟨h0,hle⟩;have:=List.pairwise_iff_getElem.1 a5 (i - 1) i (by omega) hi (by omega);rw [List.getElem?_eq_getElem (show i - 1 < t.2.1[j].2.length by omega),Option.getD_some] at hle;omega)]
 simp only [show¬t.2.2.length < 1 by omega,show¬3 < t.2.2.length by omega,if_false]
 rw [o6 (g:=fun _ n=>np n) t.2.2 0 (fun j hj=>by
  have:=h.rooms _ (List.getElem_mem hj);show np t.2.2[j]= .ok ();unfold np;rw [if_pos this])]
 rfl
end
section
variable {k:Nat}
structure Pk(N i:Nat)(room:List Int)(out:List (List Int)):Prop where
 rl:room.length=N
 ol:out.length=N
 rr:∀x∈room, -3 * (i:Int)≤x∧x≤9
 oo:∀l∈out,l.length≤i
theorem Pk.next{N i:Nat}{room:List Int}{out:List (List Int)}(h:Pk N i room out):Pk N (i+1) room out:=
 ⟨h.rl,h.ol,fun x hx=>by have:=h.rr x hx;omega,fun l hl=>by have:=h.oo l hl;omega⟩
structure CS(t:aL)(p:List (List Int))(a:Int):Prop where
 kit:sL t a 3
 len:p.length=t.2.2.length
 short:∀l∈p,l.length≤8
theorem CS.small{t:aL}{p:List (List Int)}{a:Nat}(h:CS t p a)(hk:50≤k)(hk1:k≤1000000)(ha:a≤8):lj k t:=
 ⟨hk1,by have:=h.kit.things;omega,fun x hx=>by have:=h.kit.item x hx;omega,by have:=h.kit.trunks;omega⟩
end
def GN(l:List Int)(x:Int):Int:=match l.findIdx? (fun y=>decide (y=x)) with
 |some i=>(i:Int)
 |none=> -1
theorem IY{l:List Int}{x:Int}:0≤GN l x↔x∈l:=by
 unfold GN;cases h:l.findIdx? (fun y=>decide (y=x)) with
 |none=>
  rw [List.findIdx?_eq_none_iff] at h;constructor
  ·intro h0;simp only at h0;omega
  ·intro hx;have:=h x hx;simp at this
 |some i=>
  rw [List.findIdx?_eq_some_iff_getElem] at h;obtain⟨hi,h1,_⟩:=h;have:l[i]=x:=by simpa using h1
  exact⟨fun _=>this▸List.getElem_mem hi,fun _=>by simp only;omega⟩
section
variable {k:Nat}
theorem G7{l:List Int}{x:Int}:K.bE (some (bL (fun(_:Unit) j y=>if decide (y=x) then Except.error (j:Int) else .ok ()) 0 l ())) some (fun _=>some (-1))=some (GN l x):=by
 rw [uC];unfold GN;cases l.findIdx? (fun y=>decide (y=x)) with
 |none=>exact tp
 |some i=>exact zI
theorem GM{l:List Int}{x:Int}(hk:l.length < k)(hk1:k≤1000000):iy k l x=some (GN l x):=by
 unfold iy
 have:=wq (f:=cU k l x) l (fun(_:Unit) j=>j) (fun _ j y=>if decide (y=x) then Except.error (j:Int) else .ok ()) (fun _ _=>True) (fun r=>some r)
  (fun n s j h _=>⟨by
   rw [cU,if_pos (Int.ofNat_lt.2 h),dT h,bs];by_cases c:l[j]=x
   ·rw [if_pos c.symm,decide_eq_true c,iT]
   ·rw [if_neg (fun h=>c h.symm),decide_eq_false c,iF,cT (by omega) (by omega),bs],fun _ _=>trivial⟩)
  (fun n s _=>by rw [cU,if_neg (by omega)]) (s0:=()) (n:=k) hk trivial
 rw [show cU k l x k 0=_ from this];exact G7
theorem zC{l:List Int}{x:Int}(hk:l.length < k)(hk1:k≤1000000):fF k l x=some (decide (x∈l)):=by
 unfold fF;rw [GM hk hk1,bs];congr 1;exact decide_eq_decide.2 IY
def nz(l:List Int):List Int:=[l[0]?.getD (-1),l[1]?.getD (-1),l[2]?.getD (-1),l[3]?.getD (-1),l[4]?.getD (-1)]
def dM(p:List (List Int)):List (List Int):=[nz (p[0]?.getD []),nz (p[1]?.getD []),nz (p[2]?.getD [])]
theorem vV{p ld:List (List Int)}{row:List Int}{i j n:Nat}{y:List (List Int)}(hi:i < 3)(hj:j < 5)(hr:ld[i]? =some row)(hl:row.length=5):
 cz k p (y,(i:Int)) (n+1) (ld,(j:Int))=cz k p (y,(i:Int)) n (ld.set i (row.set j ((p[i]?.getD [])[j]?.getD (-1))),((j+1:Nat):Int)):=by
 have hil:i < ld.length:=by
  rcases Nat.lt_or_ge i ld.length with h |h
  ·exact h
  ·rw [List.getElem?_eq_none h] at hr;cases hr
 have hg:bv ld (i:Int)=some row:=xq (by omega) hr
 rw [cz]
 dsimp only
 rw [if_pos (show(j:Int) < 5 by omega),dk (by omega),bs,hg,bs,dk (by omega),bs]
 have ei:Int.toNat (i:Int)=i:=rfl
 have ej:Int.toNat (j:Int)=j:=rfl
 rw [ei,ej]
 by_cases c:i < p.length
 ·
  have ep:p[i]?.getD []=p[i]:=by rw [List.getElem?_eq_getElem c];rfl
  rw [if_pos (show(i:Int) < (p.length:Int) by omega),dT c,bs,bs,ep];by_cases c1:j < p[i].length
  ·have e2:p[i][j]?.getD (-1)=p[i][j]:=by rw [List.getElem?_eq_getElem c1];rfl
   rw [decide_eq_true (show(j:Int) < (p[i].length:Int) by omega),iT,bs,dT c1,bs,bs]
   have hg2:bv (ld.set i (row.set j (-1))) (i:Int)=some (row.set j (-1)):=xq (by omega) (by
    show(ld.set i (row.set j (-1)))[i]? =_;rw [List.getElem?_set_self hil])
   rw [hg2,bs,bs,bs,cT (by omega) (by omega),bs,List.set_set,List.set_set,e2];rfl
  ·have e2:p[i][j]?.getD (-1)= -1:=by rw [List.getElem?_eq_none (by omega)];rfl
   rw [decide_eq_false (show¬(j:Int) < (p[i].length:Int) by omega),iF,bs,cT (by omega) (by omega),bs,e2];rfl
 ·
  have ep:p[i]?.getD []=[]:=by rw [List.getElem?_eq_none (by omega)];rfl
  rw [if_neg (show¬(i:Int) < (p.length:Int) by omega),bs,iF,bs,cT (by omega) (by omega),bs,ep];rfl
theorem Gx(hk:50≤k){p ld:List (List Int)}{row:List Int}{i:Nat}{y:List (List Int)}(hi:i < 3)(hr:ld[i]? =some row)(hl:row.length=5):
 cz k p (y,(i:Int)) k (ld,0)=some (ld.set i (nz (p[i]?.getD []))):=by
 obtain⟨n,rfl⟩:∃n,k=n+6:=⟨k - 6,by omega⟩
 have hil:i < ld.length:=by
  rcases Nat.lt_or_ge i ld.length with h |h
  ·exact h
  ·rw [List.getElem?_eq_none h] at hr;cases hr
 match row,hl with
 |[a,b,c,d,e],_=>
  have st:∀(j m:Nat) (row':List Int),j < 5→row'.length=5→cz (n+6) p (y,(i:Int)) (m+1) (ld.set i row',(j:Int))=cz (n+6) p (y,(i:Int)) m (ld.set i (row'.set j ((p[i]?.getD [])[j]?.getD (-1))),((j+1:Nat):Int)):=fun j m row' hj hl'=>by
   rw [vV hi hj (List.getElem?_set_self hil) hl',List.set_set]
  have h0:=vV (k:=n+6) (p:=p) (y:=y) (n:=n+5) (j:=0) hi (by omega) hr rfl;rw [show((0:Nat):Int)=0 from rfl] at h0;rw [h0,st 1 _ _ (by omega) (by simp),st 2 _ _ (by omega) (by simp),st 3 _ _ (by omega) (by simp),st 4 _ _ (by omega) (by simp),cz];dsimp only;rw [if_neg (show¬(((4+1:Nat):Int) < 5) by omega)];rfl
theorem AX(hk:50≤k){p:List (List Int)}:dC k p=some (dM p):=by
 unfold dC;obtain⟨n,e⟩:∃n,k=n+4:=⟨k - 4,by omega⟩
 have st:∀(i m:Nat) (ld:List (List Int)) (row:List Int),i < 3→ld[i]? =some row→row.length=5→cN k p (m+1) (ld,(i:Int))=cN k p m (ld.set i (nz (p[i]?.getD [])),((i+1:Nat):Int)):=fun i m ld row hi hr hl=>by
  rw [cN];dsimp only;rw [if_pos (show(i:Int) < 3 by omega),Gx hk hi hr hl,bs,cT (by omega) (by omega),bs];rfl
 have h0:=st 0 (n+3) [[0,0,0,0,0],[0,0,0,0,0],[0,0,0,0,0]] _ (by omega) rfl rfl;rw [show((0:Nat):Int)=0 from rfl] at h0;have e2:cN k p k ([[0,0,0,0,0],[0,0,0,0,0],[0,0,0,0,0]],0)=cN k p (n+3+1) ([[0,0,0,0,0],[0,0,0,0,0],[0,0,0,0,0]],0):=by rw [←e]
 rw [e2,h0,st 1 _ _ _ (by omega) rfl rfl,st 2 _ _ _ (by omega) rfl rfl,cN];dsimp only;rw [if_neg (show¬(((2+1:Nat):Int) < 3) by omega),bs];rfl
def J2(l:List Int):Prop:=l.length≤5∧∀x∈l,0≤x
theorem Az{l:List Int}(h:J2 l):(nz l).filter (fun x=>decide (0≤x))=l:=by
 obtain⟨h1,h2⟩:=h;match l,h1 with
 |[],_=>rfl
 |[a],_=>have:=h2 a (by simp);simp [nz,this]
 |[a,b],_=>have:=h2 a (by simp);have:=h2 b (by simp);simp [nz, *]
 |[a,b,c],_=>have:=h2 a (by simp);have:=h2 b (by simp);have:=h2 c (by simp);simp [nz, *]
 |[a,b,c,d],_=>have:=h2 a (by simp);have:=h2 b (by simp);have:=h2 c (by simp);have:=h2 d (by simp);simp [nz, *]
 |[a,b,c,d,e],_=>have:=h2 a (by simp);have:=h2 b (by simp);have:=h2 c (by simp);have:=h2 d (by simp);have:=h2 e (by simp);simp [nz, *]
theorem GA(hk:50≤k){row:List Int}(hr:row.length=5):cF k row k ([],0)=some (row.filter fun x=>decide (0≤x)):=by
 have:=zr (f:=cF k row) row (fun(s:List Int) j=>(s,j)) (fun s _ x=>if 0≤x then s++[x] else s) (fun j s=>s.length≤j∧s=(row.take j).filter fun x=>decide (0≤x)) (fun s=>some s)
  (fun n s j h hp=>by
   have hl:=hp.1;refine⟨?_,?_,?_⟩
   ·rw [cF];dsimp only;rw [if_pos (show(j:Int) < 5 by omega),dT h,bs];by_cases c:0≤row[j]
    ·rw [if_pos c,dk (Ll (n:=5) (by omega) (by omega)),bs,bs,cT (by omega) (by omega),bs,if_pos c]
    ·rw [if_neg c,bs,cT (by omega) (by omega),bs,if_neg c]
   ·split
    ·simp only [List.length_append,List.length_cons,List.length_nil];omega
    ·omega
   ·rw [List.take_add_one,List.getElem?_eq_getElem h,Option.toList_some,List.filter_append,←hp.2];by_cases c:0≤row[j]
    ·rw [if_pos c];simp [c]
    ·rw [if_neg c];simp [c])
  (fun n s _=>by rw [cF,if_neg (show¬((row.length:Int) < 5) by omega)]) (s0:=[]) (n:=k) (by omega) ⟨by simp,by simp⟩
 obtain⟨h1,h2,h3⟩:=this;rw [show cF k row k ([],0)=_ from h1,h3,List.take_of_length_le (Nat.le_refl _)]
theorem xj(hk:50≤k){p:List (List Int)}{i:Nat}(hi:i < 3)(hf:J2 (p[i]?.getD [])):dz k (dM p) (i:Int)=some (p[i]?.getD []):=by
 unfold dz
 have hg:bv (dM p) (i:Int)=some (nz (p[i]?.getD [])):=xq (by omega) (by
  match i,hi with
  |0,_=>rfl
  |1,_=>rfl
  |2,_=>rfl)
 rw [dk (by omega),bs,hg,bs,GA hk rfl,bs,Az hf]
end
section
variable {k:Nat}
theorem Bo{t:aL}{d:Int}{n:Nat}:mK t d (n:Int)=true↔∃h:n < t.2.1.length,d∈t.2.1[n].2:=by
 unfold mK;rw [show((n:Int)).toNat=n from rfl];rcases Nat.lt_or_ge n t.2.1.length with h |h
 ·rw [List.getElem?_eq_getElem h];simp [h]
 ·rw [List.getElem?_eq_none h];simp [Nat.not_lt.2 h]
theorem EH(hk1:k≤1000000){t:aL}(hn:t.2.1.length≤8)(hnk:t.2.1.length < k)(hw:∀x∈t.2.1,x.2.length < k){d:Int}:W (gj k (t,()) d) fun m=>lw m∧∀i:Nat,eQ m i↔mK t d (i:Int)=true:=by
 unfold gj;refine W.bind (R:=fun m=>lw m∧∀i:Nat,eQ m i↔mK t d (i:Int)=true) ?_ fun r h=>W.ret h
 refine W.loop (f:=eC k (t,()) d) (fun q y=>∃j:Nat,y.2=(j:Int)∧j≤t.2.1.length∧q=t.2.1.length - j∧lw y.1∧∀i:Nat,eQ y.1 i↔i < j∧mK t d (i:Int)=true) ?_ t.2.1.length k (0,0) hnk
  ⟨0,rfl,by omega,by omega,⟨by decide,by decide⟩,fun i=>by simp [eQ]⟩
 rintro aM q ⟨s,y⟩ ⟨j,hj,hle,hq,hm,hh⟩ ih;simp only at hj hm hh;subst hj;unfold eC;dsimp only;refine W.ite (fun hlt=>?_) (fun hge=>W.ret ⟨hm,fun i=>?_⟩)
 ·have hlt':j < t.2.1.length:=by omega
  rw [dT hlt',bs,zC (hw _ (List.getElem_mem hlt')) hk1,bs];have hj:mK t d (j:Int)=true↔d∈t.2.1[j].2:=by rw [Bo];exact⟨fun⟨_,h⟩=>h,fun h=>⟨hlt',h⟩⟩
  by_cases c:d∈t.2.1[j].2
  ·obtain⟨o1,o2⟩:=wU (x:=(j:Int)) (by omega) (by omega);obtain⟨p1,p2⟩:=xn hm o1;rw [decide_eq_true c,iT];unfold dy;rw [dk (by omega),bs,bs,bs,cT (by omega) (by omega),bs];refine ih (q - 1) (_,(j:Int)+1) (by omega) ⟨j+1,by show(j:Int)+1=((j+1:Nat):Int);omega,by omega,by omega,p1,fun i=>?_⟩;rw [p2,hh,o2];constructor
   ·rintro(⟨a,b⟩ |h)
    ·exact⟨by omega,b⟩
    ·have:i=j:=by omega
     subst this;exact⟨by omega,hj.2 c⟩
   ·rintro⟨a,b⟩;by_cases e:i=j
    ·exact .inr (by omega)
    ·exact .inl ⟨by omega,b⟩
  ·rw [decide_eq_false c,iF,bs,cT (by omega) (by omega),bs];refine ih (q - 1) (_,(j:Int)+1) (by omega) ⟨j+1,by show(j:Int)+1=((j+1:Nat):Int);omega,by omega,by omega,hm,fun i=>?_⟩;rw [hh];constructor
   ·rintro⟨a,b⟩;exact⟨by omega,b⟩
   ·rintro⟨a,b⟩;have:i≠j:=fun e=>c (hj.1 (e▸b));exact⟨by omega,b⟩
 ·rw [hh];constructor
  ·exact fun h=>h.2
  ·intro h;obtain⟨h1,_⟩:=Bo.1 h;exact⟨by omega,h⟩
theorem Is{l:List Int}(hk:l.length < k)(hk1:k≤1000000):nI k l=some l:=by
 have key:∀(j n:Nat),j≤l.length→j < n→bY k l (nK fun(y3:List Int) (p5:Int×Int)=>some ((p5.2::y3),true)) n ((j:Int) - 1,(l.drop j,false))=some (l,false):=by
  intro j
  induction j with
  |zero=>
   intro n _ hn
   obtain⟨n,rfl⟩:∃n',n=n'+1:=⟨n - 1,by omega⟩;rw [bY];dsimp only;rw [if_neg (by omega),List.drop_zero]
  |succ j ih=>
   intro n hj hn
   obtain⟨n,rfl⟩:∃n',n=n'+1:=⟨n - 1,by omega⟩;have e1:((j+1:Nat):Int) - 1=(j:Int):=by omega
   rw [bY,e1];dsimp only;rw [if_pos (show(0:Int)≤(j:Int) by omega),dT (by omega),bs];rw [show nK (fun(y3:List Int) (p5:Int×Int)=>some ((p5.2::y3),true)) (List.drop (j+1) l,false) ((j:Int),l[j])=some ((l[j]::List.drop (j+1) l,false),true) from rfl,bs];dsimp only;rw [nT,cT (by omega) (by omega),bs];have:=ih n (by omega) (by omega);rw [List.drop_eq_getElem_cons (show j < l.length by omega)] at this;exact this
 unfold nI f6;rw [cT (by omega) (by omega),bs];have:=key l.length k (by omega) hk;rw [List.drop_length] at this;rw [this,bs,iF]
theorem Dx{m:Int}(hm:lw m){w:Int→Bool}(hw:∀i:Nat,i < 8→(eQ m i↔w (i:Int)=true)):∀(l:List Int) (n:Nat) (lf:Int) (up stay:List Int),l.length < n→(∀x∈l,0≤x∧x < 8)→lw lf→up.length+stay.length+l.length≤1000→
 W (fV k m n (lf,up,stay,l)) fun r=>r.2=(stay++l.filter (fun x=> !w x))++(up++l.filter w)∧lw r.1∧∀i:Nat,eQ r.1 i↔eQ lf i∨(i:Int)∈fi w (!up.isEmpty) l:=by
 intro l
 induction l with
 |nil=>
  intro n lf up stay hn _ hlf hlen
  obtain⟨n,rfl⟩:∃n',n=n'+1:=⟨n - 1,by omega⟩;rw [fV];dsimp only;rw [show List.isEmpty ([]:List Int)=true from rfl,iT,dk (Nc (by simp only [List.length_nil] at hlen;omega)),bs];exact W.ret ⟨by simp,hlf,fun i=>by simp [fi]⟩
 |cons x l ih=>
  intro n lf up stay hn hx hlf hlen
  simp only [List.length_cons] at hn hlen;obtain⟨n,rfl⟩:∃n',n=n'+1:=⟨n - 1,by omega⟩;have hx0:=hx x (by simp);have hxl:∀y∈l,0≤y∧y < 8:=fun y hy=>hx y (by simp [hy]);obtain⟨xi,hxi⟩:=Int.eq_ofNat_of_zero_le hx0.1;subst hxi;have hhx:=hw xi (by omega);rw [fV];dsimp only;rw [show List.isEmpty ((xi:Int)::l)=false from rfl,iF,show nE ((xi:Int)::l)=some ((xi:Int),l) from rfl,bs,xp hm (by omega),bs];by_cases c:w (xi:Int)=true
  ·rw [decide_eq_true (hhx.2 c),iT,bs,dk (Ll (n:=1000) (by omega) (by omega)),bs,bs];refine(ih n lf (up++[(xi:Int)]) stay (by omega) hxl hlf (by simp only [List.length_append,List.length_cons,List.length_nil];omega)).mono fun r hr=>?_;obtain⟨h1,h2,h3⟩:=hr;refine⟨?_,h2,fun i=>?_⟩
   ·rw [h1];simp [c]
   ·rw [h3,fi,if_pos c,show(!(up++[(xi:Int)]).isEmpty)=true by cases up <;> rfl]
  ·have c':w (xi:Int)=false:=by simpa using c
   rw [decide_eq_false (fun h=>c (hhx.1 h)),iF];cases up with
   |nil=>
    rw [if_neg (show¬(0:Int) < (([]:List Int).length:Int) by simp),bs,bs,dk (Ll (n:=1000) (by omega) (by omega)),bs,bs];refine(ih n lf [] (stay++[(xi:Int)]) (by omega) hxl hlf (by simp only [List.length_append,List.length_cons,List.length_nil] at hlen⊢;omega)).mono fun r hr=>?_;obtain⟨h1,h2,h3⟩:=hr;refine⟨?_,h2,fun i=>?_⟩
    ·rw [h1];simp [c']
    ·rw [h3,fi,if_neg c];simp
   |cons u up=>
    obtain⟨o1,o2⟩:=wU (x:=(xi:Int)) (by omega) (by omega);obtain⟨p1,p2⟩:=xn hlf o1;rw [if_pos (show(0:Int) < ((u::up).length:Int) by simp only [List.length_cons];omega),bs];unfold dy;rw [dk (show(0:Int)≤(xi:Int) by omega),bs,bs,bs,bs,dk (Ll (n:=1000) (by omega) (by omega)),bs,bs];refine(ih n _ (u::up) (stay++[(xi:Int)]) (by omega) hxl p1 (by simp only [List.length_append,List.length_cons,List.length_nil] at hlen⊢;omega)).mono fun r hr=>?_;obtain⟨h1,h2,h3⟩:=hr;refine⟨?_,h2,fun i=>?_⟩
    ·rw [h1];simp [c']
    ·rw [h3,p2,o2,fi,if_neg c];simp only [List.isEmpty_cons,Bool.not_false,if_true,List.mem_cons,or_assoc]
theorem Iw(hk1:k≤1000000){m:Int}(hm:lw m){w:Int→Bool}(hw:∀i:Nat,i < 8→(eQ m i↔w (i:Int)=true)){l:List Int}(hl:l.length < k)(hl9:l.length≤1000)(hx:∀x∈l,0≤x∧x < 8):
 W (mg k l m) fun r=>r.2=ya w l∧lw r.1∧∀i:Nat,eQ r.1 i↔(i:Int)∈fi w false l:=by
 unfold mg
 rw [Is hl hk1,bs]
 refine(Dx hm hw l k 0 [] [] hl hx ⟨by decide,by decide⟩ (by simp only [List.length_nil];omega)).mono fun r hr=>?_
 obtain⟨h1,h2,h3⟩:=hr
 refine⟨by rw [h1];simp [ya],h2,fun i=>?_⟩
 rw [h3];simp [eQ]
structure H3(p:List (List Int)):Prop where
 len:p.length≤3
 fit:∀l∈p,l.length≤5∧∀x∈l,0≤x∧x < 8
theorem H3.at{p:List (List Int)}(h:H3 p)(i:Nat):(p[i]?.getD []).length≤5∧∀x∈p[i]?.getD [],0≤x∧x < 8:=by
 rcases Nat.lt_or_ge i p.length with hi |hi
 ·rw [List.getElem?_eq_getElem hi];exact h.fit _ (List.getElem_mem hi)
 ·rw [List.getElem?_eq_none hi];simp
theorem H3.fitL{p:List (List Int)}(h:H3 p)(i:Nat):J2 (p[i]?.getD []):=⟨(h.at i).1,fun x hx=>((h.at i).2 x hx).1⟩
theorem IB{w:Int→Bool}:ya w []=[]:=rfl
theorem H3.next{p:List (List Int)}(h:H3 p){w:Int→Bool}:H3 (p.map (ya w)):=
 ⟨by rw [List.length_map];exact h.len,fun l hl=>by
  obtain⟨q,hq,rfl⟩:=List.mem_map.1 hl
  have:=h.fit q hq
  exact⟨by rw [ji.length_eq];exact this.1,fun x hx=>this.2 x (ji.mem_iff.1 hx)⟩⟩
structure vy(k:Nat)(t:aL):Prop where
 k0:50≤k
 k1:k≤1000000
 things:t.2.1.length≤8
 worn:∀x∈t.2.1,x.2.length < k
theorem Gz{t:aL}(hk0:50≤k){p:List (List Int)}(hp:H3 p)(hl:p.length=t.2.2.length):eF k (t,()) (dM p)=some p:=by
 have h3:=hp.len;unfold eF;rw [dk (by exact⟨by omega,show Int.toNat (t.2.2.length:Int)≤4294967296 by omega⟩),bs]
 have hb:=W.loop (f:=dL k (t,()) (dM p)) (Q:=fun r=>r=p) (fun q y=>∃j:Nat,y.2=(j:Int)∧j≤p.length∧q=p.length - j∧y.1=p.take j++List.replicate (p.length - j) []) (by
  rintro aM q ⟨o,y⟩ ⟨j,hj,hle,hq,ho⟩ ih;simp only at hj ho;subst hj;unfold dL;dsimp only;rw [List.length_replicate];refine W.ite (fun hlt=>?_) (fun hge=>W.ret ?_)
  ·have hj:j < p.length:=by omega
   have ho':j < o.length:=by rw [ho];simp only [List.length_append,List.length_take,List.length_replicate];omega
   rw [xj hk0 (by omega) (hp.fitL j),bs,dT ho',bs,cT (by omega) (by omega),bs];refine ih (q - 1) (_,(j:Int)+1) (by omega) ⟨j+1,by show(j:Int)+1=((j+1:Nat):Int);omega,by omega,by omega,?_⟩;show List.set o j (p[j]?.getD [])=_;have e1:p.length - j=p.length - (j+1)+1:=by omega
   rw [ho,List.set_append_right _ _ (by rw [List.length_take];omega),List.length_take,Nat.min_eq_left (by omega),Nat.sub_self,e1,List.replicate_succ,List.set_cons_zero,List.take_add_one,List.getElem?_eq_getElem hj];simp only [Option.toList_some,Option.getD_some,List.append_assoc,List.cons_append,List.nil_append]
  ·have:j=p.length:=by omega
   subst this;rw [ho];simp) p.length k (List.replicate (Int.toNat (t.2.2.length:Int)) [],0) (by omega) ⟨0,rfl,by omega,by omega,by simp [hl]⟩
 obtain⟨r,er,rfl⟩:=hb;rw [er,bs]
theorem dH.fit{t:aL}{p:List (List Int)}(h:dH t p):H3 p:=by
 have h5:=h.g.things;refine⟨by have:=h.len;have:=h.g.trunks;omega,fun l hl=>?_⟩;have hsub:∀x∈l,x∈p.flatten:=fun x hx=>List.mem_flatten.2 ⟨l,hl,hx⟩;have hnd:l.Nodup:=(List.pairwise_flatten.1 h.nd).1 l hl;have hr:∀x∈l,0≤x∧x < (t.2.1.length:Int):=fun x hx=>h.rng x (hsub x hx);have:=ua _ l hnd hr;exact⟨by omega,fun x hx=>by have:=hr x hx;omega⟩
end
section
variable {k:Nat}
def zy(t:aL)(d:Int)(p:List (List Int)):List (List Int):=p.map (ya (mK t d))
def MO(t:aL)(p:List (List Int)):Nat→List (List Int)
 |0=>p
 |n+1=>zy t n (MO t p n)
theorem An{t:aL}{l l':List Int}(h:l.Perm l'):bK t l=bK t l':=by
 induction h with
 |nil=>rfl
 |cons x _ ih=>simp only [bK,ih]
 |swap x y l=>simp only [bK];omega
 |trans _ _ h1 h2=>rw [h1,h2]
theorem Ee{t:aL}{d:Int}{p:List (List Int)}:(zy t d p).flatten.Perm p.flatten:=by
 unfold zy
 induction p with
 |nil=>exact List.Perm.refl _
 |cons l p ih=>
  simp only [List.map_cons,List.flatten_cons];exact ji.append ih
theorem dH.next{t:aL}{d:Int}{p:List (List Int)}(h:dH t p):dH t (zy t d p):=by
 have hp:=Ee (t:=t) (d:=d) (p:=p);refine⟨h.g,by unfold zy;rw [List.length_map];exact h.len,hp.nodup_iff.2 h.nd,fun x hx=>h.rng x (hp.mem_iff.1 hx),fun i hi=>hp.mem_iff.2 (h.all i hi),fun i hi=>?_⟩;have hi':i < p.length:=by unfold zy at hi;rwa [List.length_map] at hi
 have e:(zy t d p)[i]=ya (mK t d) p[i]:=by simp only [zy,List.getElem_map]
 rw [e,An ji];exact h.room i hi'
theorem dH.aft{t:aL}{p:List (List Int)}(h:dH t p):∀n,dH t (MO t p n)
 |0=>h
 |n+1=>(h.aft n).next
theorem BI{n:Nat}:∀{l:List Int} {j:Nat} {m:List Int},(m++l).Nodup→(∀x∈l,0≤x∧x < (n:Int))→bL (fun m _ x=>mn n m x) j l m= .ok (m++l)
 |[],j,m,_,_=>by simp [bL]
 |x::l,j,m,hn,hr=>by
  have hx:=hr x (by simp)
  have hnm:x∉m:=fun h=>by
   rw [List.nodup_append] at hn
   exact hn.2.2 x h x (by simp) rfl
  have e:mn n m x= .ok (m++[x]):=by
   unfold mn;rw [if_neg (not_not_intro (show 0≤x∧x≤(n:Int) - 1 by omega)),if_neg hnm]
  rw [bL,e];show bL _ (j+1) l (m++[x])=_;rw [BI (by simpa using hn) (fun y hy=>hr y (by simp [hy]))];simp
theorem vA{t:aL}:∀{p:List (List Int)} {j:Nat} {m:List Int},(m++p.flatten).Nodup→(∀x∈p.flatten,0≤x∧x < (t.2.1.length:Int))→(∀i (h:i < p.length),bK t p[i]≤t.2.2[j+i]?.getD 0)→bL (gV t) j p m= .ok (m++p.flatten)
 |[],j,m,_,_,_=>by simp [bL]
 |l::p,j,m,hn,hr,hs=>by
  have h0:¬t.2.2[j]?.getD 0 < bK t l:=by have:=hs 0 (by simp);simp only [List.getElem_cons_zero,Nat.add_zero] at this;omega
  have e:gV t m j l= .ok (m++l):=by
   unfold gV;rw [BI (by rw [List.flatten_cons,←List.append_assoc] at hn;exact(List.nodup_append.1 hn).1) (fun x hx=>hr x (by simp [hx]))];exact if_neg h0
  rw [bL,e];show bL _ (j+1) p (m++l)=_
  rw [vA (by simpa using hn) (fun x hx=>hr x (by rw [List.flatten_cons];exact List.mem_append_right _ hx)) (fun i hi=>by
   have:=hs (i+1) (by simp;omega);have e3:j+1+i=j+(i+1):=by omega
   rw [e3];exact this)]
  simp
theorem dH.chkV{t:aL}{p:List (List Int)}(h:dH t p):chkV t p=0:=by
 unfold Go.Proofs.YtcnpijmfgfnpiaaGreatDoor.chkV;have hl:=h.len;have e:=vA (t:=t) (j:=0) (m:=[]) (by simpa using h.nd) h.rng (fun i hi=>by rw [Nat.zero_add];exact h.room i hi);rw [if_neg (by omega),if_neg (by omega),e,List.nil_append];have hm:pK t.2.1.length p.flatten:=⟨h.nd,h.rng⟩;simp only [hm.full.2 h.all,if_false]
theorem dH.chk{t:aL}{p:List (List Int)}(h:dH t p)(ht:j8 t=0):pI t p=0:=by
 unfold pI;rw [if_neg (not_not_intro ht)];exact h.chkV
theorem Jx{t:aL}{p:List (List Int)}(h:pI t p=0):j8 t=0:=by
 unfold pI at h;by_cases c:j8 t=0
 ·exact c
 ·rw [if_pos c] at h;exact h
structure At(k:Nat)(t:aL)(p:List (List Int)):Prop where
 small:lj k t
 dayT:vy k t
 chk:pI t p=0
theorem At.good{t:aL}{p:List (List Int)}(h:At k t p):dH t p:=zm h.chk
theorem At.aft{t:aL}{p:List (List Int)}(h:At k t p)(n:Nat):At k t (MO t p n):=⟨h.small,h.dayT,(h.good.aft n).chk (Jx h.chk)⟩
theorem At.ok{t:aL}{p:List (List Int)}(h:At k t p):cG k t p=some 0:=by
 have:=h.dayT.k0;rw [Bg h.small (by omega) (fun l hl=>by have:=(h.good.fit.fit l hl).1;omega),h.chk]
theorem CS.at{t:aL}{p:List (List Int)}{a:Nat}(h:CS t p a)(hk:50≤k)(hk1:k≤1000000)(ha:a≤8)(c:pI t p=0):At k t p:=by
 have hs:=h.small hk hk1 ha;exact⟨hs,⟨hk,hk1,by have:=(zm c).g.things;omega,hs.worn⟩,c⟩
theorem Dt{q:List (List Int)}(hn:q.flatten.Nodup){i i':Nat}(h:i < q.length)(h':i' < q.length){x:Int}(hx:x∈q[i])(hx':x∈q[i']):i=i':=by
 induction q generalizing i i' with
 |nil=>simp at h
 |cons l q ih=>
  rw [List.flatten_cons,List.nodup_append] at hn;cases i with
  |zero=>
   cases i' with
   |zero=>rfl
   |succ i'=>exact absurd rfl (hn.2.2 x hx x (List.mem_flatten.2 ⟨_,List.getElem_mem (by simpa using h'),by simpa using hx'⟩))
  |succ i=>
   cases i' with
   |zero=>exact absurd rfl (hn.2.2 x hx' x (List.mem_flatten.2 ⟨_,List.getElem_mem (by simpa using h),by simpa using hx⟩))
   |succ i'=>exact congrArg (· +1) (ih hn.2.1 (i:=i) (i':=i') (by simpa using h) (by simpa using h') (by simpa using hx) (by simpa using hx'))
end
section
variable {k:Nat}
theorem lJ{w:Int→Bool}:∀{l:List Int} {u:Bool},l.Nodup→(fi w u l).Nodup
 |[],_,_=>by simp [fi]
 |n::l,u,h=>by
  obtain⟨h1,h2⟩:=List.nodup_cons.1 h
  rw [fi]
  split
  ·
   exact lJ h2
  ·
   split
   ·
    exact List.nodup_cons.2 ⟨fun h'=>h1 (vZ h'),lJ h2⟩
   ·
    exact lJ h2
theorem Hn{q:List Int}(hn:q.Nodup){N:Nat}(hr:∀x∈q,0≤x∧x < (N:Int)):((List.range N).filter fun(i:Nat)=>decide ((i:Int)∈q)).length=q.length:=by
 have h:(((List.range N).filter fun(i:Nat)=>decide ((i:Int)∈q)).map fun(i:Nat)=>(i:Int)).Perm q:=by
  rw [List.perm_iff_count];intro a
  have h1:(((List.range N).filter fun(i:Nat)=>decide ((i:Int)∈q)).map fun(i:Nat)=>(i:Int)).Nodup:=by
   refine List.Pairwise.map _ (fun a b hab=>?_) (List.nodup_range.filter _);omega
  rw [h1.count,hn.count]
  have:a∈(((List.range N).filter fun(i:Nat)=>decide ((i:Int)∈q)).map fun(i:Nat)=>(i:Int))↔a∈q:=by
   simp only [List.mem_map,List.mem_filter,List.mem_range,decide_eq_true_eq];constructor
   ·rintro⟨i,⟨_,h⟩,rfl⟩;exact h
   ·intro h;have:=hr a h;exact⟨a.toNat,⟨by omega,by rw [Int.toNat_of_nonneg this.1];exact h⟩,Int.toNat_of_nonneg this.1⟩
  simp only [this]
 have:=h.length_eq;rwa [List.length_map] at this
theorem G3{s:Int}(hs:lw s){i:Nat}(hi:i < 8):wo s (i:Int)=decide (eQ s i):=by
 have:=xp (k:=0) hs hi;unfold dB at this;rw [dk (by omega),bs] at this;exact Option.some.inj this
theorem BY{s:Int}(hs:lw s):∀(n i:Nat),i+n≤8→qn s n i=((List.range' i n).filter fun j=>decide (eQ s j)).length
 |0,i,_=>by simp [qn]
 |n+1,i,h=>by
  rw [qn,G3 hs (by omega),BY hs n (i+1) (by omega),List.range'_succ,List.filter_cons]
  by_cases c:eQ s i
  ·
   simp [c];omega
  ·
   simp [c]
def iZ(t:aL):Nat→Int→List Int→Nat
 |0,_,_=>0
 |n+1,d,l=>(fi (mK t d) false l).length+iZ t n (d+1) (ya (mK t d) l)
theorem G4{t:aL}(h:vy k t):∀(n:Nat) (d:Int) (l:List Int),l.Nodup→(∀x∈l,0≤x∧x < (t.2.1.length:Int))→OH k (t,()) n d l=some (iZ t n d l)
 |0,d,l,_,_=>rfl
 |n+1,d,l,hn,hx=>by
  have hk0:=h.k0
  have h8:=h.things
  have hl:=ua _ l hn hx
  obtain⟨m,em,hm,hmm⟩:=EH h.k1 (t:=t) (d:=d) h8 (by omega) h.worn
  obtain⟨r,er,h1,h2,h3⟩:=Iw h.k1 (m:=m) hm (w:=mK t d) (fun j _=>hmm j) (l:=l) (by omega) (by omega) (fun x hx'=>by have:=hx x hx';omega)
  rw [OH,em,bs,er,bs,h1,G4 h n (d+1) _ (ji.nodup_iff.2 hn) (fun x hx'=>hx x (ji.mem_iff.1 hx')),bs,iZ]
  congr 2
  rw [BY h2 _ _ (by simpa using h8)]
  show(List.filter _ (List.range' 0 t.2.1.length)).length=_
  rw [←List.range_eq_range',←Hn (lJ hn) (N:=t.2.1.length) (fun x hx'=>hx x (vZ hx'))]
  congr 1
  exact List.filter_congr fun i _=>decide_eq_decide.2 (h3 i)
def nJ(t:aL)(n:Nat)(d:Int)(p:List (List Int)):Nat:=(p.map (iZ t n d)).sum
theorem BE{t:aL}:∀(n:Nat) (d:Int) (l:List Int),iZ t n d l≤n * l.length
 |0,_,_=>by simp [iZ]
 |n+1,d,l=>by
  have h1:=BE (t:=t) n (d+1) (ya (mK t d) l)
  have h2:∀(l:List Int) (u:Bool),(fi (mK t d) u l).length≤l.length:=by
   intro l
   induction l with
   |nil=>intro u;simp [fi]
   |cons x l ih=>
    intro u;rw [fi];split
    ·have:=ih true;simp only [List.length_cons];omega
    ·split
     ·have:=ih u;simp only [List.length_cons];omega
     ·have:=ih u;simp only [List.length_cons];omega
  have h3:=h2 l false;rw [ji.length_eq] at h1;rw [iZ,Nat.add_mul,Nat.one_mul];omega
theorem Je{t:aL}{p:List (List Int)}(h:At k t p){q:List (List Int)}(hq:dH t q){d:Int}(hd:0≤d∧d≤t.1):fo k (t,()) (dM q) d=some ((nJ t (t.1 - d).toNat d q:Nat):Int):=by
 have g:=hq.g;have f:=hq.fit;have h3:=g.trunks;have h5:=g.things;have h6:=g.days;have hlen:=hq.len
 have hrow:∀i:Nat,(q[i]?.getD []).Nodup∧∀x∈q[i]?.getD [],0≤x∧x < (t.2.1.length:Int):=fun i=>by
  rcases Nat.lt_or_ge i q.length with hi |hi
  ·rw [List.getElem?_eq_getElem hi,Option.getD_some];exact⟨(List.pairwise_flatten.1 hq.nd).1 _ (List.getElem_mem hi),fun x hx=>hq.rng x (List.mem_flatten.2 ⟨_,List.getElem_mem hi,hx⟩)⟩
  ·rw [List.getElem?_eq_none hi,Option.getD_none];exact⟨List.nodup_nil,fun x hx=>by cases hx⟩
 have hone:∀i:Nat,i < 3→oh k (t,()) (dM q) (i:Int) d=some (iZ t (t.1 - d).toNat d (q[i]?.getD [])):=fun i hi=>by
  unfold oh;dsimp only;rw [if_pos (show t.1≤1000000∧t.2.1.length≤1000000∧0≤d by omega),xj h.dayT.k0 hi (f.fitL i),bs,G4 h.dayT _ _ _ (hrow i).1 (hrow i).2]
 have hsum:∀n:Nat,n≤q.length→uA k (t,()) (dM q) d n=some (nJ t (t.1 - d).toNat d (q.take n)):=by
  intro n
  induction n with
  |zero=>intro _;simp [uA,nJ]
  |succ n ih=>
   intro hn;rw [uA,ih (by omega),bs,hone n (by omega),bs,List.take_add_one,List.getElem?_eq_getElem (show n < q.length by omega)];simp only [nJ,Option.toList_some,Option.getD_some,List.map_append,List.map_cons,List.map_nil,List.sum_append,List.sum_cons,List.sum_nil,Nat.add_zero]
 have hb:nJ t (t.1 - d).toNat d q≤1000:=by
  have hl5:∀l∈q,iZ t (t.1 - d).toNat d l≤30:=fun l hl=>by
   have h1:=BE (t:=t) (t.1 - d).toNat d l;have h2:=(f.fit l hl).1;have h4:(t.1 - d).toNat≤6:=by omega
   have:=Nat.mul_le_mul h4 h2;omega
  have:∀(q:List (List Int)),(∀l∈q,iZ t (t.1 - d).toNat d l≤30)→nJ t (t.1 - d).toNat d q≤30 * q.length:=by
   intro q
   induction q with
   |nil=>intro _;simp [nJ]
   |cons l q ih=>
    intro hq;have h1:=hq l (by simp);have h2:=ih fun l hl=>hq l (by simp [hl]);simp only [nJ,List.map_cons,List.sum_cons,List.length_cons] at h2⊢;omega
  have:=this q hl5;have:=f.len;omega
 unfold fo;dsimp only;rw [if_pos (show t.2.2.length≤1000 by omega),←hlen,hsum q.length (Nat.le_refl _),List.take_of_length_le (Nat.le_refl _),bs,if_pos (show nJ t (t.1 - d).toNat d q < 9223372036854775808 by omega)]
theorem LC{q:List (List Int)}(f:H3 q):HY (dM q):=by
 have hp:∀i,La (nz (q[i]?.getD [])):=fun i=>by
  obtain⟨h1,h2⟩:=f.at i
  have g:∀j:Nat, -1≤(q[i]?.getD [])[j]?.getD (-1)∧(q[i]?.getD [])[j]?.getD (-1) < 8:=fun j=>by
   rcases Nat.lt_or_ge j (q[i]?.getD []).length with hj |hj
   ·have:=h2 _ (List.getElem_mem hj);rw [List.getElem?_eq_getElem hj,Option.getD_some];omega
   ·rw [List.getElem?_eq_none hj,Option.getD_none];omega
  refine⟨rfl,fun n hn=>?_⟩;simp only [nz,List.mem_cons,List.not_mem_nil,or_false] at hn;rcases hn with rfl |rfl |rfl |rfl |rfl
  ·exact g 0
  ·exact g 1
  ·exact g 2
  ·exact g 3
  ·exact g 4
 refine⟨rfl,fun r hr=>?_⟩;simp only [dM,List.mem_cons,List.not_mem_nil,or_false] at hr;rcases hr with rfl |rfl |rfl
 ·exact hp 0
 ·exact hp 1
 ·exact hp 2
end
def g7(q:List (List Int))(tr i:Nat):List (List Int):=q.set tr (q[tr]?.getD []++[(i:Int)])
def lh(n N:Nat):Nat→List (List Int)→Nat→List (List (List Int))
 |0,_,_=>[]
 |m+1,q,tr=>
  if tr=N then(if q.flatten.length < n then [] else [q])
  else lh n N m q (tr+1)++(List.range n).flatMap fun(i:Nat)=>if(i:Int)∈q.flatten then [] else lh n N m (g7 q tr i) tr
def jq(t:aL):Nat→List (List Int)→Nat→List (List (List Int))
 |0,_,_=>[]
 |m+1,q,tr=>
  if tr=t.2.2.length then(if q.flatten.length < t.2.1.length then [] else [q])
  else jq t m q (tr+1)++(List.range t.2.1.length).flatMap fun(i:Nat)=>if(i:Int)∈q.flatten∨t.2.2[tr]?.getD 0 < bK t (q[tr]?.getD [])+bV t (i:Int) then [] else jq t m (g7 q tr i) tr
def nu(t:aL)(q:List (List Int)):Bool:=(List.range q.length).all fun i=>decide (bK t (q[i]?.getD [])≤t.2.2[i]?.getD 0)
def HO(q x:List (List Int)):Prop:=x.length=q.length∧∀i:Nat,∃s,x[i]?.getD []=q[i]?.getD []++s
theorem HO.refl{q:List (List Int)}:HO q q:=⟨rfl,fun i=>⟨[],by simp⟩⟩
theorem HO.trans{a b c:List (List Int)}(h:HO a b)(h':HO b c):HO a c:=⟨h'.1.trans h.1,fun i=>by
 obtain⟨s,e⟩:=h.2 i
 obtain⟨s',e'⟩:=h'.2 i
 exact⟨s++s',by rw [e',e,List.append_assoc]⟩⟩
theorem lC{q:List (List Int)}{tr i:Nat}(h:tr < q.length){j:Nat}:(g7 q tr i)[j]?.getD []=if j=tr then q[tr]?.getD []++[(i:Int)] else q[j]?.getD []:=by
 unfold g7;rw [List.getElem?_set];by_cases e:tr=j
 ·subst e;simp [h]
 ·rw [if_neg e,if_neg (fun h=>e h.symm)]
theorem HO.top{q:List (List Int)}{tr i:Nat}(h:tr < q.length):HO q (g7 q tr i):=⟨by unfold g7;rw [List.length_set],fun j=>by
 rw [lC h]
 by_cases e:j=tr
 ·
  subst e;exact⟨[(i:Int)],by rw [if_pos rfl]⟩
 ·
  exact⟨[],by rw [if_neg e];simp⟩⟩
theorem o7{n N:Nat}:∀{m:Nat} {q:List (List Int)} {tr:Nat},q.length=N→∀x∈lh n N m q tr,HO q x
 |0,_,_,_,x,hx=>by cases hx
 |m+1,q,tr,hq,x,hx=>by
  rw [lh] at hx
  by_cases c:tr=N
  ·
   rw [if_pos c] at hx
   split at hx
   ·
    cases hx
   ·
    rw [List.mem_singleton] at hx;subst hx;exact HO.refl
  ·
   rw [if_neg c] at hx
   rcases List.mem_append.1 hx with hx |hx
   ·
    exact o7 hq x hx
   ·
    obtain⟨i,hi,hx⟩:=List.mem_flatMap.1 hx
    split at hx
    ·
     cases hx
    ·
     by_cases ht:tr < q.length
     ·
      exact(HO.top ht).trans (o7 (by unfold g7;rw [List.length_set,hq]) x hx)
     ·
      have e:g7 q tr i=q:=by unfold g7;rw [List.set_eq_of_length_le (by omega)]
      rw [e] at hx
      exact o7 hq x hx
theorem pX{t:aL}{l:List Int}{x:Int}:bK t (l++[x])=bK t l+bV t x:=by rw [rR];simp [bK]
theorem ib{t:aL}{q:List (List Int)}:nu t q=true↔∀i,i < q.length→bK t (q[i]?.getD [])≤t.2.2[i]?.getD 0:=by
 unfold nu;simp [List.all_eq_true]
theorem oq{t:aL}(g:iE t):∀{m:Nat} {q:List (List Int)} {tr:Nat},q.length=t.2.2.length→tr≤t.2.2.length→nu t q=true→jq t m q tr=(lh t.2.1.length t.2.2.length m q tr).filter (nu t)
 |0,_,_,_,_,_=>rfl
 |m+1,q,tr,hq,ht,hf=>by
  rw [jq,lh]
  by_cases c:tr=t.2.2.length
  ·
   rw [if_pos c,if_pos c]
   split
   ·
    rfl
   ·
    rw [List.filter_cons_of_pos hf,List.filter_nil]
  ·
   rw [if_neg c,if_neg c,List.filter_append,oq g hq (by omega) hf,List.filter_flatMap]
   congr 1
   congr 1
   funext i
   by_cases c1:(i:Int)∈q.flatten
   ·
    rw [if_pos (.inl c1),if_pos c1];rfl
   ·
    rw [if_neg c1]
    have htr:tr < q.length:=by omega
    by_cases c2:t.2.2[tr]?.getD 0 < bK t (q[tr]?.getD [])+bV t (i:Int)
    ·
     rw [if_pos (.inr c2)]
     symm
     rw [List.filter_eq_nil_iff]
     intro x hx hfx
     obtain⟨e1,e2⟩:=o7 (by unfold g7;rw [List.length_set,hq]) x hx
     obtain⟨s,es⟩:=e2 tr
     rw [lC htr,if_pos rfl] at es
     have:=ib.1 hfx tr (by rw [e1];unfold g7;rw [List.length_set];exact htr)
     rw [es,rR,pX] at this
     have:=(oO g (l:=s)).1
     omega
    ·
     rw [if_neg (fun h=>h.elim c1 c2)]
     refine oq g (by unfold g7;rw [List.length_set,hq]) ht ?_
     rw [ib]
     intro j hj
     unfold g7 at hj
     rw [List.length_set] at hj
     rw [lC htr]
     by_cases e:j=tr
     ·
      rw [if_pos e,pX,e];omega
     ·
      rw [if_neg e];exact ib.1 hf j hj
section
variable {k:Nat}{σ:Type}
theorem It{l:List Int}(h:l.length < 5){x:Int}:(nz l).set l.length x=nz (l++[x]):=by
 match l,h with
 |[],_=>rfl
 |[a],_=>rfl
 |[a,b],_=>rfl
 |[a,b,c],_=>rfl
 |[a,b,c,d],_=>rfl
theorem Gw{q:List (List Int)}{tr i:Nat}(ht:tr < q.length)(h3:q.length≤3)(h:(q[tr]?.getD []).length < 5):(dM q).set tr ((nz (q[tr]?.getD [])).set (q[tr]?.getD []).length (i:Int))=dM (g7 q tr i):=by
 rw [It h];have e:=fun j=>lC (i:=i) ht (j:=j);unfold dM;rw [e 0,e 1,e 2];match tr,(show tr < 3 by omega) with
 |0,_=>rfl
 |1,_=>rfl
 |2,_=>rfl
theorem IQ{q:List (List Int)}{tr:Nat}(h:tr < 3):bv (dM q) (tr:Int)=some (nz (q[tr]?.getD [])):=xq (by omega) (by
 match tr,h with
 |0,_=>rfl
 |1,_=>rfl
 |2,_=>rfl)
theorem mi{q:List (List Int)}{tr i:Nat}(h:tr < q.length):(g7 q tr i).flatten.Perm (q.flatten++[(i:Int)]):=by
 unfold g7
 induction q generalizing tr with
 |nil=>simp at h
 |cons l q ih=>
  cases tr with
  |zero=>
   simp only [List.set_cons_zero,List.getElem?_cons_zero,Option.getD_some,List.flatten_cons,List.append_assoc];exact(List.Perm.refl l).append List.perm_append_comm
  |succ tr=>
   simp only [List.set_cons_succ,List.getElem?_cons_succ,List.flatten_cons,List.append_assoc];exact(List.Perm.refl l).append (ih (by simpa using h))
structure Mk(t:aL)(q:List (List Int)):Prop where
 len:q.length=t.2.2.length
 met:pK t.2.1.length q.flatten
theorem Mk.row{t:aL}{q:List (List Int)}(h:Mk t q)(j:Nat):(∀x∈q[j]?.getD [],x∈q.flatten)∧(q[j]?.getD []).length≤q.flatten.length:=by
 rcases Nat.lt_or_ge j q.length with hj |hj
 ·rw [List.getElem?_eq_getElem hj,Option.getD_some];refine⟨fun x hx=>List.mem_flatten.2 ⟨_,List.getElem_mem hj,hx⟩,?_⟩;exact(List.sublist_flatten_of_mem (List.getElem_mem hj)).length_le
 ·rw [List.getElem?_eq_none hj];simp
theorem Mk.top{t:aL}{q:List (List Int)}(h:Mk t q){tr i:Nat}(ht:tr < q.length)(hi:i < t.2.1.length)(hn:(i:Int)∉q.flatten):Mk t (g7 q tr i):=by
 have hp:=mi (i:=i) ht;refine⟨by unfold g7;rw [List.length_set,h.len],hp.nodup_iff.2 ?_,fun x hx=>?_⟩
 ·rw [List.nodup_append];exact⟨h.met.nd,by simp,fun a ha b hb=>by rw [List.mem_singleton] at hb;subst hb;exact fun e=>hn (e▸ha)⟩
 ·rcases List.mem_append.1 (hp.mem_iff.1 hx) with hx |hx
  ·exact h.met.rng x hx
  ·rw [List.mem_singleton] at hx;omega
theorem Gj{t:aL}(g:iE t){q:List (List Int)}(h:Mk t q){tr i:Nat}(ht:tr < q.length)(hi:i < t.2.1.length):BR .u8 (gi q.flatten) (lV .u8 1 (i:Int))=gi (g7 q tr i).flatten:=by
 have h5:=g.things;have h8:∀x∈q.flatten,0≤x∧x < 8:=fun x hx=>by have:=h.met.rng x hx;omega
 have hp:=mi (i:=i) ht
 have h8':∀x∈(g7 q tr i).flatten,0≤x∧x < 8:=fun x hx=>by
  rcases List.mem_append.1 (hp.mem_iff.1 hx) with hx |hx
  ·exact h8 x hx
  ·rw [List.mem_singleton] at hx;omega
 obtain⟨a1,a2⟩:=nX h8;obtain⟨b1,b2⟩:=wU (x:=(i:Int)) (by omega) (by omega);obtain⟨c1,c2⟩:=xn a1 b1;obtain⟨d1,d2⟩:=nX h8';refine zg c1 d1 fun j=>?_;rw [c2,a2,b2,d2,hp.mem_iff,List.mem_append,List.mem_singleton]
theorem IZ{t:aL}(h:vy k t)(g:iE t){Y:σ→(List (List Int))→Option (σ×Bool)}{f:σ→List (List Int)→σ}{P:List (List (List Int))→σ→Prop}
 {L:Nat} (hY:∀(pre:List (List (List Int))) (s:σ) (q:List (List Int)),dH t q→pre.length < L→P pre s→Y s (dM q)=some (f s q,true)∧P (pre++[q]) (f s q)):
 ∀(m:Nat) (q:List (List Int)) (tr:Nat) (pre:List (List (List Int))) (s:σ),Mk t q→nu t q=true→tr≤t.2.2.length→(t.2.1.length - q.flatten.length)+(t.2.2.length - tr) < m→pre.length+(jq t m q tr).length≤L→P pre s→
  bp k Y (t,()) m (dM q) (tr:Int) (gi q.flatten) s=some (true,(jq t m q tr).foldl f s)∧P (pre++jq t m q tr) ((jq t m q tr).foldl f s):=by
 have h5:=g.things
 have h3:=g.trunks
 have hk:=h.k0
 have hk1:=h.k1
 intro m
 induction m with
 |zero=>intro q tr pre s _ _ _ hm;omega
 |succ m ih=>
  intro q tr pre s hq hfits ht hm hL hP;rw [jq] at hL;have hlen:=hq.met.len;have hql:=hq.len;rw [bp,jq];dsimp only;by_cases c:tr=t.2.2.length
  ·rw [if_pos c] at hL;rw [if_pos (show(tr:Int)=(t.2.2.length:Int) by omega),if_pos c,dk (by omega),bs];have hfull:=zq g.things hq.met;by_cases c1:q.flatten.length < t.2.1.length
   ·rw [if_pos (show¬gi q.flatten=_ from fun h=>hfull.1 h c1),if_pos c1,bs];exact⟨rfl,by simpa using hP⟩
   ·rw [if_neg c1] at hL
    have hgp:dH t q:=⟨g,hq.len,hq.met.nd,hq.met.rng,hq.met.full.1 c1,fun i hi=>by
     have:=ib.1 hfits i hi;rw [List.getElem?_eq_getElem hi,Option.getD_some] at this;exact this⟩
    obtain⟨y1,y2⟩:=hY pre s q hgp (by simp only [List.length_cons,List.length_nil] at hL;omega) hP;rw [if_neg (show¬¬gi q.flatten=_ from fun h=>h (hfull.2 c1)),if_neg c1,y1,bs,bs];exact⟨rfl,y2⟩
  ·have htr:tr < q.length:=by omega
   rw [if_neg c,List.length_append] at hL;rw [if_neg (show¬(tr:Int)=(t.2.2.length:Int) by omega),if_neg c,cT (by omega) (by omega),bs];obtain⟨i1,i2⟩:=ih q (tr+1) pre s hq hfits (by omega) (by omega) (by omega) hP;have e1:(tr:Int)+1=((tr+1:Nat):Int):=by omega
   obtain⟨r1,r2⟩:=hq.row tr;have hfit:J2 (q[tr]?.getD []):=⟨by omega,fun x hx=>(hq.met.rng x (r1 x hx)).1⟩;rw [e1,i1,bs,nT,xj hk (by omega) hfit,bs];have h8:∀x∈q.flatten,0≤x∧x < 8:=fun x hx=>by have:=hq.met.rng x hx;omega
   obtain⟨a1,a2⟩:=nX h8;generalize hs1:(jq t m q (tr+1)).foldl f s=s1 at i2⊢
   have loop:∀(d j n:Nat) (s2:σ) (pre2:List (List (List Int))),j+d=t.2.1.length→d < n→pre2.length+((List.range' j d).flatMap fun(i:Nat)=>if(i:Int)∈q.flatten∨t.2.2[tr]?.getD 0 < bK t (q[tr]?.getD [])+bV t (i:Int) then [] else jq t m (g7 q tr i) tr).length≤L→P pre2 s2→
    bC k (dM q) (tr:Int) (gi q.flatten) (t,()) (bp k Y (t,()) m) (q[tr]?.getD []) n ((j:Int),s2)=some (.ok (((List.range' j d).flatMap fun(i:Nat)=>if(i:Int)∈q.flatten∨t.2.2[tr]?.getD 0 < bK t (q[tr]?.getD [])+bV t (i:Int) then [] else jq t m (g7 q tr i) tr).foldl f s2))∧
    P (pre2++((List.range' j d).flatMap fun(i:Nat)=>if(i:Int)∈q.flatten∨t.2.2[tr]?.getD 0 < bK t (q[tr]?.getD [])+bV t (i:Int) then [] else jq t m (g7 q tr i) tr)) (((List.range' j d).flatMap fun(i:Nat)=>if(i:Int)∈q.flatten∨t.2.2[tr]?.getD 0 < bK t (q[tr]?.getD [])+bV t (i:Int) then [] else jq t m (g7 q tr i) tr).foldl f s2):=by
    intro d
    induction d with
    |zero=>
     intro j n s2 pre2 hj hn hL2 hp2;obtain⟨n,rfl⟩:∃n',n=n'+1:=⟨n - 1,by omega⟩;rw [bC];dsimp only;rw [if_neg (by omega)];exact⟨rfl,by simpa using hp2⟩
    |succ d ihd=>
     intro j n s2 pre2 hj hn hL2 hp2;obtain⟨n,rfl⟩:∃n',n=n'+1:=⟨n - 1,by omega⟩;have hjl:j < t.2.1.length:=by omega
     rw [List.range'_succ,List.flatMap_cons,List.length_append] at hL2
     have next:∀(s3:σ) (pre3:List (List (List Int))),pre3.length+((List.range' (j+1) d).flatMap fun(i:Nat)=>if(i:Int)∈q.flatten∨t.2.2[tr]?.getD 0 < bK t (q[tr]?.getD [])+bV t (i:Int) then [] else jq t m (g7 q tr i) tr).length≤L→P pre3 s3→(ck ((j:Int)+1)).bind (fun x32=>bC k (dM q) (tr:Int) (gi q.flatten) (t,()) (bp k Y (t,()) m) (q[tr]?.getD []) n (x32,s3))=_∧_:=fun s3 pre3 hL3 hp3=>by
      have:=ihd (j+1) n s3 pre3 (by omega) (by omega) hL3 hp3;rw [cT (by omega) (by omega),bs,show(j:Int)+1=((j+1:Nat):Int) by omega];exact this
     rw [bC];dsimp only;rw [if_pos (show(j:Int) < (t.2.1.length:Int) by omega),dT hjl,bs,xp a1 (by omega),bs,List.range'_succ,List.flatMap_cons,List.foldl_append];by_cases c1:(j:Int)∈q.flatten
     ·rw [decide_eq_true ((a2 j).2 c1),iT,bs,iT,tp,if_pos (.inl c1)];rw [if_pos (.inl c1)] at hL2;exact next s2 pre2 (by simpa using hL2) hp2
     ·have hso:bV t (j:Int)=t.2.1[j].1:=by
       unfold bV;rw [show((j:Int)).toNat=j from rfl,List.getElem?_eq_getElem hjl]
      have hro:=mU g (x:=(j:Int));have hrs:=oO g (l:=q[tr]?.getD []);have htl:t.2.2[tr]?.getD 0=t.2.2[tr]'(by omega):=by rw [List.getElem?_eq_getElem (by omega)];rfl
      rw [decide_eq_false (fun h=>c1 ((a2 j).1 h)),iF,BB g hk1 (by omega) (fun x hx=>hq.met.rng x (r1 x hx)),bs,←hso,cT (by omega) (by omega),bs,dT (by omega),bs,bs,←htl];by_cases c2:t.2.2[tr]?.getD 0 < bK t (q[tr]?.getD [])+bV t (j:Int)
      ·rw [decide_eq_true c2,iT,tp,if_pos (.inr c2)];rw [if_pos (.inr c2)] at hL2;exact next s2 pre2 (by simpa using hL2) hp2
      ·have hl4:(q[tr]?.getD []).length < 5:=by
        have:q.flatten.length < t.2.1.length:=by
         rcases Nat.lt_or_ge q.flatten.length t.2.1.length with h |h
         ·exact h
         ·exact absurd (hq.met.full.1 (by omega) j hjl) c1
        omega
       have hq':=hq.top htr hjl c1;have hfl:=(mi (i:=j) htr).length_eq;simp only [List.length_append,List.length_cons,List.length_nil] at hfl;have hlt:q.flatten.length < t.2.1.length:=by have:=hq'.met.len;omega
       rw [if_neg (fun h=>h.elim c1 c2)] at hL2
       have hfits':nu t (g7 q tr j)=true:=by
        rw [ib];intro a ha;unfold g7 at ha;rw [List.length_set] at ha;rw [lC htr];by_cases e:a=tr
        ·rw [if_pos e,pX,e];omega
        ·rw [if_neg e];exact ib.1 hfits a ha
       obtain⟨k1,k2⟩:=ih (g7 q tr j) tr pre2 s2 hq' hfits' ht (by omega) (by omega) hp2;rw [decide_eq_false c2,iF,dk (by omega),bs,IQ (by omega),bs,dk (by omega),bs];unfold dy;rw [dk (by omega),bs,bs,show Int.toNat (tr:Int)=tr from rfl,show Int.toNat ((q[tr]?.getD []).length:Int)=(q[tr]?.getD []).length from rfl,Gw htr (by omega) hl4,Gj g hq htr hjl,k1,bs,nT,tp,if_neg (fun h=>h.elim c1 c2)];have:=next _ _ (by rw [List.length_append];omega) k2;rw [List.append_assoc] at this;exact this
   obtain⟨l1,l2⟩:=loop t.2.1.length 0 k s1 (pre++jq t m q (tr+1)) (by omega) (by omega) (by rw [List.length_append,←List.range_eq_range'];omega) i2;rw [show((0:Nat):Int)=0 from rfl] at l1;rw [l1,tp,List.foldl_append,hs1,List.range_eq_range'];refine⟨rfl,?_⟩;rw [List.append_assoc] at l2;exact l2
theorem rc{α β:Type}{f g:α→List β}:∀{l:List α},(∀x∈l,f x=g x)→l.flatMap f=l.flatMap g
 |[],_=>rfl
 |x::l,h=>by rw [List.flatMap_cons,List.flatMap_cons,h x (by simp),rc fun y hy=>h y (by simp [hy])]
theorem qo{n N:Nat}:∀{m m':Nat} {q:List (List Int)} {tr:Nat},q.length=N→pK n q.flatten→tr≤N→(n - q.flatten.length)+(N - tr) < m→(n - q.flatten.length)+(N - tr) < m'→lh n N m q tr=lh n N m' q tr
 |0,_,_,_,_,_,_,h,_=>by omega
 |m+1,0,_,_,_,_,_,_,h=>by omega
 |m+1,m'+1,q,tr,hq,hm,ht,h,h'=>by
  rw [lh,lh]
  by_cases c:tr=N
  ·
   rw [if_pos c,if_pos c]
  ·
   rw [if_neg c,if_neg c,qo (m:=m) (m':=m') hq hm (by omega) (by omega) (by omega)]
   congr 1
   refine rc fun i hi=>?_
   by_cases c1:(i:Int)∈q.flatten
   ·
    rw [if_pos c1,if_pos c1]
   ·
    rw [if_neg c1,if_neg c1]
    have htr:tr < q.length:=by omega
    have hp:=mi (i:=i) htr
    have hl:=hp.length_eq
    simp only [List.length_append,List.length_cons,List.length_nil] at hl
    have hi':=List.mem_range.1 hi
    have hm':pK n (g7 q tr i).flatten:=⟨hp.nodup_iff.2 (by
     rw [List.nodup_append]
     exact⟨hm.nd,by simp,fun a ha b hb=>by rw [List.mem_singleton] at hb;subst hb;exact fun e=>c1 (e▸ha)⟩),fun x hx=>by
     rcases List.mem_append.1 (hp.mem_iff.1 hx) with hx |hx
     ·
      exact hm.rng x hx
     ·
      rw [List.mem_singleton] at hx;omega⟩
    have:=hm'.len
    exact qo (by unfold g7;rw [List.length_set,hq]) hm' ht (by omega) (by omega)
def sH(n N:Nat):List (List (List Int)):=lh n N 10 (List.replicate N []) 0
def ow(t:aL):List (List (List Int)):=(sH t.2.1.length t.2.2.length).filter (nu t)
theorem zJ:((List.range 6).all fun n=>(List.range 4).all fun N=>decide ((sH n N).length≤2520))=true:=by decide+kernel
theorem yG{t:aL}(h:vy k t)(g:iE t){Y:σ→(List (List Int))→Option (σ×Bool)}{f:σ→List (List Int)→σ}{P:List (List (List Int))→σ→Prop}
 (hY:∀(pre:List (List (List Int))) (s:σ) (q:List (List Int)),dH t q→pre.length < 2520→P pre s→Y s (dM q)=some (f s q,true)∧P (pre++[q]) (f s q)) {s:σ} (hP:P [] s):
 dU k Y (t,()) s=some ((ow t).foldl f s)∧P (ow t) ((ow t).foldl f s):=by
 have h5:=g.things
 have h3:=g.trunks
 have hk0:=h.k0
 have e:dM []=dM (List.replicate t.2.2.length []):=by
  have:∀j:Nat,(List.replicate t.2.2.length ([]:List Int))[j]?.getD []=[]:=fun j=>by
   rw [List.getElem?_replicate];split <;> rfl
  unfold dM;rw [this,this,this];rfl
 have hfl:(List.replicate t.2.2.length ([]:List Int)).flatten=[]:=by simp
 have hmet:pK t.2.1.length (List.replicate t.2.2.length ([]:List Int)).flatten:=by rw [hfl];exact⟨by simp,by simp⟩
 have hm:Mk t (List.replicate t.2.2.length []):=⟨by simp,hmet⟩
 have hneed:(t.2.1.length - (List.replicate t.2.2.length ([]:List Int)).flatten.length)+(t.2.2.length - 0) < 10:=by rw [hfl];simp only [List.length_nil];omega
 have hfit:nu t (List.replicate t.2.2.length [])=true:=by
  rw [ib];intro i hi;rw [List.length_replicate] at hi;rw [List.getElem?_replicate,if_pos hi,Option.getD_some];have hr:=g.rooms _ (List.getElem_mem hi);rw [List.getElem?_eq_getElem hi];simp only [bK,Option.getD_some];omega
 have ea:jq t k (List.replicate t.2.2.length []) 0=ow t:=by
  rw [oq g (by simp) (by omega) hfit,qo (m':=10) (by simp) hmet (by omega) (by omega) hneed];rfl
 obtain⟨a,b⟩:=IZ h g hY k (List.replicate t.2.2.length []) 0 [] s hm hfit (by omega) (by omega) (by
  rw [ea,List.length_nil,Nat.zero_add];refine Nat.le_trans (List.length_filter_le _ _) ?_;have:=zJ;rw [List.all_eq_true] at this;have:=this t.2.1.length (List.mem_range.2 (by omega));rw [List.all_eq_true] at this;exact of_decide_eq_true (this t.2.2.length (List.mem_range.2 (by omega)))) hP
 rw [ea] at a b
 refine⟨?_,by simpa using b⟩
 unfold dU
 rw [hfl] at a
 rw [AX hk0,bs,e]
 rw [show gi []=0 from rfl,show((0:Nat):Int)=0 from rfl] at a
 rw [a,bs]
end
theorem uE{n N:Nat}:∀{m:Nat} {q:List (List Int)} {tr:Nat},q.length=N→pK n q.flatten→tr≤N→∀x∈lh n N m q tr,x.length=N∧pK n x.flatten∧¬x.flatten.length < n
 |0,_,_,_,_,_,x,hx=>by cases hx
 |m+1,q,tr,hq,hm,ht,x,hx=>by
  rw [lh] at hx
  by_cases c:tr=N
  ·
   rw [if_pos c] at hx
   split at hx
   ·
    cases hx
   ·
    rename_i hl
    rw [List.mem_singleton] at hx;subst hx
    exact⟨hq,hm,hl⟩
  ·
   rw [if_neg c] at hx
   rcases List.mem_append.1 hx with hx |hx
   ·
    exact uE hq hm (by omega) x hx
   ·
    obtain⟨i,hi,hx⟩:=List.mem_flatMap.1 hx
    split at hx
    ·
     cases hx
    ·
     rename_i c1
     have htr:tr < q.length:=by omega
     have hp:=mi (i:=i) htr
     have hi':=List.mem_range.1 hi
     have hm':pK n (g7 q tr i).flatten:=⟨hp.nodup_iff.2 (by
      rw [List.nodup_append]
      exact⟨hm.nd,by simp,fun a ha b hb=>by rw [List.mem_singleton] at hb;subst hb;exact fun e=>c1 (e▸ha)⟩),fun x hx=>by
      rcases List.mem_append.1 (hp.mem_iff.1 hx) with hx |hx
      ·
       exact hm.rng x hx
      ·
       rw [List.mem_singleton] at hx;omega⟩
     exact uE (by unfold g7;rw [List.length_set,hq]) hm' ht x hx
theorem m8{n N:Nat}{x:List (List Int)}(h:x∈sH n N):x.length=N∧pK n x.flatten∧¬x.flatten.length < n:=
 uE (by simp) (by simp only [List.flatten_replicate_nil];exact⟨by simp,by simp⟩) (by omega) x h
theorem sJ{t:aL}(g:iE t){q:List (List Int)}(h:q∈ow t):dH t q:=by
 obtain⟨h1,h2⟩:=List.mem_filter.1 h;obtain⟨a,b,c⟩:=m8 h1
 exact⟨g,a,b.nd,b.rng,b.full.1 c,fun i hi=>by
  have:=ib.1 h2 i hi;rw [List.getElem?_eq_getElem hi,Option.getD_some] at this;exact this⟩
theorem Hv{t:aL}(g:iE t):(ow t).length≤2520:=by
 have h5:=g.things;have h3:=g.trunks;refine Nat.le_trans (List.length_filter_le _ _) ?_;have:=zJ;rw [List.all_eq_true] at this;have:=this t.2.1.length (List.mem_range.2 (by omega));rw [List.all_eq_true] at this;exact of_decide_eq_true (this t.2.2.length (List.mem_range.2 (by omega)))
theorem At.of{k:Nat}{t:aL}(h:vy k t)(hs:lj k t)(ht:j8 t=0){q:List (List Int)}(hq:dH t q):At k t q:=⟨hs,h,hq.chk ht⟩
def dN(t:aL)(q:List (List Int)):Nat:=nJ t t.1.toNat 0 q
def pJ{α:Type}(f:α→Nat)(b:Option (α×Nat))(o:α):Option (α×Nat):=match b with
 |none=>some (o,f o)
 |some (x,n)=>if f o < n then some (o,f o) else some (x,n)
def qy{α:Type}(f:α→Nat)(l:List α):Option (α×Nat)→Prop
 |none=>l=[]
 |some (x,n)=>n=f x∧(∀y∈l,n≤f y)∧∃p s,l=p++x::s∧∀y∈p,n < f y
theorem zH{α:Type}{f:α→Nat}:∀(l pre:List α) (b:Option (α×Nat)),qy f pre b→qy f (pre++l) (l.foldl (pJ f) b)
 |[],pre,b,h=>by simpa using h
 |o::l,pre,b,h=>by
  have h1:qy f (pre++[o]) (pJ f b o):=by
   cases b with
   |none=>
    have h:pre=[]:=h;subst h;exact⟨rfl,fun y hy=>by simp only [List.nil_append,List.mem_singleton] at hy;subst hy;exact Nat.le_refl _,[],[],rfl,by simp⟩
   |some b=>
    obtain⟨x,n⟩:=b;obtain⟨h1,h2,p,s,h3,h4⟩:=h;unfold pJ;dsimp only;by_cases c:f o < n
    ·rw [if_pos c];refine⟨rfl,fun y hy=>?_,pre,[],rfl,fun y hy=>Nat.lt_of_lt_of_le c (h2 y hy)⟩;rcases List.mem_append.1 hy with hy |hy
     ·exact Nat.le_of_lt (Nat.lt_of_lt_of_le c (h2 y hy))
     ·rw [List.mem_singleton] at hy;subst hy;exact Nat.le_refl _
    ·rw [if_neg c];refine⟨h1,fun y hy=>?_,p,s++[o],by rw [h3];simp,h4⟩;rcases List.mem_append.1 hy with hy |hy
     ·exact h2 y hy
     ·rw [List.mem_singleton] at hy;subst hy;omega
  have:=zH l (pre++[o]) _ h1;rwa [List.append_assoc] at this
theorem JF{α:Type}{f:α→Nat}(l:List α):qy f l (l.foldl (pJ f) none):=by
 have:=zH (f:=f) l [] none rfl;simpa using this
section
variable {k:Nat}
theorem GE{t:aL}(h:vy k t)(hs:lj k t)(ht:j8 t=0){q:List (List Int)}(hq:dH t q):cy k t (dM q)=some (dN t q:Int):=by
 have hA:=At.of h hs ht hq;have h6:=hq.g.days;unfold cy;rw [dk (LC hq.fit),bs,Je hA hq (by omega),bs,Int.sub_zero];rfl
theorem Be{t:aL}(h:vy k t)(g:iE t):fG k (t,())=some ((ow t).map dM):=by
 unfold fG f7
 have:=yG (k:=k) h g (Y:=nK (fun(y2:(List (List (List Int)))) (p4:(List (List Int)))=>(eK (bR (List.length y2+List.length [p4]))).bind fun _=>some (y2++[p4],true))) (f:=fun s q=>(s.1++[dM q],false)) (P:=fun pre s=>s=(pre.map dM,false)) (by
  rintro pre s q hq hl rfl;refine⟨?_,by simp⟩;show(((eK (bR _)).bind fun _=>some (_,true)).bind fun r=>some ((r.1, !r.2),r.2):Option _)=_;rw [dk (Nc (by simp only [List.length_map,List.length_cons,List.length_nil];omega)),bs,bs];rfl) (s:=([],false)) rfl
 obtain⟨h1,h2⟩:=this;rw [h1,bs,h2,iF,bs]
theorem A0{t:aL}(h:vy k t)(hs:lj k t)(ht:j8 t=0)(hk:3000≤k){l:List (List (List Int))}(hl:∀q∈l,dH t q)(hlen:l.length≤2520):
 gY k t (l.map dM)=some (match l.foldl (pJ (dN t)) none with |none=>([[0,0,0,0,0],[0,0,0,0,0],[0,0,0,0,0]],0,false) |some (q,n)=>(dM q,(n:Int),true)):=by
 have hk1:=h.k1
 unfold gY
 have key:∀(d j n:Nat) (b:Option (List (List Int)×Nat)),j+d=l.length→d < n→
  cK k t (l.map dM) n (match b with |none=>([[0,0,0,0,0],[0,0,0,0,0],[0,0,0,0,0]],0,false,(j:Int)) |some (q,m)=>(dM q,(m:Int),true,(j:Int)))=
  some (match (l.drop j).foldl (pJ (dN t)) b with |none=>([[0,0,0,0,0],[0,0,0,0,0],[0,0,0,0,0]],0,false) |some (q,n)=>(dM q,(n:Int),true)):=by
  intro d
  induction d with
  |zero=>
   intro j n b hj hn;obtain⟨n,rfl⟩:∃n',n=n'+1:=⟨n - 1,by omega⟩;rw [List.drop_of_length_le (by omega),cK];cases b with
   |none=>dsimp only;rw [if_neg (by rw [List.length_map];omega)];rfl
   |some b=>obtain⟨q,m⟩:=b;dsimp only;rw [if_neg (by rw [List.length_map];omega)];rfl
  |succ d ih=>
   intro j n b hj hn;obtain⟨n,rfl⟩:∃n',n=n'+1:=⟨n - 1,by omega⟩;have hjl:j < l.length:=by omega
   have hg:=GE h hs ht (hl _ (List.getElem_mem hjl));have hgi:bv (l.map dM) (j:Int)=some (dM l[j]):=by rw [dT (by rw [List.length_map];exact hjl),List.getElem_map]
   have:=ih (j+1) n (pJ (dN t) b l[j]) (by omega) (by omega);rw [List.drop_eq_getElem_cons hjl,List.foldl_cons,←this,cK];cases b with
   |none=>
    dsimp only;rw [if_pos (by rw [List.length_map];omega),hgi,bs,hg,bs,nF,bs,iT,bs,cT (by omega) (by omega),bs];rfl
   |some b=>
    obtain⟨q,m⟩:=b;dsimp only;rw [if_pos (by rw [List.length_map];omega),hgi,bs,hg,bs,nT,bs];unfold pJ;by_cases c:dN t l[j] < m
    ·rw [decide_eq_true (Int.ofNat_lt.2 c),iT,bs,cT (by omega) (by omega),bs];simp only [c,if_true];rfl
    ·rw [decide_eq_false (fun h=>c (Int.ofNat_lt.1 h)),iF,bs,cT (by omega) (by omega),bs];simp only [c,if_false];rfl
 have:=key l.length 0 k none (by omega) (by omega)
 rw [List.drop_zero] at this
 rw [show cK k t (l.map dM) k ([[0,0,0,0,0],[0,0,0,0,0],[0,0,0,0,0]],0,false,0)=_ from this,bs]
def uM(t:aL):Option (List (List Int)×Nat):=(ow t).foldl (pJ (dN t)) none
theorem uL{t:aL}:qy (dN t) (ow t) (uM t):=JF _
theorem J7{t:aL}(h:vy k t)(hs:lj k t)(hk:3000≤k)(ht:j8 t=0):mh k t=some (match uM t with |none=>([],0,11) |some (q,n)=>(q,(n:Int),0)):=by
 have g:=o4 ht;unfold mh;rw [wy hs,bs,ht,if_neg (not_not_intro rfl),Be h g,bs,A0 h hs ht hk (fun q hq=>sJ g hq) (Hv g),bs];have hb:=uL (t:=t);unfold uM at *;cases e:(ow t).foldl (pJ (dN t)) none with
 |none=>dsimp only;rw [nF]
 |some b=>
  obtain⟨q,n⟩:=b;rw [e] at hb;obtain⟨_,_,p,s,h3,_⟩:=hb;have hq:=sJ g (q:=q) (by rw [h3];simp);dsimp only;rw [nT,Gz h.k0 hq.fit hq.len,bs]
end
def KE:List Int→List Int→Bool
 |x::a,y::b=>if x=y then KE a b else decide (x < y)
 |[],_::_=>true
 |_,[]=>false
def vv:List (List Int)→List (List Int)→Bool
 |x::a,y::b=>if x=y then vv a b else KE x y
 |_,_=>false
theorem wx:∀{a:List (List Int)},vv a a=false
 |[]=>rfl
 |x::a=>by rw [vv,if_pos rfl];exact wx
section
variable {k:Nat}
def Rf(t:aL)(l:List (List (List Int))):Option (List (List Int)×Nat×Nat)→Prop
 |none=>l=[]
 |some (f,n,c)=>f∈l∧n=dN t f∧(∀x∈l,n≤dN t x)∧c=(l.countP fun q=>decide (dN t q=n))∧0 < c
def Qa(t:aL)(S:List (List (List Int)))(l:List (List (List Int))):Option (List (List Int)×Nat×Nat)→Prop
 |none=>True
 |some (f,n,_)=>∀x∈l,dN t x=n→vv x f=false
theorem Dw:((List.range 5).all fun n=>(List.range 3).all fun N=>decide ((sH n N).Pairwise fun a b=>vv a b=true∧vv b a=false))=true:=by decide+kernel
theorem Bi{n N:Nat}(hn:n≤4)(hN:N≤2):(sH n N).Pairwise fun a b=>vv a b=true∧vv b a=false:=by
 have h:=Dw;rw [List.all_eq_true] at h;have h:=h n (List.mem_range.2 (by omega));rw [List.all_eq_true] at h;exact of_decide_eq_true (h N (List.mem_range.2 (by omega)))
theorem qy.same{t:aL}{S l:List (List (List Int))}(hS:S.Pairwise fun a b=>vv a b=true∧vv b a=false)(hl:l.Perm S){b:Option (List (List Int)×Nat)}(hb:qy (dN t) S b){s:Option (List (List Int)×Nat×Nat)}(hs:Rf t l s)(he:Qa t S l s):
 (b=none∧s=none)∨∃q n c,b=some (q,n)∧s=some (q,n,c)∧c=(S.countP fun x=>decide (dN t x=n))∧0 < c:=by
 cases b with
 |none=>
  have hb:S=[]:=hb;subst hb;have:l=[]:=hl.eq_nil;subst this;cases s with
  |none=>exact .inl ⟨rfl,rfl⟩
  |some s=>obtain⟨f,n,c⟩:=s;exact absurd hs.1 (by simp)
 |some b=>
  obtain⟨q,n⟩:=b;obtain⟨h1,h2,p,r,h3,h4⟩:=hb;have hqS:q∈S:=by rw [h3];simp
  cases s with
  |none=>
   have hs:l=[]:=hs;subst hs;have:=hl.symm.eq_nil;rw [this] at hqS;cases hqS
  |some s=>
   obtain⟨f,n',c⟩:=s;obtain⟨g1,g2,g3,g4,g5⟩:=hs;have hfS:f∈S:=hl.mem_iff.1 g1;have hql:q∈l:=hl.mem_iff.2 hqS;have e1:=h2 f hfS;have e2:=g3 q hql;have en:n'=n:=by omega
   subst en
   have hfq:f=q:=by
    rw [h3] at hfS;rcases List.mem_append.1 hfS with h |h
    ·have:=h4 f h;omega
    ·rcases List.mem_cons.1 h with h |h
     ·exact h
     ·have hp:=hS;rw [h3] at hp;have:=(List.pairwise_append.1 hp).2.1;have:=((List.pairwise_cons.1 this).1 f h).1;have h5:=he q hql h1.symm;rw [this] at h5;cases h5
   subst hfq;exact .inr ⟨f,n',c,rfl,rfl,by rw [g4,hl.countP_eq],g5⟩
end
end Go.Proofs.YtcnpijmfgfnpiaaGreatDoor
