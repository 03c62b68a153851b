import Derived.Test.YtcnpijmfgfnpiaaGreatDoorXRB5
import Derived.Test.YtcnpijmfgfnpiaaGreatDoorXRB7
import Derived.Test.YtcnpijmfgfnpiaaGreatDoorXRF2
set_option linter.unusedSimpArgs false
set_option linter.unusedVariables false
namespace Go.Proofs.YtcnpijmfgfnpiaaGreatDoor
namespace K
open Go Go.ChangeShapes Go.WideShapes Go.ChangeAt Go.RowKit
@[reducible] def jg:Ty→Bool
 | .int _=>true
 | .bool=>true
 | .str=>true
 | .pair a b=>jg a && jg b
 | .agg t=>jg t
 | .arr _ t=>jg t
 | .slice t=>jg t && Nat.blt 0 t.cells
 |_=>false
def vv:Value→Bool
 | .iface _ _=>true
 |_=>false
theorem tK{α:Type}{R:α→List Value→Prop}(h:∀x cs,R x cs→∀v∈cs,vv v=false):∀{l:List α} {cs:List Value},cJ R l cs→∀v∈cs,vv v=false
 |[],_,e=>by simp [cJ] at e;simp [e]
 |_::_,_,⟨c1,c2,e,h1,h2⟩=>by
  subst e
  intro v hv
  rcases List.mem_append.1 hv with hv |hv
  ·
   exact h _ _ h1 v hv
  ·
   exact tK h h2 v hv
theorem MO{S:FS}{w:World}(t:Ty):∀{x:t.den} {cs:List Value},jg t=true→rd S w t x cs→∀v∈cs,vv v=false:=by
 induction t with
 |int k=>intro x cs _ h v hv;simp only [rd] at h;subst h;simp at hv;subst hv;rfl
 |bool=>intro x cs _ h v hv;simp only [rd] at h;subst h;simp at hv;subst hv;rfl
 |str=>intro x cs _ h v hv;simp only [rd] at h;subst h;simp at hv;subst hv;rfl
 |pair a b iha ihb=>
  rintro x cs hp ⟨c1,c2,rfl,h1,h2⟩ v hv;simp [jg] at hp;rcases List.mem_append.1 hv with hv |hv
  ·exact iha hp.1 h1 v hv
  ·exact ihb hp.2 h2 v hv
 |agg t ih=>intro x cs hp h;exact ih hp h
 |arr n t ih=>intro l cs hp h;exact tK (fun _ _ h=>ih hp h) h.2
 |slice t ih=>
  intro l cs hp h v hv;rcases h with⟨a,cap,rfl,_⟩ |⟨b,off,cap,c,T,fz,rfl,_⟩ <;> (simp at hv;subst hv;rfl)
 |_=>intro x cs hp;cases hp
theorem HA{S:FS}{w:World}{b0:Nat}{c0:Array Value}{T0:TypeId}{fz0:Nat×Nat}(h0:w.heap[b0]? =some (.cells c0 T0 fz0))(hc:∀v∈c0.toList,vv v=true)(t:Ty):
 ∀{x:t.den} {cs:List Value},jg t=true→rd S w t x cs→rd (fun b=>S b∧b≠b0) w t x cs:=by
 induction t with
 |int k=>intro x cs _ h;exact h
 |bool=>intro x cs _ h;exact h
 |str=>intro x cs _ h;exact h
 |pair a b iha ihb=>
  rintro x cs hp ⟨c1,c2,rfl,h1,h2⟩;simp [jg] at hp;exact⟨c1,c2,rfl,iha hp.1 h1,ihb hp.2 h2⟩
 |agg t ih=>intro x cs hp h;exact ih hp h
 |arr n t ih=>intro l cs hp h;exact⟨h.1,bq (fun _ _ h=>ih hp h) h.2⟩
 |slice t ih=>
  intro l cs hp h;have hp1:jg t=true:=by simp [jg] at hp;exact hp.1
  have hp2:0 < t.cells:=by simp [jg] at hp;exact hp.2
  rcases h with h |⟨b,off,cap,c,T,fz,rfl,hle,hS,hb,hr⟩
  ·exact .inl h
  ·by_cases hl:l=[]
   ·subst hl;exact .inl ⟨_,cap,rfl,rfl⟩
   ·refine .inr ⟨b,off,cap,c,T,fz,rfl,hle,⟨hS,fun e=>?_⟩,hb,bq (fun _ _ h=>ih hp1 h) hr⟩;subst e;rw [h0] at hb;cases hb;have hlen:=f6 (fun _ _ h=>aG t h) hr;have hno:=tK (fun _ _ h=>MO t hp1 h) hr;have hpos:0 < l.length:=List.length_pos_iff.2 hl;have:0 < ((c0.toList.drop off).take (l.length * t.cells)).length:=by rw [hlen];exact Nat.mul_pos hpos hp2
    obtain⟨v,hv⟩:=List.exists_mem_of_length_pos this;have h1:=hno v hv;have h2:=hc v (List.mem_of_mem_drop (List.mem_of_mem_take hv));rw [h1] at h2;cases h2
 |_=>intro x cs hp;cases hp
theorem vL{S:FS}{w:World}{b0:Nat}{c0:Array Value}{T0:TypeId}{fz0:Nat×Nat}(h0:w.heap[b0]? =some (.cells c0 T0 fz0))(hc:∀v∈c0.toList,vv v=true):
 ∀{ts:List (TypeId×Ty)} {uz:List A} {vs:List Value},(∀p∈ts,jg p.2=true)→Lk ts uz→fj S w uz vs→fj (fun b=>S b∧b≠b0) w uz vs
 |[],uz,vs,_,hl,h=>by
  have hl:uz=[]:=hl
  subst hl
  exact h
 |p::ts,uz,vs,hp,hl,h=>by
  obtain⟨d,uz',rfl,hl'⟩:=hl
  obtain⟨v,vs',e,⟨cs,hr,hv⟩,h2⟩:=h
  exact⟨v,vs',e,⟨cs,HA h0 hc p.2 (hp p (by simp)) hr,hv⟩,vL h0 hc (fun q hq=>hp q (by simp [hq])) hl' h2⟩
section
variable {H:Type}{enc:TypeId×Value→H}{P:Program}
theorem yQ{M:Md P}{f:Nat}{fn:Func}{B:TypeId}{s:ChangeSpec}{b0:Nat}{c0:Array Value}{T0:TypeId}{p0:Obj→Prop}(hp0:∀o,p0 o↔o= .cells c0 T0 (0,0))(hc0:∀v∈c0.toList,vv v=true)
 (ts:List (TypeId×Ty)) (hpl:∀p∈ts,jg p.2=true) (hp:fn.params.toList=ts.map (·.1)) (hr:fn.resultTypes= #[B]) (hB:P.underlying B=some .bool)
 (hm:∀p∈ts,MT P p.2 (.inl p.1)) (laid:laidOutB P=true) (hT:∀T∈ts.map (·.1),P.readableRec T=true∧T < P.types.size)
 (hs:∀ds:List (DataW H),ds.length=ts.length→s.fn H ds={ results:=[.lit (.bool true)],args:=ds }) (hv:s.vars=[])
 (law:∀uz,Lk ts uz→cS M f uz [.inv b0 p0] (fun _:Unit=>(bp [.eq (.bool true)],[.inv b0 p0])))
 (W:World) (base:Nat) (args:Array Value) (ds gs:List (DataW H)) (before:List MemPlace) (hb0:W.heap[b0]? =some (.cells c0 T0 (0,0)))
 (hval:∀(j:Nat) t v,fn.params[j]? =some t→args[j]? =some v→Value.okWide P W .any base t v)
 (hW:DataW.Whole enc P fn.params.toList s.vars false W args.toList ds gs before):
 l5 M .normal f args (vw W) fun e W'=>∃v,e= .returned v∧∀v1,bM W' v1→s.post enc P fn false true false false W args v v1.toWorld:=by
 have hW':=hW
 obtain⟨p,q,hA,hV,rfl,_,_⟩:=hW
 rw [hv] at hV
 obtain⟨rfl,rfl⟩:=trodVars_none hV
 have hlt:∀x∈p,x.block < W.heap.size:=hA.lt
 have hlen:=xx hA
 rw [hp,List.length_map] at hlen
 rw [hp] at hA
 obtain⟨uz,hL,h2⟩:=Bg (S:=fun b=>b < W.heap.size) (base:=base) hm (fun j t v h1 h2=>hval j t v (by rw [←hp] at h1;simpa using h1) (by simpa using h2)) hA hlt
 have h3:=vL hb0 hc0 hpl hL h2
 have hlt0:b0 < W.heap.size:=(Array.getElem?_eq_some_iff.1 hb0).1
 have hft:∀b,ay [D.inv b0 p0] b↔b=b0:=fun b=>by
  rw [cR];exact⟨fun h=>(Option.some.inj h).symm,fun h=>by rw [h];rfl⟩
 have hO:aW [.inv b0 p0] (fun b=>b < W.heap.size∧b≠b0) (vw W):=by
  refine⟨fun d hd=>?_,fun b hb=>?_,List.pairwise_singleton _ _,fun b _=>⟨fun h=>h,fun h=>h⟩,fun _ _ h=>h,fun _ h=>h.elim,fun _ h=>h.elim⟩
  ·simp at hd;subst hd;exact⟨_,hb0,(hp0 _).2 rfl⟩
  ·rw [hft] at hb;subst hb;exact⟨fun h=>h.2 rfl,hlt0⟩
 have:=law uz hL .normal (fun e=>nomatch e) (fun b=>b < W.heap.size∧b≠b0) (vw W) args.toList (fun _ h=>h.1) h3 hO
 rw [Array.toArray_toList] at this
 refine this.mono ?_
 rintro e' W' ⟨_,S',v,rfl,h1,h2,h4,_⟩
 obtain rfl:v= .bool true:=h2
 refine⟨_,rfl,fun v1 hrel=>?_⟩
 have h5:=h4.rely h1.dom hrel
 replace h1:=h1.trans (bI.rely (X:=ay [D.inv b0 p0]) h1.dom hrel) fun b hb=>.inl hb
 obtain⟨o1,k0,k0'⟩:=h5.holds _ (List.mem_singleton.2 rfl)
 rw [(hp0 _).1 k0'] at k0
 have h6:bI (ay []) (fun b=>b < W.heap.size∧b≠b0) (vw W) S' v1:=by
  refine⟨h1.sub,fun b hb=>(h1.new b hb).imp id (Or.imp id fun hx=>absurd hb (h5.own b hx).1),h1.dom,h1.size,fun b hb ha hx=>?_,h1.os,h1.tape,h1.output,h1.subA,h1.oldA,h1.Z⟩;by_cases e:b=b0
  ·subst e;exact k0.trans hb0.symm
  ·exact h1.keep b hb ha (fun h=>e ((hft b).1 h))
 obtain⟨k1,k2⟩:=BR (may:=(· ∈p++[])) h6
 have hk:∀b,b < W.heap.size→v1.heap[b]? =W.heap[b]? :=fun b hb=>h6.keep b hb (fun hx=>hx) (fun hx=>eC hx)
 refine Eo (pa:=p) (pv:=[]) hW' (fun _ _ _=>?_) (fun sp hsp=>?_) (fun _ _=>?_) rfl k1 k2 (ok_one hr rfl (okWide_bool_mk hB _))
 ·
  rw [hr,List.append_nil,hs ds hlen];exact trodAll_mk1 (shut_bool hB _)
 ·
  rw [hp,List.append_nil,hs ds hlen];exact yW laid hk hT hA (fun x hx=>⟨hlt x hx,hsp x (by simpa using hx)⟩)
 ·
  rw [hv,List.append_nil,hs ds hlen];rfl
end
section
open Go.Conc
variable {H:Type}{enc:TypeId×Value→H}
theorem wz{a:Assume}{C:Checked}{os:Os}{f:FuncId}{fn:Func}{s:ChangeSpec}{conds:List PathCond}{apart fresh handsOn again:Bool}{X:World→Prop}
 (hX:∀(w w':World),w.heap=w'.heap→X w→X w') (own:ownKnob C.prog.godebug=none) (started:os.Started) (hfn:C.prog.funcs[f]? =some fn)
 (witness:∃(w:World) (tape:Tape) (i:Input),w.os=os∧(w.forCall tape i).Shaped C.prog∧i.vars=[]∧Input.okWide C.prog (w.forCall tape i) .any w.heap.size f i∧
  ((s.pre enc C.prog fn conds apart (w.forCall tape i).memory i.args∧X (w.forCall tape i).memory)∧sizedMet enc C.prog fn (OpenSpec.ofChange s) apart (w.forCall tape i).memory i.args)∧a.holds C.prog (lone (Frame.enter C.prog f i.args .normal) [] (w.forCall tape i)))
 (runs:∀(W:World) (base:Nat) (args:Array Value) (ds gs:List (DataW H)) (before:List MemPlace),W.ShapedOpen C.prog→
  (∀(j:Nat) t v,fn.params[j]? =some t→args[j]? =some v→Value.okWide C.prog W .any base t v)→
  DataW.Whole enc C.prog fn.params.toList s.vars apart W args.toList ds gs before→X W→
  a.holds C.prog (lone (Frame.enter C.prog f args .normal) [] W)→
  ∃M last o w' t',runNT C.prog (M+1) (solo (Conc.G (Frame.enter C.prog f args .normal) []) W) #[]=(.ended o w',t')∧runN C.prog M (solo (Conc.G (Frame.enter C.prog f args .normal) []) W)= .next last∧
   step C.prog last= .ended o w'∧Conc.Good C.prog (fun v W'=>s.post enc C.prog fn apart fresh handsOn again W args v W') last o w' t'):
 ReturnsInLeavingWide a C os f .any (fun w args=>(s.pre enc C.prog fn conds apart w args∧X w)∧sizedMet enc C.prog fn (OpenSpec.ofChange s) apart w args) (s.post enc C.prog fn apart fresh handsOn again):=by
 refine returnsInLeavingWide_of_good own started witness ?_
 intro w tape i _ hsh _ hok hpre hholds
 obtain⟨_,_,_,fn',hfn',_,_,_,_,hval⟩:=hok
 obtain rfl:fn'=fn:=Option.some.inj (hfn'.symm.trans hfn)
 obtain⟨⟨⟨ds,gs,before,hw,_⟩,hx⟩,_⟩:=hpre
 obtain⟨M,last,o,w',t',h1,h2,h3,h4⟩:=runs (w.forCall tape i) w.heap.size i.args ds gs before hsh hval (DataW.Whole.of_heap (w':=w.forCall tape i) (by rfl) hw) (hX _ _ (by rfl) hx) hholds
 exact⟨M,last,o,w',t',h1,h2,h3,h4.mono fun v hp=>ChangeSpec.post_blind hp⟩
end
end K
end Go.Proofs.YtcnpijmfgfnpiaaGreatDoor
namespace Go.Proofs.YtcnpijmfgfnpiaaGreatDoor
open K Go Go.Proofs
def W{α:Type}(x:Option α)(Q:α→Prop):Prop:=∃a,x=some a∧Q a
namespace W
variable {α β ε:Type}{Q:β→Prop}
theorem ret{a:β}(h:Q a):W (some a) Q:=⟨a,rfl,h⟩
theorem mono{x:Option β}{R:β→Prop}(h:W x R)(hq:∀a,R a→Q a):W x Q:=let ⟨a,e,r⟩:=h;⟨a,e,hq a r⟩
theorem bind{x:Option α}{f:α→Option β}{R:α→Prop}(h:W x R)(hf:∀a,R a→W (f a) Q):W (x.bind f) Q:=by
 obtain⟨a,rfl,r⟩:=h;exact hf a r
theorem ck{n:Int}{f:Int→Option β}(h1: -9223372036854775808≤n)(h2:n≤9223372036854775807)(hf:W (f n) Q):W ((K.ck n).bind f) Q:=by
 rw [K.ck,if_pos ⟨h1,h2⟩];exact hf
theorem chk{p:Prop}[Decidable p]{f:Unit→Option β}(h:p)(hf:W (f ()) Q):W ((dh p).bind f) Q:=by
 rw [dh,if_pos h];exact hf
theorem at_{l:List α}{i:Int}{f:α→Option β}(h0:0≤i)(h1:i < l.length)(hf:∀x,l[i.toNat]? =some x→W (f x) Q):W ((bb l i).bind f) Q:=by
 have:i.toNat < l.length:=by omega
 rw [bb,if_pos h0,List.getElem?_eq_getElem this];exact hf _ (List.getElem?_eq_getElem this)
theorem ite{p:Prop}[Decidable p]{a b:Option β}(h1:p→W a Q)(h2:¬p→W b Q):W (if p then a else b) Q:=by
 split
 ·exact h1 ‹_›
 ·exact h2 ‹_›
theorem iteB{p:Prop}[Decidable p]{a b:Option α}{f:α→Option β}(h1:p→W (a.bind f) Q)(h2:¬p→W (b.bind f) Q):W ((if p then a else b).bind f) Q:=by
 split
 ·exact h1 ‹_›
 ·exact h2 ‹_›
theorem loop{T:Type}{f:Nat→T→Option β}(I:Nat→T→Prop)(step:∀aO m y,I m y→(∀m' y',m' < m→I m' y'→W (f aO y') Q)→W (f (aO+1) y) Q):∀m aO y,m < aO→I m y→W (f aO y) Q:=by
 intro m
 induction m using Nat.strongRecOn with
 |_ m ih=>
  intro aO y hm hI;cases aO with
  |zero=>omega
  |succ aO=>exact step aO m y hI fun m' y' h hI'=>ih m' h aO y' (by omega) hI'
end W
theorem wrap_u64(n:Int):0≤IntKind.u64.wrap n∧IntKind.u64.wrap n < 18446744073709551616:=by
 have h1:=Int.emod_nonneg n (show(18446744073709551616:Int)≠0 by decide);have h2:=Int.emod_lt_of_pos n (show(0:Int) < 18446744073709551616 by decide)
 have e:IntKind.u64.wrap n=n % 18446744073709551616:=by
  simp [IntKind.wrap,IntKind.signed,IntKind.bits]
 rw [e];exact⟨h1,h2⟩
theorem xk{n:Int}(h0:0≤n)(h1:n < 18446744073709551616):IntKind.u64.wrap n=n:=by
 have e:IntKind.u64.wrap n=n % 18446744073709551616:=by
  simp [IntKind.wrap,IntKind.signed,IntKind.bits]
 rw [e];exact Int.emod_eq_of_lt h0 h1
def Lo(l:bK)(m:Int):Prop:=0≤l.2.1∧l.2.1≤m
theorem HW{k:Nat}{l:bK}{m:Int}(h:Lo l m)(hm:m≤1000000000):W (iq k l) fun r=>0≤r.1∧r.1 < 72057594037927936∧Lo r.2 (m+1):=by
 obtain⟨h0,h1⟩:=h;unfold iq
 have fin:∀x:Int,W ((K.ck (l.2.1+1)).bind fun x4=>some (gJ .u64 (pM .u64 (IntKind.u64.wrap ((pM .u64 x (gJ .u64 x (29:Int))) * (2685821657736338717:Int))) (gJ .u64 (IntKind.u64.wrap ((pM .u64 x (gJ .u64 x (29:Int))) * (2685821657736338717:Int))) (32:Int))) (8:Int),(l.1,x4,x)))
  fun r=>0≤r.1∧r.1 < 72057594037927936∧Lo r.2 (m+1):=fun x=>by
  refine W.ck (by omega) (by omega) (W.ret ?_)
  generalize IntKind.u64.wrap ((pM .u64 x (gJ .u64 x (29:Int))) * (2685821657736338717:Int))=y
  have hx:0≤pM .u64 y (gJ .u64 y 32)∧pM .u64 y (gJ .u64 y 32) < 18446744073709551616:=wrap_u64 _
  have e:gJ .u64 (pM .u64 y (gJ .u64 y 32)) 8=(pM .u64 y (gJ .u64 y 32)) / 256:=by
   unfold gJ;rw [Int.fdiv_eq_ediv_of_nonneg _ (by decide)];rfl
  refine⟨?_,?_,?_,?_⟩
  ·
   show 0≤gJ .u64 (pM .u64 y (gJ .u64 y 32)) 8;rw [e];omega
  ·
   show gJ .u64 (pM .u64 y (gJ .u64 y 32)) 8 < _;rw [e];omega
  ·
   show 0≤l.2.1+1;omega
  ·
   show l.2.1+1≤m+1;omega
 refine W.iteB (fun hlt=>?_) (fun _=>fin _);cases hg:bb l.1 l.2.1 with
 |some v=>exact fin _
 |none=>
  exfalso;have:l.2.1.toNat < l.1.length:=by omega
  rw [bb,if_pos h0,List.getElem?_eq_getElem this] at hg;cases hg
theorem pX{k:Nat}{l:bK}{m n:Int}(h:Lo l m)(hm:m≤1000000000)(hn:n≤1000000000):W (dr k l n) fun r=>0≤r.1∧(0≤n→r.1≤n)∧Lo r.2 (m+1):=by
 unfold dr;refine W.ite (fun h1=>W.ret ⟨Int.le_refl 0,fun h=>h,h.1,by show l.2.1≤m+1;have:=h.2;omega⟩) (fun h1=>?_);refine W.bind (HW h hm) fun r hr=>?_;refine W.ck (by omega) (by omega) ?_;have e:IntKind.u64.wrap (n+1)=n+1:=xk (by omega) (by omega);refine W.chk (by rw [e];omega) ?_;rw [e];have h2:Int.tmod r.1 (n+1)=r.1 % (n+1):=Int.tmod_eq_emod_of_nonneg hr.1;have h3:=Int.emod_nonneg r.1 (show n+1≠0 by omega);have h4:=Int.emod_lt_of_pos r.1 (show 0 < n+1 by omega);rw [h2];refine W.ck (by omega) (by omega) (W.ret ⟨h3,fun _=>by show r.1 % (n+1)≤n;omega,hr.2.2⟩)
theorem FH{k:Nat}{l:bK}{m a b:Int}(h:Lo l m)(hm:m≤1000000000)(ha:0≤a)(hab:a≤b)(hb:b≤1000000):W (dW k l a b) fun r=>a≤r.1∧r.1≤b∧Lo r.2 (m+1):=by
 unfold dW;refine W.ck (by omega) (by omega) (W.bind (pX h hm (by omega)) fun r hr=>?_);have:=hr.2.1 (by omega);refine W.ck (by omega) (by omega) (W.ret ⟨by show a≤a+r.1;omega,by show a+r.1≤b;omega,hr.2.2⟩)
theorem AS{k:Nat}{l:bK}{m a:Int}(h:Lo l m)(hm:m≤1000000000)(ha:0≤a)(hb:a≤1000000):W (fp k l a) fun r=>Lo r.2 (m+1):=by
 unfold fp;exact W.ck (by omega) (by omega) (W.bind (pX h hm (by omega)) fun r hr=>W.ret hr.2.2)
theorem Jk{k:Nat}{l:bK}{m:Int}{some_:List Int}(h:Lo l m)(hm:m≤1000000000)(h0:0 < some_.length)(h1:some_.length≤1000000):W (iR k l some_) fun r=>r.1∈some_∧Lo r.2 (m+1):=by
 unfold iR;refine W.ck (by omega) (by omega) (W.bind (pX h hm (by omega)) fun r hr=>?_);have:=hr.2.1 (by omega);refine W.at_ hr.1 (by omega) fun x hx=>W.ret ⟨List.mem_of_getElem? hx,hr.2.2⟩
theorem cX{α:Type}{l:List α}{i:Nat}(h:i < l.length):bb l (i:Int)=some l[i]:=by
 rw [bb,if_pos (by omega)];exact List.getElem?_eq_getElem h
section
variable {α β γ ε σ T:Type}
theorem bs{a:α}{f:α→Option β}:(some a).bind f=f a:=by cases h:f a <;> simp [h]
theorem cy{n:Int}(h1: -9223372036854775808≤n)(h2:n≤9223372036854775807):K.ck n=some n:=by rw [K.ck,if_pos ⟨h1,h2⟩]
theorem hQ{p:Prop}[Decidable p](h:p):dh p=some ():=by rw [dh,if_pos h]
theorem mZ{l:List α}{i:Int}(h0:0≤i)(h:i.toNat < l.length):bb l i=some l[i.toNat]:=by rw [bb,if_pos h0];exact List.getElem?_eq_getElem h
theorem oa{a:α}{g:ε→Option β}{f:α→Option β}:K.bE (some (.ok a)) g f=f a:=by cases h:f a <;> simp [K.bE,h]
theorem nu{e:ε}{g:ε→Option β}{f:α→Option β}:K.bE (some (.error e)) g f=g e:=by cases h:g e <;> simp [K.bE,h]
theorem HE{n:Nat}(h:n≤4294967296):bO n:=h
def yH(g:σ→Nat→α→σ):Nat→List α→σ→σ
 |_,[],s=>s
 |j,x::l,s=>yH g (j+1) l (g s j x)
theorem FZ(l:List α)(mk:σ→Int→T)(g:σ→Nat→α→σ)(P:Nat→σ→Prop){f:Nat→T→Option β}(fin:σ→Option β)
 (step:∀n s (j:Nat) (h:j < l.length),P j s→f (n+1) (mk s j)=f n (mk (g s j l[j]) ((j:Int)+1))∧P (j+1) (g s j l[j]))
 (stop:∀n s,P l.length s→f (n+1) (mk s l.length)=fin s) {s0:σ} {n:Nat} (hn:l.length < n) (h0:P 0 s0):f n (mk s0 0)=fin (yH g 0 l s0)∧P l.length (yH g 0 l s0):=by
 have key:∀(m:List α) (pre:List α) (n:Nat) (s:σ),l=pre++m→m.length < n→P pre.length s→f n (mk s pre.length)=fin (yH g pre.length m s)∧P l.length (yH g pre.length m s):=by
  intro m
  induction m with
  |nil=>
   intro pre n s e hn hp;obtain⟨n,rfl⟩:∃n',n=n'+1:=⟨n - 1,by omega⟩;have:l.length=pre.length:=by rw [e];simp
   rw [←this] at hp⊢;exact⟨stop n s hp,hp⟩
  |cons x m ih=>
   intro pre n s e hn hp;simp only [List.length_cons] at hn;obtain⟨n,rfl⟩:∃n',n=n'+1:=⟨n - 1,by omega⟩;have hl:pre.length < l.length:=by rw [e];simp
   have hx:l[pre.length]=x:=by simp [e]
   obtain⟨h1,h2⟩:=step n s pre.length hl hp;rw [hx] at h1 h2;have:=ih (pre++[x]) n (g s pre.length x) (by rw [e];simp) (by omega) (by rw [List.length_append];exact h2);rw [List.length_append] at this;simp only [List.length_cons,List.length_nil,Nat.zero_add] at this;rw [h1];exact this
 have:=key l [] n s0 rfl hn h0
 exact this
def ba(g:σ→Nat→α→Except ε σ):Nat→List α→σ→Except ε σ
 |_,[],s=>.ok s
 |j,x::l,s=>match g s j x with
  | .error e=>.error e
  | .ok s'=>ba g (j+1) l s'
theorem vC(l:List α)(mk:σ→Int→T)(g:σ→Nat→α→Except ε σ)(P:Nat→σ→Prop){f:Nat→T→Option β}(fin:Except ε σ→Option β)
 (step:∀n s (j:Nat) (h:j < l.length),P j s→(∃e,g s j l[j]= .error e∧f (n+1) (mk s j)=fin (.error e))∨(∃s',g s j l[j]= .ok s'∧f (n+1) (mk s j)=f n (mk s' ((j:Int)+1))∧P (j+1) s'))
 (stop:∀n s,P l.length s→f (n+1) (mk s l.length)=fin (.ok s)) {s0:σ} {n:Nat} (hn:l.length < n) (h0:P 0 s0):f n (mk s0 0)=fin (ba g 0 l s0):=by
 have key:∀(m:List α) (pre:List α) (n:Nat) (s:σ),l=pre++m→m.length < n→P pre.length s→f n (mk s pre.length)=fin (ba g pre.length m s):=by
  intro m
  induction m with
  |nil=>
   intro pre n s e hn hp;obtain⟨n,rfl⟩:∃n',n=n'+1:=⟨n - 1,by omega⟩;have:l.length=pre.length:=by rw [e];simp
   rw [←this] at hp⊢;exact stop n s hp
  |cons x m ih=>
   intro pre n s e hn hp;simp only [List.length_cons] at hn;obtain⟨n,rfl⟩:∃n',n=n'+1:=⟨n - 1,by omega⟩;have hl:pre.length < l.length:=by rw [e];simp
   have hx:l[pre.length]=x:=by simp [e]
   rcases step n s pre.length hl hp with⟨e',h1,h2⟩ |⟨s',h1,h2,h3⟩
   ·rw [hx] at h1;rw [h2,ba,h1]
   ·rw [hx] at h1;have:=ih (pre++[x]) n s' (by rw [e];simp) (by omega) (by rw [List.length_append];exact h3);rw [List.length_append] at this;simp only [List.length_cons,List.length_nil,Nat.zero_add] at this;rw [h2,ba,h1];exact this
 exact key l [] n s0 rfl hn h0
end
section
variable {α β ε σ T:Type}
theorem nT{a b:α}:(if¬(true=true) then a else b)=b:=rfl
theorem nF{a b:α}:(if¬(false=true) then a else b)=a:=rfl
theorem iT{a b:α}:(if true=true then a else b)=a:=rfl
theorem iF{a b:α}:(if false=true then a else b)=b:=rfl
theorem nV(l:List α)(mk:σ→Int→T)(g:σ→Nat→α→Except ε σ)(P:Nat→σ→Prop){f:Nat→T→Option β}(fin:Except ε σ→Option β)
 (step:∀n s (j:Nat) (h:j < l.length),P j s→(f (n+1) (mk s j)=match g s j l[j] with | .error e=>fin (.error e) | .ok s'=>f n (mk s' ((j:Int)+1)))∧∀s',g s j l[j]= .ok s'→P (j+1) s')
 (stop:∀n s,P l.length s→f (n+1) (mk s l.length)=fin (.ok s)) {s0:σ} {n:Nat} (hn:l.length < n) (h0:P 0 s0):f n (mk s0 0)=fin (ba g 0 l s0):=
 vC l mk g P fin (fun n s j h hp=>by
  obtain⟨h1,h2⟩:=step n s j h hp
  cases e:g s j l[j] with
  |error e'=>left;rw [e] at h1;exact⟨e',rfl,h1⟩
  |ok s'=>right;rw [e] at h1;exact⟨s',rfl,h1,h2 s' e⟩) stop hn h0
end
theorem xI{k:Nat}{a b:List Int}(h:a.length < k)(hk:a.length≤1000000):ff k a b=some (decide (a=b)):=by
 unfold ff;by_cases hl:a.length=b.length
 ·rw [if_neg (by simp [hl])]
  have key:=vC (f:=c6 k a b) a (fun(_:Unit) j=>j) (fun _ j x=>if x=b[j]?.getD 0 then .ok () else Except.error false) (fun _ _=>True) (fun r=>some r)
   (fun n s j hj _=>by
    have hjb:j < b.length:=by omega
    have hb:b[j]?.getD 0=b[j]:=by simp [List.getElem?_eq_getElem hjb]
    have hck:ck ((j:Int)+1)=some ((j:Int)+1):=cy (by omega) (by omega);rw [hb];simp only [c6,Int.ofNat_lt,hj,if_true,cX hj,cX hjb,bs];by_cases e:a[j]=b[j] <;> simp [e,hck])
   (fun n s _=>by simp [c6]) (n:=k) (s0:=()) h trivial
  rw [show c6 k a b k 0=_ from key]
  have:∀(a:List Int) (j:Nat),a.length+j=b.length→ba (fun(_:Unit) j x=>if x=b[j]?.getD 0 then .ok () else Except.error false) j a ()=if a=b.drop j then .ok () else .error false:=by
   intro a
   induction a with
   |nil=>
    intro j hj;have:b.drop j=[]:=List.drop_eq_nil_of_le (by simp only [List.length_nil] at hj;omega);rw [this];simp [ba]
   |cons x a ih=>
    intro j hj;simp only [List.length_cons] at hj;have hjb:j < b.length:=by omega
    have hd:b.drop j=b[j]::b.drop (j+1):=List.drop_eq_getElem_cons hjb;have hb:b[j]?.getD 0=b[j]:=by simp [List.getElem?_eq_getElem hjb]
    rw [ba,hb,hd];by_cases e:x=b[j]
    ·have h2:(x::a=b[j]::b.drop (j+1))=(a=b.drop (j+1)):=propext ⟨fun h=>(List.cons.inj h).2,fun h=>by rw [h,e]⟩;rw [if_pos e];simp only [h2];exact ih (j+1) (by omega)
    ·have h2:¬(x::a=b[j]::b.drop (j+1)):=fun h=>e (List.cons.inj h).1;rw [if_neg e];simp only [h2,if_false]
  rw [this a 0 (by omega),List.drop_zero];by_cases e:a=b
  ·rw [if_pos e,oa,decide_eq_true e]
  ·rw [if_neg e,nu,decide_eq_false e]
 ·rw [if_pos (by omega),decide_eq_false (fun e=>hl (by rw [e]))]
def sS(s:Int):Prop:=0≤s∧s < 256
def fO(s:Int)(i:Nat):Prop:=s.toNat.testBit i=true
instance (s:Int) (i:Nat):Decidable (fO s i):=by unfold fO;infer_instance
theorem vT{x:Nat}(h:x < 256):IntKind.u8.wrap (x:Int)=x:=by
 have e:IntKind.u8.wrap (x:Int)=(x:Int) % 256:=by simp [IntKind.wrap,IntKind.signed,IntKind.bits]
 rw [e];omega
theorem nN{s:Int}(h:sS s):∃n:Nat,n < 256∧s=n:=⟨s.toNat,by have:=h.1;have:=h.2;omega,by have:=h.1;omega⟩
theorem zO{n:Nat}(h:n < 256):(BitVec.ofInt IntKind.u8.bits (n:Int)).toNat=n:=by
 show(BitVec.ofInt 8 (n:Int)).toNat=n;rw [BitVec.ofInt_natCast,BitVec.toNat_ofNat];exact Nat.mod_eq_of_lt h
theorem Fj{n m:Nat}(hn:n < 256)(hm:m < 256):n |||m < 256:=Nat.or_lt_two_pow (n:=8) hn hm
theorem HY{n m:Nat}(hn:n < 256):n &&& m < 256:=Nat.lt_of_le_of_lt Nat.and_le_left hn
theorem Kv{a b:Int}(ha:sS a)(hb:sS b):sS (CU .u8 a b)∧∀i,fO (CU .u8 a b) i↔fO a i∨fO b i:=by
 obtain⟨n,hn,rfl⟩:=nN ha;obtain⟨m,hm,rfl⟩:=nN hb
 have e:CU .u8 (n:Int) (m:Int)=((n |||m:Nat):Int):=by
  unfold CU;rw [BitVec.toNat_or,zO hn,zO hm];exact vT (Fj hn hm)
 rw [e];refine⟨⟨by omega,by have:=Fj hn hm;omega⟩,fun i=>?_⟩;simp [fO,Nat.testBit_or]
theorem J4{x:Int}(h0:0≤x)(h8:x < 8):sS (mA .u8 1 x)∧∀i:Nat,fO (mA .u8 1 x) i↔(i:Int)=x:=by
 obtain⟨n,rfl⟩:=Int.eq_ofNat_of_zero_le h0;have hn:n < 8:=by omega
 have e:mA .u8 1 (n:Int)=((2 ^ n:Nat):Int):=by
  unfold mA
  have h1:min (Int.toNat (n:Int)) IntKind.u8.bits=n:=by
   show min n 8=n;omega
  rw [h1,Int.one_mul];have h2:2 ^ n < 256:=Nat.pow_lt_pow_right (by decide) hn;have h3:((2:Int) ^ n)=((2 ^ n:Nat):Int):=by simp
  rw [h3];exact vT h2
 rw [e];have h9:2 ^ n < 256:=Nat.pow_lt_pow_right (by decide) hn;refine⟨⟨Int.natCast_nonneg _,Int.ofNat_lt.2 h9⟩,fun i=>?_⟩;simp only [fO,Int.toNat_natCast,Nat.testBit_two_pow,decide_eq_true_eq];omega
theorem Kx{k:Nat}{s:Int}(hs:sS s){i:Nat}(hi:i < 8):dQ k s (i:Int)=some (decide (fO s i)):=by
 obtain⟨n,hn,rfl⟩:=nN hs;unfold dQ;rw [dh,if_pos (by omega)];show some _=some _;congr 1
 have e1:gJ .u8 (n:Int) (i:Int)=((n >>> i:Nat):Int):=by
  unfold gJ
  have h1:min (Int.toNat (i:Int)) IntKind.u8.bits=i:=by
   show min i 8=i;omega
  have h3:((2:Int) ^ i)=((2 ^ i:Nat):Int):=by simp
  rw [h1,h3,Int.fdiv_eq_ediv_of_nonneg _ (Int.natCast_nonneg _),Nat.shiftRight_eq_div_pow];rfl
 have hlt:n >>> i < 256:=Nat.lt_of_le_of_lt (by rw [Nat.shiftRight_eq_div_pow];exact Nat.div_le_self _ _) hn
 have e2:uQ .u8 ((n >>> i:Nat):Int) 1=(((n >>> i) &&& 1:Nat):Int):=by
  unfold uQ;have h1:(BitVec.ofInt IntKind.u8.bits 1).toNat=1:=rfl;rw [BitVec.toNat_and,zO hlt,h1];exact vT (HY hlt)
 rw [e1,e2]
 have e3:(((n >>> i) &&& 1:Nat):Int)=1↔fO (n:Int) i:=by
  rw [fO,Int.toNat_natCast,Nat.testBit];have h5:(n >>> i) &&& 1=1 &&& (n >>> i):=Nat.and_comm _ _;rw [h5];have h4:1 &&& (n >>> i) < 2:=Nat.lt_of_le_of_lt Nat.and_le_left (by decide);simp only [bne_iff_ne,ne_eq];omega
 exact decide_eq_decide.2 e3
abbrev cG:=Int×(List (Int×(List Int)))×(List Int)
def Qy(t:cG)(d n:Int):Bool:=match t.2.1[n.toNat]? with
 |some x=>decide (d∈x.2)
 |none=>false
def MZ(w:Int→Bool)(l:List Int):List Int:=l.filter (fun n=> !w n)++l.filter w
theorem qA{w:Int→Bool}{l:List Int}:(MZ w l).Perm l:=by
 unfold MZ;exact List.perm_append_comm.trans (List.filter_append_perm w l)
theorem l8{k:Nat}{n a b:Int}:dF k n a b=some (decide (a≤n∧n≤b)):=by
 unfold dF;by_cases h:a≤n <;> simp [h]
theorem mB{k:Nat}{n a b:Int}:f5 k n a b=some (decide (a≤n∧n≤b)):=by
 unfold f5;by_cases h:a≤n <;> simp [h]
def sR(days:Int)(l:List Int)(j:Nat)(x:Int):Except Int Unit:=
 if¬(0≤x∧x≤days - 1) then .error 1 else if 0 < j∧x≤l[j - 1]?.getD 0 then .error 5 else .ok ()
def jk(days:Int)(x:Int×(List Int)):Except Int Unit:=
 if¬(1≤x.1∧x.1≤3) then .error 1 else ba (fun _ j y=>sR days x.2 j y) 0 x.2 ()
def kl(n:Int):Except Int Unit:=if 0≤n∧n≤9 then .ok () else .error 1
def Bc{α:Type}:Except Int α→Int
 | .error e=>e
 | .ok _=>0
def kh(t:cG):Int:=
 if¬(1≤t.1∧t.1≤6) then 1 else if 5 < t.2.1.length then 6 else
  match ba (fun _ _ x=>jk t.1 x) 0 t.2.1 () with
  | .error e=>e
  | .ok _=>if t.2.2.length < 1 then 7 else if 3 < t.2.2.length then 6 else Bc (ba (fun _ _ n=>kl n) 0 t.2.2 ())
structure jE(k:Nat)(t:cG):Prop where
 k1:k≤1000000
 things:t.2.1.length < k
 worn:∀x∈t.2.1,x.2.length < k
 trunks:t.2.2.length < k
section
variable {k:Nat}{t:cG}
theorem En{l:List Int}{j:Nat}(h:j < l.length)(h0:0 < j):bb l ((j:Int) - 1)=some (l[j - 1]?.getD 0):=by
 have e:((j:Int) - 1).toNat=j - 1:=by omega
 rw [bb,if_pos (by omega),e,List.getElem?_eq_getElem (by omega)];rfl
theorem Gn{x:Int×(List Int)}(hk:k≤1000000)(hx:x.2.length < k)(hd:1≤t.1∧t.1≤6):cE k t x k 0=some (ba (fun _ j y=>sR t.1 x.2 j y) 0 x.2 ()):=
 nV (f:=cE k t x) x.2 (fun(_:Unit) j=>j) (fun _ j y=>sR t.1 x.2 j y) (fun _ _=>True) (fun r=>some r)
  (fun n s j h _=>⟨by
   rw [cE,if_pos (Int.ofNat_lt.2 h),cX h,bs,cy (by omega) (by omega),bs,l8,bs]
   unfold sR
   by_cases c1:0≤x.2[j]∧x.2[j]≤t.1 - 1
   ·
    rw [decide_eq_true c1,nT,if_neg (not_not_intro c1)]
    by_cases c2:0 < j
    ·
     rw [if_pos (show(0:Int) < (j:Int) by omega),cy (by omega) (by omega),bs,En h c2,bs,bs]
     by_cases c3:x.2[j]≤x.2[j - 1]?.getD 0
     ·
      rw [decide_eq_true c3,iT,if_pos (show 0 < j∧x.2[j]≤x.2[j - 1]?.getD 0 from⟨c2,c3⟩)]
     ·
      rw [decide_eq_false c3,iF,if_neg (show¬(0 < j∧x.2[j]≤x.2[j - 1]?.getD 0) from fun h=>c3 h.2),cy (by omega) (by omega),bs]
    ·
     rw [if_neg (show¬(0:Int) < (j:Int) by omega),bs,iF,if_neg (show¬(0 < j∧x.2[j]≤x.2[j - 1]?.getD 0) from fun h=>c2 h.1),cy (by omega) (by omega),bs]
   ·
    rw [decide_eq_false c1,nF,if_pos (show¬(0≤x.2[j]∧x.2[j]≤t.1 - 1) from c1)],fun _ _=>trivial⟩)
  (fun n s _=>by rw [cE,if_neg (by omega)]) (s0:=()) (n:=k) hx trivial
theorem Gq{x:Int×(List Int)}(hk:k≤1000000)(hx:x.2.length < k)(hd:1≤t.1∧t.1≤6):eZ k t x k 0=some (ba (fun _ j y=>sR t.1 x.2 j y) 0 x.2 ()):=
 nV (f:=eZ k t x) x.2 (fun(_:Unit) j=>j) (fun _ j y=>sR t.1 x.2 j y) (fun _ _=>True) (fun r=>some r)
  (fun n s j h _=>⟨by
   rw [eZ,if_pos (Int.ofNat_lt.2 h),cX h,bs,cy (by omega) (by omega),bs,mB,bs]
   unfold sR
   by_cases c1:0≤x.2[j]∧x.2[j]≤t.1 - 1
   ·
    rw [decide_eq_true c1,nT,if_neg (not_not_intro c1)]
    by_cases c2:0 < j
    ·
     rw [if_pos (show(0:Int) < (j:Int) by omega),bs,cy (by omega) (by omega),bs,En h c2,bs,bs]
     by_cases c3:x.2[j]≤x.2[j - 1]?.getD 0
     ·
      rw [decide_eq_true c3,iT,if_pos (show 0 < j∧x.2[j]≤x.2[j - 1]?.getD 0 from⟨c2,c3⟩)]
     ·
      rw [decide_eq_false c3,iF,if_neg (show¬(0 < j∧x.2[j]≤x.2[j - 1]?.getD 0) from fun h=>c3 h.2),cy (by omega) (by omega),bs]
    ·
     rw [if_neg (show¬(0:Int) < (j:Int) by omega),bs,iF,if_neg (show¬(0 < j∧x.2[j]≤x.2[j - 1]?.getD 0) from fun h=>c2 h.1),cy (by omega) (by omega),bs]
   ·
    rw [decide_eq_false c1,nF,if_pos (show¬(0≤x.2[j]∧x.2[j]≤t.1 - 1) from c1)],fun _ _=>trivial⟩)
  (fun n s _=>by rw [eZ,if_neg (by omega)]) (s0:=()) (n:=k) hx trivial
theorem D9{x:Int×(List Int)}(hk:k≤1000000)(hx:x.2.length < k)(hd:1≤t.1∧t.1≤6):gU k t x=some (Bc (jk t.1 x)):=by
 unfold gU jk;rw [l8,bs,Gn hk hx hd];by_cases c:1≤x.1∧x.1≤3
 ·rw [decide_eq_true c,nT,if_neg (not_not_intro c)];cases ba (fun _ j y=>sR t.1 x.2 j y) 0 x.2 () with
  |error e=>rw [nu];rfl
  |ok u=>rw [oa];rfl
 ·rw [decide_eq_false c,nF,if_pos (show¬(1≤x.1∧x.1≤3) from c)];rfl
theorem jV{α σ:Type}{g:σ→Nat→α→Except Int σ}(hg:∀s j x,g s j x≠.error 0):∀(l:List α) (j:Nat) (s:σ),ba g j l s≠.error 0
 |[],j,s=>by simp [ba]
 |x::l,j,s=>by
  rw [ba]
  cases h:g s j x with
  |error e=>intro h';rw [Except.error.inj h'] at h;exact hg _ _ _ h
  |ok s'=>exact jV hg l (j+1) s'
theorem yz{d:Int}{x:Int×(List Int)}:jk d x≠.error 0:=by
 unfold jk;split
 ·simp
 ·refine jV (fun s j y=>?_) _ _ _;unfold sR;split
  ·simp
  ·split <;> simp
theorem CQ(h:jE k t)(hd:1≤t.1∧t.1≤6):eV k t k 0=some (ba (fun _ _ x=>jk t.1 x) 0 t.2.1 ()):=
 nV (f:=eV k t) t.2.1 (fun(_:Unit) j=>j) (fun _ _ x=>jk t.1 x) (fun _ _=>True) (fun r=>some r)
  (fun n s j hj _=>⟨by
   rw [eV,if_pos (Int.ofNat_lt.2 hj),cX hj,bs,D9 h.k1 (h.worn _ (List.getElem_mem hj)) hd,bs]
   have h0:=yz (d:=t.1) (x:=t.2.1[j])
   have h1:=h.things
   have h2:=h.k1
   cases e:jk t.1 t.2.1[j] with
   |error e'=>rw [if_pos (show¬Bc (Except.error e':Except Int Unit)=0 from fun h=>h0 (by rw [e];exact congrArg _ h))];rfl
   |ok u=>rw [if_neg (show¬¬Bc (Except.ok u:Except Int Unit)=0 from fun h=>h rfl),cy (by omega) (by omega),bs],fun _ _=>trivial⟩)
  (fun n s _=>by rw [eV,if_neg (by omega)]) (s0:=()) (n:=k) h.things trivial
theorem CS(h:jE k t)(hd:1≤t.1∧t.1≤6):fa k t k 0=some (ba (fun _ _ x=>jk t.1 x) 0 t.2.1 ()):=
 nV (f:=fa k t) t.2.1 (fun(_:Unit) j=>j) (fun _ _ x=>jk t.1 x) (fun _ _=>True) (fun r=>some r)
  (fun n s j hj _=>⟨by
   rw [fa,if_pos (Int.ofNat_lt.2 hj),cX hj,bs,mB,bs,bs,Gq h.k1 (h.worn _ (List.getElem_mem hj)) hd]
   have h1:=h.things
   have h2:=h.k1
   unfold jk
   by_cases c:1≤t.2.1[j].1∧t.2.1[j].1≤3
   ·
    rw [decide_eq_true c,nT,if_neg (not_not_intro c)]
    cases ba (fun _ j' y=>sR t.1 t.2.1[j].2 j' y) 0 t.2.1[j].2 () with
    |error e=>rw [nu]
    |ok u=>rw [oa,cy (by omega) (by omega),bs]
   ·
    rw [decide_eq_false c,nF,if_pos (show¬(1≤t.2.1[j].1∧t.2.1[j].1≤3) from c),nu],fun _ _=>trivial⟩)
  (fun n s _=>by rw [fa,if_neg (by omega)]) (s0:=()) (n:=k) h.things trivial
theorem BY(h:jE k t):eU k t k 0=some (ba (fun _ _ n=>kl n) 0 t.2.2 ()):=
 nV (f:=eU k t) t.2.2 (fun(_:Unit) j=>j) (fun _ _ n=>kl n) (fun _ _=>True) (fun r=>some r)
  (fun n s j hj _=>⟨by
   rw [eU,if_pos (Int.ofNat_lt.2 hj),cX hj,bs,l8,bs]
   have h1:=h.trunks
   have h2:=h.k1
   unfold kl
   by_cases c:0≤t.2.2[j]∧t.2.2[j]≤9
   ·
    rw [decide_eq_true c,nT,if_pos c,cy (by omega) (by omega),bs]
   ·
    rw [decide_eq_false c,nF,if_neg c],fun _ _=>trivial⟩)
  (fun n s _=>by rw [eU,if_neg (by omega)]) (s0:=()) (n:=k) h.trunks trivial
theorem BZ(h:jE k t):eY k t k 0=some (ba (fun _ _ n=>kl n) 0 t.2.2 ()):=
 nV (f:=eY k t) t.2.2 (fun(_:Unit) j=>j) (fun _ _ n=>kl n) (fun _ _=>True) (fun r=>some r)
  (fun n s j hj _=>⟨by
   rw [eY,if_pos (Int.ofNat_lt.2 hj),cX hj,bs,mB,bs]
   have h1:=h.trunks
   have h2:=h.k1
   unfold kl
   by_cases c:0≤t.2.2[j]∧t.2.2[j]≤9
   ·
    rw [decide_eq_true c,nT,if_pos c,cy (by omega) (by omega),bs]
   ·
    rw [decide_eq_false c,nF,if_neg c],fun _ _=>trivial⟩)
  (fun n s _=>by rw [eY,if_neg (by omega)]) (s0:=()) (n:=k) h.trunks trivial
theorem vF(h:jE k t):jq k t=some (kh t):=by
 unfold jq kh;rw [l8,bs];by_cases c:1≤t.1∧t.1≤6
 ·rw [decide_eq_true c,nT,if_neg (not_not_intro c),CQ h c,BY h];by_cases c1:5 < t.2.1.length
  ·rw [if_pos (show(5:Int) < (t.2.1.length:Int) by omega),if_pos c1]
  ·rw [if_neg (show¬(5:Int) < (t.2.1.length:Int) by omega),if_neg c1];cases ba (fun _ _ x=>jk t.1 x) 0 t.2.1 () with
   |error e=>rw [nu]
   |ok u=>
    rw [oa];by_cases c2:t.2.2.length < 1
    ·rw [if_pos (by omega)];simp only [c2,if_true]
    ·rw [if_neg (by omega)];by_cases c3:3 < t.2.2.length
     ·rw [if_pos (by omega)];simp only [c2,c3,if_true,if_false]
     ·rw [if_neg (by omega)];simp only [c2,c3,if_false];cases ba (fun _ _ n=>kl n) 0 t.2.2 () with
      |error e=>rw [nu];rfl
      |ok u=>rw [oa];rfl
 ·rw [decide_eq_false c,nF,if_pos (show¬(1≤t.1∧t.1≤6) from c)]
theorem Df(h:jE k t):mj k t=some (kh t):=by
 unfold mj kh;rw [mB,bs];by_cases c:1≤t.1∧t.1≤6
 ·rw [decide_eq_true c,nT,if_neg (not_not_intro c),CS h c,BZ h];by_cases c1:5 < t.2.1.length
  ·rw [if_pos (show(5:Int) < (t.2.1.length:Int) by omega),if_pos c1]
  ·rw [if_neg (show¬(5:Int) < (t.2.1.length:Int) by omega),if_neg c1];cases ba (fun _ _ x=>jk t.1 x) 0 t.2.1 () with
   |error e=>rw [nu]
   |ok u=>
    rw [oa];by_cases c2:t.2.2.length < 1
    ·rw [if_pos (by omega)];simp only [c2,if_true]
    ·rw [if_neg (by omega)];by_cases c3:3 < t.2.2.length
     ·rw [if_pos (by omega)];simp only [c2,c3,if_true,if_false]
     ·rw [if_neg (by omega)];simp only [c2,c3,if_false];cases ba (fun _ _ n=>kl n) 0 t.2.2 () with
      |error e=>rw [nu];rfl
      |ok u=>rw [oa];rfl
 ·rw [decide_eq_false c,nF,if_pos (show¬(1≤t.1∧t.1≤6) from c)]
end
theorem rS{α:Type}{f:α→Except Int Unit}:∀{l:List α} {j:Nat},ba (fun(_:Unit) _ x=>f x) j l ()= .ok ()→∀x∈l,f x= .ok ()
 |[],_,_,_,h=>by cases h
 |y::l,j,h,x,hx=>by
  rw [ba] at h
  cases e:f y with
  |error e'=>rw [e] at h;cases h
  |ok u=>
   rw [e] at h
   rcases List.mem_cons.1 hx with rfl |hx
   ·
    exact e
   ·
    exact rS h x hx
structure pn(t:cG):Prop where
 days:1≤t.1∧t.1≤6
 things:t.2.1.length≤5
 sizes:∀x∈t.2.1,1≤x.1∧x.1≤3
 trunks:1≤t.2.2.length∧t.2.2.length≤3
 rooms:∀n∈t.2.2,0≤n∧n≤9
theorem wC{t:cG}(h:kh t=0):pn t:=by
 unfold kh at h;by_cases c:1≤t.1∧t.1≤6
 ·rw [if_neg (not_not_intro c)] at h;by_cases c1:5 < t.2.1.length
  ·rw [if_pos c1] at h;cases h
  ·rw [if_neg c1] at h;have h0:ba (fun(_:Unit) _ x=>jk t.1 x) 0 t.2.1 ()≠.error 0:=jV (fun _ _ _=>yz) _ _ _;cases e:ba (fun(_:Unit) _ x=>jk t.1 x) 0 t.2.1 () with
   |error e'=>rw [e] at h h0;exact absurd (congrArg _ h) h0
   |ok u=>
    rw [e] at h;have hi:=rS e;by_cases c2:t.2.2.length < 1
    ·simp only [c2,if_true] at h;cases h
    ·by_cases c3:3 < t.2.2.length
     ·simp only [c2,c3,if_true,if_false] at h;cases h
     ·simp only [c2,c3,if_false] at h;refine⟨c,by omega,fun x hx=>?_,by omega,?_⟩
      ·have:=hi x hx;unfold jk at this;by_cases c4:1≤x.1∧x.1≤3
       ·exact c4
       ·rw [if_pos c4] at this;cases this
      ·have h1:ba (fun(_:Unit) _ n=>kl n) 0 t.2.2 ()≠.error 0:=jV (fun _ _ n=>by unfold kl;split <;> simp) _ _ _;cases e2:ba (fun(_:Unit) _ n=>kl n) 0 t.2.2 () with
       |error e'=>rw [e2] at h h1;exact absurd (congrArg _ h) h1
       |ok u=>
        intro n hn
        have:=rS e2 n hn;unfold kl at this;by_cases c5:0≤n∧n≤9
        ·exact c5
        ·rw [if_neg c5] at this;cases this
 ·rw [if_pos c] at h;cases h
def iL(n:Nat)(met:List Int)(x:Int):Except Int (List Int):=if¬(0≤x∧x≤(n:Int) - 1) then .error 3 else if x∈met then .error 4 else .ok (met++[x])
def kx(t:cG)(x:Int):Int:=match t.2.1[x.toNat]? with |some y=>y.1 |none=>0
def eW(t:cG):List Int→Int
 |[]=>0
 |x::l=>kx t x+eW t l
def eM(t:cG)(met:List Int)(i:Nat)(l:List Int):Except Int (List Int):=
 match ba (fun m _ x=>iL t.2.1.length m x) 0 l met with
 | .error e=>.error e
 | .ok m=>if t.2.2[i]?.getD 0 < eW t l then .error 12 else .ok m
def chkV(t:cG)(p:List (List Int)):Int:=
 if p.length < t.2.2.length then 7 else if t.2.2.length < p.length then 6 else
  match ba (eM t) 0 p [] with
  | .error e=>e
  | .ok m=>if m.length < t.2.1.length then 7 else 0
def iu(t:cG)(p:List (List Int)):Int:=if¬(kh t=0) then kh t else chkV t p
structure ux(n:Nat)(m:List Int):Prop where
 nd:m.Nodup
 rng:∀x∈m,0≤x∧x < (n:Int)
theorem ux.put{n:Nat}{m m':List Int}{x:Int}(h:ux n m)(e:iL n m x= .ok m'):m'=m++[x]∧ux n m'∧0≤x∧x < (n:Int):=by
 unfold iL at e;by_cases c:0≤x∧x≤(n:Int) - 1
 ·rw [if_neg (not_not_intro c)] at e;by_cases c1:x∈m
  ·rw [if_pos c1] at e;cases e
  ·rw [if_neg c1] at e;cases e;refine⟨rfl,⟨?_,fun y hy=>?_⟩,c.1,by omega⟩
   ·rw [List.nodup_append];exact⟨h.nd,by simp,fun a ha b hb=>by rw [List.mem_singleton] at hb;subst hb;exact fun e=>c1 (e▸ha)⟩
   ·rcases List.mem_append.1 hy with hy |hy
    ·exact h.rng y hy
    ·rw [List.mem_singleton] at hy;omega
 ·rw [if_pos c] at e;cases e
theorem ux.puts{n:Nat}:∀{l:List Int} {j:Nat} {m m':List Int},ux n m→ba (fun m _ x=>iL n m x) j l m= .ok m'→m'=m++l∧ux n m'∧∀x∈l,0≤x∧x < (n:Int)
 |[],_,m,m',h,e=>by simp only [ba] at e;cases e;exact⟨by simp,h,by simp⟩
 |x::l,j,m,m',h,e=>by
  rw [ba] at e
  cases e1:iL n m x with
  |error e'=>rw [e1] at e;cases e
  |ok m1=>
   rw [e1] at e
   obtain⟨rfl,h1,h2⟩:=h.put e1
   obtain⟨rfl,h3,h4⟩:=ux.puts h1 e
   refine⟨by simp,h3,fun y hy=>?_⟩
   rcases List.mem_cons.1 hy with rfl |hy
   ·
    exact h2
   ·
    exact h4 y hy
theorem wd:∀(n:Nat) (l:List Int),l.Nodup→(∀x∈l,0≤x∧x < (n:Int))→l.length≤n
 |0,l,_,h=>by
  cases l with
  |nil=>simp
  |cons x l=>have:=h x (by simp);omega
 |n+1,l,hn,h=>by
  have h1:=wd n (l.erase (n:Int)) (hn.erase _) (fun x hx=>by
   have h2:=(List.Nodup.mem_erase_iff hn).1 hx
   have:=h x h2.2
   have:=h2.1
   omega)
  have:l.length≤(l.erase (n:Int)).length+1:=by rw [List.length_erase];split <;> omega
  omega
theorem ux.len{n:Nat}{m:List Int}(h:ux n m):m.length≤n:=wd n m h.nd h.rng
theorem ux.full{n:Nat}{m:List Int}(h:ux n m):¬m.length < n↔∀i:Nat,i < n→(i:Int)∈m:=by
 constructor
 ·intro hl i hi;by_cases c:(i:Int)∈m
  ·exact c
  ·have:=wd n ((i:Int)::m) (List.nodup_cons.2 ⟨c,h.nd⟩) (fun x hx=>by
    rcases List.mem_cons.1 hx with rfl |hx
    ·omega
    ·exact h.rng x hx)
   simp only [List.length_cons] at this;omega
 ·intro ha hl
  have h1:((List.range n).map fun(i:Nat)=>(i:Int)).length≤m.length:=by
   have:∀(k:Nat) (q:List Int),(∀i:Nat,i < k→(i:Int)∈q)→k≤q.length:=by
    intro k
    induction k with
    |zero=>intros;omega
    |succ k ih=>
     intro q hq;have hk:=hq k (by omega);have h2:=ih (q.erase (k:Int)) (fun i hi=>(List.mem_erase_of_ne (by omega)).2 (hq i (by omega)));rw [List.length_erase,if_pos (by simpa using hk)] at h2;have:=List.length_pos_of_mem hk;omega
   have:=this n m ha;simpa using this
  simp at h1;omega
def jS(m:List Int):Int:=m.foldl (fun s x=>CU .u8 s (mA .u8 1 x)) 0
theorem Ag{m:List Int}{x:Int}:jS (m++[x])=CU .u8 (jS m) (mA .u8 1 x):=by
 unfold jS;rw [List.foldl_append];rfl
theorem Ah{m:List Int}(h:∀x∈m,0≤x∧x < 8):∀(s:Int),sS s→sS (m.foldl (fun s x=>CU .u8 s (mA .u8 1 x)) s)∧∀i:Nat,fO (m.foldl (fun s x=>CU .u8 s (mA .u8 1 x)) s) i↔fO s i∨(i:Int)∈m:=by
 induction m with
 |nil=>intro s hs;exact⟨hs,fun i=>by simp⟩
 |cons x m ih=>
  intro s hs;have hx:=h x (by simp);obtain⟨o1,o2⟩:=J4 hx.1 hx.2;obtain⟨p1,p2⟩:=Kv hs o1;obtain⟨q1,q2⟩:=ih (fun y hy=>h y (by simp [hy])) _ p1;refine⟨q1,fun i=>?_⟩;rw [List.foldl_cons,q2,p2,o2,List.mem_cons,or_assoc]
theorem yr{m:List Int}(h:∀x∈m,0≤x∧x < 8):sS (jS m)∧∀i:Nat,fO (jS m) i↔(i:Int)∈m:=by
 obtain⟨a,b⟩:=Ah h 0 ⟨by decide,by decide⟩;exact⟨a,fun i=>by rw [jS,b];simp [fO]⟩
theorem Ff{a b:Int}(ha:sS a)(hb:sS b)(h:∀i:Nat,fO a i↔fO b i):a=b:=by
 obtain⟨n,hn,rfl⟩:=nN ha;obtain⟨m,hm,rfl⟩:=nN hb;congr 1;refine Nat.eq_of_testBit_eq fun i=>?_;have:=h i;simp only [fO,Int.toNat_natCast] at this;exact Bool.eq_iff_iff.2 this
theorem Im:∀n:Nat,n≤5→sS (IntKind.u8.wrap ((mA .u8 1 (n:Int)) - 1))∧∀i:Nat,fO (IntKind.u8.wrap ((mA .u8 1 (n:Int)) - 1)) i↔i < n:=by
 have h1:∀n:Nat,n≤5→IntKind.u8.wrap ((mA .u8 1 (n:Int)) - 1)=((2 ^ n - 1:Nat):Int):=by decide
 intro n hn
 rw [h1 n hn];have h2:2 ^ n≤32:=Nat.pow_le_pow_right (by decide) hn;refine⟨⟨by omega,by omega⟩,fun i=>?_⟩;simp only [fO,Int.toNat_natCast,Nat.testBit_two_pow_sub_one,decide_eq_true_eq]
theorem FQ{n:Nat}{m:List Int}(hn:n≤5)(h:ux n m):jS m=IntKind.u8.wrap ((mA .u8 1 (n:Int)) - 1)↔¬m.length < n:=by
 have h8:∀x∈m,0≤x∧x < 8:=fun x hx=>by have:=h.rng x hx;omega
 obtain⟨a,b⟩:=yr h8;obtain⟨c,d⟩:=Im n hn;rw [h.full];constructor
 ·intro e i hi;rw [←b,e,d];exact hi
 ·intro hi;refine Ff a c fun i=>?_;rw [b,d];refine⟨fun hm=>?_,hi i⟩;have:=h.rng _ hm;omega
section
variable {k:Nat}{t:cG}
theorem Ky{k:Nat}{l:List Int}{x:Int}(hk:l.length < k)(hk1:k≤1000000):qq k l x=some (decide (x∈l)):=by
 unfold qq
 have:=nV (f:=g7 k l x) l (fun(_:Unit) j=>j) (fun _ _ y=>if y=x then Except.error true else .ok ()) (fun _ _=>True) (fun r=>some r)
  (fun n s j h _=>⟨by
   rw [g7,if_pos (Int.ofNat_lt.2 h),cX h,bs];by_cases c:l[j]=x
   ·rw [if_pos c,if_pos c]
   ·rw [if_neg c,if_neg c,cy (by omega) (by omega),bs],fun _ _=>trivial⟩)
  (fun n s _=>by rw [g7,if_neg (by omega)]) (s0:=()) (n:=k) hk trivial
 rw [show g7 k l x k 0=_ from this]
 have key:∀(l:List Int) (j:Nat),ba (fun(_:Unit) _ y=>if y=x then Except.error true else .ok ()) j l ()=if x∈l then .error true else .ok ():=by
  intro l
  induction l with
  |nil=>intro j;simp [ba]
  |cons y l ih=>
   intro j;rw [ba];by_cases c:y=x
   ·rw [if_pos c,if_pos (by simp [c])]
   ·rw [if_neg c];show ba _ (j+1) l ()=_;rw [ih];have:x∈y::l↔x∈l:=by simp [List.mem_cons,Ne.symm c]
    simp only [this]
 rw [key];by_cases c:x∈l
 ·rw [if_pos c,nu,decide_eq_true c]
 ·rw [if_neg c,oa,decide_eq_false c]
theorem xC{x:Int}(h0:0≤x)(h:x < (t.2.1.length:Int)):∃y,bb t.2.1 x=some y∧y∈t.2.1∧kx t x=y.1:=by
 have hx:x.toNat < t.2.1.length:=by omega
 refine⟨t.2.1[x.toNat],mZ h0 hx,List.getElem_mem hx,?_⟩;rw [kx,List.getElem?_eq_getElem hx]
theorem pC(g:pn t){x:Int}:0≤kx t x∧kx t x≤3:=by
 unfold kx;cases h:t.2.1[x.toNat]? with
 |none=>simp
 |some y=>have:=g.sizes y (List.mem_of_getElem? h);simp only;omega
theorem uZ(g:pn t):∀{l:List Int},0≤eW t l∧eW t l≤3 * (l.length:Int)
 |[]=>by simp [eW]
 |x::l=>by have:=pC g (x:=x);have:=uZ g (l:=l);simp only [eW,List.length_cons];omega
theorem BU{l l':List Int}:eW t (l++l')=eW t l+eW t l':=by
 induction l with
 |nil=>simp [eW]
 |cons x l ih=>simp only [List.cons_append,eW,ih];omega
theorem Ht(g:pn t)(hk1:k≤1000000){l:List Int}(hl:l.length < k)(hx:∀x∈l,0≤x∧x < (t.2.1.length:Int)):me k t l=some (eW t l):=by
 unfold me
 have:=FZ (f:=fR k t l) l (fun(s:Int) j=>(s,j)) (fun s _ x=>s+kx t x) (fun j s=>s=eW t (l.take j)) (fun s=>some s)
  (fun n s j h hp=>by
   have hm:=hx _ (List.getElem_mem h);obtain⟨y,h1,h2,h3⟩:=xC hm.1 hm.2;have hs:=uZ g (l:=l.take j);have ho:=pC g (x:=l[j]);rw [List.length_take] at hs;refine⟨?_,?_⟩
   ·rw [fR,if_pos (Int.ofNat_lt.2 h)];dsimp only;rw [cX h,bs,h1,bs,←h3,cy (by omega) (by omega),bs,cy (by omega) (by omega),bs]
   ·rw [List.take_add_one,List.getElem?_eq_getElem h,hp,Option.toList_some,BU];simp [eW])
  (fun n s _=>by rw [fR,if_neg (by omega)]) (s0:=0) (n:=k) hl (by simp [eW])
 obtain⟨h1,h2⟩:=this;rw [show fR k t l k (0,0)=_ from h1,bs,h2,List.take_length]
def q9(e:Int):Value:=.iface 118 (.agg #[.int .i64 e])
def QE(e:Int):Value:=if e=0 then .nilIface else q9 e
theorem EB{e:Int}(h:¬e=0):QE e=q9 e:=if_neg h
theorem HC(g:pn t)(hk1:k≤1000000){l m:List Int}(hl:l.length < k)(hm:ux t.2.1.length m):
 dL k t l k (jS m,0)=match ba (fun m _ x=>iL t.2.1.length m x) 0 l m with | .error e=>some (.error (q9 e)) | .ok m'=>some (.ok (jS m')):=
 nV (f:=dL k t l) l (fun m j=>(jS m,j)) (fun m _ x=>iL t.2.1.length m x) (fun _ m=>ux t.2.1.length m) (fun r=>match r with | .error e=>some (.error (q9 e)) | .ok m'=>some (.ok (jS m')))
  (fun n m j h hm=>⟨by
   have h5:=g.things
   rw [dL,if_pos (Int.ofNat_lt.2 h)]
   dsimp only
   rw [cX h,bs,cy (by omega) (by omega),bs,l8,bs]
   unfold iL
   by_cases c:0≤l[j]∧l[j]≤(t.2.1.length:Int) - 1
   ·
    rw [decide_eq_true c,nT,if_neg (not_not_intro c)]
    obtain⟨i,hi⟩:=Int.eq_ofNat_of_zero_le c.1
    have h8:∀x∈m,0≤x∧x < 8:=fun x hx=>by have:=hm.rng x hx;omega
    obtain⟨a,b⟩:=yr h8
    rw [hi,Kx a (by omega),bs]
    have hb:=b i
    by_cases c1:(i:Int)∈m
    ·
     rw [decide_eq_true (hb.2 c1),iT,if_pos c1];rfl
    ·
     rw [decide_eq_false (fun h=>c1 (hb.1 h)),iF,if_neg c1]
     unfold fV
     rw [hQ (by omega),bs,bs,cy (by omega) (by omega),bs]
     show _=dL k t l n (jS (m++[(i:Int)]),(j:Int)+1)
     rw [Ag]
   ·
    rw [decide_eq_false c,nF,if_pos (show¬(0≤l[j]∧l[j]≤(t.2.1.length:Int) - 1) from c)];rfl,fun m' e=>(hm.put e).2.1⟩)
  (fun n m _=>by rw [dL,if_neg (by omega)]) (s0:=m) (n:=k) hl hm
theorem zt(g:pn t)(hk1:k≤1000000){p:List (List Int)}(hp:p.length=t.2.2.length)(hpk:p.length < k)(hl:∀l∈p,l.length < k):
 eR k t p k (0,0)=match ba (eM t) 0 p [] with | .error e=>some (.error (q9 e)) | .ok m'=>some (.ok (jS m')):=
 nV (f:=eR k t p) p (fun m j=>(jS m,j)) (eM t) (fun _ m=>ux t.2.1.length m) (fun r=>match r with | .error e=>some (.error (q9 e)) | .ok m'=>some (.ok (jS m')))
  (fun n m j h hm=>by
   refine⟨?_,fun m' e=>?_⟩
   ·
    rw [eR,if_pos (Int.ofNat_lt.2 h)]
    dsimp only
    rw [cX h,bs,HC g hk1 (hl _ (List.getElem_mem h)) hm]
    unfold eM
    cases e:ba (fun m _ x=>iL t.2.1.length m x) 0 p[j] m with
    |error e'=>dsimp only;rw [nu,nu]
    |ok m'=>
     obtain⟨_,_,h3⟩:=hm.puts e
     have hj:j < t.2.2.length:=by omega
     dsimp only
     rw [oa,Ht g hk1 (hl _ (List.getElem_mem h)) h3,bs,cX hj,bs]
     have e2:t.2.2[j]?.getD 0=t.2.2[j]:=by rw [List.getElem?_eq_getElem hj];rfl
     rw [e2]
     by_cases c:t.2.2[j] < eW t p[j]
     ·
      rw [if_pos c,if_pos c,nu];rfl
     ·
      rw [if_neg c,if_neg c,oa,cy (by omega) (by omega),bs]
   ·
    unfold eM at e
    cases e1:ba (fun m _ x=>iL t.2.1.length m x) 0 p[j] m with
    |error e'=>rw [e1] at e;cases e
    |ok m1=>
     rw [e1] at e
     dsimp only at e
     split at e
     ·
      cases e
     ·
      cases e;exact(hm.puts e1).2.1)
  (fun n m _=>by rw [eR,if_neg (by omega)]) (s0:=[]) (n:=k) hpk ⟨by simp,by simp⟩
theorem A0{p:List (List Int)}{m':List Int}:∀{j:Nat} {m:List Int},ux t.2.1.length m→ba (eM t) j p m= .ok m'→m'=m++p.flatten∧ux t.2.1.length m'∧∀i (h:i < p.length),(∀x∈p[i],0≤x∧x < (t.2.1.length:Int))∧eW t p[i]≤t.2.2[j+i]?.getD 0:=by
 induction p with
 |nil=>intro j m hm e;simp only [ba] at e;cases e;exact⟨by simp,hm,fun i h=>by simp at h⟩
 |cons l p ih=>
  intro j m hm e;rw [ba] at e;cases e1:eM t m j l with
  |error e'=>rw [e1] at e;cases e
  |ok m1=>
   rw [e1] at e;unfold eM at e1;cases e2:ba (fun m _ x=>iL t.2.1.length m x) 0 l m with
   |error e'=>rw [e2] at e1;cases e1
   |ok m2=>
    rw [e2] at e1;dsimp only at e1;split at e1
    ·cases e1
    ·rename_i hs;cases e1;obtain⟨rfl,h3,h4⟩:=hm.puts e2;obtain⟨h5,h6,h7⟩:=ih h3 e;refine⟨by rw [h5];simp,h6,fun i hi=>?_⟩;cases i with
     |zero=>exact⟨h4,by simp only [List.getElem_cons_zero,Nat.add_zero];omega⟩
     |succ i=>
      have:=h7 i (by simpa using hi);have e3:j+1+i=j+(i+1):=by omega
      rw [e3] at this;exact this
theorem BI(g:pn t)(hk1:k≤1000000){p:List (List Int)}(hpk:3 < k)(hl:∀l∈p,l.length < k):
 kB k t p=some (QE (chkV t p)):=by
 unfold kB chkV
 by_cases c1:p.length < t.2.2.length
 ·
  rw [if_pos (show(p.length:Int) < (t.2.2.length:Int) by omega),if_pos c1];rfl
 ·
  rw [if_neg (show¬(p.length:Int) < (t.2.2.length:Int) by omega),if_neg c1];by_cases c2:t.2.2.length < p.length
  ·rw [if_pos (show(t.2.2.length:Int) < (p.length:Int) by omega),if_pos c2];rfl
  ·rw [if_neg (show¬(t.2.2.length:Int) < (p.length:Int) by omega),if_neg c2,zt g hk1 (by omega) (by have:=g.trunks;omega) hl]
   have hne:ba (eM t) 0 p []≠.error 0:=jV (fun m j l=>by
    unfold eM;have:=jV (g:=fun m _ x=>iL t.2.1.length m x) (fun m _ x=>by unfold iL;split;(· simp);(· split <;> simp)) l 0 m;cases e:ba (fun m _ x=>iL t.2.1.length m x) 0 l m with
    |error e'=>intro h;rw [e] at this;exact this h
    |ok m'=>dsimp only;split <;> simp) _ _ _
   cases e:ba (eM t) 0 p [] with
   |error e'=>
    rw [e] at hne;have h0:¬e'=0:=fun h=>hne (by rw [h]);dsimp only;rw [nu,EB h0]
   |ok m=>
    obtain⟨_,h3,_⟩:=A0 (t:=t) ⟨by simp,by simp⟩ e;dsimp only;rw [oa,hQ (by omega),bs];have:=FQ g.things h3;by_cases c3:m.length < t.2.1.length
    ·rw [if_pos (show¬jS m=_ from fun h=>this.1 h c3),if_pos c3];rfl
    ·rw [if_neg (show¬¬jS m=_ from fun h=>h (this.2 c3)),if_neg c3];rfl
theorem pR(h:jE k t)(hpk:3 < k){p:List (List Int)}(hl:∀l∈p,l.length < k):bV k t p=some (iu t p):=by
 unfold bV iu;rw [vF h,bs];by_cases c:kh t=0
 ·have g:=wC c;rw [if_neg (not_not_intro c),if_neg (not_not_intro c),BI g h.k1 hpk hl,bs];by_cases c1:chkV t p=0
  ·rw [c1];rfl
  ·rw [EB c1];rfl
 ·rw [if_pos c,if_pos c]
end
section
variable {k:Nat}{t:cG}
theorem Aj{x:Int}(h:t.2.1.length≤1000000):jQ k t x=some (decide (0≤x∧x≤(t.2.1.length:Int) - 1)):=by
 unfold jQ;rw [cy (by omega) (by omega),bs,mB,bs]
def xN(t:cG)(s:List Int×Int)(x:Int):Except Int (List Int×Int):=match iL t.2.1.length s.1 x with
 | .error e=>.error e
 | .ok m=>.ok (m,s.2+kx t x)
theorem xM:∀(l:List Int) (j:Nat) (m:List Int) (s:Int),ba (fun s _ x=>xN t s x) j l (m,s)=match ba (fun m _ x=>iL t.2.1.length m x) j l m with | .error e=>.error e | .ok m'=>.ok (m',s+eW t l)
 |[],j,m,s=>by simp [ba,eW]
 |x::l,j,m,s=>by
  rw [ba,ba]
  have e:xN t (m,s) x=match iL t.2.1.length m x with | .error e=>.error e | .ok m'=>.ok (m',s+kx t x):=rfl
  rw [e]
  cases iL t.2.1.length m x with
  |error e'=>rfl
  |ok m1=>
   dsimp only
   rw [xM l (j+1) m1 _]
   cases ba (fun m _ x=>iL t.2.1.length m x) (j+1) l m1 with
   |error e'=>rfl
   |ok m2=>simp only [eW,Int.add_assoc]
theorem HD(g:pn t)(hk:50≤k)(hk1:k≤1000000){p:List (List Int)}{i:Nat}(hi:i < p.length)(hl:p[i].length < k){m:List Int}(hm:ux t.2.1.length m):
 bS k t p (m,(i:Int)) k (m,0,0)=match ba (fun m _ x=>iL t.2.1.length m x) 0 p[i] m with | .error e=>some (.error e) | .ok m'=>some (.ok (m',eW t p[i])):=by
 have key:=nV (f:=bS k t p (m,(i:Int))) p[i] (fun(s:List Int×Int) j=>(s.1,s.2,j)) (fun s _ x=>xN t s x)
  (fun j s=>ux t.2.1.length s.1∧0≤s.2∧s.2≤3 * (j:Int)) (fun r=>match r with | .error e=>some (.error e) | .ok s=>some (.ok s))
  (fun n s j h hs=>by
   obtain⟨hm',hs0,hs1⟩:=hs;have hlen:=hm'.len;have h5:=g.things;have ho:=pC g (x:=p[i][j]);refine⟨?_,fun s' e=>?_⟩
   ·rw [bS];dsimp only;rw [cX hi,bs,if_pos (Int.ofNat_lt.2 h),bs,cX h,bs,Aj (by omega),bs];unfold xN iL;by_cases c:0≤p[i][j]∧p[i][j]≤(t.2.1.length:Int) - 1
    ·rw [decide_eq_true c,nT,if_neg (not_not_intro c),bs,cX h,bs,Ky (by omega) hk1,bs];by_cases c1:p[i][j]∈s.1
     ·rw [decide_eq_true c1,iT,if_pos c1]
     ·obtain⟨y,h1,h2,h3⟩:=xC (t:=t) (x:=p[i][j]) c.1 (by omega);rw [decide_eq_false c1,iF,if_neg c1,bs,cX h,bs,hQ (HE (by simp only [List.length_cons,List.length_nil];omega)),bs,bs,cX h,bs,h1,bs,←h3,cy (by omega) (by omega),bs,cy (by omega) (by omega),bs]
    ·rw [decide_eq_false c,nF,if_pos (show¬(0≤p[i][j]∧p[i][j]≤(t.2.1.length:Int) - 1) from c)]
   ·unfold xN at e;cases e1:iL t.2.1.length s.1 p[i][j] with
    |error e'=>rw [e1] at e;cases e
    |ok m1=>
     rw [e1] at e;cases e;exact⟨(hm'.put e1).2.1,by simp only;omega,by simp only;omega⟩)
  (fun n s _=>by
   rw [bS];dsimp only;rw [cX hi,bs,if_neg (by omega)]) (s0:=(m,0)) (n:=k) hl ⟨hm,by simp,by simp⟩
 rw [show bS k t p (m,(i:Int)) k (m,0,0)=_ from key,xM]
 cases ba (fun m _ x=>iL t.2.1.length m x) 0 p[i] m with
 |error e=>rfl
 |ok m'=>simp only [Int.zero_add]
theorem zu(g:pn t)(hk:50≤k)(hk1:k≤1000000){p:List (List Int)}(hp:p.length=t.2.2.length)(hl:∀l∈p,l.length < k):
 bZ k t p k ([],0)=some (ba (eM t) 0 p []):=
 nV (f:=bZ k t p) p (fun m j=>(m,j)) (eM t) (fun _ m=>ux t.2.1.length m) (fun r=>some r)
  (fun n m j h hm=>by
   have h3:=g.trunks
   refine⟨?_,fun m' e=>?_⟩
   ·
    rw [bZ,if_pos (Int.ofNat_lt.2 h)]
    dsimp only
    rw [HD g hk hk1 h (hl _ (List.getElem_mem h)) hm]
    unfold eM
    cases e:ba (fun m _ x=>iL t.2.1.length m x) 0 p[j] m with
    |error e'=>dsimp only;rw [nu,nu]
    |ok m'=>
     have hj:j < t.2.2.length:=by omega
     dsimp only
     rw [oa]
     dsimp only
     rw [cX hj,bs]
     have e2:t.2.2[j]?.getD 0=t.2.2[j]:=by rw [List.getElem?_eq_getElem hj];rfl
     rw [e2]
     by_cases c:t.2.2[j] < eW t p[j]
     ·
      rw [if_pos c,if_pos c,nu]
     ·
      rw [if_neg c,if_neg c,oa,cy (by omega) (by omega),bs]
   ·
    unfold eM at e
    cases e1:ba (fun m _ x=>iL t.2.1.length m x) 0 p[j] m with
    |error e'=>rw [e1] at e;cases e
    |ok m1=>
     rw [e1] at e
     dsimp only at e
     split at e
     ·
      cases e
     ·
      cases e;exact(hm.puts e1).2.1)
  (fun n m _=>by rw [bZ,if_neg (by omega)]) (s0:=[]) (n:=k) (by have:=g.trunks;omega) ⟨by simp,by simp⟩
theorem Az(h:jE k t)(hk:50≤k){p:List (List Int)}(hl:∀l∈p,l.length < k):fC k t p=some (iu t p):=by
 unfold fC iu;rw [Df h,bs];by_cases c:kh t=0
 ·have g:=wC c;rw [if_neg (not_not_intro c),if_neg (not_not_intro c)];unfold chkV;by_cases c1:p.length < t.2.2.length
  ·rw [if_pos (show(p.length:Int) < (t.2.2.length:Int) by omega),if_pos c1]
  ·rw [if_neg (show¬(p.length:Int) < (t.2.2.length:Int) by omega),if_neg c1];by_cases c2:t.2.2.length < p.length
   ·rw [if_pos (show(t.2.2.length:Int) < (p.length:Int) by omega),if_pos c2]
   ·rw [if_neg (show¬(t.2.2.length:Int) < (p.length:Int) by omega),if_neg c2,zu g hk h.k1 (by omega) hl];cases ba (eM t) 0 p [] with
    |error e=>rw [nu]
    |ok m=>
     rw [oa];by_cases c3:m.length < t.2.1.length
     ·rw [if_pos (show(m.length:Int) < (t.2.1.length:Int) by omega)];simp only [c3,if_true]
     ·rw [if_neg (show¬(m.length:Int) < (t.2.1.length:Int) by omega)];simp only [c3,if_false]
 ·rw [if_pos c,if_pos c]
structure lL(t:cG)(p:List (List Int)):Prop where
 g:pn t
 len:p.length=t.2.2.length
 nd:p.flatten.Nodup
 rng:∀x∈p.flatten,0≤x∧x < (t.2.1.length:Int)
 all:∀i:Nat,i < t.2.1.length→(i:Int)∈p.flatten
 room:∀i (h:i < p.length),eW t p[i]≤t.2.2[i]?.getD 0
theorem yC{p:List (List Int)}(h:iu t p=0):lL t p:=by
 unfold iu at h;by_cases c:kh t=0
 ·rw [if_neg (not_not_intro c)] at h;have g:=wC c;unfold chkV at h;by_cases c1:p.length < t.2.2.length
  ·rw [if_pos c1] at h;cases h
  ·rw [if_neg c1] at h;by_cases c2:t.2.2.length < p.length
   ·rw [if_pos c2] at h;cases h
   ·rw [if_neg c2] at h;cases e:ba (eM t) 0 p [] with
    |error e'=>
     exfalso;rw [e] at h
     have hne:ba (eM t) 0 p []≠.error 0:=jV (fun m j l=>by
      unfold eM;have:=jV (g:=fun m _ x=>iL t.2.1.length m x) (fun m _ x=>by unfold iL;split;(· simp);(· split <;> simp)) l 0 m;cases e:ba (fun m _ x=>iL t.2.1.length m x) 0 l m with
      |error e'=>intro h;rw [e] at this;exact this h
      |ok m'=>dsimp only;split <;> simp) _ _ _
     rw [e] at hne;exact hne (congrArg _ h)
    |ok m=>
     rw [e] at h;obtain⟨h3,h4,h5⟩:=A0 (t:=t) ⟨by simp,by simp⟩ e;rw [List.nil_append] at h3;subst h3;by_cases c3:p.flatten.length < t.2.1.length
     ·simp only [c3,if_true] at h;cases h
     ·exact⟨g,by omega,h4.nd,h4.rng,h4.full.1 c3,fun i hi=>by have:=(h5 i hi).2;rw [Nat.zero_add] at this;exact this⟩
 ·rw [if_pos c] at h;exact absurd h c
end
theorem Lo.mono{l:bK}{m n:Int}(h:Lo l m)(hn:m≤n):Lo l n:=⟨h.1,Int.le_trans h.2 hn⟩
theorem MU{α:Type}{l:List α}{x:α}{n:Nat}(h:l.length≤n)(hn:n≤1000000):bO (List.length l+List.length [x]):=by
 show List.length l+List.length [x]≤4294967296;simp only [List.length_cons,List.length_nil];omega
structure Dq(t:cG)(things trunks:Int):Prop where
 days:1≤t.1∧t.1≤4
 things:(t.2.1.length:Int)≤things
 item:∀x∈t.2.1,1≤x.1∧x.1≤3∧x.2.length≤4∧(∀d∈x.2,0≤d∧d < t.1)∧x.2.Pairwise (· < ·)
 trunks:1≤t.2.2.length∧(t.2.2.length:Int)≤trunks
 rooms:∀n∈t.2.2,0≤n∧n≤9
theorem wB{a b:Int}(ha:0≤a)(hb:0≤b):0≤o7 a b∧o7 a b≤a:=by
 unfold o7;split <;> omega
section
variable {k:Nat}
theorem He(hk:50≤k){r2:Int×bK}(hd:1≤r2.1∧r2.1≤4){l:bK}{m:Int}(hl:Lo l m)(hm:0≤m∧m≤1000):
 W (dU k r2 k (l.1,l.2.1,l.2.2,[],0)) fun r=>Lo (r.1,r.2.1,r.2.2.1) (m+4)∧r.2.2.2.length≤4∧(∀d∈r.2.2.2,0≤d∧d < r2.1)∧r.2.2.2.Pairwise (· < ·):=by
 refine W.loop (f:=dU k r2) (fun q y=>∃j:Nat,y.2.2.2.2=(j:Int)∧(j:Int)≤r2.1∧q=r2.1.toNat - j∧Lo (y.1,y.2.1,y.2.2.1) (m+j)∧y.2.2.2.1.length≤j∧(∀d∈y.2.2.2.1,0≤d∧d < (j:Int))∧y.2.2.2.1.Pairwise (· < ·)) ?_ r2.1.toNat k _ (by omega)
  ⟨0,rfl,by omega,by omega,by simpa using hl,by simp,by simp,by simp⟩
 rintro aO q ⟨a,b,c,o,y⟩ ⟨j,hj,hle,hq,hlo,hlen,hr,hpw⟩ ih
 simp only at hj hlo hlen hr hpw
 subst hj
 unfold dU
 dsimp only
 refine W.ite (fun hlt=>?_) (fun hge=>W.ret ⟨hlo.mono (by omega),by show o.length≤4;omega,fun d hd'=>by have:=hr d hd';omega,hpw⟩)
 obtain⟨r,er,hr'⟩:=AS (k:=k) (a:=2) hlo (by omega) (by decide) (by decide)
 rw [er,bs]
 cases hb:r.1 with
 |true=>
  rw [iT,hQ (MU hlen (by omega)),bs,bs,cy (by omega) (by omega),bs]
  exact ih (q - 1) _ (by omega) ⟨j+1,by show(j:Int)+1=((j+1:Nat):Int);omega,by omega,by omega,hr'.mono (by omega),by simp only [List.length_append,List.length_cons,List.length_nil];omega,fun d hd'=>by
   rcases List.mem_append.1 hd' with h |h
   ·have:=hr d h;omega
   ·rw [List.mem_singleton] at h;omega,by
   refine List.pairwise_append.2 ⟨hpw,by simp,fun a ha b hb=>?_⟩;rw [List.mem_singleton] at hb;have:=hr a ha;omega⟩
 |false=>
  rw [iF,bs,cy (by omega) (by omega),bs];exact ih (q - 1) _ (by omega) ⟨j+1,by show(j:Int)+1=((j+1:Nat):Int);omega,by omega,by omega,hr'.mono (by omega),by simp only;omega,fun d hd'=>by have:=hr d hd';omega,hpw⟩
theorem BO(hk:50≤k){r2:Int×bK}(hd:1≤r2.1∧r2.1≤4){l:bK}{m:Int}(hl:Lo l m)(hm:0≤m∧m≤100){n:Nat}(hn:n≤8):
 W (dV k r2 k (l.1,l.2.1,l.2.2,[],0,(n:Int))) fun r=>Lo (r.1,r.2.1,r.2.2.1) (m+50)∧r.2.2.2.1.length=n∧(∀x∈r.2.2.2.1,1≤x.1∧x.1≤3∧x.2.length≤4∧(∀d∈x.2,0≤d∧d < r2.1)∧x.2.Pairwise (· < ·))∧0≤r.2.2.2.2∧r.2.2.2.2≤30:=by
 refine W.loop (f:=dV k r2) (fun q y=>∃j:Nat,y.2.2.2.2.2=(n:Int) - (j:Int)∧j≤n∧q=n - j∧Lo (y.1,y.2.1,y.2.2.1) (m+5 * j)∧y.2.2.2.1.length=j∧(∀x∈y.2.2.2.1,1≤x.1∧x.1≤3∧x.2.length≤4∧(∀d∈x.2,0≤d∧d < r2.1)∧x.2.Pairwise (· < ·))∧0≤y.2.2.2.2.1∧y.2.2.2.2.1≤3 * j) ?_ n k _ (by omega)
  ⟨0,by simp,by omega,by omega,by simpa using hl,rfl,by simp,by simp,by simp⟩
 rintro aO q ⟨a,b,c,o,s,y⟩ ⟨j,hj,hle,hq,hlo,hlen,hx,hs0,hs1⟩ ih
 simp only at hj hlo hlen hx hs0 hs1
 subst hj
 unfold dV
 dsimp only
 refine W.ite (fun hlt=>?_) (fun hge=>W.ret ⟨hlo.mono (by omega),by show o.length=n;omega,hx,hs0,by show s≤30;omega⟩)
 obtain⟨r,er,hm1,hr⟩:=Jk (k:=k) (some_:=[1,1,1,2,3]) hlo (by omega) (by decide) (by decide)
 have hr3:1≤r.1∧r.1≤3:=by simp only [List.mem_cons,List.not_mem_nil,or_false] at hm1;omega
 rw [er,bs]
 obtain⟨w,ew,hw1,hw2,hw3,hw4⟩:=He hk hd (l:=r.2) hr (by omega)
 rw [show dU k r2 k (r.2.1,r.2.2.1,r.2.2.2,[],0)=some w from ew,bs,hQ (MU (n:=8) (by omega) (by omega)),bs,cy (by omega) (by omega),bs,bs,cy (by omega) (by omega),bs]
 refine ih (q - 1) _ (by omega) ⟨j+1,by show(n:Int) - (j:Int) - 1=(n:Int) - ((j+1:Nat):Int);omega,by omega,by omega,hw1.mono (by omega),by simp only [List.length_append,List.length_cons,List.length_nil];omega,fun x hx'=>?_,by show 0≤s+r.1;omega,by show s+r.1≤3 * ((j+1:Nat):Int);omega⟩
 rcases List.mem_append.1 hx' with h |h
 ·
  exact hx x h
 ·
  rw [List.mem_singleton] at h;subst h;exact⟨hr3.1,hr3.2,hw2,hw3,hw4⟩
theorem BN(hk:50≤k){x4:(List Int)×Int×Int×(List lg)×Int}(hs:0≤x4.2.2.2.2∧x4.2.2.2.2≤30){l:bK}{m:Int}(hl:Lo l m)(hm:0≤m∧m≤200){n:Nat}(hn:n≤8):
 W (dT k x4 k (l.1,l.2.1,l.2.2,[],(n:Int))) fun r=>Lo (r.1,r.2.1,r.2.2.1) (m+10)∧r.2.2.2.length=n∧(∀x∈r.2.2.2,0≤x∧x≤9):=by
 refine W.loop (f:=dT k x4) (fun q y=>∃j:Nat,y.2.2.2.2=(n:Int) - (j:Int)∧j≤n∧q=n - j∧Lo (y.1,y.2.1,y.2.2.1) (m+j)∧y.2.2.2.1.length=j∧(∀x∈y.2.2.2.1,0≤x∧x≤9)) ?_ n k _ (by omega)
  ⟨0,by simp,by omega,by omega,by simpa using hl,rfl,by simp⟩
 rintro aO q ⟨a,b,c,o,y⟩ ⟨j,hj,hle,hq,hlo,hlen,hx⟩ ih
 simp only at hj hlo hlen hx
 subst hj
 unfold dT
 dsimp only
 refine W.ite (fun hlt=>?_) (fun hge=>W.ret ⟨hlo.mono (by omega),by show o.length=n;omega,hx⟩)
 rw [cy (by omega) (by omega),bs]
 obtain⟨r,er,hm1,hr⟩:=Jk (k:=k) (some_:=[1,2,3,o7 9 x4.2.2.2.2,o7 9 (x4.2.2.2.2+1)]) hlo (by omega) (by simp) (by simp)
 have i1:=wB (a:=9) (b:=x4.2.2.2.2) (by decide) hs.1
 have i2:=wB (a:=9) (b:=x4.2.2.2.2+1) (by decide) (by omega)
 have hr3:0≤r.1∧r.1≤9:=by simp only [List.mem_cons,List.not_mem_nil,or_false] at hm1;omega
 rw [er,bs,hQ (MU (n:=8) (by omega) (by omega)),bs,cy (by omega) (by omega),bs]
 refine ih (q - 1) _ (by omega) ⟨j+1,by show(n:Int) - (j:Int) - 1=(n:Int) - ((j+1:Nat):Int);omega,by omega,by omega,hr.mono (by omega),by simp only [List.length_append,List.length_cons,List.length_nil];omega,fun x hx'=>?_⟩
 rcases List.mem_append.1 hx' with h |h
 ·
  exact hx x h
 ·
  rw [List.mem_singleton] at h;subst h;exact hr3
theorem Hn(hk:50≤k){l:bK}{m:Int}(hl:Lo l m)(hm:0≤m∧m≤50){a b:Nat}(ha:a≤8)(hb:1≤b∧b≤8):
 W (jx k l (a:Int) (b:Int)) fun r=>Dq r.1 a b∧Lo r.2 (m+100):=by
 unfold jx
 obtain⟨r,er,h1,h2,h3⟩:=FH (k:=k) (a:=1) (b:=4) hl (by omega) (by decide) (by decide) (by decide)
 rw [show dW k (l.1,l.2.1,l.2.2) 1 4=some r from er,bs]
 obtain⟨r6,e6,h61,h62,h63⟩:=FH (k:=k) (a:=0) (b:=(a:Int)) h3 (by omega) (by decide) (by omega) (by omega)
 rw [show dW k (r.2.1,r.2.2.1,r.2.2.2) 0 (a:Int)=some r6 from e6,bs]
 obtain⟨n,hn⟩:=Int.eq_ofNat_of_zero_le h61
 obtain⟨x4,e4,hl4,hlen4,hit,hs0,hs1⟩:=BO hk (r2:=r) ⟨h1,h2⟩ h63 (by omega) (n:=n) (by omega)
 rw [show dV k r k (r6.2.1,r6.2.2.1,r6.2.2.2,[],0,r6.1)=some x4 by rw [hn];exact e4,bs]
 obtain⟨r31,e31,h311,h312,h313⟩:=FH (k:=k) (a:=1) (b:=(b:Int)) hl4 (by omega) (by decide) (by omega) (by omega)
 rw [show dW k (x4.1,x4.2.1,x4.2.2.1) 1 (b:Int)=some r31 from e31,bs]
 obtain⟨n3,hn3⟩:=Int.eq_ofNat_of_zero_le (show 0≤r31.1 by omega)
 obtain⟨x29,e29,hl29,hlen29,hroom⟩:=BN hk (x4:=x4) ⟨hs0,hs1⟩ h313 (by omega) (n:=n3) (by omega)
 rw [show dT k x4 k (r31.2.1,r31.2.2.1,r31.2.2.2,[],r31.1)=some x29 by rw [hn3];exact e29,bs]
 obtain⟨r42,e42,h42⟩:=AS (k:=k) (a:=2) hl29 (by omega) (by decide) (by decide)
 rw [show fp k (x29.1,x29.2.1,x29.2.2.1) 2=some r42 from e42,bs]
 cases hb:r42.1 with
 |true=>
  have i1:=wB (a:=9) (b:=x4.2.2.2.2) (by decide) hs0;rw [iT,show bb x29.2.2.2 0=some (x29.2.2.2[0]'(by omega)) from cX (i:=0) (by omega),bs,bs];refine W.ret ⟨⟨⟨h1,h2⟩,by show(x4.2.2.2.1.length:Int)≤_;omega,hit,by simp only [List.length_set];omega,fun y hy=>?_⟩,h42.mono (by omega)⟩;rcases List.mem_or_eq_of_mem_set hy with h |h
  ·exact hroom y h
  ·omega
 |false=>
  rw [iF,bs];exact W.ret ⟨⟨⟨h1,h2⟩,by show(x4.2.2.2.1.length:Int)≤_;omega,hit,by simp only;omega,hroom⟩,h42.mono (by omega)⟩
theorem oM{α:Type}{g:Nat→α→Except Int Unit}:∀(l:List α) (i:Nat),(∀(j:Nat) (h:j < l.length),g (i+j) l[j]= .ok ())→ba (fun(_:Unit) j x=>g j x) i l ()= .ok ()
 |[],_,_=>rfl
 |x::l,i,h=>by
  have h0:g i x= .ok ():=h 0 (by simp)
  rw [ba,h0]
  exact oM l (i+1) fun j hj=>by
   have:=h (j+1) (by simp;omega)
   rw [show i+1+j=i+(j+1) by omega]
   exact this
theorem Dq.chk{t:cG}{a b:Int}(h:Dq t a b)(ha:a≤5)(hb:b≤3):kh t=0:=by
 have h1:=h.days;have h2:=h.things;have h3:=h.trunks;unfold kh
 rw [if_neg (not_not_intro (show 1≤t.1∧t.1≤6 by omega)),if_neg (show¬5 < t.2.1.length by omega),oM (g:=fun _ x=>jk t.1 x) t.2.1 0 (fun j hj=>by
  obtain⟨a1,a2,_,a4,a5⟩:=h.item _ (List.getElem_mem hj);show jk t.1 t.2.1[j]= .ok ();unfold jk;rw [if_neg (not_not_intro ⟨a1,a2⟩)];refine oM (g:=fun i y=>sR t.1 t.2.1[j].2 i y) _ 0 (fun i hi=>?_);have hd:=a4 _ (List.getElem_mem hi);rw [Nat.zero_add];unfold sR;rw [if_neg (not_not_intro (show 0≤t.2.1[j].2[i]∧t.2.1[j].2[i]≤t.1 - 1 by omega)),if_neg];rintro⟨h0,hle⟩;have:=List.pairwise_iff_getElem.1 a5 (i - 1) i (by omega) hi (by omega);rw [List.getElem?_eq_getElem (show i - 1 < t.2.1[j].2.length by omega),Option.getD_some] at hle;omega)]
 simp only [show¬t.2.2.length < 1 by omega,show¬3 < t.2.2.length by omega,if_false]
 rw [oM (g:=fun _ n=>kl n) t.2.2 0 (fun j hj=>by
  have:=h.rooms _ (List.getElem_mem hj);show kl t.2.2[j]= .ok ();unfold kl;rw [if_pos this])]
 rfl
end
section
variable {k:Nat}
theorem Fe(hk:50≤k){l:bK}{m:Int}{n:Nat}(hl:Lo l m)(hm:0≤m∧m≤1000)(hn:n≤8):W (fH k l (n:Int)) fun r=>Lo r.2 (m+10)∧r.1.length=n∧∀x∈r.1,0≤x∧x < (n:Int):=by
 unfold fH;refine W.bind (R:=fun r=>Lo (r.2.1,r.2.2.1,r.2.2.2) (m+10)∧r.1.length=n∧∀x∈r.1,0≤x∧x < (n:Int)) ?_ fun r h=>W.ret h
 refine W.loop (f:=dC k (n:Int)) (fun q y=>∃j:Nat,y.2.2.2.2=(j:Int)∧j≤n∧q=n - j∧Lo (y.1,y.2.1,y.2.2.1) (m+j)∧y.2.2.2.1.length=j∧∀x∈y.2.2.2.1,0≤x∧x < (n:Int)) ?_ n k _ (by omega)
  ⟨0,rfl,by omega,by omega,by simpa using hl,rfl,by simp⟩
 rintro aO q ⟨nums,d,s,o,y⟩ ⟨j,hj,hle,hq,hlo,hlen,hx⟩ ih;simp only at hj hlo hlen hx;subst hj;unfold dC;dsimp only;refine W.ite (fun hlt=>?_) (fun hge=>W.ret ⟨hlo.mono (by omega),by show o.length=n;omega,hx⟩);obtain⟨r5,e5,a5,b5,c5⟩:=pX (k:=k) (n:=(j:Int)) hlo (by omega) (by omega);have b5:=b5 (by omega);have ho:(o++[(j:Int)]).length=j+1:=by simp [hlen]
 have hr5:r5.1.toNat < (o++[(j:Int)]).length:=by omega
 have hmem:∀x∈o++[(j:Int)],0≤x∧x < (n:Int):=fun x hx'=>by
  rcases List.mem_append.1 hx' with h |h
  ·exact hx x h
  ·simp only [List.mem_singleton] at h;omega
 rw [e5,bs,hQ (MU (n:=8) (by omega) (by omega)),bs,mZ a5 hr5,bs,cX (by omega),bs];have hgs:bb (List.set (o++[(j:Int)]) (Int.toNat (j:Int)) (o++[(j:Int)])[r5.1.toNat]) r5.1=some ((List.set (o++[(j:Int)]) (Int.toNat (j:Int)) (o++[(j:Int)])[r5.1.toNat])[r5.1.toNat]'(by rw [List.length_set];exact hr5)):=mZ a5 (by rw [List.length_set];exact hr5);rw [hgs,bs,cy (by omega) (by omega),bs];refine ih (q - 1) (_,_,_,_,(j:Int)+1) (by omega) ⟨j+1,by show(j:Int)+1=((j+1:Nat):Int);omega,by omega,by omega,c5.mono (by omega),by simp [hlen],fun x hx'=>?_⟩;rcases List.mem_or_eq_of_mem_set hx' with h |h
 ·rcases List.mem_or_eq_of_mem_set h with h |h
  ·exact hmem x h
  ·subst h;exact hmem _ (List.getElem_mem hr5)
 ·subst h;omega
theorem G9{a b:Int}(ha:0≤a∧a≤1000000)(hb:0 < b∧b≤1000000):W (nO k a b) fun r=>0≤r∧r < b:=by
 unfold nO;have e1:Int.tmod a b=a % b:=Int.tmod_eq_emod_of_nonneg ha.1;have h1:=Int.emod_nonneg a (show b≠0 by omega);have h2:=Int.emod_lt_of_pos a hb.1;rw [hQ (show b≠0 by omega),bs,e1,cy (by omega) (by omega),bs,bs];have e2:Int.tmod (a % b+b) b=(a % b+b) % b:=Int.tmod_eq_emod_of_nonneg (by omega);rw [e2];exact W.ret ⟨Int.emod_nonneg _ (by omega),Int.emod_lt_of_pos _ hb.1⟩
structure Pk(N i:Nat)(room:List Int)(out:List (List Int)):Prop where
 rl:room.length=N
 ol:out.length=N
 rr:∀x∈room, -3 * (i:Int)≤x∧x≤9
 oo:∀l∈out,l.length≤i
theorem Pk.next{N i:Nat}{room:List Int}{out:List (List Int)}(h:Pk N i room out):Pk N (i+1) room out:=
 ⟨h.rl,h.ol,fun x hx=>by have:=h.rr x hx;omega,fun l hl=>by have:=h.oo l hl;omega⟩
theorem Es(hk:50≤k){t:cG}{a b:Int}(ht:Dq t a b){r7:(List Int)×bK}(h7:∀x∈r7.1,0≤x∧x < (t.2.1.length:Int))
 {y:(List Int)×Int×Int×(List Int)×Int×(List (List Int))} {i N:Nat} (hi:y.2.2.2.2.1=(i:Int)) (hil:i < r7.1.length) (hi8:i≤8) (hN:N≤8) (hp:Pk N i y.2.2.2.1 y.2.2.2.2.2)
 {r15:Int×bK} {m:Int} (h15:0≤r15.1∧r15.1≤100) (hlo:Lo r15.2 m):
 W (cO k t r7 y r15 k (0,y.2.2.2.2.2)) fun r=>Lo (r.1,r.2.1,r.2.2.1) m∧Pk N (i+1) r.2.2.2.1 r.2.2.2.2:=by
 refine W.loop (f:=cO k t r7 y r15) (fun q z=>∃j:Nat,z.1=(j:Int)∧j≤N∧q=N - j∧z.2=y.2.2.2.2.2) ?_ N k _ (by omega) ⟨0,rfl,by omega,by omega,rfl⟩
 rintro aO q ⟨z,o⟩ ⟨j,hj,hle,hq,ho⟩ ih
 simp only at hj ho
 subst hj ho
 have hrl:=hp.rl
 have hol:=hp.ol
 unfold cO
 dsimp only
 refine W.ite (fun hlt=>?_) (fun hge=>W.ret ⟨hlo,hp.next⟩)
 rw [cy (by omega) (by omega),bs]
 obtain⟨r19,e19,h190,h191⟩:=G9 (k:=k) (a:=r15.1+(j:Int)) (b:=(y.2.2.2.1.length:Int)) (by omega) (by omega)
 have hw:r19.toNat < y.2.2.2.1.length:=by omega
 have hx:=h7 _ (List.getElem_mem hil)
 have hx2:(r7.1[i]).toNat < t.2.1.length:=by omega
 have hsz:=ht.item _ (List.getElem_mem hx2)
 have hrr:=hp.rr _ (List.getElem_mem hw)
 rw [e19,bs,mZ h190 hw,bs,hi,cX hil,bs,mZ hx.1 hx2,bs]
 have put:W ((bb y.2.2.2.2.2 r19).bind fun x26=>(some r7.1[i]).bind fun x27=>(dh (bO (List.length x26+List.length [x27]))).bind fun _=>
  (some y.2.2.2.1[r19.toNat]).bind fun x30=>(some r7.1[i]).bind fun x31=>(bb t.2.1 x31).bind fun x32=>(ck (x30 - x32.1)).bind fun x33=>
  (some y.2.2.2.1[r19.toNat]).bind fun x35=>some (r15.2.1,r15.2.2.1,r15.2.2.2,List.set y.2.2.2.1 (Int.toNat r19) x33,List.set y.2.2.2.2.2 (Int.toNat r19) (x26++[x27])))
  fun r=>Lo (r.1,r.2.1,r.2.2.1) m∧Pk N (i+1) r.2.2.2.1 r.2.2.2.2:=by
  have hw2:r19.toNat < y.2.2.2.2.2.length:=by omega
  have hoo:=hp.oo _ (List.getElem_mem hw2);rw [mZ h190 hw2,bs,bs,hQ (MU (n:=8) (by omega) (by omega)),bs,bs,bs,mZ hx.1 hx2,bs,cy (by omega) (by omega),bs,bs];refine W.ret ⟨hlo,⟨by simp only [List.length_set];exact hrl,by simp only [List.length_set];exact hol,fun x hx=>?_,fun l hl=>?_⟩⟩
  ·rcases List.mem_or_eq_of_mem_set hx with h |h
   ·have:=hp.rr x h;omega
   ·omega
  ·rcases List.mem_or_eq_of_mem_set hl with h |h
   ·have:=hp.oo l h;omega
   ·subst h;simp only [List.length_append,List.length_cons,List.length_nil];omega
 refine W.iteB (fun c=>?_) (fun c=>?_)
 ·
  rw [bs,iT];exact put
 ·
  rw [cy (by omega) (by omega),bs,bs];dsimp only;by_cases c1:(j:Int)=(y.2.2.2.1.length:Int) - 1
  ·rw [decide_eq_true c1,iT];exact put
  ·rw [decide_eq_false c1,iF,cy (by omega) (by omega),bs];exact ih (q - 1) _ (by omega) ⟨j+1,by show(j:Int)+1=((j+1:Nat):Int);omega,by omega,by omega,rfl⟩
theorem zN(hk:50≤k){t:cG}{a b:Nat}(ht:Dq t a b)(ha:a≤8)(hb:b≤8){l:bK}{m:Int}(hl:Lo l m)(hm:0≤m∧m≤500):
 W (gq k l t) fun r=>r.1.length=t.2.2.length∧(∀x∈r.1,x.length≤8)∧Lo r.2 (m+20):=by
 have h1:=ht.things
 have h2:=ht.trunks
 unfold gq
 rw [hQ (by exact⟨by omega,HE (by omega)⟩),bs,hQ (HE (by simp only [List.length_nil];omega)),bs]
 obtain⟨r7,e7,hlo7,hlen7,hr7⟩:=Fe hk hl (by omega) (n:=t.2.1.length) (by omega)
 rw [show fH k (l.1,l.2.1,l.2.2) (t.2.1.length:Int)=some r7 from e7,bs]
 refine W.bind (R:=fun r=>Lo (r.1,r.2.1,r.2.2.1) (m+20)∧r.2.2.2.length=t.2.2.length∧∀x∈r.2.2.2,x.length≤8) ?_ fun r h=>W.ret ⟨h.2.1,h.2.2,h.1⟩
 refine W.loop (f:=d6 k t r7) (fun q y=>∃j:Nat,y.2.2.2.2.1=(j:Int)∧j≤r7.1.length∧q=r7.1.length - j∧Lo (y.1,y.2.1,y.2.2.1) (m+10+j)∧Pk t.2.2.length j y.2.2.2.1 y.2.2.2.2.2) ?_ r7.1.length k _ (by omega)
  ⟨0,rfl,by omega,by omega,by simpa using hlo7,⟨by simp,by simp,fun x hx=>by have:=ht.rooms x (by simpa using hx);omega,fun l hl=>by simp at hl;simp [hl.2]⟩⟩
 rintro aO q ⟨nums,d,s,room,y,o⟩ ⟨j,hj,hle,hq,hlo,hp⟩ ih
 simp only at hj hlo hp
 subst hj
 have hrl:=hp.rl
 unfold d6
 dsimp only
 refine W.ite (fun hlt=>?_) (fun hge=>W.ret ⟨hlo.mono (by omega),hp.ol,fun x hx=>by have:=hp.oo x hx;omega⟩)
 rw [cy (by omega) (by omega),bs]
 obtain⟨r15,e15,a15,b15,c15⟩:=pX (k:=k) (n:=(room.length:Int) - 1) hlo (by omega) (by omega)
 have b15:=b15 (by omega)
 rw [e15,bs]
 obtain⟨r,er,h3,h4⟩:=Es hk ht (r7:=r7) hr7 (y:=(nums,d,s,room,(j:Int),o)) (i:=j) (N:=t.2.2.length) rfl (by omega) (by omega) (by omega) hp (r15:=r15) ⟨a15,by omega⟩ c15
 rw [show cO k t r7 (nums,d,s,room,(j:Int),o) r15 k (0,o)=some r from er,bs,cy (by omega) (by omega),bs]
 exact ih (q - 1) _ (by omega) ⟨j+1,by show(j:Int)+1=((j+1:Nat):Int);omega,by omega,by omega,h3.mono (by omega),h4⟩
structure sH(t:cG)(p:List (List Int))(a:Int):Prop where
 kit:Dq t a 3
 len:p.length=t.2.2.length
 short:∀l∈p,l.length≤8
theorem Hr(hk:50≤k)(hk1:k≤1000000){l:bK}{m:Int}(hl:Lo l m)(hm:0≤m∧m≤10){a:Nat}(ha:a≤8):
 W (mt k l (a:Int)) fun r=>sH r.1 r.2.1 a∧r.2.2.1=decide (iu r.1 r.2.1=0)∧Lo r.2.2.2 (m+200):=by
 unfold mt
 obtain⟨r2,e2,ht,hl2⟩:=Hn hk hl (by omega) (a:=a) (b:=3) ha (by omega)
 rw [show jx k (l.1,l.2.1,l.2.2) (a:Int) 3=some r2 from e2,bs]
 obtain⟨r4,e4,h1,h2,h3⟩:=zN hk ht ha (by omega) hl2 (by omega)
 rw [show gq k (r2.2.1,r2.2.2.1,r2.2.2.2) r2.1=some r4 from e4,bs]
 have hs:jE k r2.1:=⟨hk1,by have:=ht.things;omega,fun x hx=>by have:=ht.item x hx;omega,by have:=ht.trunks;omega⟩
 rw [Az hs hk (fun l hl=>by have:=h2 l hl;omega),bs]
 exact W.ret ⟨⟨ht,h1,h2⟩,rfl,h3.mono (by omega)⟩
theorem sH.small{t:cG}{p:List (List Int)}{a:Nat}(h:sH t p a)(hk:50≤k)(hk1:k≤1000000)(ha:a≤8):jE k t:=
 ⟨hk1,by have:=h.kit.things;omega,fun x hx=>by have:=h.kit.item x hx;omega,by have:=h.kit.trunks;omega⟩
theorem sH.checkP{t:cG}{p:List (List Int)}{a:Nat}(h:sH t p a)(hk:50≤k)(hk1:k≤1000000)(ha:a≤8):bV k t p=some (iu t p):=
 pR (h.small hk hk1 ha) (by omega) fun l hl=>by have:=h.short l hl;omega
end
section
variable {k:Nat}
end
section
variable {k:Nat}
structure LV(p:List (List Int)):Prop where
 len:p.length≤3
 fit:∀l∈p,l.length≤5∧∀x∈l,0≤x∧x < 8
theorem LV.at{p:List (List Int)}(h:LV p)(i:Nat):(p[i]?.getD []).length≤5∧∀x∈p[i]?.getD [],0≤x∧x < 8:=by
 rcases Nat.lt_or_ge i p.length with hi |hi
 ·rw [List.getElem?_eq_getElem hi];exact h.fit _ (List.getElem_mem hi)
 ·rw [List.getElem?_eq_none hi];simp
theorem LV.next{p:List (List Int)}(h:LV p){w:Int→Bool}:LV (p.map (MZ w)):=
 ⟨by rw [List.length_map];exact h.len,fun l hl=>by
  obtain⟨q,hq,rfl⟩:=List.mem_map.1 hl
  have:=h.fit q hq
  exact⟨by rw [qA.length_eq];exact this.1,fun x hx=>this.2 x (qA.mem_iff.1 hx)⟩⟩
structure O3(k:Nat)(t:cG):Prop where
 k0:50≤k
 k1:k≤1000000
 things:t.2.1.length≤8
 worn:∀x∈t.2.1,x.2.length < k
theorem lL.fit{t:cG}{p:List (List Int)}(h:lL t p):LV p:=by
 have h5:=h.g.things;refine⟨by have:=h.len;have:=h.g.trunks;omega,fun l hl=>?_⟩;have hsub:∀x∈l,x∈p.flatten:=fun x hx=>List.mem_flatten.2 ⟨l,hl,hx⟩;have hnd:l.Nodup:=(List.pairwise_flatten.1 h.nd).1 l hl;have hr:∀x∈l,0≤x∧x < (t.2.1.length:Int):=fun x hx=>h.rng x (hsub x hx);have:=wd _ l hnd hr;exact⟨by omega,fun x hx=>by have:=hr x hx;omega⟩
end
section
variable {k:Nat}
def yM(t:cG)(d:Int)(p:List (List Int)):List (List Int):=p.map (MZ (Qy t d))
def Lx(t:cG)(p:List (List Int)):Nat→List (List Int)
 |0=>p
 |n+1=>yM t n (Lx t p n)
theorem zC{t:cG}{l l':List Int}(h:l.Perm l'):eW t l=eW t l':=by
 induction h with
 |nil=>rfl
 |cons x _ ih=>simp only [eW,ih]
 |swap x y l=>simp only [eW];omega
 |trans _ _ h1 h2=>rw [h1,h2]
theorem Dc{t:cG}{d:Int}{p:List (List Int)}:(yM t d p).flatten.Perm p.flatten:=by
 unfold yM
 induction p with
 |nil=>exact List.Perm.refl _
 |cons l p ih=>
  simp only [List.map_cons,List.flatten_cons];exact qA.append ih
theorem lL.next{t:cG}{d:Int}{p:List (List Int)}(h:lL t p):lL t (yM t d p):=by
 have hp:=Dc (t:=t) (d:=d) (p:=p);refine⟨h.g,by unfold yM;rw [List.length_map];exact h.len,hp.nodup_iff.2 h.nd,fun x hx=>h.rng x (hp.mem_iff.1 hx),fun i hi=>hp.mem_iff.2 (h.all i hi),fun i hi=>?_⟩;have hi':i < p.length:=by unfold yM at hi;rwa [List.length_map] at hi
 have e:(yM t d p)[i]=MZ (Qy t d) p[i]:=by simp only [yM,List.getElem_map]
 rw [e,zC qA];exact h.room i hi'
theorem lL.aft{t:cG}{p:List (List Int)}(h:lL t p):∀n,lL t (Lx t p n)
 |0=>h
 |n+1=>(h.aft n).next
theorem AT{n:Nat}:∀{l:List Int} {j:Nat} {m:List Int},(m++l).Nodup→(∀x∈l,0≤x∧x < (n:Int))→ba (fun m _ x=>iL n m x) j l m= .ok (m++l)
 |[],j,m,_,_=>by simp [ba]
 |x::l,j,m,hn,hr=>by
  have hx:=hr x (by simp)
  have hnm:x∉m:=fun h=>by
   rw [List.nodup_append] at hn
   exact hn.2.2 x h x (by simp) rfl
  have e:iL n m x= .ok (m++[x]):=by
   unfold iL;rw [if_neg (not_not_intro (show 0≤x∧x≤(n:Int) - 1 by omega)),if_neg hnm]
  rw [ba,e];show ba _ (j+1) l (m++[x])=_;rw [AT (by simpa using hn) (fun y hy=>hr y (by simp [hy]))];simp
theorem uT{t:cG}:∀{p:List (List Int)} {j:Nat} {m:List Int},(m++p.flatten).Nodup→(∀x∈p.flatten,0≤x∧x < (t.2.1.length:Int))→(∀i (h:i < p.length),eW t p[i]≤t.2.2[j+i]?.getD 0)→ba (eM t) j p m= .ok (m++p.flatten)
 |[],j,m,_,_,_=>by simp [ba]
 |l::p,j,m,hn,hr,hs=>by
  have h0:¬t.2.2[j]?.getD 0 < eW t l:=by have:=hs 0 (by simp);simp only [List.getElem_cons_zero,Nat.add_zero] at this;omega
  have e:eM t m j l= .ok (m++l):=by
   unfold eM;rw [AT (by rw [List.flatten_cons,←List.append_assoc] at hn;exact(List.nodup_append.1 hn).1) (fun x hx=>hr x (by simp [hx]))];exact if_neg h0
  rw [ba,e];show ba _ (j+1) p (m++l)=_
  rw [uT (by simpa using hn) (fun x hx=>hr x (by rw [List.flatten_cons];exact List.mem_append_right _ hx)) (fun i hi=>by
   have:=hs (i+1) (by simp;omega);have e3:j+1+i=j+(i+1):=by omega
   rw [e3];exact this)]
  simp
theorem lL.chkV{t:cG}{p:List (List Int)}(h:lL t p):chkV t p=0:=by
 unfold Go.Proofs.YtcnpijmfgfnpiaaGreatDoor.chkV;have hl:=h.len;have e:=uT (t:=t) (j:=0) (m:=[]) (by simpa using h.nd) h.rng (fun i hi=>by rw [Nat.zero_add];exact h.room i hi);rw [if_neg (by omega),if_neg (by omega),e,List.nil_append];have hm:ux t.2.1.length p.flatten:=⟨h.nd,h.rng⟩;simp only [hm.full.2 h.all,if_false]
theorem lL.chk{t:cG}{p:List (List Int)}(h:lL t p)(ht:kh t=0):iu t p=0:=by
 unfold iu;rw [if_neg (not_not_intro ht)];exact h.chkV
theorem IE{t:cG}{p:List (List Int)}(h:iu t p=0):kh t=0:=by
 unfold iu at h;by_cases c:kh t=0
 ·exact c
 ·rw [if_pos c] at h;exact h
structure At(k:Nat)(t:cG)(p:List (List Int)):Prop where
 small:jE k t
 dayT:O3 k t
 chk:iu t p=0
theorem At.good{t:cG}{p:List (List Int)}(h:At k t p):lL t p:=yC h.chk
theorem At.aft{t:cG}{p:List (List Int)}(h:At k t p)(n:Nat):At k t (Lx t p n):=⟨h.small,h.dayT,(h.good.aft n).chk (IE h.chk)⟩
theorem At.ok{t:cG}{p:List (List Int)}(h:At k t p):bV k t p=some 0:=by
 have:=h.dayT.k0;rw [pR h.small (by omega) (fun l hl=>by have:=(h.good.fit.fit l hl).1;omega),h.chk]
theorem sH.at{t:cG}{p:List (List Int)}{a:Nat}(h:sH t p a)(hk:50≤k)(hk1:k≤1000000)(ha:a≤8)(c:iu t p=0):At k t p:=by
 have hs:=h.small hk hk1 ha;exact⟨hs,⟨hk,hk1,by have:=(yC c).g.things;omega,hs.worn⟩,c⟩
end
section
variable {k:Nat}
end
section
variable {k:Nat}
theorem tz{l:List (List Int)}(h:l.length < k)(hk1:k≤1000000)(hx:∀x∈l,x.length < k):fo k l l=some true:=by
 unfold fo;rw [if_neg (by simp)]
 have hb:=W.loop (f:=dZ k l l) (Q:=fun o=>o= .ok ()) (fun q y=>∃j:Nat,y=(j:Int)∧j≤l.length∧q=l.length - j) (by
  rintro aO q y ⟨j,hj,hle,hq⟩ ih;subst hj;unfold dZ;refine W.ite (fun hlt=>?_) (fun hge=>W.ret rfl);have hj:j < l.length:=by omega
  have hs:ff k l[j] l[j]=some true:=by rw [xI (hx _ (List.getElem_mem hj)) (by have:=hx _ (List.getElem_mem hj);omega)];simp
  rw [cX hj,bs,bs,hs,bs,nT,cy (by omega) (by omega),bs];exact ih (q - 1) _ (by omega) ⟨j+1,by omega,by omega,by omega⟩) l.length k 0 h ⟨0,rfl,by omega,by omega⟩
 obtain⟨o,eo,rfl⟩:=hb;rw [eo,oa]
end
end Go.Proofs.YtcnpijmfgfnpiaaGreatDoor
set_option linter.unusedVariables false
namespace Go.Proofs.YtcnpijmfgfnpiaaGreatDoor
open K Go Go.Proofs
def dq(l:List Int):List Int:=l.map fun x=>97+x
def sT:List (List Int)→List Int
 |[]=>[]
 |l::ls=>dq l++ls.flatMap fun m=>47::dq m
theorem DL{p:List (List Int)}{l m:List Int}:sT ((p++[l])++[m])=sT (p++[l])++47::dq m:=by
 cases p with
 |nil=>simp [sT]
 |cons a p=>simp [sT]
theorem CO{l:List Int}{x:Int}:dq (l++[x])=dq l++[97+x]:=by simp [dq]
theorem Ha{p:List (List Int)}{m:List Int}{x:Int}:sT (p++[m++[x]])=sT (p++[m])++[97+x]:=by
 cases p with
 |nil=>simp [sT,dq]
 |cons a p=>simp [sT,dq]
def uG:List Int→List (List Int)→List Int→Except Int (List (List Int))
 |[],p,m=>.ok (p++[m])
 |b::bs,p,m=>if b=47 then uG bs (p++[m]) [] else if 97≤b∧b≤122 then uG bs p (m++[b - 97]) else .error 2
theorem DK:∀{bs:List Int} {p:List (List Int)} {m:List Int} {o:List (List Int)},uG bs p m= .ok o→sT o=sT (p++[m])++bs
 |[],p,m,o,h=>by
  have:p++[m]=o:=Except.ok.inj h
  rw [←this,List.append_nil]
 |b::bs,p,m,o,h=>by
  rw [uG] at h
  split at h
  ·
   rename_i e
   rw [DK h,DL,e]
   simp [dq]
  ·
   split at h
   ·
    rw [DK h,Ha,show 97+(b - 97)=b by omega]
    simp
   ·
    cases h
theorem zJ:∀{bs:List Int} {p:List (List Int)} {m:List Int} {o:List (List Int)},uG bs p m= .ok o→o.length≤p.length+1+bs.length∧∀l∈o,l∈p∨l.length≤m.length+bs.length
 |[],p,m,o,h=>by
  have:p++[m]=o:=Except.ok.inj h
  subst this
  refine⟨by simp,fun l hl=>?_⟩
  rcases List.mem_append.1 hl with hl |hl
  ·
   exact .inl hl
  ·
   rw [List.mem_singleton] at hl;subst hl;exact .inr (by simp)
 |b::bs,p,m,o,h=>by
  rw [uG] at h
  split at h
  ·
   obtain⟨h1,h2⟩:=zJ h
   simp only [List.length_append,List.length_cons,List.length_nil] at h1 h2⊢
   refine⟨by omega,fun l hl=>?_⟩
   rcases h2 l hl with h3 |h3
   ·
    rcases List.mem_append.1 h3 with h4 |h4
    ·
     exact .inl h4
    ·
     rw [List.mem_singleton] at h4;subst h4;exact .inr (by omega)
   ·
    exact .inr (by omega)
  ·
   split at h
   ·
    obtain⟨h1,h2⟩:=zJ h
    simp only [List.length_append,List.length_cons,List.length_nil] at h1 h2⊢
    refine⟨by omega,fun l hl=>?_⟩
    rcases h2 l hl with h3 |h3
    ·
     exact .inl h3
    ·
     exact .inr (by omega)
   ·
    cases h
theorem wb:∀{l:List Int} {bs:List Int} {p:List (List Int)} {m:List Int},(∀x∈l,0≤x∧x≤25)→uG (dq l++bs) p m=uG bs p (m++l)
 |[],bs,p,m,_=>by simp [dq]
 |x::l,bs,p,m,h=>by
  have hx:=h x (by simp)
  have e:dq (x::l)++bs=(97+x)::(dq l++bs):=rfl
  rw [e,uG,if_neg (by omega),if_pos (by omega),wb fun y hy=>h y (by simp [hy])]
  rw [show 97+x - 97=x by omega];simp
theorem AQ:∀{ls:List (List Int)} {p:List (List Int)} {m:List Int},(∀l∈ls,∀x∈l,0≤x∧x≤25)→uG (ls.flatMap fun m=>47::dq m) p m= .ok (p++[m]++ls)
 |[],p,m,_=>by simp [uG]
 |l::ls,p,m,h=>by
  have e:((l::ls).flatMap fun m=>47::dq m)=47::(dq l++ls.flatMap fun m=>47::dq m):=rfl
  rw [e,uG,if_pos rfl,wb (h l (by simp)),AQ fun l hl=>h l (by simp [hl])]
  simp
theorem MN{l:List Int}{ls:List (List Int)}(h:∀m∈l::ls,∀x∈m,0≤x∧x≤25):uG (sT (l::ls)) [] []= .ok (l::ls):=by
 rw [sT,wb (h l (by simp)),AQ fun m hm=>h m (by simp [hm])];simp
theorem rm{l:List Int}(h:∀x∈l,0≤x∧x < 256):iV (fY l)=l:=by
 unfold iV fY Lib.bytesOf;simp only [List.map_map];refine(List.map_congr_left fun x hx=>?_).trans (List.map_id l);have:=h x hx;simp only [Function.comp_apply,id];rw [UInt8.toNat_ofNat_of_lt' (by show x.toNat < 256;omega)];omega
theorem BQ{s:ByteArray}:fY (iV s)=s:=by
 unfold fY iV Lib.bytesOf;rw [List.map_map]
 have:s.data.toList.map ((fun n:Int=>UInt8.ofNat n.toNat) ∘ fun b:UInt8=>(b.toNat:Int))=s.data.toList:=by
  refine(List.map_congr_left fun x _=>?_).trans (List.map_id _);simp
 rw [this]
theorem oy{l:List Int}:(fY l).size=l.length:=by
 show(Lib.bytesOf l).toArray.size=_;simp [Lib.bytesOf]
theorem Hq{s:ByteArray}{p:Nat}(h:p < s.size):(iV s).drop p=((s.get! p).toNat:Int)::(iV s).drop (p+1):=by
 have hl:p < (iV s).length:=by rw [lC];exact h
 rw [List.drop_eq_getElem_cons hl];congr 1;have hd:p < s.data.size:=h
 have e:s.get! p=s.data[p]:=by
  show s.data[p]! =_;rw [getElem!_pos s.data p hd]
 simp only [iV,List.getElem_map,Array.getElem_toList,e]
theorem Aw{s:ByteArray}{p:Nat}(h:128≤(s.get! p).toNat):128≤(Utf8.decode s p).1:=by
 unfold Utf8.decode;simp only [Nat.add_zero];rw [if_neg (by omega)];have hr:128≤Utf8.runeError:=by decide
 split
 ·split
  ·assumption
  ·exact hr
 ·split
  ·split
   ·rename_i h1;simp only [Bool.and_eq_true,decide_eq_true_eq] at h1;show 128≤_;omega
   ·exact hr
  ·split
   ·split
    ·rename_i h1;simp only [Bool.and_eq_true,decide_eq_true_eq] at h1;show 128≤_;omega
    ·exact hr
   ·exact hr
theorem wM{s:ByteArray}{p:Nat}(h:(s.get! p).toNat < 128):Utf8.decode s p=((s.get! p).toNat,1):=by
 unfold Utf8.decode;simp only [Nat.add_zero];rw [if_pos h]
theorem ta{n:Int}(h1: -2147483648≤n)(h2:n < 2147483648):IntKind.i32.wrap n=n:=by
 have e:IntKind.i32.wrap n=if n % 4294967296≥2147483648 then n % 4294967296 - 4294967296 else n % 4294967296:=by
  simp [IntKind.wrap,IntKind.signed,IntKind.bits]
 rw [e];split <;> omega
section
variable {k:Nat}
theorem H4{p:List (List Int)}{m:List Int}:bb (p++[m]) ((((p++[m]).length:Nat):Int) - 1)=some m:=by
 rw [show(((p++[m]).length:Nat):Int) - 1=((p.length:Nat):Int) by simp];rw [cX (by simp)];simp
theorem FA{p:List (List Int)}{m m':List Int}:List.set (p++[m]) (Int.toNat ((((p++[m]).length:Nat):Int) - 1)) m'=p++[m']:=by
 rw [show Int.toNat ((((p++[m]).length:Nat):Int) - 1)=p.length by simp];rw [List.set_append_right _ _ (Nat.le_refl _),Nat.sub_self];rfl
theorem rE{s:ByteArray}(hs:s.size≤20):∀(n q:Nat) (p:List (List Int)) (m:List Int),q≤s.size→s.size - q < n→p.length≤q→m.length≤q→
 gV k (.string s) n (q,p++[m])=match uG ((iV s).drop q) p m with | .error e=>some (.error ([],e)) | .ok o=>some (.ok (s.size,o))
 |0,q,p,m,_,h,_,_=>by omega
 |n+1,q,p,m,hq,h,hp,hm=>by
  unfold gV
  rw [show j9 (Value.string s)=s from rfl]
  dsimp only
  by_cases c:q < s.size
  ·
   rw [if_pos c,Hq c,uG]
   by_cases c1:(s.get! q).toNat < 128
   ·
    rw [wM c1]
    dsimp only
    by_cases c2:((s.get! q).toNat:Int)=47
    ·
     rw [if_pos c2,if_pos c2,hQ (HE (by simp only [List.length_append,List.length_cons,List.length_nil];omega)),bs]
     exact rE hs n (q+1) (p++[m]) [] (by omega) (by omega) (by simp;omega) (by simp)
    ·
     rw [if_neg c2,if_neg c2]
     by_cases c3:(97:Int)≤((s.get! q).toNat:Int)
     ·
      rw [if_pos c3,bs]
      by_cases c4:((s.get! q).toNat:Int)≤122
      ·
       have hw:IntKind.i32.wrap (((s.get! q).toNat:Int) - 97)=((s.get! q).toNat:Int) - 97:=ta (by omega) (by omega)
       rw [if_pos (decide_eq_true c4),if_pos ⟨c3,c4⟩,cy (by simp only [List.length_append,List.length_cons,List.length_nil];omega) (by simp only [List.length_append,List.length_cons,List.length_nil];omega),bs,H4,bs,hw,cy (by omega) (by omega),bs,hQ (HE (by simp only [List.length_cons,List.length_nil];omega)),bs,FA]
       exact rE hs n (q+1) p (m++[((s.get! q).toNat:Int) - 97]) (by omega) (by omega) (by omega) (by simp;omega)
      ·
       rw [if_neg (by simpa using c4),if_neg (by omega)]
     ·
      rw [if_neg c3,bs,iF,if_neg (by omega)]
   ·
    have hb:=Aw (s:=s) (p:=q) (by omega)
    have d1:¬((Utf8.decode s q).1:Int)=47:=by omega
    have d2:¬((s.get! q).toNat:Int)=47:=by omega
    have d3:(97:Int)≤((Utf8.decode s q).1:Int):=by omega
    have d4:¬((Utf8.decode s q).1:Int)≤122:=by omega
    have d5:¬(97≤((s.get! q).toNat:Int)∧((s.get! q).toNat:Int)≤122):=by omega
    rw [if_neg d1,if_neg d2,if_pos d3,bs,decide_eq_false d4,iF,if_neg d5]
  ·
   have:q=s.size:=by omega
   subst this
   rw [if_neg c,List.drop_eq_nil_of_le (by rw [lC];exact Nat.le_refl _),uG]
def sx(t:cG)(s:ByteArray):List (List Int)×Int:=
 if 20 < s.size then([],10) else match uG (iV s) [] [] with
  | .error e=>([],e)
  | .ok o=>if iu t o=0 then(o,0) else([],iu t o)
theorem Bl{t:cG}{a:Nat}(hs:jE k t)(hT:kh t=0)(hk:50≤k)(hk1:k≤1000000)(s:ByteArray):mf k t (.string s)=some (sx t s):=by
 unfold mf sx;rw [vF hs,bs,hT,if_neg (not_not_intro rfl),hQ (show ir (.string s)=true from rfl),bs,show j9 (Value.string s)=s from rfl];by_cases c:20 < s.size
 ·rw [if_pos (by omega),if_pos c]
 ·rw [if_neg (by omega),if_neg c];have h:=rE (k:=k) (s:=s) (by omega) k 0 [] [] (by omega) (by omega) (by simp) (by simp);rw [List.nil_append,List.drop_zero] at h;rw [h,bs];cases e:uG (iV s) [] [] with
  |error x=>rw [nu]
  |ok o=>
   dsimp only;obtain⟨h1,h2⟩:=zJ e;rw [lC] at h1 h2
   have hl:∀l∈o,l.length < k:=fun l hl=>by
    rcases h2 l hl with h3 |h3
    ·cases h3
    ·simp only [List.length_nil] at h3;omega
   rw [oa,pR hs (by omega) hl,bs];by_cases c:iu t o=0
   ·rw [if_neg (not_not_intro c),if_pos c]
   ·rw [if_pos c,if_neg c]
theorem Hy{x:Int}(h:0≤x∧x≤25):iZ x=97+x:=by
 unfold iZ;rw [ta (n:=x) (by omega) (by omega),ta (by omega) (by omega)]
theorem BE{xs:List Int}(hx:∀x∈xs,0≤x∧x≤25)(hl:xs.length≤20)(hk:50≤k):fW xs k (0,[])=some (dq xs):=by
 have hb:=W.loop (f:=fW xs) (Q:=fun o=>o=dq xs) (fun q y=>∃j:Nat,y.1=(j:Int)∧j≤xs.length∧q=xs.length - j∧y.2=dq (xs.take j)) (by
  rintro aO q ⟨y,o⟩ ⟨j,hj,hle,hq,ho⟩ ih;simp only at hj ho;subst hj ho;unfold fW;dsimp only;refine W.ite (fun hlt=>?_) (fun hge=>W.ret ?_)
  ·have hj:j < xs.length:=by omega
   have hr:=Hy (hx _ (List.getElem_mem hj));have hxj:=hx _ (List.getElem_mem hj);rw [cX hj,bs,hr,if_pos ⟨by omega,by omega,by show(dq (xs.take j)).length+1≤_;unfold dq;rw [List.length_map,List.length_take];omega⟩,cy (by omega) (by omega),bs];refine ih (q - 1) ((j:Int)+1,_) (by omega) ⟨j+1,by show(j:Int)+1=((j+1:Nat):Int);omega,by omega,by omega,?_⟩;rw [List.take_add_one,List.getElem?_eq_getElem hj];exact CO.symm
  ·rw [List.take_of_length_le (by omega)]) xs.length k (0,[]) (by omega) ⟨0,rfl,by omega,by omega,rfl⟩
 obtain⟨o,eo,h⟩:=hb;rw [eo,h]
theorem zl{p:List (List Int)}(hx:∀l∈p,(∀x∈l,0≤x∧x≤25)∧l.length≤20)(hl:p.length≤20)(hk:50≤k):eT k p k (0,[])=some (p.map fun l=>fY (dq l)):=by
 have hb:=W.loop (f:=eT k p) (Q:=fun o=>o=p.map fun l=>fY (dq l)) (fun q y=>∃j:Nat,y.1=(j:Int)∧j≤p.length∧q=p.length - j∧y.2=(p.take j).map fun l=>fY (dq l)) (by
  rintro aO q ⟨y,o⟩ ⟨j,hj,hle,hq,ho⟩ ih;simp only at hj ho;subst hj ho;unfold eT;dsimp only;refine W.ite (fun hlt=>?_) (fun hge=>W.ret ?_)
  ·have hj:j < p.length:=by omega
   have hxj:=hx _ (List.getElem_mem hj);rw [cX hj,bs,BE hxj.1 hxj.2 hk,bs,if_pos (by show((p.take j).map _).length+1≤_;rw [List.length_map,List.length_take];omega),cy (by omega) (by omega),bs];refine ih (q - 1) ((j:Int)+1,_) (by omega) ⟨j+1,by show(j:Int)+1=((j+1:Nat):Int);omega,by omega,by omega,?_⟩;rw [List.take_add_one,List.getElem?_eq_getElem hj,List.map_append];rfl
  ·rw [List.take_of_length_le (by omega)]) p.length k (0,[]) (by omega) ⟨0,rfl,by omega,by omega,rfl⟩
 obtain⟨o,eo,h⟩:=hb;rw [eo,h]
theorem FD{ss:List ByteArray}(hs:∀s∈ss,s.size≤20)(hl:ss.length≤20)(hk:50≤k){n0:Int}(h0:0≤n0∧n0≤100):W (iK ss k (0,n0)) fun n=>n0≤n∧n≤n0+400:=by
 refine W.loop (f:=iK ss) (fun q y=>∃j:Nat,y.1=(j:Int)∧j≤ss.length∧q=ss.length - j∧n0≤y.2∧y.2≤n0+20 * (j:Int)) ?_ ss.length k (0,n0) (by omega) ⟨0,rfl,by omega,by omega,by omega,by omega⟩;rintro aO q ⟨y,z⟩ ⟨j,hj,hle,hq,h1,h2⟩ ih;simp only at hj h1 h2;subst hj;unfold iK;dsimp only;refine W.ite (fun hlt=>?_) (fun hge=>W.ret ⟨h1,by show z≤_;omega⟩);have hj:j < ss.length:=by omega
 have hsj:=hs _ (List.getElem_mem hj);rw [cX hj,bs,cy (by omega) (by omega),bs,if_neg (by omega),cy (by omega) (by omega),bs,cy (by omega) (by omega),bs];exact ih (q - 1) ((j:Int)+1,_) (by omega) ⟨j+1,by show(j:Int)+1=((j+1:Nat):Int);omega,by omega,by omega,by show n0≤z+_;omega,by show z+_≤_;omega⟩
theorem Ai{ls:List (List Int)}(hx:∀l∈ls,(∀x∈l,0≤x∧x≤25)∧l.length≤20)(hl:ls.length≤20)(hk:50≤k){b0:List Int}(h0:b0.length≤100):
 gY (ls.map fun l=>fY (dq l)) ⟨#[47]⟩ k (0,b0)=some (b0++ls.flatMap fun m=>47::dq m):=by
 have hb:=W.loop (f:=gY (ls.map fun l=>fY (dq l)) ⟨#[47]⟩) (Q:=fun o=>o=b0++ls.flatMap fun m=>47::dq m) (fun q y=>∃j:Nat,y.1=(j:Int)∧j≤ls.length∧q=ls.length - j∧y.2=b0++(ls.take j).flatMap (fun m=>47::dq m)∧y.2.length≤100+21 * j) (by
  rintro aO q ⟨y,o⟩ ⟨j,hj,hle,hq,ho,hlen⟩ ih;simp only at hj ho hlen;subst hj;unfold gY;dsimp only;rw [List.length_map];refine W.ite (fun hlt=>?_) (fun hge=>W.ret ?_)
  ·have hj:j < ls.length:=by omega
   have hxj:=hx _ (List.getElem_mem hj)
   have hg:bb (ls.map fun l=>fY (dq l)) (j:Int)=some (fY (dq ls[j])):=by
    rw [cX (by rw [List.length_map];exact hj),List.getElem_map]
   have hc:iV (⟨#[47]⟩:ByteArray)=[47]:=rfl;have hll:(dq ls[j]).length≤20:=by unfold dq;rw [List.length_map];exact hxj.2
   have hb:iV (fY (dq ls[j]))=dq ls[j]:=rm fun x hx'=>by
    obtain⟨y,hy,rfl⟩:=List.mem_map.1 hx';have:=hxj.1 y hy;omega
   rw [hg,bs,hc,hb,oy,if_pos ⟨HE (by show o.length+1≤_;omega),HE (by rw [List.length_append];simp only [List.length_cons,List.length_nil];omega)⟩,cy (by omega) (by omega),bs];refine ih (q - 1) ((j:Int)+1,_) (by omega) ⟨j+1,by show(j:Int)+1=((j+1:Nat):Int);omega,by omega,by omega,?_,by simp only [List.length_append,List.length_cons,List.length_nil];omega⟩;simp only [ho];rw [List.take_add_one,List.getElem?_eq_getElem hj,List.flatMap_append];simp
  ·rw [ho,List.take_of_length_le (by omega)]) ls.length k (0,b0) (by omega) ⟨0,rfl,by omega,by omega,by simp,by simpa using h0⟩
 obtain⟨o,eo,h⟩:=hb
 rw [eo,h]
theorem yX{t:cG}{p:List (List Int)}(h:At k t p):gi k t p=some (.string (fY (sT p)),0):=by
 have hk:=h.dayT.k0;have hg:=h.good;have h5:=hg.g.things;have h3:=hg.g.trunks;have hlen:=hg.len;have hx:∀l∈p,(∀x∈l,0≤x∧x≤25)∧l.length≤20:=fun l hl=>⟨fun x hx=>by have:=hg.rng x (List.mem_flatten.2 ⟨l,hl,hx⟩);omega,by have:=(hg.fit.fit l hl).1;omega⟩;unfold gi;rw [h.ok,bs,if_neg (not_not_intro rfl),zl hx (by omega) hk,bs]
 have hsz:∀s∈p.map (fun l=>fY (dq l)),s.size≤20:=fun s hs=>by
  obtain⟨l,hl,rfl⟩:=List.mem_map.1 hs;rw [oy];unfold dq;rw [List.length_map];exact(hx l hl).2
 match p,hlen,hx,hsz with
 |[],hlen,_,_=>simp at hlen;omega
 |[l],hlen,hx,hsz=>
  unfold ox;rw [if_pos ⟨rfl,by show 1≤_;decide⟩,if_neg (by simp),if_pos (by simp)];show((some (fY (dq l))).bind _:Option _)=_;rw [bs];simp [sT]
 |l::m::ls,hlen,hx,hsz=>
  have hp:(l::m::ls).length≤3:=by omega
  simp only [List.length_cons] at hp;unfold ox;obtain⟨n,en,n1,n2⟩:=FD (k:=k) (ss:=(l::m::ls).map fun l=>fY (dq l)) hsz (by rw [List.length_map];simp only [List.length_cons];omega) hk (n0:=(((l::m::ls).map fun l=>fY (dq l)).length:Int) - 1) (by rw [List.length_map];simp only [List.length_cons];omega);have hll:(dq l).length≤20:=by unfold dq;rw [List.length_map];exact(hx l (by simp)).2
  have hb:iV (fY (dq l))=dq l:=rm fun x hx'=>by
   obtain⟨y,hy,rfl⟩:=List.mem_map.1 hx';have:=(hx l (by simp)).1 y hy;omega
  have hd:((l::m::ls).map fun l=>fY (dq l)).drop 1=(m::ls).map fun l=>fY (dq l):=rfl;have hlm:(((l::m::ls).map fun l=>fY (dq l)).length:Int)=((ls.length+2:Nat):Int):=by rw [List.length_map];rfl
  rw [if_pos ⟨rfl,HE (by rw [List.length_map];simp only [List.length_cons];omega)⟩,if_neg (by rw [hlm];omega),if_neg (by rw [hlm];omega),en,bs,if_pos (by rw [hlm] at n1 n2;omega)];show((((some (fY (dq l))).bind _:Option _)).bind _:Option _)=_;rw [bs,if_pos (HE (by rw [oy];omega)),hd,hb,Ai (fun l' hl'=>hx l' (List.mem_cons_of_mem _ hl')) (by simp only [List.length_cons];omega) hk (by omega),bs,if_neg (by simp),bs];rfl
end
end Go.Proofs.YtcnpijmfgfnpiaaGreatDoor
