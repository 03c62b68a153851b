import Derived.Test.YtcnpijmfgfnpiaaGreatDoorB5
import Derived.Test.YtcnpijmfgfnpiaaGreatDoorB6
import Derived.Test.YtcnpijmfgfnpiaaGreatDoorF2
set_option linter.unusedSimpArgs false
set_option linter.unusedVariables false
namespace Go.Proofs.YtcnpijmfgfnpiaaGreatDoor
namespace K
open Go Go.ChangeShapes Go.WideShapes Go.ChangeAt Go.RowKit
@[reducible] def jq:Ty→Bool
 | .int _=>true
 | .bool=>true
 | .pair a b=>jq a && jq b
 | .agg t=>jq t
 | .arr _ t=>jq t
 | .slice t=>jq t && Nat.blt 0 t.cells
 |_=>false
def vX:Value→Bool
 | .iface _ _=>true
 |_=>false
theorem t6{α:Type}{R:α→List Value→Prop}(h:∀x cs,R x cs→∀v∈cs,vX v=false):∀{l:List α} {cs:List Value},cT R l cs→∀v∈cs,vX v=false
 |[],_,e=>by simp [cT] at e;simp [e]
 |_::_,_,⟨c1,c2,e,h1,h2⟩=>by
  subst e
  intro v hv
  rcases List.mem_append.1 hv with hv |hv
  ·
   exact h _ _ h1 v hv
  ·
   exact t6 h h2 v hv
theorem Nv{S:FS}{w:World}(t:Ty):∀{x:t.den} {cs:List Value},jq t=true→rd S w t x cs→∀v∈cs,vX v=false:=by
 induction t with
 |int k=>intro x cs _ h v hv;simp only [rd] at h;subst h;simp at hv;subst hv;rfl
 |bool=>intro x cs _ h v hv;simp only [rd] at h;subst h;simp at hv;subst hv;rfl
 |pair a b iha ihb=>
  rintro x cs hp ⟨c1,c2,rfl,h1,h2⟩ v hv;simp [jq] at hp;rcases List.mem_append.1 hv with hv |hv
  ·exact iha hp.1 h1 v hv
  ·exact ihb hp.2 h2 v hv
 |agg t ih=>intro x cs hp h;exact ih hp h
 |arr n t ih=>intro l cs hp h;exact t6 (fun _ _ h=>ih hp h) h.2
 |slice t ih=>
  intro l cs hp h v hv;rcases h with⟨a,cap,rfl,_⟩ |⟨b,off,cap,c,T,fz,rfl,_⟩ <;> (simp at hv;subst hv;rfl)
 |_=>intro x cs hp;cases hp
theorem Il{S:FS}{w:World}{b0:Nat}{c0:Array Value}{T0:TypeId}{fz0:Nat×Nat}(h0:w.heap[b0]? =some (.cells c0 T0 fz0))(hc:∀v∈c0.toList,vX v=true)(t:Ty):
 ∀{x:t.den} {cs:List Value},jq t=true→rd S w t x cs→rd (fun b=>S b∧b≠b0) w t x cs:=by
 induction t with
 |int k=>intro x cs _ h;exact h
 |bool=>intro x cs _ h;exact h
 |pair a b iha ihb=>
  rintro x cs hp ⟨c1,c2,rfl,h1,h2⟩;simp [jq] at hp;exact⟨c1,c2,rfl,iha hp.1 h1,ihb hp.2 h2⟩
 |agg t ih=>intro x cs hp h;exact ih hp h
 |arr n t ih=>intro l cs hp h;exact⟨h.1,bB (fun _ _ h=>ih hp h) h.2⟩
 |slice t ih=>
  intro l cs hp h;have hp1:jq t=true:=by simp [jq] at hp;exact hp.1
  have hp2:0 < t.cells:=by simp [jq] at hp;exact hp.2
  rcases h with h |⟨b,off,cap,c,T,fz,rfl,hle,hS,hb,hr⟩
  ·exact .inl h
  ·by_cases hl:l=[]
   ·subst hl;exact .inl ⟨_,cap,rfl,rfl⟩
   ·refine .inr ⟨b,off,cap,c,T,fz,rfl,hle,⟨hS,fun e=>?_⟩,hb,bB (fun _ _ h=>ih hp1 h) hr⟩;subst e;rw [h0] at hb;cases hb;have hlen:=gQ (fun _ _ h=>aJ t h) hr;have hno:=t6 (fun _ _ h=>Nv t hp1 h) hr;have hpos:0 < l.length:=List.length_pos_iff.2 hl;have:0 < ((c0.toList.drop off).take (l.length * t.cells)).length:=by rw [hlen];exact Nat.mul_pos hpos hp2
    obtain⟨v,hv⟩:=List.exists_mem_of_length_pos this;have h1:=hno v hv;have h2:=hc v (List.mem_of_mem_drop (List.mem_of_mem_take hv));rw [h1] at h2;cases h2
 |_=>intro x cs hp;cases hp
theorem wu{S:FS}{w:World}{b0:Nat}{c0:Array Value}{T0:TypeId}{fz0:Nat×Nat}(h0:w.heap[b0]? =some (.cells c0 T0 fz0))(hc:∀v∈c0.toList,vX v=true):
 ∀{ts:List (TypeId×Ty)} {uz:List A} {vs:List Value},(∀p∈ts,jq p.2=true)→Lk ts uz→fW S w uz vs→fW (fun b=>S b∧b≠b0) w uz vs
 |[],uz,vs,_,hl,h=>by
  have hl:uz=[]:=hl
  subst hl
  exact h
 |p::ts,uz,vs,hp,hl,h=>by
  obtain⟨d,uz',rfl,hl'⟩:=hl
  obtain⟨v,vs',e,⟨cs,hr,hv⟩,h2⟩:=h
  exact⟨v,vs',e,⟨cs,Il h0 hc p.2 (hp p (by simp)) hr,hv⟩,wu h0 hc (fun q hq=>hp q (by simp [hq])) hl' h2⟩
section
variable {H:Type}{enc:TypeId×Value→H}{P:Program}
theorem zB{M:Md P}{f:Nat}{fn:Func}{B:TypeId}{s:ChangeSpec}{b0:Nat}{c0:Array Value}{T0:TypeId}{p0:Obj→Prop}(hp0:∀o,p0 o↔o= .cells c0 T0 (0,0))(hc0:∀v∈c0.toList,vX v=true)
 (ts:List (TypeId×Ty)) (hpl:∀p∈ts,jq p.2=true) (hp:fn.params.toList=ts.map (·.1)) (hr:fn.resultTypes= #[B]) (hB:P.underlying B=some .bool)
 (hm:∀p∈ts,MT P p.2 (.inl p.1)) (laid:laidOutB P=true) (hT:∀T∈ts.map (·.1),P.readableRec T=true∧T < P.types.size)
 (hs:∀ds:List (DataW H),ds.length=ts.length→s.fn H ds={ results:=[.lit (.bool true)],args:=ds }) (hv:s.vars=[])
 (law:∀uz,Lk ts uz→dx M f uz [.inv b0 p0] (fun _:Unit=>(bp [.eq (.bool true)],[.inv b0 p0])))
 (W:World) (base:Nat) (args:Array Value) (ds gs:List (DataW H)) (before:List MemPlace) (hb0:W.heap[b0]? =some (.cells c0 T0 (0,0)))
 (hval:∀(j:Nat) t v,fn.params[j]? =some t→args[j]? =some v→Value.okWide P W .any base t v)
 (hW:DataW.Whole enc P fn.params.toList s.vars false W args.toList ds gs before):
 mz M .normal f args (vw W) fun e W'=>∃v,e= .returned v∧∀v1,bS W' v1→s.post enc P fn false true false false W args v v1.toWorld:=by
 have hW':=hW
 obtain⟨p,q,hA,hV,rfl,_,_⟩:=hW
 rw [hv] at hV
 obtain⟨rfl,rfl⟩:=trodVars_none hV
 have hlt:∀x∈p,x.block < W.heap.size:=hA.lt
 have hlen:=yh hA
 rw [hp,List.length_map] at hlen
 rw [hp] at hA
 obtain⟨uz,hL,h2⟩:=B0 (S:=fun b=>b < W.heap.size) (base:=base) hm (fun j t v h1 h2=>hval j t v (by rw [←hp] at h1;simpa using h1) (by simpa using h2)) hA hlt
 have h3:=wu hb0 hc0 hpl hL h2
 have hlt0:b0 < W.heap.size:=(Array.getElem?_eq_some_iff.1 hb0).1
 have hft:∀b,ay [D.inv b0 p0] b↔b=b0:=fun b=>by
  rw [dr];exact⟨fun h=>(Option.some.inj h).symm,fun h=>by rw [h];rfl⟩
 have hO:aX [.inv b0 p0] (fun b=>b < W.heap.size∧b≠b0) (vw W):=by
  refine⟨fun d hd=>?_,fun b hb=>?_,List.pairwise_singleton _ _,fun b _=>⟨fun h=>h,fun h=>h⟩,fun _ _ h=>h,fun _ h=>h.elim,fun _ h=>h.elim⟩
  ·simp at hd;subst hd;exact⟨_,hb0,(hp0 _).2 rfl⟩
  ·rw [hft] at hb;subst hb;exact⟨fun h=>h.2 rfl,hlt0⟩
 have:=law uz hL .normal (fun e=>nomatch e) (fun b=>b < W.heap.size∧b≠b0) (vw W) args.toList (fun _ h=>h.1) h3 hO
 rw [Array.toArray_toList] at this
 refine this.mono ?_
 rintro e' W' ⟨_,S',v,rfl,h1,h2,h4,_⟩
 obtain rfl:v= .bool true:=h2
 refine⟨_,rfl,fun v1 hrel=>?_⟩
 have h5:=h4.rely h1.dom hrel
 replace h1:=h1.trans (bL.rely (X:=ay [D.inv b0 p0]) h1.dom hrel) fun b hb=>.inl hb
 obtain⟨o1,k0,k0'⟩:=h5.holds _ (List.mem_singleton.2 rfl)
 rw [(hp0 _).1 k0'] at k0
 have h6:bL (ay []) (fun b=>b < W.heap.size∧b≠b0) (vw W) S' v1:=by
  refine⟨h1.sub,fun b hb=>(h1.new b hb).imp id (Or.imp id fun hx=>absurd hb (h5.own b hx).1),h1.dom,h1.size,fun b hb ha hx=>?_,h1.os,h1.tape,h1.output,h1.subA,h1.oldA,h1.Z⟩;by_cases e:b=b0
  ·subst e;exact k0.trans hb0.symm
  ·exact h1.keep b hb ha (fun h=>e ((hft b).1 h))
 obtain⟨k1,k2⟩:=C4 (may:=(· ∈p++[])) h6
 have hk:∀b,b < W.heap.size→v1.heap[b]? =W.heap[b]? :=fun b hb=>h6.keep b hb (fun hx=>hx) (fun hx=>fa hx)
 refine E4 (pa:=p) (pv:=[]) hW' (fun _ _ _=>?_) (fun sp hsp=>?_) (fun _ _=>?_) rfl k1 k2 (ok_one hr rfl (okWide_bool_mk hB _))
 ·
  rw [hr,List.append_nil,hs ds hlen];exact trodAll_mk1 (shut_bool hB _)
 ·
  rw [hp,List.append_nil,hs ds hlen];exact zG laid hk hT hA (fun x hx=>⟨hlt x hx,hsp x (by simpa using hx)⟩)
 ·
  rw [hv,List.append_nil,hs ds hlen];rfl
end
section
open Go.Conc
variable {H:Type}{enc:TypeId×Value→H}
theorem xe{a:Assume}{C:Checked}{os:Os}{f:FuncId}{fn:Func}{s:ChangeSpec}{conds:List PathCond}{apart fresh handsOn again:Bool}{X:World→Prop}
 (hX:∀(w w':World),w.heap=w'.heap→X w→X w') (own:ownKnob C.prog.godebug=none) (started:os.Started) (hfn:C.prog.funcs[f]? =some fn)
 (witness:∃(w:World) (tape:Tape) (i:Input),w.os=os∧(w.forCall tape i).Shaped C.prog∧i.vars=[]∧Input.okWide C.prog (w.forCall tape i) .any w.heap.size f i∧
  ((s.pre enc C.prog fn conds apart (w.forCall tape i).memory i.args∧X (w.forCall tape i).memory)∧sizedMet enc C.prog fn (OpenSpec.ofChange s) apart (w.forCall tape i).memory i.args)∧a.holds C.prog (lone (Frame.enter C.prog f i.args .normal) [] (w.forCall tape i)))
 (runs:∀(W:World) (base:Nat) (args:Array Value) (ds gs:List (DataW H)) (before:List MemPlace),W.ShapedOpen C.prog→
  (∀(j:Nat) t v,fn.params[j]? =some t→args[j]? =some v→Value.okWide C.prog W .any base t v)→
  DataW.Whole enc C.prog fn.params.toList s.vars apart W args.toList ds gs before→X W→
  a.holds C.prog (lone (Frame.enter C.prog f args .normal) [] W)→
  ∃M last o w' t',runNT C.prog (M+1) (solo (Conc.G (Frame.enter C.prog f args .normal) []) W) #[]=(.ended o w',t')∧runN C.prog M (solo (Conc.G (Frame.enter C.prog f args .normal) []) W)= .next last∧
   step C.prog last= .ended o w'∧Conc.Good C.prog (fun v W'=>s.post enc C.prog fn apart fresh handsOn again W args v W') last o w' t'):
 ReturnsInLeavingWide a C os f .any (fun w args=>(s.pre enc C.prog fn conds apart w args∧X w)∧sizedMet enc C.prog fn (OpenSpec.ofChange s) apart w args) (s.post enc C.prog fn apart fresh handsOn again):=by
 refine returnsInLeavingWide_of_good own started witness ?_
 intro w tape i _ hsh _ hok hpre hholds
 obtain⟨_,_,_,fn',hfn',_,_,_,_,hval⟩:=hok
 obtain rfl:fn'=fn:=Option.some.inj (hfn'.symm.trans hfn)
 obtain⟨⟨⟨ds,gs,before,hw,_⟩,hx⟩,_⟩:=hpre
 obtain⟨M,last,o,w',t',h1,h2,h3,h4⟩:=runs (w.forCall tape i) w.heap.size i.args ds gs before hsh hval (DataW.Whole.of_heap (w':=w.forCall tape i) (by rfl) hw) (hX _ _ (by rfl) hx) hholds
 exact⟨M,last,o,w',t',h1,h2,h3,h4.mono fun v hp=>ChangeSpec.post_blind hp⟩
end
end K
end Go.Proofs.YtcnpijmfgfnpiaaGreatDoor
namespace Go.Proofs.YtcnpijmfgfnpiaaGreatDoor
open K Go Go.Proofs
def W{α:Type}(x:Option α)(Q:α→Prop):Prop:=∃a,x=some a∧Q a
namespace W
variable {α β ε:Type}{Q:β→Prop}
theorem ret{a:β}(h:Q a):W (some a) Q:=⟨a,rfl,h⟩
theorem mono{x:Option β}{R:β→Prop}(h:W x R)(hq:∀a,R a→Q a):W x Q:=let ⟨a,e,r⟩:=h;⟨a,e,hq a r⟩
theorem bind{x:Option α}{f:α→Option β}{R:α→Prop}(h:W x R)(hf:∀a,R a→W (f a) Q):W (x.bind f) Q:=by
 obtain⟨a,rfl,r⟩:=h;exact hf a r
theorem ck{n:Int}{f:Int→Option β}(h1: -9223372036854775808≤n)(h2:n≤9223372036854775807)(hf:W (f n) Q):W ((K.ck n).bind f) Q:=by
 rw [K.ck,if_pos ⟨h1,h2⟩];exact hf
theorem chk{p:Prop}[Decidable p]{f:Unit→Option β}(h:p)(hf:W (f ()) Q):W ((dT p).bind f) Q:=by
 rw [dT,if_pos h];exact hf
theorem at_{l:List α}{i:Int}{f:α→Option β}(h0:0≤i)(h1:i < l.length)(hf:∀x,l[i.toNat]? =some x→W (f x) Q):W ((aZ l i).bind f) Q:=by
 have:i.toNat < l.length:=by omega
 rw [aZ,if_pos h0,List.getElem?_eq_getElem this];exact hf _ (List.getElem?_eq_getElem this)
theorem ite{p:Prop}[Decidable p]{a b:Option β}(h1:p→W a Q)(h2:¬p→W b Q):W (if p then a else b) Q:=by
 split
 ·exact h1 ‹_›
 ·exact h2 ‹_›
theorem iteB{p:Prop}[Decidable p]{a b:Option α}{f:α→Option β}(h1:p→W (a.bind f) Q)(h2:¬p→W (b.bind f) Q):W ((if p then a else b).bind f) Q:=by
 split
 ·exact h1 ‹_›
 ·exact h2 ‹_›
theorem loop{T:Type}{f:Nat→T→Option β}(I:Nat→T→Prop)(step:∀aQ m y,I m y→(∀m' y',m' < m→I m' y'→W (f aQ y') Q)→W (f (aQ+1) y) Q):∀m aQ y,m < aQ→I m y→W (f aQ y) Q:=by
 intro m
 induction m using Nat.strongRecOn with
 |_ m ih=>
  intro aQ y hm hI;cases aQ with
  |zero=>omega
  |succ aQ=>exact step aQ m y hI fun m' y' h hI'=>ih m' h aQ y' (by omega) hI'
end W
theorem wrap_u64(n:Int):0≤IntKind.u64.wrap n∧IntKind.u64.wrap n < 18446744073709551616:=by
 have h1:=Int.emod_nonneg n (show(18446744073709551616:Int)≠0 by decide);have h2:=Int.emod_lt_of_pos n (show(0:Int) < 18446744073709551616 by decide)
 have e:IntKind.u64.wrap n=n % 18446744073709551616:=by
  simp [IntKind.wrap,IntKind.signed,IntKind.bits]
 rw [e];exact⟨h1,h2⟩
theorem xX{n:Int}(h0:0≤n)(h1:n < 18446744073709551616):IntKind.u64.wrap n=n:=by
 have e:IntKind.u64.wrap n=n % 18446744073709551616:=by
  simp [IntKind.wrap,IntKind.signed,IntKind.bits]
 rw [e];exact Int.emod_eq_of_lt h0 h1
def Lo(l:bI)(m:Int):Prop:=0≤l.2.1∧l.2.1≤m
theorem IG{k:Nat}{l:bI}{m:Int}(h:Lo l m)(hm:m≤1000000000):W (iJ k l) fun r=>0≤r.1∧r.1 < 72057594037927936∧Lo r.2 (m+1):=by
 obtain⟨h0,h1⟩:=h;unfold iJ
 have fin:∀x:Int,W ((K.ck (l.2.1+1)).bind fun x4=>some (ig .u64 (qj .u64 (IntKind.u64.wrap ((qj .u64 x (ig .u64 x (29:Int))) * (2685821657736338717:Int))) (ig .u64 (IntKind.u64.wrap ((qj .u64 x (ig .u64 x (29:Int))) * (2685821657736338717:Int))) (32:Int))) (8:Int),(l.1,x4,x)))
  fun r=>0≤r.1∧r.1 < 72057594037927936∧Lo r.2 (m+1):=fun x=>by
  refine W.ck (by omega) (by omega) (W.ret ?_)
  generalize IntKind.u64.wrap ((qj .u64 x (ig .u64 x (29:Int))) * (2685821657736338717:Int))=y
  have hx:0≤qj .u64 y (ig .u64 y 32)∧qj .u64 y (ig .u64 y 32) < 18446744073709551616:=wrap_u64 _
  have e:ig .u64 (qj .u64 y (ig .u64 y 32)) 8=(qj .u64 y (ig .u64 y 32)) / 256:=by
   unfold ig;rw [Int.fdiv_eq_ediv_of_nonneg _ (by decide)];rfl
  refine⟨?_,?_,?_,?_⟩
  ·
   show 0≤ig .u64 (qj .u64 y (ig .u64 y 32)) 8;rw [e];omega
  ·
   show ig .u64 (qj .u64 y (ig .u64 y 32)) 8 < _;rw [e];omega
  ·
   show 0≤l.2.1+1;omega
  ·
   show l.2.1+1≤m+1;omega
 refine W.iteB (fun hlt=>?_) (fun _=>fin _);cases hg:aZ l.1 l.2.1 with
 |some v=>exact fin _
 |none=>
  exfalso;have:l.2.1.toNat < l.1.length:=by omega
  rw [aZ,if_pos h0,List.getElem?_eq_getElem this] at hg;cases hg
theorem qC{k:Nat}{l:bI}{m n:Int}(h:Lo l m)(hm:m≤1000000000)(hn:n≤1000000000):W (dK k l n) fun r=>0≤r.1∧(0≤n→r.1≤n)∧Lo r.2 (m+1):=by
 unfold dK;refine W.ite (fun h1=>W.ret ⟨Int.le_refl 0,fun h=>h,h.1,by show l.2.1≤m+1;have:=h.2;omega⟩) (fun h1=>?_);refine W.bind (IG h hm) fun r hr=>?_;refine W.ck (by omega) (by omega) ?_;have e:IntKind.u64.wrap (n+1)=n+1:=xX (by omega) (by omega);refine W.chk (by rw [e];omega) ?_;rw [e];have h2:Int.tmod r.1 (n+1)=r.1 % (n+1):=Int.tmod_eq_emod_of_nonneg hr.1;have h3:=Int.emod_nonneg r.1 (show n+1≠0 by omega);have h4:=Int.emod_lt_of_pos r.1 (show 0 < n+1 by omega);rw [h2];refine W.ck (by omega) (by omega) (W.ret ⟨h3,fun _=>by show r.1 % (n+1)≤n;omega,hr.2.2⟩)
theorem Gx{k:Nat}{l:bI}{m a b:Int}(h:Lo l m)(hm:m≤1000000000)(ha:0≤a)(hab:a≤b)(hb:b≤1000000):W (eQ k l a b) fun r=>a≤r.1∧r.1≤b∧Lo r.2 (m+1):=by
 unfold eQ;refine W.ck (by omega) (by omega) (W.bind (qC h hm (by omega)) fun r hr=>?_);have:=hr.2.1 (by omega);refine W.ck (by omega) (by omega) (W.ret ⟨by show a≤a+r.1;omega,by show a+r.1≤b;omega,hr.2.2⟩)
theorem Bz{k:Nat}{l:bI}{m a:Int}(h:Lo l m)(hm:m≤1000000000)(ha:0≤a)(hb:a≤1000000):W (fQ k l a) fun r=>Lo r.2 (m+1):=by
 unfold fQ;exact W.ck (by omega) (by omega) (W.bind (qC h hm (by omega)) fun r hr=>W.ret hr.2.2)
theorem J0{k:Nat}{l:bI}{m:Int}{some_:List Int}(h:Lo l m)(hm:m≤1000000000)(h0:0 < some_.length)(h1:some_.length≤1000000):W (jf k l some_) fun r=>r.1∈some_∧Lo r.2 (m+1):=by
 unfold jf;refine W.ck (by omega) (by omega) (W.bind (qC h hm (by omega)) fun r hr=>?_);have:=hr.2.1 (by omega);refine W.at_ hr.1 (by omega) fun x hx=>W.ret ⟨List.mem_of_getElem? hx,hr.2.2⟩
theorem ct{α:Type}{l:List α}{i:Nat}(h:i < l.length):aZ l (i:Int)=some l[i]:=by
 rw [aZ,if_pos (by omega)];exact List.getElem?_eq_getElem h
section
variable {α β γ ε σ T:Type}
theorem bs{a:α}{f:α→Option β}:(some a).bind f=f a:=by cases h:f a <;> simp [h]
theorem bz{n:Int}(h1: -9223372036854775808≤n)(h2:n≤9223372036854775807):K.ck n=some n:=by rw [K.ck,if_pos ⟨h1,h2⟩]
theorem dj{p:Prop}[Decidable p](h:p):dT p=some ():=by rw [dT,if_pos h]
theorem nq{l:List α}{i:Int}(h0:0≤i)(h:i.toNat < l.length):aZ l i=some l[i.toNat]:=by rw [aZ,if_pos h0];exact List.getElem?_eq_getElem h
theorem AZ{l:List α}{i:Int}{x:α}(h0:0≤i)(h:l[i.toNat]? =some x):aZ l i=some x:=by rw [aZ,if_pos h0];exact h
theorem m4{a:α}{g:ε→Option β}{f:α→Option β}:K.bE (some (.ok a)) g f=f a:=by cases h:f a <;> simp [K.bE,h]
theorem ny{e:ε}{g:ε→Option β}{f:α→Option β}:K.bE (some (.error e)) g f=g e:=by cases h:g e <;> simp [K.bE,h]
theorem MR{n:Nat}(h:n≤4294967296):bV n:=h
def zo(g:σ→Nat→α→σ):Nat→List α→σ→σ
 |_,[],s=>s
 |j,x::l,s=>zo g (j+1) l (g s j x)
theorem zn(l:List α)(mk:σ→Int→T)(g:σ→Nat→α→σ)(P:Nat→σ→Prop){f:Nat→T→Option β}(fin:σ→Option β)
 (step:∀n s (j:Nat) (h:j < l.length),P j s→f (n+1) (mk s j)=f n (mk (g s j l[j]) ((j:Int)+1))∧P (j+1) (g s j l[j]))
 (stop:∀n s,P l.length s→f (n+1) (mk s l.length)=fin s) {s0:σ} {n:Nat} (hn:l.length < n) (h0:P 0 s0):f n (mk s0 0)=fin (zo g 0 l s0)∧P l.length (zo g 0 l s0):=by
 have key:∀(m:List α) (pre:List α) (n:Nat) (s:σ),l=pre++m→m.length < n→P pre.length s→f n (mk s pre.length)=fin (zo g pre.length m s)∧P l.length (zo g pre.length m s):=by
  intro m
  induction m with
  |nil=>
   intro pre n s e hn hp;obtain⟨n,rfl⟩:∃n',n=n'+1:=⟨n - 1,by omega⟩;have:l.length=pre.length:=by rw [e];simp
   rw [←this] at hp⊢;exact⟨stop n s hp,hp⟩
  |cons x m ih=>
   intro pre n s e hn hp;simp only [List.length_cons] at hn;obtain⟨n,rfl⟩:∃n',n=n'+1:=⟨n - 1,by omega⟩;have hl:pre.length < l.length:=by rw [e];simp
   have hx:l[pre.length]=x:=by simp [e]
   obtain⟨h1,h2⟩:=step n s pre.length hl hp;rw [hx] at h1 h2;have:=ih (pre++[x]) n (g s pre.length x) (by rw [e];simp) (by omega) (by rw [List.length_append];exact h2);rw [List.length_append] at this;simp only [List.length_cons,List.length_nil,Nat.zero_add] at this;rw [h1];exact this
 have:=key l [] n s0 rfl hn h0
 exact this
def bb(g:σ→Nat→α→Except ε σ):Nat→List α→σ→Except ε σ
 |_,[],s=>.ok s
 |j,x::l,s=>match g s j x with
  | .error e=>.error e
  | .ok s'=>bb g (j+1) l s'
theorem we(l:List α)(mk:σ→Int→T)(g:σ→Nat→α→Except ε σ)(P:Nat→σ→Prop){f:Nat→T→Option β}(fin:Except ε σ→Option β)
 (step:∀n s (j:Nat) (h:j < l.length),P j s→(∃e,g s j l[j]= .error e∧f (n+1) (mk s j)=fin (.error e))∨(∃s',g s j l[j]= .ok s'∧f (n+1) (mk s j)=f n (mk s' ((j:Int)+1))∧P (j+1) s'))
 (stop:∀n s,P l.length s→f (n+1) (mk s l.length)=fin (.ok s)) {s0:σ} {n:Nat} (hn:l.length < n) (h0:P 0 s0):f n (mk s0 0)=fin (bb g 0 l s0):=by
 have key:∀(m:List α) (pre:List α) (n:Nat) (s:σ),l=pre++m→m.length < n→P pre.length s→f n (mk s pre.length)=fin (bb g pre.length m s):=by
  intro m
  induction m with
  |nil=>
   intro pre n s e hn hp;obtain⟨n,rfl⟩:∃n',n=n'+1:=⟨n - 1,by omega⟩;have:l.length=pre.length:=by rw [e];simp
   rw [←this] at hp⊢;exact stop n s hp
  |cons x m ih=>
   intro pre n s e hn hp;simp only [List.length_cons] at hn;obtain⟨n,rfl⟩:∃n',n=n'+1:=⟨n - 1,by omega⟩;have hl:pre.length < l.length:=by rw [e];simp
   have hx:l[pre.length]=x:=by simp [e]
   rcases step n s pre.length hl hp with⟨e',h1,h2⟩ |⟨s',h1,h2,h3⟩
   ·rw [hx] at h1;rw [h2,bb,h1]
   ·rw [hx] at h1;have:=ih (pre++[x]) n s' (by rw [e];simp) (by omega) (by rw [List.length_append];exact h3);rw [List.length_append] at this;simp only [List.length_cons,List.length_nil,Nat.zero_add] at this;rw [h2,bb,h1];exact this
 exact key l [] n s0 rfl hn h0
end
section
variable {α β ε σ T:Type}
theorem nT{a b:α}:(if¬(true=true) then a else b)=b:=rfl
theorem nF{a b:α}:(if¬(false=true) then a else b)=a:=rfl
theorem iT{a b:α}:(if true=true then a else b)=a:=rfl
theorem iF{a b:α}:(if false=true then a else b)=b:=rfl
theorem mZ(l:List α)(mk:σ→Int→T)(g:σ→Nat→α→Except ε σ)(P:Nat→σ→Prop){f:Nat→T→Option β}(fin:Except ε σ→Option β)
 (step:∀n s (j:Nat) (h:j < l.length),P j s→(f (n+1) (mk s j)=match g s j l[j] with | .error e=>fin (.error e) | .ok s'=>f n (mk s' ((j:Int)+1)))∧∀s',g s j l[j]= .ok s'→P (j+1) s')
 (stop:∀n s,P l.length s→f (n+1) (mk s l.length)=fin (.ok s)) {s0:σ} {n:Nat} (hn:l.length < n) (h0:P 0 s0):f n (mk s0 0)=fin (bb g 0 l s0):=
 we l mk g P fin (fun n s j h hp=>by
  obtain⟨h1,h2⟩:=step n s j h hp
  cases e:g s j l[j] with
  |error e'=>left;rw [e] at h1;exact⟨e',rfl,h1⟩
  |ok s'=>right;rw [e] at h1;exact⟨s',rfl,h1,h2 s' e⟩) stop hn h0
end
theorem uD{α:Type}(p:α→Bool):∀(l:List α) (j:Nat),bb (fun(_:Unit) j x=>if p x then Except.error (j:Int) else .ok ()) j l ()=match l.findIdx? p with |some i=>.error ((i+j:Nat):Int) |none=>.ok ()
 |[],j=>by simp [bb]
 |x::l,j=>by
  rw [bb,List.findIdx?_cons]
  by_cases h:p x=true
  ·
   simp [h]
  ·
   simp only [h,if_false,Bool.false_eq_true]
   rw [uD p l (j+1)]
   cases l.findIdx? p with
   |none=>rfl
   |some i=>simp only [Option.map_some];congr 2;omega
theorem sR{k:Nat}{a b:List Int}(h:a.length < k)(hk:a.length≤1000000):eI k a b=some (decide (a=b)):=by
 unfold eI;by_cases hl:a.length=b.length
 ·rw [if_neg (by simp [hl])]
  have key:=we (f:=dz k a b) a (fun(_:Unit) j=>j) (fun _ j x=>if x=b[j]?.getD 0 then .ok () else Except.error false) (fun _ _=>True) (fun r=>some r)
   (fun n s j hj _=>by
    have hjb:j < b.length:=by omega
    have hb:b[j]?.getD 0=b[j]:=by simp [List.getElem?_eq_getElem hjb]
    have hck:ck ((j:Int)+1)=some ((j:Int)+1):=bz (by omega) (by omega);rw [hb];simp only [dz,Int.ofNat_lt,hj,if_true,ct hj,ct hjb,bs];by_cases e:a[j]=b[j] <;> simp [e,hck])
   (fun n s _=>by simp [dz]) (n:=k) (s0:=()) h trivial
  rw [show dz k a b k 0=_ from key]
  have:∀(a:List Int) (j:Nat),a.length+j=b.length→bb (fun(_:Unit) j x=>if x=b[j]?.getD 0 then .ok () else Except.error false) j a ()=if a=b.drop j then .ok () else .error false:=by
   intro a
   induction a with
   |nil=>
    intro j hj;have:b.drop j=[]:=List.drop_eq_nil_of_le (by simp only [List.length_nil] at hj;omega);rw [this];simp [bb]
   |cons x a ih=>
    intro j hj;simp only [List.length_cons] at hj;have hjb:j < b.length:=by omega
    have hd:b.drop j=b[j]::b.drop (j+1):=List.drop_eq_getElem_cons hjb;have hb:b[j]?.getD 0=b[j]:=by simp [List.getElem?_eq_getElem hjb]
    rw [bb,hb,hd];by_cases e:x=b[j]
    ·have h2:(x::a=b[j]::b.drop (j+1))=(a=b.drop (j+1)):=propext ⟨fun h=>(List.cons.inj h).2,fun h=>by rw [h,e]⟩;rw [if_pos e];simp only [h2];exact ih (j+1) (by omega)
    ·have h2:¬(x::a=b[j]::b.drop (j+1)):=fun h=>e (List.cons.inj h).1;rw [if_neg e];simp only [h2,if_false]
  rw [this a 0 (by omega),List.drop_zero];by_cases e:a=b
  ·rw [if_pos e,m4,decide_eq_true e]
  ·rw [if_neg e,ny,decide_eq_false e]
 ·rw [if_pos (by omega),decide_eq_false (fun e=>hl (by rw [e]))]
def jT(s:Int):Prop:=0≤s∧s < 256
def eu(s:Int)(i:Nat):Prop:=s.toNat.testBit i=true
instance (s:Int) (i:Nat):Decidable (eu s i):=by unfold eu;infer_instance
theorem wE{x:Nat}(h:x < 256):IntKind.u8.wrap (x:Int)=x:=by
 have e:IntKind.u8.wrap (x:Int)=(x:Int) % 256:=by simp [IntKind.wrap,IntKind.signed,IntKind.bits]
 rw [e];omega
theorem ow{s:Int}(h:jT s):∃n:Nat,n < 256∧s=n:=⟨s.toNat,by have:=h.1;have:=h.2;omega,by have:=h.1;omega⟩
theorem Az{n:Nat}(h:n < 256):(BitVec.ofInt IntKind.u8.bits (n:Int)).toNat=n:=by
 show(BitVec.ofInt 8 (n:Int)).toNat=n;rw [BitVec.ofInt_natCast,BitVec.toNat_ofNat];exact Nat.mod_eq_of_lt h
theorem Gi{n m:Nat}(hn:n < 256)(hm:m < 256):n |||m < 256:=Nat.or_lt_two_pow (n:=8) hn hm
theorem IH{n m:Nat}(hn:n < 256):n &&& m < 256:=Nat.lt_of_le_of_lt Nat.and_le_left hn
theorem xg{a b:Int}(ha:jT a)(hb:jT b):jT (BM .u8 a b)∧∀i,eu (BM .u8 a b) i↔eu a i∨eu b i:=by
 obtain⟨n,hn,rfl⟩:=ow ha;obtain⟨m,hm,rfl⟩:=ow hb
 have e:BM .u8 (n:Int) (m:Int)=((n |||m:Nat):Int):=by
  unfold BM;rw [BitVec.toNat_or,Az hn,Az hm];exact wE (Gi hn hm)
 rw [e];refine⟨⟨by omega,by have:=Gi hn hm;omega⟩,fun i=>?_⟩;simp [eu,Nat.testBit_or]
theorem Ax{x:Int}(h0:0≤x)(h8:x < 8):jT (mV .u8 1 x)∧∀i:Nat,eu (mV .u8 1 x) i↔(i:Int)=x:=by
 obtain⟨n,rfl⟩:=Int.eq_ofNat_of_zero_le h0;have hn:n < 8:=by omega
 have e:mV .u8 1 (n:Int)=((2 ^ n:Nat):Int):=by
  unfold mV
  have h1:min (Int.toNat (n:Int)) IntKind.u8.bits=n:=by
   show min n 8=n;omega
  rw [h1,Int.one_mul];have h2:2 ^ n < 256:=Nat.pow_lt_pow_right (by decide) hn;have h3:((2:Int) ^ n)=((2 ^ n:Nat):Int):=by simp
  rw [h3];exact wE h2
 rw [e];have h9:2 ^ n < 256:=Nat.pow_lt_pow_right (by decide) hn;refine⟨⟨Int.natCast_nonneg _,Int.ofNat_lt.2 h9⟩,fun i=>?_⟩;simp only [eu,Int.toNat_natCast,Nat.testBit_two_pow,decide_eq_true_eq];omega
theorem uv{k:Nat}{s:Int}(hs:jT s){i:Nat}(hi:i < 8):dy k s (i:Int)=some (decide (eu s i)):=by
 obtain⟨n,hn,rfl⟩:=ow hs;unfold dy;rw [dT,if_pos (by omega)];show some _=some _;congr 1
 have e1:ig .u8 (n:Int) (i:Int)=((n >>> i:Nat):Int):=by
  unfold ig
  have h1:min (Int.toNat (i:Int)) IntKind.u8.bits=i:=by
   show min i 8=i;omega
  have h3:((2:Int) ^ i)=((2 ^ i:Nat):Int):=by simp
  rw [h1,h3,Int.fdiv_eq_ediv_of_nonneg _ (Int.natCast_nonneg _),Nat.shiftRight_eq_div_pow];rfl
 have hlt:n >>> i < 256:=Nat.lt_of_le_of_lt (by rw [Nat.shiftRight_eq_div_pow];exact Nat.div_le_self _ _) hn
 have e2:vq .u8 ((n >>> i:Nat):Int) 1=(((n >>> i) &&& 1:Nat):Int):=by
  unfold vq;have h1:(BitVec.ofInt IntKind.u8.bits 1).toNat=1:=rfl;rw [BitVec.toNat_and,Az hlt,h1];exact wE (IH hlt)
 rw [e1,e2]
 have e3:(((n >>> i) &&& 1:Nat):Int)=1↔eu (n:Int) i:=by
  rw [eu,Int.toNat_natCast,Nat.testBit];have h5:(n >>> i) &&& 1=1 &&& (n >>> i):=Nat.and_comm _ _;rw [h5];have h4:1 &&& (n >>> i) < 2:=Nat.lt_of_le_of_lt Nat.and_le_left (by decide);simp only [bne_iff_ne,ne_eq];omega
 exact decide_eq_decide.2 e3
abbrev bR:=Int×(List (Int×(List Int)))×(List Int)
def nU(t:bR)(d n:Int):Bool:=match t.2.1[n.toNat]? with
 |some x=>decide (d∈x.2)
 |none=>false
def xP(w:Int→Bool)(l:List Int):List Int:=l.filter (fun n=> !w n)++l.filter w
def dO(w:Int→Bool):Bool→List Int→List Int
 |_,[]=>[]
 |u,n::l=>if w n then dO w true l else if u then n::dO w u l else dO w u l
theorem pi{w:Int→Bool}{n:Int}:∀{l:List Int} {u:Bool},n∈dO w u l↔w n=false∧∃p s,l=p++n::s∧(u=true∨∃m∈p,w m=true)
 |[],u=>by simp [dO]
 |m::l,u=>by
  have cut:∀(u':Bool),(u'=true↔u=true∨w m=true)→((∃p s,m::l=p++n::s∧(u=true∨∃x∈p,w x=true))↔(m=n∧u=true)∨∃p s,l=p++n::s∧(u'=true∨∃x∈p,w x=true)):=fun u' hu=>by
   constructor
   ·
    rintro⟨p,s,e,h⟩
    cases p with
    |nil=>
     obtain⟨rfl,rfl⟩:=List.cons.inj e
     rcases h with h |⟨x,hx,_⟩
     ·
      exact .inl ⟨rfl,h⟩
     ·
      cases hx
    |cons y p=>
     obtain⟨rfl,rfl⟩:=List.cons.inj e
     refine .inr ⟨p,s,rfl,?_⟩
     rcases h with h |⟨x,hx,hw⟩
     ·
      exact .inl (hu.2 (.inl h))
     ·
      rcases List.mem_cons.1 hx with rfl |hx
      ·
       exact .inl (hu.2 (.inr hw))
      ·
       exact .inr ⟨x,hx,hw⟩
   ·
    rintro(⟨rfl,h⟩ |⟨p,s,rfl,h⟩)
    ·
     exact⟨[],l,rfl,.inl h⟩
    ·
     refine⟨m::p,s,rfl,?_⟩
     rcases h with h |⟨x,hx,hw⟩
     ·
      rcases hu.1 h with h |h
      ·
       exact .inl h
      ·
       exact .inr ⟨m,by simp,h⟩
     ·
      exact .inr ⟨x,by simp [hx],hw⟩
  rw [dO]
  cases hm:w m with
  |true=>
   rw [if_pos rfl,pi,cut true (by simp [hm])]
   constructor
   ·
    rintro⟨h,h'⟩;exact⟨h,.inr h'⟩
   ·
    rintro⟨h,⟨rfl,_⟩ |h'⟩
    ·
     rw [hm] at h;cases h
    ·
     exact⟨h,h'⟩
  |false=>
   rw [if_neg (by simp)]
   have hc:=cut u (by simp [hm])
   cases u with
   |true=>
    rw [if_pos rfl,List.mem_cons,pi,hc]
    constructor
    ·
     rintro(rfl |⟨h,h'⟩)
     ·
      exact⟨hm,.inl ⟨rfl,rfl⟩⟩
     ·
      exact⟨h,.inr h'⟩
    ·
     rintro⟨h,⟨rfl,_⟩ |h'⟩
     ·
      exact .inl rfl
     ·
      exact .inr ⟨h,h'⟩
   |false=>
    rw [if_neg (by simp),pi,hc]
    simp
theorem lB{w:Int→Bool}{l:List Int}:(xP w l).Perm l:=by
 unfold xP;exact List.perm_append_comm.trans (List.filter_append_perm w l)
theorem mS{w:Int→Bool}{l:List Int}{u:Bool}{n:Int}(h:n∈dO w u l):n∈l:=by
 obtain⟨_,p,s,rfl,_⟩:=pi.1 h;simp
theorem D5{l p s p' s':List Int}{n:Int}(hn:l.Nodup)(h:l=p++n::s)(h':l=p'++n::s'):p=p'∧s=s':=by
 subst h
 induction p generalizing p' with
 |nil=>
  cases p' with
  |nil=>exact⟨rfl,(List.cons.inj h').2⟩
  |cons y p'=>
   exfalso;obtain⟨rfl,h2⟩:=List.cons.inj h';simp only [List.nil_append,List.nodup_cons] at hn;rw [h2] at hn;exact hn.1 (by simp)
 |cons x p ih=>
  cases p' with
  |nil=>
   exfalso;obtain⟨rfl,h2⟩:=List.cons.inj h';simp only [List.cons_append,List.nodup_cons] at hn;exact hn.1 (by simp)
  |cons y p'=>
   obtain⟨rfl,h2⟩:=List.cons.inj h';simp only [List.cons_append,List.nodup_cons] at hn;obtain⟨h3,h4⟩:=ih (p':=p') hn.2 h2;exact⟨by rw [h3],h4⟩
theorem i8{k:Nat}{n a b:Int}:dp k n a b=some (decide (a≤n∧n≤b)):=by
 unfold dp;by_cases h:a≤n <;> simp [h]
theorem mW{k:Nat}{n a b:Int}:gP k n a b=some (decide (a≤n∧n≤b)):=by
 unfold gP;by_cases h:a≤n <;> simp [h]
def ti(days:Int)(l:List Int)(j:Nat)(x:Int):Except Int Unit:=
 if¬(0≤x∧x≤days - 1) then .error 1 else if 0 < j∧x≤l[j - 1]?.getD 0 then .error 5 else .ok ()
def jw(days:Int)(x:Int×(List Int)):Except Int Unit:=
 if¬(1≤x.1∧x.1≤3) then .error 1 else bb (fun _ j y=>ti days x.2 j y) 0 x.2 ()
def kF(n:Int):Except Int Unit:=if 0≤n∧n≤9 then .ok () else .error 1
def BW{α:Type}:Except Int α→Int
 | .error e=>e
 | .ok _=>0
def kR(t:bR):Int:=
 if¬(1≤t.1∧t.1≤6) then 1 else if 5 < t.2.1.length then 6 else
  match bb (fun _ _ x=>jw t.1 x) 0 t.2.1 () with
  | .error e=>e
  | .ok _=>if t.2.2.length < 1 then 7 else if 3 < t.2.2.length then 6 else BW (bb (fun _ _ n=>kF n) 0 t.2.2 ())
structure kC(k:Nat)(t:bR):Prop where
 k1:k≤1000000
 things:t.2.1.length < k
 worn:∀x∈t.2.1,x.2.length < k
 trunks:t.2.2.length < k
section
variable {k:Nat}{t:bR}
theorem E3{l:List Int}{j:Nat}(h:j < l.length)(h0:0 < j):aZ l ((j:Int) - 1)=some (l[j - 1]?.getD 0):=by
 have e:((j:Int) - 1).toNat=j - 1:=by omega
 rw [aZ,if_pos (by omega),e,List.getElem?_eq_getElem (by omega)];rfl
theorem G8{x:Int×(List Int)}(hk:k≤1000000)(hx:x.2.length < k)(hd:1≤t.1∧t.1≤6):cO k t x k 0=some (bb (fun _ j y=>ti t.1 x.2 j y) 0 x.2 ()):=
 mZ (f:=cO k t x) x.2 (fun(_:Unit) j=>j) (fun _ j y=>ti t.1 x.2 j y) (fun _ _=>True) (fun r=>some r)
  (fun n s j h _=>⟨by
   rw [cO,if_pos (Int.ofNat_lt.2 h),ct h,bs,bz (by omega) (by omega),bs,i8,bs]
   unfold ti
   by_cases c1:0≤x.2[j]∧x.2[j]≤t.1 - 1
   ·
    rw [decide_eq_true c1,nT,if_neg (not_not_intro c1)]
    by_cases c2:0 < j
    ·
     rw [if_pos (show(0:Int) < (j:Int) by omega),bz (by omega) (by omega),bs,E3 h c2,bs,bs]
     by_cases c3:x.2[j]≤x.2[j - 1]?.getD 0
     ·
      rw [decide_eq_true c3,iT,if_pos (show 0 < j∧x.2[j]≤x.2[j - 1]?.getD 0 from⟨c2,c3⟩)]
     ·
      rw [decide_eq_false c3,iF,if_neg (show¬(0 < j∧x.2[j]≤x.2[j - 1]?.getD 0) from fun h=>c3 h.2),bz (by omega) (by omega),bs]
    ·
     rw [if_neg (show¬(0:Int) < (j:Int) by omega),bs,iF,if_neg (show¬(0 < j∧x.2[j]≤x.2[j - 1]?.getD 0) from fun h=>c2 h.1),bz (by omega) (by omega),bs]
   ·
    rw [decide_eq_false c1,nF,if_pos (show¬(0≤x.2[j]∧x.2[j]≤t.1 - 1) from c1)],fun _ _=>trivial⟩)
  (fun n s _=>by rw [cO,if_neg (by omega)]) (s0:=()) (n:=k) hx trivial
theorem G9{x:Int×(List Int)}(hk:k≤1000000)(hx:x.2.length < k)(hd:1≤t.1∧t.1≤6):fF k t x k 0=some (bb (fun _ j y=>ti t.1 x.2 j y) 0 x.2 ()):=
 mZ (f:=fF k t x) x.2 (fun(_:Unit) j=>j) (fun _ j y=>ti t.1 x.2 j y) (fun _ _=>True) (fun r=>some r)
  (fun n s j h _=>⟨by
   rw [fF,if_pos (Int.ofNat_lt.2 h),ct h,bs,bz (by omega) (by omega),bs,mW,bs]
   unfold ti
   by_cases c1:0≤x.2[j]∧x.2[j]≤t.1 - 1
   ·
    rw [decide_eq_true c1,nT,if_neg (not_not_intro c1)]
    by_cases c2:0 < j
    ·
     rw [if_pos (show(0:Int) < (j:Int) by omega),bs,bz (by omega) (by omega),bs,E3 h c2,bs,bs]
     by_cases c3:x.2[j]≤x.2[j - 1]?.getD 0
     ·
      rw [decide_eq_true c3,iT,if_pos (show 0 < j∧x.2[j]≤x.2[j - 1]?.getD 0 from⟨c2,c3⟩)]
     ·
      rw [decide_eq_false c3,iF,if_neg (show¬(0 < j∧x.2[j]≤x.2[j - 1]?.getD 0) from fun h=>c3 h.2),bz (by omega) (by omega),bs]
    ·
     rw [if_neg (show¬(0:Int) < (j:Int) by omega),bs,iF,if_neg (show¬(0 < j∧x.2[j]≤x.2[j - 1]?.getD 0) from fun h=>c2 h.1),bz (by omega) (by omega),bs]
   ·
    rw [decide_eq_false c1,nF,if_pos (show¬(0≤x.2[j]∧x.2[j]≤t.1 - 1) from c1)],fun _ _=>trivial⟩)
  (fun n s _=>by rw [fF,if_neg (by omega)]) (s0:=()) (n:=k) hx trivial
theorem EP{x:Int×(List Int)}(hk:k≤1000000)(hx:x.2.length < k)(hd:1≤t.1∧t.1≤6):ij k t x=some (BW (jw t.1 x)):=by
 unfold ij jw;rw [i8,bs,G8 hk hx hd];by_cases c:1≤x.1∧x.1≤3
 ·rw [decide_eq_true c,nT,if_neg (not_not_intro c)];cases bb (fun _ j y=>ti t.1 x.2 j y) 0 x.2 () with
  |error e=>rw [ny];rfl
  |ok u=>rw [m4];rfl
 ·rw [decide_eq_false c,nF,if_pos (show¬(1≤x.1∧x.1≤3) from c)];rfl
theorem kh{α σ:Type}{g:σ→Nat→α→Except Int σ}(hg:∀s j x,g s j x≠.error 0):∀(l:List α) (j:Nat) (s:σ),bb g j l s≠.error 0
 |[],j,s=>by simp [bb]
 |x::l,j,s=>by
  rw [bb]
  cases h:g s j x with
  |error e=>intro h';rw [Except.error.inj h'] at h;exact hg _ _ _ h
  |ok s'=>exact kh hg l (j+1) s'
theorem zg{d:Int}{x:Int×(List Int)}:jw d x≠.error 0:=by
 unfold jw;split
 ·simp
 ·refine kh (fun s j y=>?_) _ _ _;unfold ti;split
  ·simp
  ·split <;> simp
theorem DD(h:kC k t)(hd:1≤t.1∧t.1≤6):fB k t k 0=some (bb (fun _ _ x=>jw t.1 x) 0 t.2.1 ()):=
 mZ (f:=fB k t) t.2.1 (fun(_:Unit) j=>j) (fun _ _ x=>jw t.1 x) (fun _ _=>True) (fun r=>some r)
  (fun n s j hj _=>⟨by
   rw [fB,if_pos (Int.ofNat_lt.2 hj),ct hj,bs,EP h.k1 (h.worn _ (List.getElem_mem hj)) hd,bs]
   have h0:=zg (d:=t.1) (x:=t.2.1[j])
   have h1:=h.things
   have h2:=h.k1
   cases e:jw t.1 t.2.1[j] with
   |error e'=>rw [if_pos (show¬BW (Except.error e':Except Int Unit)=0 from fun h=>h0 (by rw [e];exact congrArg _ h))];rfl
   |ok u=>rw [if_neg (show¬¬BW (Except.ok u:Except Int Unit)=0 from fun h=>h rfl),bz (by omega) (by omega),bs],fun _ _=>trivial⟩)
  (fun n s _=>by rw [fB,if_neg (by omega)]) (s0:=()) (n:=k) h.things trivial
theorem DF(h:kC k t)(hd:1≤t.1∧t.1≤6):fG k t k 0=some (bb (fun _ _ x=>jw t.1 x) 0 t.2.1 ()):=
 mZ (f:=fG k t) t.2.1 (fun(_:Unit) j=>j) (fun _ _ x=>jw t.1 x) (fun _ _=>True) (fun r=>some r)
  (fun n s j hj _=>⟨by
   rw [fG,if_pos (Int.ofNat_lt.2 hj),ct hj,bs,mW,bs,bs,G9 h.k1 (h.worn _ (List.getElem_mem hj)) hd]
   have h1:=h.things
   have h2:=h.k1
   unfold jw
   by_cases c:1≤t.2.1[j].1∧t.2.1[j].1≤3
   ·
    rw [decide_eq_true c,nT,if_neg (not_not_intro c)]
    cases bb (fun _ j' y=>ti t.1 t.2.1[j].2 j' y) 0 t.2.1[j].2 () with
    |error e=>rw [ny]
    |ok u=>rw [m4,bz (by omega) (by omega),bs]
   ·
    rw [decide_eq_false c,nF,if_pos (show¬(1≤t.2.1[j].1∧t.2.1[j].1≤3) from c),ny],fun _ _=>trivial⟩)
  (fun n s _=>by rw [fG,if_neg (by omega)]) (s0:=()) (n:=k) h.things trivial
theorem Db(h:kC k t):fA k t k 0=some (bb (fun _ _ n=>kF n) 0 t.2.2 ()):=
 mZ (f:=fA k t) t.2.2 (fun(_:Unit) j=>j) (fun _ _ n=>kF n) (fun _ _=>True) (fun r=>some r)
  (fun n s j hj _=>⟨by
   rw [fA,if_pos (Int.ofNat_lt.2 hj),ct hj,bs,i8,bs]
   have h1:=h.trunks
   have h2:=h.k1
   unfold kF
   by_cases c:0≤t.2.2[j]∧t.2.2[j]≤9
   ·
    rw [decide_eq_true c,nT,if_pos c,bz (by omega) (by omega),bs]
   ·
    rw [decide_eq_false c,nF,if_neg c],fun _ _=>trivial⟩)
  (fun n s _=>by rw [fA,if_neg (by omega)]) (s0:=()) (n:=k) h.trunks trivial
theorem Dc(h:kC k t):fE k t k 0=some (bb (fun _ _ n=>kF n) 0 t.2.2 ()):=
 mZ (f:=fE k t) t.2.2 (fun(_:Unit) j=>j) (fun _ _ n=>kF n) (fun _ _=>True) (fun r=>some r)
  (fun n s j hj _=>⟨by
   rw [fE,if_pos (Int.ofNat_lt.2 hj),ct hj,bs,mW,bs]
   have h1:=h.trunks
   have h2:=h.k1
   unfold kF
   by_cases c:0≤t.2.2[j]∧t.2.2[j]≤9
   ·
    rw [decide_eq_true c,nT,if_pos c,bz (by omega) (by omega),bs]
   ·
    rw [decide_eq_false c,nF,if_neg c],fun _ _=>trivial⟩)
  (fun n s _=>by rw [fE,if_neg (by omega)]) (s0:=()) (n:=k) h.trunks trivial
theorem D7(h:kC k t):kV k t=some (kR t):=by
 unfold kV kR;rw [i8,bs];by_cases c:1≤t.1∧t.1≤6
 ·rw [decide_eq_true c,nT,if_neg (not_not_intro c),DD h c,Db h];by_cases c1:5 < t.2.1.length
  ·rw [if_pos (show(5:Int) < (t.2.1.length:Int) by omega),if_pos c1]
  ·rw [if_neg (show¬(5:Int) < (t.2.1.length:Int) by omega),if_neg c1];cases bb (fun _ _ x=>jw t.1 x) 0 t.2.1 () with
   |error e=>rw [ny]
   |ok u=>
    rw [m4];by_cases c2:t.2.2.length < 1
    ·rw [if_pos (by omega)];simp only [c2,if_true]
    ·rw [if_neg (by omega)];by_cases c3:3 < t.2.2.length
     ·rw [if_pos (by omega)];simp only [c2,c3,if_true,if_false]
     ·rw [if_neg (by omega)];simp only [c2,c3,if_false];cases bb (fun _ _ n=>kF n) 0 t.2.2 () with
      |error e=>rw [ny];rfl
      |ok u=>rw [m4];rfl
 ·rw [decide_eq_false c,nF,if_pos (show¬(1≤t.1∧t.1≤6) from c)]
theorem D8(h:kC k t):mN k t=some (kR t):=by
 unfold mN kR;rw [mW,bs];by_cases c:1≤t.1∧t.1≤6
 ·rw [decide_eq_true c,nT,if_neg (not_not_intro c),DF h c,Dc h];by_cases c1:5 < t.2.1.length
  ·rw [if_pos (show(5:Int) < (t.2.1.length:Int) by omega),if_pos c1]
  ·rw [if_neg (show¬(5:Int) < (t.2.1.length:Int) by omega),if_neg c1];cases bb (fun _ _ x=>jw t.1 x) 0 t.2.1 () with
   |error e=>rw [ny]
   |ok u=>
    rw [m4];by_cases c2:t.2.2.length < 1
    ·rw [if_pos (by omega)];simp only [c2,if_true]
    ·rw [if_neg (by omega)];by_cases c3:3 < t.2.2.length
     ·rw [if_pos (by omega)];simp only [c2,c3,if_true,if_false]
     ·rw [if_neg (by omega)];simp only [c2,c3,if_false];cases bb (fun _ _ n=>kF n) 0 t.2.2 () with
      |error e=>rw [ny];rfl
      |ok u=>rw [m4];rfl
 ·rw [decide_eq_false c,nF,if_pos (show¬(1≤t.1∧t.1≤6) from c)]
end
theorem sA{α:Type}{f:α→Except Int Unit}:∀{l:List α} {j:Nat},bb (fun(_:Unit) _ x=>f x) j l ()= .ok ()→∀x∈l,f x= .ok ()
 |[],_,_,_,h=>by cases h
 |y::l,j,h,x,hx=>by
  rw [bb] at h
  cases e:f y with
  |error e'=>rw [e] at h;cases h
  |ok u=>
   rw [e] at h
   rcases List.mem_cons.1 hx with rfl |hx
   ·
    exact e
   ·
    exact sA h x hx
structure pM(t:bR):Prop where
 days:1≤t.1∧t.1≤6
 things:t.2.1.length≤5
 sizes:∀x∈t.2.1,1≤x.1∧x.1≤3
 trunks:1≤t.2.2.length∧t.2.2.length≤3
 rooms:∀n∈t.2.2,0≤n∧n≤9
theorem xj{t:bR}(h:kR t=0):pM t:=by
 unfold kR at h;by_cases c:1≤t.1∧t.1≤6
 ·rw [if_neg (not_not_intro c)] at h;by_cases c1:5 < t.2.1.length
  ·rw [if_pos c1] at h;cases h
  ·rw [if_neg c1] at h;have h0:bb (fun(_:Unit) _ x=>jw t.1 x) 0 t.2.1 ()≠.error 0:=kh (fun _ _ _=>zg) _ _ _;cases e:bb (fun(_:Unit) _ x=>jw t.1 x) 0 t.2.1 () with
   |error e'=>rw [e] at h h0;exact absurd (congrArg _ h) h0
   |ok u=>
    rw [e] at h;have hi:=sA e;by_cases c2:t.2.2.length < 1
    ·simp only [c2,if_true] at h;cases h
    ·by_cases c3:3 < t.2.2.length
     ·simp only [c2,c3,if_true,if_false] at h;cases h
     ·simp only [c2,c3,if_false] at h;refine⟨c,by omega,fun x hx=>?_,by omega,?_⟩
      ·have:=hi x hx;unfold jw at this;by_cases c4:1≤x.1∧x.1≤3
       ·exact c4
       ·rw [if_pos c4] at this;cases this
      ·have h1:bb (fun(_:Unit) _ n=>kF n) 0 t.2.2 ()≠.error 0:=kh (fun _ _ n=>by unfold kF;split <;> simp) _ _ _;cases e2:bb (fun(_:Unit) _ n=>kF n) 0 t.2.2 () with
       |error e'=>rw [e2] at h h1;exact absurd (congrArg _ h) h1
       |ok u=>
        intro n hn
        have:=sA e2 n hn;unfold kF at this;by_cases c5:0≤n∧n≤9
        ·exact c5
        ·rw [if_neg c5] at this;cases this
 ·rw [if_pos c] at h;cases h
def iZ(n:Nat)(met:List Int)(x:Int):Except Int (List Int):=if¬(0≤x∧x≤(n:Int) - 1) then .error 3 else if x∈met then .error 4 else .ok (met++[x])
def kN(t:bR)(x:Int):Int:=match t.2.1[x.toNat]? with |some y=>y.1 |none=>0
def fC(t:bR):List Int→Int
 |[]=>0
 |x::l=>kN t x+fC t l
def fm(t:bR)(met:List Int)(i:Nat)(l:List Int):Except Int (List Int):=
 match bb (fun m _ x=>iZ t.2.1.length m x) 0 l met with
 | .error e=>.error e
 | .ok m=>if t.2.2[i]?.getD 0 < fC t l then .error 12 else .ok m
def chkV(t:bR)(p:List (List Int)):Int:=
 if p.length < t.2.2.length then 7 else if t.2.2.length < p.length then 6 else
  match bb (fm t) 0 p [] with
  | .error e=>e
  | .ok m=>if m.length < t.2.1.length then 7 else 0
def kJ(t:bR)(p:List (List Int)):Int:=if¬(kR t=0) then kR t else chkV t p
structure vv(n:Nat)(m:List Int):Prop where
 nd:m.Nodup
 rng:∀x∈m,0≤x∧x < (n:Int)
theorem vv.put{n:Nat}{m m':List Int}{x:Int}(h:vv n m)(e:iZ n m x= .ok m'):m'=m++[x]∧vv n m'∧0≤x∧x < (n:Int):=by
 unfold iZ at e;by_cases c:0≤x∧x≤(n:Int) - 1
 ·rw [if_neg (not_not_intro c)] at e;by_cases c1:x∈m
  ·rw [if_pos c1] at e;cases e
  ·rw [if_neg c1] at e;cases e;refine⟨rfl,⟨?_,fun y hy=>?_⟩,c.1,by omega⟩
   ·rw [List.nodup_append];exact⟨h.nd,by simp,fun a ha b hb=>by rw [List.mem_singleton] at hb;subst hb;exact fun e=>c1 (e▸ha)⟩
   ·rcases List.mem_append.1 hy with hy |hy
    ·exact h.rng y hy
    ·rw [List.mem_singleton] at hy;omega
 ·rw [if_pos c] at e;cases e
theorem vv.puts{n:Nat}:∀{l:List Int} {j:Nat} {m m':List Int},vv n m→bb (fun m _ x=>iZ n m x) j l m= .ok m'→m'=m++l∧vv n m'∧∀x∈l,0≤x∧x < (n:Int)
 |[],_,m,m',h,e=>by simp only [bb] at e;cases e;exact⟨by simp,h,by simp⟩
 |x::l,j,m,m',h,e=>by
  rw [bb] at e
  cases e1:iZ n m x with
  |error e'=>rw [e1] at e;cases e
  |ok m1=>
   rw [e1] at e
   obtain⟨rfl,h1,h2⟩:=h.put e1
   obtain⟨rfl,h3,h4⟩:=vv.puts h1 e
   refine⟨by simp,h3,fun y hy=>?_⟩
   rcases List.mem_cons.1 hy with rfl |hy
   ·
    exact h2
   ·
    exact h4 y hy
theorem t9:∀(n:Nat) (l:List Int),l.Nodup→(∀x∈l,0≤x∧x < (n:Int))→l.length≤n
 |0,l,_,h=>by
  cases l with
  |nil=>simp
  |cons x l=>have:=h x (by simp);omega
 |n+1,l,hn,h=>by
  have h1:=t9 n (l.erase (n:Int)) (hn.erase _) (fun x hx=>by
   have h2:=(List.Nodup.mem_erase_iff hn).1 hx
   have:=h x h2.2
   have:=h2.1
   omega)
  have:l.length≤(l.erase (n:Int)).length+1:=by rw [List.length_erase];split <;> omega
  omega
theorem vv.len{n:Nat}{m:List Int}(h:vv n m):m.length≤n:=t9 n m h.nd h.rng
theorem vv.full{n:Nat}{m:List Int}(h:vv n m):¬m.length < n↔∀i:Nat,i < n→(i:Int)∈m:=by
 constructor
 ·intro hl i hi;by_cases c:(i:Int)∈m
  ·exact c
  ·have:=t9 n ((i:Int)::m) (List.nodup_cons.2 ⟨c,h.nd⟩) (fun x hx=>by
    rcases List.mem_cons.1 hx with rfl |hx
    ·omega
    ·exact h.rng x hx)
   simp only [List.length_cons] at this;omega
 ·intro ha hl
  have h1:((List.range n).map fun(i:Nat)=>(i:Int)).length≤m.length:=by
   have:∀(k:Nat) (q:List Int),(∀i:Nat,i < k→(i:Int)∈q)→k≤q.length:=by
    intro k
    induction k with
    |zero=>intros;omega
    |succ k ih=>
     intro q hq;have hk:=hq k (by omega);have h2:=ih (q.erase (k:Int)) (fun i hi=>(List.mem_erase_of_ne (by omega)).2 (hq i (by omega)));rw [List.length_erase,if_pos (by simpa using hk)] at h2;have:=List.length_pos_of_mem hk;omega
   have:=this n m ha;simpa using this
  simp at h1;omega
def j9(m:List Int):Int:=m.foldl (fun s x=>BM .u8 s (mV .u8 1 x)) 0
theorem AU{m:List Int}{x:Int}:j9 (m++[x])=BM .u8 (j9 m) (mV .u8 1 x):=by
 unfold j9;rw [List.foldl_append];rfl
theorem AV{m:List Int}(h:∀x∈m,0≤x∧x < 8):∀(s:Int),jT s→jT (m.foldl (fun s x=>BM .u8 s (mV .u8 1 x)) s)∧∀i:Nat,eu (m.foldl (fun s x=>BM .u8 s (mV .u8 1 x)) s) i↔eu s i∨(i:Int)∈m:=by
 induction m with
 |nil=>intro s hs;exact⟨hs,fun i=>by simp⟩
 |cons x m ih=>
  intro s hs;have hx:=h x (by simp);obtain⟨o1,o2⟩:=Ax hx.1 hx.2;obtain⟨p1,p2⟩:=xg hs o1;obtain⟨q1,q2⟩:=ih (fun y hy=>h y (by simp [hy])) _ p1;refine⟨q1,fun i=>?_⟩;rw [List.foldl_cons,q2,p2,o2,List.mem_cons,or_assoc]
theorem yX{m:List Int}(h:∀x∈m,0≤x∧x < 8):jT (j9 m)∧∀i:Nat,eu (j9 m) i↔(i:Int)∈m:=by
 obtain⟨a,b⟩:=AV h 0 ⟨by decide,by decide⟩;exact⟨a,fun i=>by rw [j9,b];simp [eu]⟩
theorem Gf{a b:Int}(ha:jT a)(hb:jT b)(h:∀i:Nat,eu a i↔eu b i):a=b:=by
 obtain⟨n,hn,rfl⟩:=ow ha;obtain⟨m,hm,rfl⟩:=ow hb;congr 1;refine Nat.eq_of_testBit_eq fun i=>?_;have:=h i;simp only [eu,Int.toNat_natCast] at this;exact Bool.eq_iff_iff.2 this
theorem IZ:∀n:Nat,n≤5→jT (IntKind.u8.wrap ((mV .u8 1 (n:Int)) - 1))∧∀i:Nat,eu (IntKind.u8.wrap ((mV .u8 1 (n:Int)) - 1)) i↔i < n:=by
 have h1:∀n:Nat,n≤5→IntKind.u8.wrap ((mV .u8 1 (n:Int)) - 1)=((2 ^ n - 1:Nat):Int):=by decide
 intro n hn
 rw [h1 n hn];have h2:2 ^ n≤32:=Nat.pow_le_pow_right (by decide) hn;refine⟨⟨by omega,by omega⟩,fun i=>?_⟩;simp only [eu,Int.toNat_natCast,Nat.testBit_two_pow_sub_one,decide_eq_true_eq]
theorem GH{n:Nat}{m:List Int}(hn:n≤5)(h:vv n m):j9 m=IntKind.u8.wrap ((mV .u8 1 (n:Int)) - 1)↔¬m.length < n:=by
 have h8:∀x∈m,0≤x∧x < 8:=fun x hx=>by have:=h.rng x hx;omega
 obtain⟨a,b⟩:=yX h8;obtain⟨c,d⟩:=IZ n hn;rw [h.full];constructor
 ·intro e i hi;rw [←b,e,d];exact hi
 ·intro hi;refine Gf a c fun i=>?_;rw [b,d];refine⟨fun hm=>?_,hi i⟩;have:=h.rng _ hm;omega
section
variable {k:Nat}{t:bR}
theorem Le{k:Nat}{l:List Int}{x:Int}(hk:l.length < k)(hk1:k≤1000000):qP k l x=some (decide (x∈l)):=by
 unfold qP
 have:=mZ (f:=im k l x) l (fun(_:Unit) j=>j) (fun _ _ y=>if y=x then Except.error true else .ok ()) (fun _ _=>True) (fun r=>some r)
  (fun n s j h _=>⟨by
   rw [im,if_pos (Int.ofNat_lt.2 h),ct h,bs];by_cases c:l[j]=x
   ·rw [if_pos c,if_pos c]
   ·rw [if_neg c,if_neg c,bz (by omega) (by omega),bs],fun _ _=>trivial⟩)
  (fun n s _=>by rw [im,if_neg (by omega)]) (s0:=()) (n:=k) hk trivial
 rw [show im k l x k 0=_ from this]
 have key:∀(l:List Int) (j:Nat),bb (fun(_:Unit) _ y=>if y=x then Except.error true else .ok ()) j l ()=if x∈l then .error true else .ok ():=by
  intro l
  induction l with
  |nil=>intro j;simp [bb]
  |cons y l ih=>
   intro j;rw [bb];by_cases c:y=x
   ·rw [if_pos c,if_pos (by simp [c])]
   ·rw [if_neg c];show bb _ (j+1) l ()=_;rw [ih];have:x∈y::l↔x∈l:=by simp [List.mem_cons,Ne.symm c]
    simp only [this]
 rw [key];by_cases c:x∈l
 ·rw [if_pos c,ny,decide_eq_true c]
 ·rw [if_neg c,m4,decide_eq_false c]
theorem yl{x:Int}(h0:0≤x)(h:x < (t.2.1.length:Int)):∃y,aZ t.2.1 x=some y∧y∈t.2.1∧kN t x=y.1:=by
 have hx:x.toNat < t.2.1.length:=by omega
 refine⟨t.2.1[x.toNat],nq h0 hx,List.getElem_mem hx,?_⟩;rw [kN,List.getElem?_eq_getElem hx]
theorem pY(g:pM t){x:Int}:0≤kN t x∧kN t x≤3:=by
 unfold kN;cases h:t.2.1[x.toNat]? with
 |none=>simp
 |some y=>have:=g.sizes y (List.mem_of_getElem? h);simp only;omega
theorem vD(g:pM t):∀{l:List Int},0≤fC t l∧fC t l≤3 * (l.length:Int)
 |[]=>by simp [fC]
 |x::l=>by have:=pY g (x:=x);have:=vD g (l:=l);simp only [fC,List.length_cons];omega
theorem C6{l l':List Int}:fC t (l++l')=fC t l+fC t l':=by
 induction l with
 |nil=>simp [fC]
 |cons x l ih=>simp only [List.cons_append,fC,ih];omega
theorem Ig(g:pM t)(hk1:k≤1000000){l:List Int}(hl:l.length < k)(hx:∀x∈l,0≤x∧x < (t.2.1.length:Int)):mF k t l=some (fC t l):=by
 unfold mF
 have:=zn (f:=gu k t l) l (fun(s:Int) j=>(s,j)) (fun s _ x=>s+kN t x) (fun j s=>s=fC t (l.take j)) (fun s=>some s)
  (fun n s j h hp=>by
   have hm:=hx _ (List.getElem_mem h);obtain⟨y,h1,h2,h3⟩:=yl hm.1 hm.2;have hs:=vD g (l:=l.take j);have ho:=pY g (x:=l[j]);rw [List.length_take] at hs;refine⟨?_,?_⟩
   ·rw [gu,if_pos (Int.ofNat_lt.2 h)];dsimp only;rw [ct h,bs,h1,bs,←h3,bz (by omega) (by omega),bs,bz (by omega) (by omega),bs]
   ·rw [List.take_add_one,List.getElem?_eq_getElem h,hp,Option.toList_some,C6];simp [fC])
  (fun n s _=>by rw [gu,if_neg (by omega)]) (s0:=0) (n:=k) hl (by simp [fC])
 obtain⟨h1,h2⟩:=this;rw [show gu k t l k (0,0)=_ from h1,bs,h2,List.take_length]
def rL(e:Int):Value:=.iface 118 (.agg #[.int .i64 e])
def Q9(e:Int):Value:=if e=0 then .nilIface else rL e
theorem Fe{e:Int}(h:¬e=0):Q9 e=rL e:=if_neg h
theorem Io(g:pM t)(hk1:k≤1000000){l m:List Int}(hl:l.length < k)(hm:vv t.2.1.length m):
 eD k t l k (j9 m,0)=match bb (fun m _ x=>iZ t.2.1.length m x) 0 l m with | .error e=>some (.error (rL e)) | .ok m'=>some (.ok (j9 m')):=
 mZ (f:=eD k t l) l (fun m j=>(j9 m,j)) (fun m _ x=>iZ t.2.1.length m x) (fun _ m=>vv t.2.1.length m) (fun r=>match r with | .error e=>some (.error (rL e)) | .ok m'=>some (.ok (j9 m')))
  (fun n m j h hm=>⟨by
   have h5:=g.things
   rw [eD,if_pos (Int.ofNat_lt.2 h)]
   dsimp only
   rw [ct h,bs,bz (by omega) (by omega),bs,i8,bs]
   unfold iZ
   by_cases c:0≤l[j]∧l[j]≤(t.2.1.length:Int) - 1
   ·
    rw [decide_eq_true c,nT,if_neg (not_not_intro c)]
    obtain⟨i,hi⟩:=Int.eq_ofNat_of_zero_le c.1
    have h8:∀x∈m,0≤x∧x < 8:=fun x hx=>by have:=hm.rng x hx;omega
    obtain⟨a,b⟩:=yX h8
    rw [hi,uv a (by omega),bs]
    have hb:=b i
    by_cases c1:(i:Int)∈m
    ·
     rw [decide_eq_true (hb.2 c1),iT,if_pos c1];rfl
    ·
     rw [decide_eq_false (fun h=>c1 (hb.1 h)),iF,if_neg c1]
     unfold eE
     rw [dj (by omega),bs,bs,bz (by omega) (by omega),bs]
     show _=eD k t l n (j9 (m++[(i:Int)]),(j:Int)+1)
     rw [AU]
   ·
    rw [decide_eq_false c,nF,if_pos (show¬(0≤l[j]∧l[j]≤(t.2.1.length:Int) - 1) from c)];rfl,fun m' e=>(hm.put e).2.1⟩)
  (fun n m _=>by rw [eD,if_neg (by omega)]) (s0:=m) (n:=k) hl hm
theorem Ad(g:pM t)(hk1:k≤1000000){p:List (List Int)}(hp:p.length=t.2.2.length)(hpk:p.length < k)(hl:∀l∈p,l.length < k):
 fw k t p k (0,0)=match bb (fm t) 0 p [] with | .error e=>some (.error (rL e)) | .ok m'=>some (.ok (j9 m')):=
 mZ (f:=fw k t p) p (fun m j=>(j9 m,j)) (fm t) (fun _ m=>vv t.2.1.length m) (fun r=>match r with | .error e=>some (.error (rL e)) | .ok m'=>some (.ok (j9 m')))
  (fun n m j h hm=>by
   refine⟨?_,fun m' e=>?_⟩
   ·
    rw [fw,if_pos (Int.ofNat_lt.2 h)]
    dsimp only
    rw [ct h,bs,Io g hk1 (hl _ (List.getElem_mem h)) hm]
    unfold fm
    cases e:bb (fun m _ x=>iZ t.2.1.length m x) 0 p[j] m with
    |error e'=>dsimp only;rw [ny,ny]
    |ok m'=>
     obtain⟨_,_,h3⟩:=hm.puts e
     have hj:j < t.2.2.length:=by omega
     dsimp only
     rw [m4,Ig g hk1 (hl _ (List.getElem_mem h)) h3,bs,ct hj,bs]
     have e2:t.2.2[j]?.getD 0=t.2.2[j]:=by rw [List.getElem?_eq_getElem hj];rfl
     rw [e2]
     by_cases c:t.2.2[j] < fC t p[j]
     ·
      rw [if_pos c,if_pos c,ny];rfl
     ·
      rw [if_neg c,if_neg c,m4,bz (by omega) (by omega),bs]
   ·
    unfold fm at e
    cases e1:bb (fun m _ x=>iZ t.2.1.length m x) 0 p[j] m with
    |error e'=>rw [e1] at e;cases e
    |ok m1=>
     rw [e1] at e
     dsimp only at e
     split at e
     ·
      cases e
     ·
      cases e;exact(hm.puts e1).2.1)
  (fun n m _=>by rw [fw,if_neg (by omega)]) (s0:=[]) (n:=k) hpk ⟨by simp,by simp⟩
theorem BJ{p:List (List Int)}{m':List Int}:∀{j:Nat} {m:List Int},vv t.2.1.length m→bb (fm t) j p m= .ok m'→m'=m++p.flatten∧vv t.2.1.length m'∧∀i (h:i < p.length),(∀x∈p[i],0≤x∧x < (t.2.1.length:Int))∧fC t p[i]≤t.2.2[j+i]?.getD 0:=by
 induction p with
 |nil=>intro j m hm e;simp only [bb] at e;cases e;exact⟨by simp,hm,fun i h=>by simp at h⟩
 |cons l p ih=>
  intro j m hm e;rw [bb] at e;cases e1:fm t m j l with
  |error e'=>rw [e1] at e;cases e
  |ok m1=>
   rw [e1] at e;unfold fm at e1;cases e2:bb (fun m _ x=>iZ t.2.1.length m x) 0 l m with
   |error e'=>rw [e2] at e1;cases e1
   |ok m2=>
    rw [e2] at e1;dsimp only at e1;split at e1
    ·cases e1
    ·rename_i hs;cases e1;obtain⟨rfl,h3,h4⟩:=hm.puts e2;obtain⟨h5,h6,h7⟩:=ih h3 e;refine⟨by rw [h5];simp,h6,fun i hi=>?_⟩;cases i with
     |zero=>exact⟨h4,by simp only [List.getElem_cons_zero,Nat.add_zero];omega⟩
     |succ i=>
      have:=h7 i (by simpa using hi);have e3:j+1+i=j+(i+1):=by omega
      rw [e3] at this;exact this
theorem CU(g:pM t)(hk1:k≤1000000){p:List (List Int)}(hpk:3 < k)(hl:∀l∈p,l.length < k):
 kU k t p=some (Q9 (chkV t p)):=by
 unfold kU chkV
 by_cases c1:p.length < t.2.2.length
 ·
  rw [if_pos (show(p.length:Int) < (t.2.2.length:Int) by omega),if_pos c1];rfl
 ·
  rw [if_neg (show¬(p.length:Int) < (t.2.2.length:Int) by omega),if_neg c1];by_cases c2:t.2.2.length < p.length
  ·rw [if_pos (show(t.2.2.length:Int) < (p.length:Int) by omega),if_pos c2];rfl
  ·rw [if_neg (show¬(t.2.2.length:Int) < (p.length:Int) by omega),if_neg c2,Ad g hk1 (by omega) (by have:=g.trunks;omega) hl]
   have hne:bb (fm t) 0 p []≠.error 0:=kh (fun m j l=>by
    unfold fm;have:=kh (g:=fun m _ x=>iZ t.2.1.length m x) (fun m _ x=>by unfold iZ;split;(· simp);(· split <;> simp)) l 0 m;cases e:bb (fun m _ x=>iZ t.2.1.length m x) 0 l m with
    |error e'=>intro h;rw [e] at this;exact this h
    |ok m'=>dsimp only;split <;> simp) _ _ _
   cases e:bb (fm t) 0 p [] with
   |error e'=>
    rw [e] at hne;have h0:¬e'=0:=fun h=>hne (by rw [h]);dsimp only;rw [ny,Fe h0]
   |ok m=>
    obtain⟨_,h3,_⟩:=BJ (t:=t) ⟨by simp,by simp⟩ e;dsimp only;rw [m4,dj (by omega),bs];have:=GH g.things h3;by_cases c3:m.length < t.2.1.length
    ·rw [if_pos (show¬j9 m=_ from fun h=>this.1 h c3),if_pos c3];rfl
    ·rw [if_neg (show¬¬j9 m=_ from fun h=>h (this.2 c3)),if_neg c3];rfl
theorem qs(h:kC k t)(hpk:3 < k){p:List (List Int)}(hl:∀l∈p,l.length < k):bF k t p=some (kJ t p):=by
 unfold bF kJ;rw [D7 h,bs];by_cases c:kR t=0
 ·have g:=xj c;rw [if_neg (not_not_intro c),if_neg (not_not_intro c),CU g h.k1 hpk hl,bs];by_cases c1:chkV t p=0
  ·rw [c1];rfl
  ·rw [Fe c1];rfl
 ·rw [if_pos c,if_pos c]
end
section
variable {k:Nat}{t:bR}
theorem AX{x:Int}(h:t.2.1.length≤1000000):j7 k t x=some (decide (0≤x∧x≤(t.2.1.length:Int) - 1)):=by
 unfold j7;rw [bz (by omega) (by omega),bs,mW,bs]
def yv(t:bR)(s:List Int×Int)(x:Int):Except Int (List Int×Int):=match iZ t.2.1.length s.1 x with
 | .error e=>.error e
 | .ok m=>.ok (m,s.2+kN t x)
theorem yu:∀(l:List Int) (j:Nat) (m:List Int) (s:Int),bb (fun s _ x=>yv t s x) j l (m,s)=match bb (fun m _ x=>iZ t.2.1.length m x) j l m with | .error e=>.error e | .ok m'=>.ok (m',s+fC t l)
 |[],j,m,s=>by simp [bb,fC]
 |x::l,j,m,s=>by
  rw [bb,bb]
  have e:yv t (m,s) x=match iZ t.2.1.length m x with | .error e=>.error e | .ok m'=>.ok (m',s+kN t x):=rfl
  rw [e]
  cases iZ t.2.1.length m x with
  |error e'=>rfl
  |ok m1=>
   dsimp only
   rw [yu l (j+1) m1 _]
   cases bb (fun m _ x=>iZ t.2.1.length m x) (j+1) l m1 with
   |error e'=>rfl
   |ok m2=>simp only [fC,Int.add_assoc]
theorem Ip(g:pM t)(hk:50≤k)(hk1:k≤1000000){p:List (List Int)}{i:Nat}(hi:i < p.length)(hl:p[i].length < k){m:List Int}(hm:vv t.2.1.length m):
 bY k t p (m,(i:Int)) k (m,0,0)=match bb (fun m _ x=>iZ t.2.1.length m x) 0 p[i] m with | .error e=>some (.error e) | .ok m'=>some (.ok (m',fC t p[i])):=by
 have key:=mZ (f:=bY k t p (m,(i:Int))) p[i] (fun(s:List Int×Int) j=>(s.1,s.2,j)) (fun s _ x=>yv t s x)
  (fun j s=>vv t.2.1.length s.1∧0≤s.2∧s.2≤3 * (j:Int)) (fun r=>match r with | .error e=>some (.error e) | .ok s=>some (.ok s))
  (fun n s j h hs=>by
   obtain⟨hm',hs0,hs1⟩:=hs;have hlen:=hm'.len;have h5:=g.things;have ho:=pY g (x:=p[i][j]);refine⟨?_,fun s' e=>?_⟩
   ·rw [bY];dsimp only;rw [ct hi,bs,if_pos (Int.ofNat_lt.2 h),bs,ct h,bs,AX (by omega),bs];unfold yv iZ;by_cases c:0≤p[i][j]∧p[i][j]≤(t.2.1.length:Int) - 1
    ·rw [decide_eq_true c,nT,if_neg (not_not_intro c),bs,ct h,bs,Le (by omega) hk1,bs];by_cases c1:p[i][j]∈s.1
     ·rw [decide_eq_true c1,iT,if_pos c1]
     ·obtain⟨y,h1,h2,h3⟩:=yl (t:=t) (x:=p[i][j]) c.1 (by omega);rw [decide_eq_false c1,iF,if_neg c1,bs,ct h,bs,dj (MR (by simp only [List.length_cons,List.length_nil];omega)),bs,bs,ct h,bs,h1,bs,←h3,bz (by omega) (by omega),bs,bz (by omega) (by omega),bs]
    ·rw [decide_eq_false c,nF,if_pos (show¬(0≤p[i][j]∧p[i][j]≤(t.2.1.length:Int) - 1) from c)]
   ·unfold yv at e;cases e1:iZ t.2.1.length s.1 p[i][j] with
    |error e'=>rw [e1] at e;cases e
    |ok m1=>
     rw [e1] at e;cases e;exact⟨(hm'.put e1).2.1,by simp only;omega,by simp only;omega⟩)
  (fun n s _=>by
   rw [bY];dsimp only;rw [ct hi,bs,if_neg (by omega)]) (s0:=(m,0)) (n:=k) hl ⟨hm,by simp,by simp⟩
 rw [show bY k t p (m,(i:Int)) k (m,0,0)=_ from key,yu]
 cases bb (fun m _ x=>iZ t.2.1.length m x) 0 p[i] m with
 |error e=>rfl
 |ok m'=>simp only [Int.zero_add]
theorem Ae(g:pM t)(hk:50≤k)(hk1:k≤1000000){p:List (List Int)}(hp:p.length=t.2.2.length)(hl:∀l∈p,l.length < k):
 cp k t p k ([],0)=some (bb (fm t) 0 p []):=
 mZ (f:=cp k t p) p (fun m j=>(m,j)) (fm t) (fun _ m=>vv t.2.1.length m) (fun r=>some r)
  (fun n m j h hm=>by
   have h3:=g.trunks
   refine⟨?_,fun m' e=>?_⟩
   ·
    rw [cp,if_pos (Int.ofNat_lt.2 h)]
    dsimp only
    rw [Ip g hk hk1 h (hl _ (List.getElem_mem h)) hm]
    unfold fm
    cases e:bb (fun m _ x=>iZ t.2.1.length m x) 0 p[j] m with
    |error e'=>dsimp only;rw [ny,ny]
    |ok m'=>
     have hj:j < t.2.2.length:=by omega
     dsimp only
     rw [m4]
     dsimp only
     rw [ct hj,bs]
     have e2:t.2.2[j]?.getD 0=t.2.2[j]:=by rw [List.getElem?_eq_getElem hj];rfl
     rw [e2]
     by_cases c:t.2.2[j] < fC t p[j]
     ·
      rw [if_pos c,if_pos c,ny]
     ·
      rw [if_neg c,if_neg c,m4,bz (by omega) (by omega),bs]
   ·
    unfold fm at e
    cases e1:bb (fun m _ x=>iZ t.2.1.length m x) 0 p[j] m with
    |error e'=>rw [e1] at e;cases e
    |ok m1=>
     rw [e1] at e
     dsimp only at e
     split at e
     ·
      cases e
     ·
      cases e;exact(hm.puts e1).2.1)
  (fun n m _=>by rw [cp,if_neg (by omega)]) (s0:=[]) (n:=k) (by have:=g.trunks;omega) ⟨by simp,by simp⟩
theorem uI(h:kC k t)(hk:50≤k){p:List (List Int)}(hl:∀l∈p,l.length < k):cY k t p=some (kJ t p):=by
 unfold cY kJ;rw [D8 h,bs];by_cases c:kR t=0
 ·have g:=xj c;rw [if_neg (not_not_intro c),if_neg (not_not_intro c)];unfold chkV;by_cases c1:p.length < t.2.2.length
  ·rw [if_pos (show(p.length:Int) < (t.2.2.length:Int) by omega),if_pos c1]
  ·rw [if_neg (show¬(p.length:Int) < (t.2.2.length:Int) by omega),if_neg c1];by_cases c2:t.2.2.length < p.length
   ·rw [if_pos (show(t.2.2.length:Int) < (p.length:Int) by omega),if_pos c2]
   ·rw [if_neg (show¬(t.2.2.length:Int) < (p.length:Int) by omega),if_neg c2,Ae g hk h.k1 (by omega) hl];cases bb (fm t) 0 p [] with
    |error e=>rw [ny]
    |ok m=>
     rw [m4];by_cases c3:m.length < t.2.1.length
     ·rw [if_pos (show(m.length:Int) < (t.2.1.length:Int) by omega)];simp only [c3,if_true]
     ·rw [if_neg (show¬(m.length:Int) < (t.2.1.length:Int) by omega)];simp only [c3,if_false]
 ·rw [if_pos c,if_pos c]
structure ky(t:bR)(p:List (List Int)):Prop where
 g:pM t
 len:p.length=t.2.2.length
 nd:p.flatten.Nodup
 rng:∀x∈p.flatten,0≤x∧x < (t.2.1.length:Int)
 all:∀i:Nat,i < t.2.1.length→(i:Int)∈p.flatten
 room:∀i (h:i < p.length),fC t p[i]≤t.2.2[i]?.getD 0
theorem ux{p:List (List Int)}(h:kJ t p=0):ky t p:=by
 unfold kJ at h;by_cases c:kR t=0
 ·rw [if_neg (not_not_intro c)] at h;have g:=xj c;unfold chkV at h;by_cases c1:p.length < t.2.2.length
  ·rw [if_pos c1] at h;cases h
  ·rw [if_neg c1] at h;by_cases c2:t.2.2.length < p.length
   ·rw [if_pos c2] at h;cases h
   ·rw [if_neg c2] at h;cases e:bb (fm t) 0 p [] with
    |error e'=>
     exfalso;rw [e] at h
     have hne:bb (fm t) 0 p []≠.error 0:=kh (fun m j l=>by
      unfold fm;have:=kh (g:=fun m _ x=>iZ t.2.1.length m x) (fun m _ x=>by unfold iZ;split;(· simp);(· split <;> simp)) l 0 m;cases e:bb (fun m _ x=>iZ t.2.1.length m x) 0 l m with
      |error e'=>intro h;rw [e] at this;exact this h
      |ok m'=>dsimp only;split <;> simp) _ _ _
     rw [e] at hne;exact hne (congrArg _ h)
    |ok m=>
     rw [e] at h;obtain⟨h3,h4,h5⟩:=BJ (t:=t) ⟨by simp,by simp⟩ e;rw [List.nil_append] at h3;subst h3;by_cases c3:p.flatten.length < t.2.1.length
     ·simp only [c3,if_true] at h;cases h
     ·exact⟨g,by omega,h4.nd,h4.rng,h4.full.1 c3,fun i hi=>by have:=(h5 i hi).2;rw [Nat.zero_add] at this;exact this⟩
 ·rw [if_pos c] at h;exact absurd h c
end
theorem Lo.mono{l:bI}{m n:Int}(h:Lo l m)(hn:m≤n):Lo l n:=⟨h.1,Int.le_trans h.2 hn⟩
theorem Ff{α:Type}{l:List α}{x:α}{n:Nat}(h:l.length≤n)(hn:n≤1000000):bV (List.length l+List.length [x]):=by
 show List.length l+List.length [x]≤4294967296;simp only [List.length_cons,List.length_nil];omega
structure Eh(t:bR)(things trunks:Int):Prop where
 days:1≤t.1∧t.1≤4
 things:(t.2.1.length:Int)≤things
 item:∀x∈t.2.1,1≤x.1∧x.1≤3∧x.2.length≤4∧(∀d∈x.2,0≤d∧d < t.1)∧x.2.Pairwise (· < ·)
 trunks:1≤t.2.2.length∧(t.2.2.length:Int)≤trunks
 rooms:∀n∈t.2.2,0≤n∧n≤9
theorem xh{a b:Int}(ha:0≤a)(hb:0≤b):0≤pE a b∧pE a b≤a:=by
 unfold pE;split <;> omega
section
variable {k:Nat}
theorem H3(hk:50≤k){r2:Int×bI}(hd:1≤r2.1∧r2.1≤4){l:bI}{m:Int}(hl:Lo l m)(hm:0≤m∧m≤1000):
 W (eO k r2 k (l.1,l.2.1,l.2.2,[],0)) fun r=>Lo (r.1,r.2.1,r.2.2.1) (m+4)∧r.2.2.2.length≤4∧(∀d∈r.2.2.2,0≤d∧d < r2.1)∧r.2.2.2.Pairwise (· < ·):=by
 refine W.loop (f:=eO k r2) (fun q y=>∃j:Nat,y.2.2.2.2=(j:Int)∧(j:Int)≤r2.1∧q=r2.1.toNat - j∧Lo (y.1,y.2.1,y.2.2.1) (m+j)∧y.2.2.2.1.length≤j∧(∀d∈y.2.2.2.1,0≤d∧d < (j:Int))∧y.2.2.2.1.Pairwise (· < ·)) ?_ r2.1.toNat k _ (by omega)
  ⟨0,rfl,by omega,by omega,by simpa using hl,by simp,by simp,by simp⟩
 rintro aQ q ⟨a,b,c,o,y⟩ ⟨j,hj,hle,hq,hlo,hlen,hr,hpw⟩ ih
 simp only at hj hlo hlen hr hpw
 subst hj
 unfold eO
 dsimp only
 refine W.ite (fun hlt=>?_) (fun hge=>W.ret ⟨hlo.mono (by omega),by show o.length≤4;omega,fun d hd'=>by have:=hr d hd';omega,hpw⟩)
 obtain⟨r,er,hr'⟩:=Bz (k:=k) (a:=2) hlo (by omega) (by decide) (by decide)
 rw [er,bs]
 cases hb:r.1 with
 |true=>
  rw [iT,dj (Ff hlen (by omega)),bs,bs,bz (by omega) (by omega),bs]
  exact ih (q - 1) _ (by omega) ⟨j+1,by show(j:Int)+1=((j+1:Nat):Int);omega,by omega,by omega,hr'.mono (by omega),by simp only [List.length_append,List.length_cons,List.length_nil];omega,fun d hd'=>by
   rcases List.mem_append.1 hd' with h |h
   ·have:=hr d h;omega
   ·rw [List.mem_singleton] at h;omega,by
   refine List.pairwise_append.2 ⟨hpw,by simp,fun a ha b hb=>?_⟩;rw [List.mem_singleton] at hb;have:=hr a ha;omega⟩
 |false=>
  rw [iF,bs,bz (by omega) (by omega),bs];exact ih (q - 1) _ (by omega) ⟨j+1,by show(j:Int)+1=((j+1:Nat):Int);omega,by omega,by omega,hr'.mono (by omega),by simp only;omega,fun d hd'=>by have:=hr d hd';omega,hpw⟩
theorem CZ(hk:50≤k){r2:Int×bI}(hd:1≤r2.1∧r2.1≤4){l:bI}{m:Int}(hl:Lo l m)(hm:0≤m∧m≤100){n:Nat}(hn:n≤8):
 W (eP k r2 k (l.1,l.2.1,l.2.2,[],0,(n:Int))) fun r=>Lo (r.1,r.2.1,r.2.2.1) (m+50)∧r.2.2.2.1.length=n∧(∀x∈r.2.2.2.1,1≤x.1∧x.1≤3∧x.2.length≤4∧(∀d∈x.2,0≤d∧d < r2.1)∧x.2.Pairwise (· < ·))∧0≤r.2.2.2.2∧r.2.2.2.2≤30:=by
 refine W.loop (f:=eP k r2) (fun q y=>∃j:Nat,y.2.2.2.2.2=(n:Int) - (j:Int)∧j≤n∧q=n - j∧Lo (y.1,y.2.1,y.2.2.1) (m+5 * j)∧y.2.2.2.1.length=j∧(∀x∈y.2.2.2.1,1≤x.1∧x.1≤3∧x.2.length≤4∧(∀d∈x.2,0≤d∧d < r2.1)∧x.2.Pairwise (· < ·))∧0≤y.2.2.2.2.1∧y.2.2.2.2.1≤3 * j) ?_ n k _ (by omega)
  ⟨0,by simp,by omega,by omega,by simpa using hl,rfl,by simp,by simp,by simp⟩
 rintro aQ q ⟨a,b,c,o,s,y⟩ ⟨j,hj,hle,hq,hlo,hlen,hx,hs0,hs1⟩ ih
 simp only at hj hlo hlen hx hs0 hs1
 subst hj
 unfold eP
 dsimp only
 refine W.ite (fun hlt=>?_) (fun hge=>W.ret ⟨hlo.mono (by omega),by show o.length=n;omega,hx,hs0,by show s≤30;omega⟩)
 obtain⟨r,er,hm1,hr⟩:=J0 (k:=k) (some_:=[1,1,1,2,3]) hlo (by omega) (by decide) (by decide)
 have hr3:1≤r.1∧r.1≤3:=by simp only [List.mem_cons,List.not_mem_nil,or_false] at hm1;omega
 rw [er,bs]
 obtain⟨w,ew,hw1,hw2,hw3,hw4⟩:=H3 hk hd (l:=r.2) hr (by omega)
 rw [show eO k r2 k (r.2.1,r.2.2.1,r.2.2.2,[],0)=some w from ew,bs,dj (Ff (n:=8) (by omega) (by omega)),bs,bz (by omega) (by omega),bs,bs,bz (by omega) (by omega),bs]
 refine ih (q - 1) _ (by omega) ⟨j+1,by show(n:Int) - (j:Int) - 1=(n:Int) - ((j+1:Nat):Int);omega,by omega,by omega,hw1.mono (by omega),by simp only [List.length_append,List.length_cons,List.length_nil];omega,fun x hx'=>?_,by show 0≤s+r.1;omega,by show s+r.1≤3 * ((j+1:Nat):Int);omega⟩
 rcases List.mem_append.1 hx' with h |h
 ·
  exact hx x h
 ·
  rw [List.mem_singleton] at h;subst h;exact⟨hr3.1,hr3.2,hw2,hw3,hw4⟩
theorem CY(hk:50≤k){x4:(List Int)×Int×Int×(List lI)×Int}(hs:0≤x4.2.2.2.2∧x4.2.2.2.2≤30){l:bI}{m:Int}(hl:Lo l m)(hm:0≤m∧m≤200){n:Nat}(hn:n≤8):
 W (eN k x4 k (l.1,l.2.1,l.2.2,[],(n:Int))) fun r=>Lo (r.1,r.2.1,r.2.2.1) (m+10)∧r.2.2.2.length=n∧(∀x∈r.2.2.2,0≤x∧x≤9):=by
 refine W.loop (f:=eN k x4) (fun q y=>∃j:Nat,y.2.2.2.2=(n:Int) - (j:Int)∧j≤n∧q=n - j∧Lo (y.1,y.2.1,y.2.2.1) (m+j)∧y.2.2.2.1.length=j∧(∀x∈y.2.2.2.1,0≤x∧x≤9)) ?_ n k _ (by omega)
  ⟨0,by simp,by omega,by omega,by simpa using hl,rfl,by simp⟩
 rintro aQ q ⟨a,b,c,o,y⟩ ⟨j,hj,hle,hq,hlo,hlen,hx⟩ ih
 simp only at hj hlo hlen hx
 subst hj
 unfold eN
 dsimp only
 refine W.ite (fun hlt=>?_) (fun hge=>W.ret ⟨hlo.mono (by omega),by show o.length=n;omega,hx⟩)
 rw [bz (by omega) (by omega),bs]
 obtain⟨r,er,hm1,hr⟩:=J0 (k:=k) (some_:=[1,2,3,pE 9 x4.2.2.2.2,pE 9 (x4.2.2.2.2+1)]) hlo (by omega) (by simp) (by simp)
 have i1:=xh (a:=9) (b:=x4.2.2.2.2) (by decide) hs.1
 have i2:=xh (a:=9) (b:=x4.2.2.2.2+1) (by decide) (by omega)
 have hr3:0≤r.1∧r.1≤9:=by simp only [List.mem_cons,List.not_mem_nil,or_false] at hm1;omega
 rw [er,bs,dj (Ff (n:=8) (by omega) (by omega)),bs,bz (by omega) (by omega),bs]
 refine ih (q - 1) _ (by omega) ⟨j+1,by show(n:Int) - (j:Int) - 1=(n:Int) - ((j+1:Nat):Int);omega,by omega,by omega,hr.mono (by omega),by simp only [List.length_append,List.length_cons,List.length_nil];omega,fun x hx'=>?_⟩
 rcases List.mem_append.1 hx' with h |h
 ·
  exact hx x h
 ·
  rw [List.mem_singleton] at h;subst h;exact hr3
theorem Ic(hk:50≤k){l:bI}{m:Int}(hl:Lo l m)(hm:0≤m∧m≤50){a b:Nat}(ha:a≤8)(hb:1≤b∧b≤8):
 W (jL k l (a:Int) (b:Int)) fun r=>Eh r.1 a b∧Lo r.2 (m+100):=by
 unfold jL
 obtain⟨r,er,h1,h2,h3⟩:=Gx (k:=k) (a:=1) (b:=4) hl (by omega) (by decide) (by decide) (by decide)
 rw [show eQ k (l.1,l.2.1,l.2.2) 1 4=some r from er,bs]
 obtain⟨r6,e6,h61,h62,h63⟩:=Gx (k:=k) (a:=0) (b:=(a:Int)) h3 (by omega) (by decide) (by omega) (by omega)
 rw [show eQ k (r.2.1,r.2.2.1,r.2.2.2) 0 (a:Int)=some r6 from e6,bs]
 obtain⟨n,hn⟩:=Int.eq_ofNat_of_zero_le h61
 obtain⟨x4,e4,hl4,hlen4,hit,hs0,hs1⟩:=CZ hk (r2:=r) ⟨h1,h2⟩ h63 (by omega) (n:=n) (by omega)
 rw [show eP k r k (r6.2.1,r6.2.2.1,r6.2.2.2,[],0,r6.1)=some x4 by rw [hn];exact e4,bs]
 obtain⟨r31,e31,h311,h312,h313⟩:=Gx (k:=k) (a:=1) (b:=(b:Int)) hl4 (by omega) (by decide) (by omega) (by omega)
 rw [show eQ k (x4.1,x4.2.1,x4.2.2.1) 1 (b:Int)=some r31 from e31,bs]
 obtain⟨n3,hn3⟩:=Int.eq_ofNat_of_zero_le (show 0≤r31.1 by omega)
 obtain⟨x29,e29,hl29,hlen29,hroom⟩:=CY hk (x4:=x4) ⟨hs0,hs1⟩ h313 (by omega) (n:=n3) (by omega)
 rw [show eN k x4 k (r31.2.1,r31.2.2.1,r31.2.2.2,[],r31.1)=some x29 by rw [hn3];exact e29,bs]
 obtain⟨r42,e42,h42⟩:=Bz (k:=k) (a:=2) hl29 (by omega) (by decide) (by decide)
 rw [show fQ k (x29.1,x29.2.1,x29.2.2.1) 2=some r42 from e42,bs]
 cases hb:r42.1 with
 |true=>
  have i1:=xh (a:=9) (b:=x4.2.2.2.2) (by decide) hs0;rw [iT,show aZ x29.2.2.2 0=some (x29.2.2.2[0]'(by omega)) from ct (i:=0) (by omega),bs,bs];refine W.ret ⟨⟨⟨h1,h2⟩,by show(x4.2.2.2.1.length:Int)≤_;omega,hit,by simp only [List.length_set];omega,fun y hy=>?_⟩,h42.mono (by omega)⟩;rcases List.mem_or_eq_of_mem_set hy with h |h
  ·exact hroom y h
  ·omega
 |false=>
  rw [iF,bs];exact W.ret ⟨⟨⟨h1,h2⟩,by show(x4.2.2.2.1.length:Int)≤_;omega,hit,by simp only;omega,hroom⟩,h42.mono (by omega)⟩
theorem pm{α:Type}{g:Nat→α→Except Int Unit}:∀(l:List α) (i:Nat),(∀(j:Nat) (h:j < l.length),g (i+j) l[j]= .ok ())→bb (fun(_:Unit) j x=>g j x) i l ()= .ok ()
 |[],_,_=>rfl
 |x::l,i,h=>by
  have h0:g i x= .ok ():=h 0 (by simp)
  rw [bb,h0]
  exact pm l (i+1) fun j hj=>by
   have:=h (j+1) (by simp;omega)
   rw [show i+1+j=i+(j+1) by omega]
   exact this
theorem Eh.chk{t:bR}{a b:Int}(h:Eh t a b)(ha:a≤5)(hb:b≤3):kR t=0:=by
 have h1:=h.days;have h2:=h.things;have h3:=h.trunks;unfold kR
 rw [if_neg (not_not_intro (show 1≤t.1∧t.1≤6 by omega)),if_neg (show¬5 < t.2.1.length by omega),pm (g:=fun _ x=>jw t.1 x) t.2.1 0 (fun j hj=>by
  obtain⟨a1,a2,_,a4,a5⟩:=h.item _ (List.getElem_mem hj);show jw t.1 t.2.1[j]= .ok ();unfold jw;rw [if_neg (not_not_intro ⟨a1,a2⟩)];refine pm (g:=fun i y=>ti t.1 t.2.1[j].2 i y) _ 0 (fun i hi=>?_);have hd:=a4 _ (List.getElem_mem hi);rw [Nat.zero_add];unfold ti;rw [if_neg (not_not_intro (show 0≤t.2.1[j].2[i]∧t.2.1[j].2[i]≤t.1 - 1 by omega)),if_neg];rintro⟨h0,hle⟩;have:=List.pairwise_iff_getElem.1 a5 (i - 1) i (by omega) hi (by omega);rw [List.getElem?_eq_getElem (show i - 1 < t.2.1[j].2.length by omega),Option.getD_some] at hle;omega)]
 simp only [show¬t.2.2.length < 1 by omega,show¬3 < t.2.2.length by omega,if_false]
 rw [pm (g:=fun _ n=>kF n) t.2.2 0 (fun j hj=>by
  have:=h.rooms _ (List.getElem_mem hj);show kF t.2.2[j]= .ok ();unfold kF;rw [if_pos this])]
 rfl
end
section
variable {k:Nat}
theorem F9(hk:50≤k){l:bI}{m:Int}{n:Nat}(hl:Lo l m)(hm:0≤m∧m≤1000)(hn:n≤8):W (gg k l (n:Int)) fun r=>Lo r.2 (m+10)∧r.1.length=n∧∀x∈r.1,0≤x∧x < (n:Int):=by
 unfold gg;refine W.bind (R:=fun r=>Lo (r.2.1,r.2.2.1,r.2.2.2) (m+10)∧r.1.length=n∧∀x∈r.1,0≤x∧x < (n:Int)) ?_ fun r h=>W.ret h
 refine W.loop (f:=dX k (n:Int)) (fun q y=>∃j:Nat,y.2.2.2.2=(j:Int)∧j≤n∧q=n - j∧Lo (y.1,y.2.1,y.2.2.1) (m+j)∧y.2.2.2.1.length=j∧∀x∈y.2.2.2.1,0≤x∧x < (n:Int)) ?_ n k _ (by omega)
  ⟨0,rfl,by omega,by omega,by simpa using hl,rfl,by simp⟩
 rintro aQ q ⟨nums,d,s,o,y⟩ ⟨j,hj,hle,hq,hlo,hlen,hx⟩ ih;simp only at hj hlo hlen hx;subst hj;unfold dX;dsimp only;refine W.ite (fun hlt=>?_) (fun hge=>W.ret ⟨hlo.mono (by omega),by show o.length=n;omega,hx⟩);obtain⟨r5,e5,a5,b5,c5⟩:=qC (k:=k) (n:=(j:Int)) hlo (by omega) (by omega);have b5:=b5 (by omega);have ho:(o++[(j:Int)]).length=j+1:=by simp [hlen]
 have hr5:r5.1.toNat < (o++[(j:Int)]).length:=by omega
 have hmem:∀x∈o++[(j:Int)],0≤x∧x < (n:Int):=fun x hx'=>by
  rcases List.mem_append.1 hx' with h |h
  ·exact hx x h
  ·simp only [List.mem_singleton] at h;omega
 rw [e5,bs,dj (Ff (n:=8) (by omega) (by omega)),bs,nq a5 hr5,bs,ct (by omega),bs];have hgs:aZ (List.set (o++[(j:Int)]) (Int.toNat (j:Int)) (o++[(j:Int)])[r5.1.toNat]) r5.1=some ((List.set (o++[(j:Int)]) (Int.toNat (j:Int)) (o++[(j:Int)])[r5.1.toNat])[r5.1.toNat]'(by rw [List.length_set];exact hr5)):=nq a5 (by rw [List.length_set];exact hr5);rw [hgs,bs,bz (by omega) (by omega),bs];refine ih (q - 1) (_,_,_,_,(j:Int)+1) (by omega) ⟨j+1,by show(j:Int)+1=((j+1:Nat):Int);omega,by omega,by omega,c5.mono (by omega),by simp [hlen],fun x hx'=>?_⟩;rcases List.mem_or_eq_of_mem_set hx' with h |h
 ·rcases List.mem_or_eq_of_mem_set h with h |h
  ·exact hmem x h
  ·subst h;exact hmem _ (List.getElem_mem hr5)
 ·subst h;omega
theorem H2{a b:Int}(ha:0≤a∧a≤1000000)(hb:0 < b∧b≤1000000):W (ox k a b) fun r=>0≤r∧r < b:=by
 unfold ox;have e1:Int.tmod a b=a % b:=Int.tmod_eq_emod_of_nonneg ha.1;have h1:=Int.emod_nonneg a (show b≠0 by omega);have h2:=Int.emod_lt_of_pos a hb.1;rw [dj (show b≠0 by omega),bs,e1,bz (by omega) (by omega),bs,bs];have e2:Int.tmod (a % b+b) b=(a % b+b) % b:=Int.tmod_eq_emod_of_nonneg (by omega);rw [e2];exact W.ret ⟨Int.emod_nonneg _ (by omega),Int.emod_lt_of_pos _ hb.1⟩
structure Pk(N i:Nat)(room:List Int)(out:List (List Int)):Prop where
 rl:room.length=N
 ol:out.length=N
 rr:∀x∈room, -3 * (i:Int)≤x∧x≤9
 oo:∀l∈out,l.length≤i
theorem Pk.next{N i:Nat}{room:List Int}{out:List (List Int)}(h:Pk N i room out):Pk N (i+1) room out:=
 ⟨h.rl,h.ol,fun x hx=>by have:=h.rr x hx;omega,fun l hl=>by have:=h.oo l hl;omega⟩
theorem E5(hk:50≤k){t:bR}{a b:Int}(ht:Eh t a b){r7:(List Int)×bI}(h7:∀x∈r7.1,0≤x∧x < (t.2.1.length:Int))
 {y:(List Int)×Int×Int×(List Int)×Int×(List (List Int))} {i N:Nat} (hi:y.2.2.2.2.1=(i:Int)) (hil:i < r7.1.length) (hi8:i≤8) (hN:N≤8) (hp:Pk N i y.2.2.2.1 y.2.2.2.2.2)
 {r15:Int×bI} {m:Int} (h15:0≤r15.1∧r15.1≤100) (hlo:Lo r15.2 m):
 W (dc k t r7 y r15 k (0,y.2.2.2.2.2)) fun r=>Lo (r.1,r.2.1,r.2.2.1) m∧Pk N (i+1) r.2.2.2.1 r.2.2.2.2:=by
 refine W.loop (f:=dc k t r7 y r15) (fun q z=>∃j:Nat,z.1=(j:Int)∧j≤N∧q=N - j∧z.2=y.2.2.2.2.2) ?_ N k _ (by omega) ⟨0,rfl,by omega,by omega,rfl⟩
 rintro aQ q ⟨z,o⟩ ⟨j,hj,hle,hq,ho⟩ ih
 simp only at hj ho
 subst hj ho
 have hrl:=hp.rl
 have hol:=hp.ol
 unfold dc
 dsimp only
 refine W.ite (fun hlt=>?_) (fun hge=>W.ret ⟨hlo,hp.next⟩)
 rw [bz (by omega) (by omega),bs]
 obtain⟨r19,e19,h190,h191⟩:=H2 (k:=k) (a:=r15.1+(j:Int)) (b:=(y.2.2.2.1.length:Int)) (by omega) (by omega)
 have hw:r19.toNat < y.2.2.2.1.length:=by omega
 have hx:=h7 _ (List.getElem_mem hil)
 have hx2:(r7.1[i]).toNat < t.2.1.length:=by omega
 have hsz:=ht.item _ (List.getElem_mem hx2)
 have hrr:=hp.rr _ (List.getElem_mem hw)
 rw [e19,bs,nq h190 hw,bs,hi,ct hil,bs,nq hx.1 hx2,bs]
 have put:W ((aZ y.2.2.2.2.2 r19).bind fun x26=>(some r7.1[i]).bind fun x27=>(dT (bV (List.length x26+List.length [x27]))).bind fun _=>
  (some y.2.2.2.1[r19.toNat]).bind fun x30=>(some r7.1[i]).bind fun x31=>(aZ t.2.1 x31).bind fun x32=>(ck (x30 - x32.1)).bind fun x33=>
  (some y.2.2.2.1[r19.toNat]).bind fun x35=>some (r15.2.1,r15.2.2.1,r15.2.2.2,List.set y.2.2.2.1 (Int.toNat r19) x33,List.set y.2.2.2.2.2 (Int.toNat r19) (x26++[x27])))
  fun r=>Lo (r.1,r.2.1,r.2.2.1) m∧Pk N (i+1) r.2.2.2.1 r.2.2.2.2:=by
  have hw2:r19.toNat < y.2.2.2.2.2.length:=by omega
  have hoo:=hp.oo _ (List.getElem_mem hw2);rw [nq h190 hw2,bs,bs,dj (Ff (n:=8) (by omega) (by omega)),bs,bs,bs,nq hx.1 hx2,bs,bz (by omega) (by omega),bs,bs];refine W.ret ⟨hlo,⟨by simp only [List.length_set];exact hrl,by simp only [List.length_set];exact hol,fun x hx=>?_,fun l hl=>?_⟩⟩
  ·rcases List.mem_or_eq_of_mem_set hx with h |h
   ·have:=hp.rr x h;omega
   ·omega
  ·rcases List.mem_or_eq_of_mem_set hl with h |h
   ·have:=hp.oo l h;omega
   ·subst h;simp only [List.length_append,List.length_cons,List.length_nil];omega
 refine W.iteB (fun c=>?_) (fun c=>?_)
 ·
  rw [bs,iT];exact put
 ·
  rw [bz (by omega) (by omega),bs,bs];dsimp only;by_cases c1:(j:Int)=(y.2.2.2.1.length:Int) - 1
  ·rw [decide_eq_true c1,iT];exact put
  ·rw [decide_eq_false c1,iF,bz (by omega) (by omega),bs];exact ih (q - 1) _ (by omega) ⟨j+1,by show(j:Int)+1=((j+1:Nat):Int);omega,by omega,by omega,rfl⟩
theorem Aw(hk:50≤k){t:bR}{a b:Nat}(ht:Eh t a b)(ha:a≤8)(hb:b≤8){l:bI}{m:Int}(hl:Lo l m)(hm:0≤m∧m≤500):
 W (g9 k l t) fun r=>r.1.length=t.2.2.length∧(∀x∈r.1,x.length≤8)∧Lo r.2 (m+20):=by
 have h1:=ht.things
 have h2:=ht.trunks
 unfold g9
 rw [dj (by exact⟨by omega,MR (by omega)⟩),bs,dj (MR (by simp only [List.length_nil];omega)),bs]
 obtain⟨r7,e7,hlo7,hlen7,hr7⟩:=F9 hk hl (by omega) (n:=t.2.1.length) (by omega)
 rw [show gg k (l.1,l.2.1,l.2.2) (t.2.1.length:Int)=some r7 from e7,bs]
 refine W.bind (R:=fun r=>Lo (r.1,r.2.1,r.2.2.1) (m+20)∧r.2.2.2.length=t.2.2.length∧∀x∈r.2.2.2,x.length≤8) ?_ fun r h=>W.ret ⟨h.2.1,h.2.2,h.1⟩
 refine W.loop (f:=eU k t r7) (fun q y=>∃j:Nat,y.2.2.2.2.1=(j:Int)∧j≤r7.1.length∧q=r7.1.length - j∧Lo (y.1,y.2.1,y.2.2.1) (m+10+j)∧Pk t.2.2.length j y.2.2.2.1 y.2.2.2.2.2) ?_ r7.1.length k _ (by omega)
  ⟨0,rfl,by omega,by omega,by simpa using hlo7,⟨by simp,by simp,fun x hx=>by have:=ht.rooms x (by simpa using hx);omega,fun l hl=>by simp at hl;simp [hl.2]⟩⟩
 rintro aQ q ⟨nums,d,s,room,y,o⟩ ⟨j,hj,hle,hq,hlo,hp⟩ ih
 simp only at hj hlo hp
 subst hj
 have hrl:=hp.rl
 unfold eU
 dsimp only
 refine W.ite (fun hlt=>?_) (fun hge=>W.ret ⟨hlo.mono (by omega),hp.ol,fun x hx=>by have:=hp.oo x hx;omega⟩)
 rw [bz (by omega) (by omega),bs]
 obtain⟨r15,e15,a15,b15,c15⟩:=qC (k:=k) (n:=(room.length:Int) - 1) hlo (by omega) (by omega)
 have b15:=b15 (by omega)
 rw [e15,bs]
 obtain⟨r,er,h3,h4⟩:=E5 hk ht (r7:=r7) hr7 (y:=(nums,d,s,room,(j:Int),o)) (i:=j) (N:=t.2.2.length) rfl (by omega) (by omega) (by omega) hp (r15:=r15) ⟨a15,by omega⟩ c15
 rw [show dc k t r7 (nums,d,s,room,(j:Int),o) r15 k (0,o)=some r from er,bs,bz (by omega) (by omega),bs]
 exact ih (q - 1) _ (by omega) ⟨j+1,by show(j:Int)+1=((j+1:Nat):Int);omega,by omega,by omega,h3.mono (by omega),h4⟩
structure uT(t:bR)(p:List (List Int))(a:Int):Prop where
 kit:Eh t a 3
 len:p.length=t.2.2.length
 short:∀l∈p,l.length≤8
theorem If(hk:50≤k)(hk1:k≤1000000){l:bI}{m:Int}(hl:Lo l m)(hm:0≤m∧m≤10){a:Nat}(ha:a≤8):
 W (mT k l (a:Int)) fun r=>uT r.1 r.2.1 a∧r.2.2.1=decide (kJ r.1 r.2.1=0)∧Lo r.2.2.2 (m+200):=by
 unfold mT
 obtain⟨r2,e2,ht,hl2⟩:=Ic hk hl (by omega) (a:=a) (b:=3) ha (by omega)
 rw [show jL k (l.1,l.2.1,l.2.2) (a:Int) 3=some r2 from e2,bs]
 obtain⟨r4,e4,h1,h2,h3⟩:=Aw hk ht ha (by omega) hl2 (by omega)
 rw [show g9 k (r2.2.1,r2.2.2.1,r2.2.2.2) r2.1=some r4 from e4,bs]
 have hs:kC k r2.1:=⟨hk1,by have:=ht.things;omega,fun x hx=>by have:=ht.item x hx;omega,by have:=ht.trunks;omega⟩
 rw [uI hs hk (fun l hl=>by have:=h2 l hl;omega),bs]
 exact W.ret ⟨⟨ht,h1,h2⟩,rfl,h3.mono (by omega)⟩
theorem uT.small{t:bR}{p:List (List Int)}{a:Nat}(h:uT t p a)(hk:50≤k)(hk1:k≤1000000)(ha:a≤8):kC k t:=
 ⟨hk1,by have:=h.kit.things;omega,fun x hx=>by have:=h.kit.item x hx;omega,by have:=h.kit.trunks;omega⟩
theorem uT.checkP{t:bR}{p:List (List Int)}{a:Nat}(h:uT t p a)(hk:50≤k)(hk1:k≤1000000)(ha:a≤8):bF k t p=some (kJ t p):=
 qs (h.small hk hk1 ha) (by omega) fun l hl=>by have:=h.short l hl;omega
end
def rc(l:List Int)(x:Int):Int:=match l.findIdx? (fun y=>decide (y=x)) with
 |some i=>(i:Int)
 |none=> -1
theorem tz{l:List Int}{x:Int}:0≤rc l x↔x∈l:=by
 unfold rc;cases h:l.findIdx? (fun y=>decide (y=x)) with
 |none=>
  rw [List.findIdx?_eq_none_iff] at h;constructor
  ·intro h0;simp only at h0;omega
  ·intro hx;have:=h x hx;simp at this
 |some i=>
  rw [List.findIdx?_eq_some_iff_getElem] at h;obtain⟨hi,h1,_⟩:=h;have:l[i]=x:=by simpa using h1
  exact⟨fun _=>this▸List.getElem_mem hi,fun _=>by simp only;omega⟩
theorem zj{l:List Int}{x:Int}(h:x∈l):∃p s,l=p++x::s∧rc l x=(p.length:Int)∧x∉p:=by
 unfold rc;cases h1:l.findIdx? (fun y=>decide (y=x)) with
 |none=>
  rw [List.findIdx?_eq_none_iff] at h1;have:=h1 x h;simp at this
 |some i=>
  rw [List.findIdx?_eq_some_iff_getElem] at h1;obtain⟨hi,h2,h3⟩:=h1;have e:l[i]=x:=by simpa using h2
  refine⟨l.take i,l.drop (i+1),?_,by simp only [List.length_take];omega,fun hx=>?_⟩
  ·rw [←e,←List.drop_eq_getElem_cons hi,List.take_append_drop]
  ·obtain⟨j,hj,ej⟩:=List.getElem_of_mem hx;simp only [List.length_take] at hj;have:=h3 j (by omega);rw [List.getElem_take] at ej;simp [ej] at this
section
variable {k:Nat}
theorem GU{l:List Int}{x:Int}:K.bE (some (bb (fun(_:Unit) j y=>if decide (y=x) then Except.error (j:Int) else .ok ()) 0 l ())) some (fun _=>some (-1))=some (rc l x):=by
 rw [uD];unfold rc;cases l.findIdx? (fun y=>decide (y=x)) with
 |none=>exact m4
 |some i=>exact ny
theorem zi{l:List Int}{x:Int}(hk:l.length < k)(hk1:k≤1000000):g7 k l x=some (rc l x):=by
 unfold g7
 have:=mZ (f:=cX k l x) l (fun(_:Unit) j=>j) (fun _ j y=>if decide (y=x) then Except.error (j:Int) else .ok ()) (fun _ _=>True) (fun r=>some r)
  (fun n s j h _=>⟨by
   rw [cX,if_pos (Int.ofNat_lt.2 h),ct h,bs];by_cases c:l[j]=x
   ·rw [if_pos c.symm,decide_eq_true c,iT]
   ·rw [if_neg (fun h=>c h.symm),decide_eq_false c,iF,bz (by omega) (by omega),bs],fun _ _=>trivial⟩)
  (fun n s _=>by rw [cX,if_neg (by omega)]) (s0:=()) (n:=k) hk trivial
 rw [show cX k l x k 0=_ from this];exact GU
theorem zz{l:List Int}{x:Int}(hk:l.length < k)(hk1:k≤1000000):f7 k l x=some (decide (x∈l)):=by
 unfold f7;rw [zi hk hk1,bs];congr 1;exact decide_eq_decide.2 tz
def qT(l:List Int):List Int:=[l[0]?.getD (-1),l[1]?.getD (-1),l[2]?.getD (-1),l[3]?.getD (-1),l[4]?.getD (-1)]
def ge(p:List (List Int)):List (List Int):=[qT (p[0]?.getD []),qT (p[1]?.getD []),qT (p[2]?.getD [])]
theorem vP{p ld:List (List Int)}{row:List Int}{i j n:Nat}{y:List (List Int)}(hi:i < 3)(hj:j < 5)(hr:ld[i]? =some row)(hl:row.length=5):
 cE k p (y,(i:Int)) (n+1) (ld,(j:Int))=cE k p (y,(i:Int)) n (ld.set i (row.set j ((p[i]?.getD [])[j]?.getD (-1))),((j+1:Nat):Int)):=by
 have hil:i < ld.length:=by
  rcases Nat.lt_or_ge i ld.length with h |h
  ·exact h
  ·rw [List.getElem?_eq_none h] at hr;cases hr
 have hg:aZ ld (i:Int)=some row:=AZ (by omega) hr
 rw [cE]
 dsimp only
 rw [if_pos (show(j:Int) < 5 by omega),dj (by omega),bs,hg,bs,dj (by omega),bs]
 have ei:Int.toNat (i:Int)=i:=rfl
 have ej:Int.toNat (j:Int)=j:=rfl
 rw [ei,ej]
 by_cases c:i < p.length
 ·
  have ep:p[i]?.getD []=p[i]:=by rw [List.getElem?_eq_getElem c];rfl
  rw [if_pos (show(i:Int) < (p.length:Int) by omega),ct c,bs,bs,ep];by_cases c1:j < p[i].length
  ·have e2:p[i][j]?.getD (-1)=p[i][j]:=by rw [List.getElem?_eq_getElem c1];rfl
   rw [decide_eq_true (show(j:Int) < (p[i].length:Int) by omega),iT,bs,ct c1,bs,bs]
   have hg2:aZ (ld.set i (row.set j (-1))) (i:Int)=some (row.set j (-1)):=AZ (by omega) (by
    show(ld.set i (row.set j (-1)))[i]? =_;rw [List.getElem?_set_self hil])
   rw [hg2,bs,bs,bs,bz (by omega) (by omega),bs,List.set_set,List.set_set,e2];rfl
  ·have e2:p[i][j]?.getD (-1)= -1:=by rw [List.getElem?_eq_none (by omega)];rfl
   rw [decide_eq_false (show¬(j:Int) < (p[i].length:Int) by omega),iF,bs,bz (by omega) (by omega),bs,e2];rfl
 ·
  have ep:p[i]?.getD []=[]:=by rw [List.getElem?_eq_none (by omega)];rfl
  rw [if_neg (show¬(i:Int) < (p.length:Int) by omega),bs,iF,bs,bz (by omega) (by omega),bs,ep];rfl
theorem Gm(hk:50≤k){p ld:List (List Int)}{row:List Int}{i:Nat}{y:List (List Int)}(hi:i < 3)(hr:ld[i]? =some row)(hl:row.length=5):
 cE k p (y,(i:Int)) k (ld,0)=some (ld.set i (qT (p[i]?.getD []))):=by
 obtain⟨n,rfl⟩:∃n,k=n+6:=⟨k - 6,by omega⟩
 have hil:i < ld.length:=by
  rcases Nat.lt_or_ge i ld.length with h |h
  ·exact h
  ·rw [List.getElem?_eq_none h] at hr;cases hr
 match row,hl with
 |[a,b,c,d,e],_=>
  have st:∀(j m:Nat) (row':List Int),j < 5→row'.length=5→cE (n+6) p (y,(i:Int)) (m+1) (ld.set i row',(j:Int))=cE (n+6) p (y,(i:Int)) m (ld.set i (row'.set j ((p[i]?.getD [])[j]?.getD (-1))),((j+1:Nat):Int)):=fun j m row' hj hl'=>by
   rw [vP hi hj (List.getElem?_set_self hil) hl',List.set_set]
  have h0:=vP (k:=n+6) (p:=p) (y:=y) (n:=n+5) (j:=0) hi (by omega) hr rfl;rw [show((0:Nat):Int)=0 from rfl] at h0;rw [h0,st 1 _ _ (by omega) (by simp),st 2 _ _ (by omega) (by simp),st 3 _ _ (by omega) (by simp),st 4 _ _ (by omega) (by simp),cE];dsimp only;rw [if_neg (show¬(((4+1:Nat):Int) < 5) by omega)];rfl
theorem lF(hk:50≤k){p:List (List Int)}:cV k p=some (ge p):=by
 unfold cV;obtain⟨n,e⟩:∃n,k=n+4:=⟨k - 4,by omega⟩
 have st:∀(i m:Nat) (ld:List (List Int)) (row:List Int),i < 3→ld[i]? =some row→row.length=5→cS k p (m+1) (ld,(i:Int))=cS k p m (ld.set i (qT (p[i]?.getD [])),((i+1:Nat):Int)):=fun i m ld row hi hr hl=>by
  rw [cS];dsimp only;rw [if_pos (show(i:Int) < 3 by omega),Gm hk hi hr hl,bs,bz (by omega) (by omega),bs];rfl
 have h0:=st 0 (n+3) [[0,0,0,0,0],[0,0,0,0,0],[0,0,0,0,0]] _ (by omega) rfl rfl;rw [show((0:Nat):Int)=0 from rfl] at h0;have e2:cS k p k ([[0,0,0,0,0],[0,0,0,0,0],[0,0,0,0,0]],0)=cS k p (n+3+1) ([[0,0,0,0,0],[0,0,0,0,0],[0,0,0,0,0]],0):=by rw [←e]
 rw [e2,h0,st 1 _ _ _ (by omega) rfl rfl,st 2 _ _ _ (by omega) rfl rfl,cS];dsimp only;rw [if_neg (show¬(((2+1:Nat):Int) < 3) by omega),bs];rfl
def MI(l:List Int):Prop:=l.length≤5∧∀x∈l,0≤x
theorem Av{l:List Int}(h:MI l):(qT l).filter (fun x=>decide (0≤x))=l:=by
 obtain⟨h1,h2⟩:=h;match l,h1 with
 |[],_=>rfl
 |[a],_=>have:=h2 a (by simp);simp [qT,this]
 |[a,b],_=>have:=h2 a (by simp);have:=h2 b (by simp);simp [qT, *]
 |[a,b,c],_=>have:=h2 a (by simp);have:=h2 b (by simp);have:=h2 c (by simp);simp [qT, *]
 |[a,b,c,d],_=>have:=h2 a (by simp);have:=h2 b (by simp);have:=h2 c (by simp);have:=h2 d (by simp);simp [qT, *]
 |[a,b,c,d,e],_=>have:=h2 a (by simp);have:=h2 b (by simp);have:=h2 c (by simp);have:=h2 d (by simp);have:=h2 e (by simp);simp [qT, *]
theorem Gn(hk:50≤k){row:List Int}(hr:row.length=5):cK k row k ([],0)=some (row.filter fun x=>decide (0≤x)):=by
 have:=zn (f:=cK k row) row (fun(s:List Int) j=>(s,j)) (fun s _ x=>if 0≤x then s++[x] else s) (fun j s=>s.length≤j∧s=(row.take j).filter fun x=>decide (0≤x)) (fun s=>some s)
  (fun n s j h hp=>by
   have hl:=hp.1;refine⟨?_,?_,?_⟩
   ·rw [cK];dsimp only;rw [if_pos (show(j:Int) < 5 by omega),ct h,bs];by_cases c:0≤row[j]
    ·rw [if_pos c,dj (Ff (n:=5) (by omega) (by omega)),bs,bs,bz (by omega) (by omega),bs,if_pos c]
    ·rw [if_neg c,bs,bz (by omega) (by omega),bs,if_neg c]
   ·split
    ·simp only [List.length_append,List.length_cons,List.length_nil];omega
    ·omega
   ·rw [List.take_add_one,List.getElem?_eq_getElem h,Option.toList_some,List.filter_append,←hp.2];by_cases c:0≤row[j]
    ·rw [if_pos c];simp [c]
    ·rw [if_neg c];simp [c])
  (fun n s _=>by rw [cK,if_neg (show¬((row.length:Int) < 5) by omega)]) (s0:=[]) (n:=k) (by omega) ⟨by simp,by simp⟩
 obtain⟨h1,h2,h3⟩:=this;rw [show cK k row k ([],0)=_ from h1,h3,List.take_of_length_le (Nat.le_refl _)]
theorem xd(hk:50≤k){p:List (List Int)}{i:Nat}(hi:i < 3)(hf:MI (p[i]?.getD [])):dJ k (ge p) (i:Int)=some (p[i]?.getD []):=by
 unfold dJ
 have hg:aZ (ge p) (i:Int)=some (qT (p[i]?.getD [])):=AZ (by omega) (by
  match i,hi with
  |0,_=>rfl
  |1,_=>rfl
  |2,_=>rfl)
 rw [dj (by omega),bs,hg,bs,Gn hk rfl,bs,Av hf]
end
section
variable {k:Nat}
theorem Bj{t:bR}{d:Int}{n:Nat}:nU t d (n:Int)=true↔∃h:n < t.2.1.length,d∈t.2.1[n].2:=by
 unfold nU;rw [show((n:Int)).toNat=n from rfl];rcases Nat.lt_or_ge n t.2.1.length with h |h
 ·rw [List.getElem?_eq_getElem h];simp [h]
 ·rw [List.getElem?_eq_none h];simp [Nat.not_lt.2 h]
theorem xY(hk1:k≤1000000){t:bR}(hn:t.2.1.length≤8)(hnk:t.2.1.length < k)(hw:∀x∈t.2.1,x.2.length < k){d:Int}:W (gY k (t,()) d) fun m=>jT m∧∀i:Nat,eu m i↔nU t d (i:Int)=true:=by
 unfold gY;refine W.bind (R:=fun m=>jT m∧∀i:Nat,eu m i↔nU t d (i:Int)=true) ?_ fun r h=>W.ret h
 refine W.loop (f:=eR k (t,()) d) (fun q y=>∃j:Nat,y.2=(j:Int)∧j≤t.2.1.length∧q=t.2.1.length - j∧jT y.1∧∀i:Nat,eu y.1 i↔i < j∧nU t d (i:Int)=true) ?_ t.2.1.length k (0,0) hnk
  ⟨0,rfl,by omega,by omega,⟨by decide,by decide⟩,fun i=>by simp [eu]⟩
 rintro aQ q ⟨s,y⟩ ⟨j,hj,hle,hq,hm,hh⟩ ih;simp only at hj hm hh;subst hj;unfold eR;dsimp only;refine W.ite (fun hlt=>?_) (fun hge=>W.ret ⟨hm,fun i=>?_⟩)
 ·have hlt':j < t.2.1.length:=by omega
  rw [ct hlt',bs,zz (hw _ (List.getElem_mem hlt')) hk1,bs];have hj:nU t d (j:Int)=true↔d∈t.2.1[j].2:=by rw [Bj];exact⟨fun⟨_,h⟩=>h,fun h=>⟨hlt',h⟩⟩
  by_cases c:d∈t.2.1[j].2
  ·obtain⟨o1,o2⟩:=Ax (x:=(j:Int)) (by omega) (by omega);obtain⟨p1,p2⟩:=xg hm o1;rw [decide_eq_true c,iT];unfold eE;rw [dj (by omega),bs,bs,bs,bz (by omega) (by omega),bs];refine ih (q - 1) (_,(j:Int)+1) (by omega) ⟨j+1,by show(j:Int)+1=((j+1:Nat):Int);omega,by omega,by omega,p1,fun i=>?_⟩;rw [p2,hh,o2];constructor
   ·rintro(⟨a,b⟩ |h)
    ·exact⟨by omega,b⟩
    ·have:i=j:=by omega
     subst this;exact⟨by omega,hj.2 c⟩
   ·rintro⟨a,b⟩;by_cases e:i=j
    ·exact .inr (by omega)
    ·exact .inl ⟨by omega,b⟩
  ·rw [decide_eq_false c,iF,bs,bz (by omega) (by omega),bs];refine ih (q - 1) (_,(j:Int)+1) (by omega) ⟨j+1,by show(j:Int)+1=((j+1:Nat):Int);omega,by omega,by omega,hm,fun i=>?_⟩;rw [hh];constructor
   ·rintro⟨a,b⟩;exact⟨by omega,b⟩
   ·rintro⟨a,b⟩;have:i≠j:=fun e=>c (hj.1 (e▸b));exact⟨by omega,b⟩
 ·rw [hh];constructor
  ·exact fun h=>h.2
  ·intro h;obtain⟨h1,_⟩:=Bj.1 h;exact⟨by omega,h⟩
theorem Iq{l:List Int}(hk:l.length < k)(hk1:k≤1000000):oc k l=some l:=by
 have key:∀(j n:Nat),j≤l.length→j < n→cr k l (pI fun(y3:List Int) (p5:Int×Int)=>some ((p5.2::y3),true)) n ((j:Int) - 1,(l.drop j,false))=some (l,false):=by
  intro j
  induction j with
  |zero=>
   intro n _ hn
   obtain⟨n,rfl⟩:∃n',n=n'+1:=⟨n - 1,by omega⟩;rw [cr];dsimp only;rw [if_neg (by omega),List.drop_zero]
  |succ j ih=>
   intro n hj hn
   obtain⟨n,rfl⟩:∃n',n=n'+1:=⟨n - 1,by omega⟩;have e1:((j+1:Nat):Int) - 1=(j:Int):=by omega
   rw [cr,e1];dsimp only;rw [if_pos (show(0:Int)≤(j:Int) by omega),ct (by omega),bs];rw [show pI (fun(y3:List Int) (p5:Int×Int)=>some ((p5.2::y3),true)) (List.drop (j+1) l,false) ((j:Int),l[j])=some ((l[j]::List.drop (j+1) l,false),true) from rfl,bs];dsimp only;rw [nT,bz (by omega) (by omega),bs];have:=ih n (by omega) (by omega);rw [List.drop_eq_getElem_cons (show j < l.length by omega)] at this;exact this
 unfold oc gK;rw [bz (by omega) (by omega),bs];have:=key l.length k (by omega) hk;rw [List.drop_length] at this;rw [this,bs,iF]
theorem Dl{m:Int}(hm:jT m){w:Int→Bool}(hw:∀i:Nat,i < 8→(eu m i↔w (i:Int)=true)):∀(l:List Int) (n:Nat) (lf:Int) (up stay:List Int),l.length < n→(∀x∈l,0≤x∧x < 8)→jT lf→up.length+stay.length+l.length≤1000→
 W (gw k m n (lf,up,stay,l)) fun r=>r.2=(stay++l.filter (fun x=> !w x))++(up++l.filter w)∧jT r.1∧∀i:Nat,eu r.1 i↔eu lf i∨(i:Int)∈dO w (!up.isEmpty) l:=by
 intro l
 induction l with
 |nil=>
  intro n lf up stay hn _ hlf hlen
  obtain⟨n,rfl⟩:∃n',n=n'+1:=⟨n - 1,by omega⟩;rw [gw];dsimp only;rw [show List.isEmpty ([]:List Int)=true from rfl,iT,dj (MR (by simp only [List.length_nil] at hlen;omega)),bs];exact W.ret ⟨by simp,hlf,fun i=>by simp [dO]⟩
 |cons x l ih=>
  intro n lf up stay hn hx hlf hlen
  simp only [List.length_cons] at hn hlen;obtain⟨n,rfl⟩:∃n',n=n'+1:=⟨n - 1,by omega⟩;have hx0:=hx x (by simp);have hxl:∀y∈l,0≤y∧y < 8:=fun y hy=>hx y (by simp [hy]);obtain⟨xi,hxi⟩:=Int.eq_ofNat_of_zero_le hx0.1;subst hxi;have hhx:=hw xi (by omega);rw [gw];dsimp only;rw [show List.isEmpty ((xi:Int)::l)=false from rfl,iF,show nY ((xi:Int)::l)=some ((xi:Int),l) from rfl,bs,uv hm (by omega),bs];by_cases c:w (xi:Int)=true
  ·rw [decide_eq_true (hhx.2 c),iT,bs,dj (Ff (n:=1000) (by omega) (by omega)),bs,bs];refine(ih n lf (up++[(xi:Int)]) stay (by omega) hxl hlf (by simp only [List.length_append,List.length_cons,List.length_nil];omega)).mono fun r hr=>?_;obtain⟨h1,h2,h3⟩:=hr;refine⟨?_,h2,fun i=>?_⟩
   ·rw [h1];simp [c]
   ·rw [h3,dO,if_pos c,show(!(up++[(xi:Int)]).isEmpty)=true by cases up <;> rfl]
  ·have c':w (xi:Int)=false:=by simpa using c
   rw [decide_eq_false (fun h=>c (hhx.1 h)),iF];cases up with
   |nil=>
    rw [if_neg (show¬(0:Int) < (([]:List Int).length:Int) by simp),bs,bs,dj (Ff (n:=1000) (by omega) (by omega)),bs,bs];refine(ih n lf [] (stay++[(xi:Int)]) (by omega) hxl hlf (by simp only [List.length_append,List.length_cons,List.length_nil] at hlen⊢;omega)).mono fun r hr=>?_;obtain⟨h1,h2,h3⟩:=hr;refine⟨?_,h2,fun i=>?_⟩
    ·rw [h1];simp [c']
    ·rw [h3,dO,if_neg c];simp
   |cons u up=>
    obtain⟨o1,o2⟩:=Ax (x:=(xi:Int)) (by omega) (by omega);obtain⟨p1,p2⟩:=xg hlf o1;rw [if_pos (show(0:Int) < ((u::up).length:Int) by simp only [List.length_cons];omega),bs];unfold eE;rw [dj (show(0:Int)≤(xi:Int) by omega),bs,bs,bs,bs,dj (Ff (n:=1000) (by omega) (by omega)),bs,bs];refine(ih n _ (u::up) (stay++[(xi:Int)]) (by omega) hxl p1 (by simp only [List.length_append,List.length_cons,List.length_nil] at hlen⊢;omega)).mono fun r hr=>?_;obtain⟨h1,h2,h3⟩:=hr;refine⟨?_,h2,fun i=>?_⟩
    ·rw [h1];simp [c']
    ·rw [h3,p2,o2,dO,if_neg c];simp only [List.isEmpty_cons,Bool.not_false,if_true,List.mem_cons,or_assoc]
theorem BE(hk1:k≤1000000){m:Int}(hm:jT m){w:Int→Bool}(hw:∀i:Nat,i < 8→(eu m i↔w (i:Int)=true)){l:List Int}(hl:l.length < k)(hl9:l.length≤1000)(hx:∀x∈l,0≤x∧x < 8):
 W (mG k l m) fun r=>r.2=xP w l∧jT r.1∧∀i:Nat,eu r.1 i↔(i:Int)∈dO w false l:=by
 unfold mG
 rw [Iq hl hk1,bs]
 refine(Dl hm hw l k 0 [] [] hl hx ⟨by decide,by decide⟩ (by simp only [List.length_nil];omega)).mono fun r hr=>?_
 obtain⟨h1,h2,h3⟩:=hr
 refine⟨by rw [h1];simp [xP],h2,fun i=>?_⟩
 rw [h3];simp [eu]
structure HM(p:List (List Int)):Prop where
 len:p.length≤3
 fit:∀l∈p,l.length≤5∧∀x∈l,0≤x∧x < 8
theorem HM.at{p:List (List Int)}(h:HM p)(i:Nat):(p[i]?.getD []).length≤5∧∀x∈p[i]?.getD [],0≤x∧x < 8:=by
 rcases Nat.lt_or_ge i p.length with hi |hi
 ·rw [List.getElem?_eq_getElem hi];exact h.fit _ (List.getElem_mem hi)
 ·rw [List.getElem?_eq_none hi];simp
theorem HM.fitL{p:List (List Int)}(h:HM p)(i:Nat):MI (p[i]?.getD []):=⟨(h.at i).1,fun x hx=>((h.at i).2 x hx).1⟩
theorem HM.next{p:List (List Int)}(h:HM p){w:Int→Bool}:HM (p.map (xP w)):=
 ⟨by rw [List.length_map];exact h.len,fun l hl=>by
  obtain⟨q,hq,rfl⟩:=List.mem_map.1 hl
  have:=h.fit q hq
  exact⟨by rw [lB.length_eq];exact this.1,fun x hx=>this.2 x (lB.mem_iff.1 hx)⟩⟩
structure HO(k:Nat)(t:bR):Prop where
 k0:50≤k
 k1:k≤1000000
 things:t.2.1.length≤8
 worn:∀x∈t.2.1,x.2.length < k
theorem Ba{t:bR}(h:HO k t){p:List (List Int)}(hp:HM p){d:Int}:
 W (gB k (t,()) (ge p) d) fun r=>r.2=ge (p.map (xP (nU t d)))∧jT r.1∧∀i:Nat,eu r.1 i↔∃l∈p,(i:Int)∈dO (nU t d) false l:=by
 have hk0:=h.k0
 have hk1:=h.k1
 have h8:=h.things
 obtain⟨m,em,hm,hmm⟩:=xY hk1 (t:=t) (d:=d) h8 (by omega) h.worn
 unfold gB
 have st:∀(i n:Nat) (s:Int) (o:List (List Int)),i < 3→o.length≤3→jT s→∃s',cI k (t,()) (ge p) d (n+1) (s,o,(i:Int))=cI k (t,()) (ge p) d n (s',o++[xP (nU t d) (p[i]?.getD [])],((i+1:Nat):Int))∧jT s'∧∀j:Nat,eu s' j↔eu s j∨(j:Int)∈dO (nU t d) false (p[i]?.getD []):=by
  intro i n s o hi ho hs;have hf:=hp.at i;obtain⟨r,er,h1,h2,h3⟩:=BE hk1 (m:=m) hm (w:=nU t d) (fun j _=>hmm j) (l:=p[i]?.getD []) (by omega) (by omega) hf.2;obtain⟨p1,p2⟩:=xg hs h2;refine⟨BM .u8 s r.1,?_,p1,fun j=>by rw [p2,h3]⟩;rw [cI];dsimp only;rw [if_pos (show(i:Int) < 3 by omega),xd hk0 hi (hp.fitL i),bs,em,bs,er,bs,dj (Ff (n:=3) (by omega) (by omega)),bs,bz (by omega) (by omega),bs,h1];rfl
 obtain⟨n,e⟩:∃n,k=n+4:=⟨k - 4,by omega⟩
 obtain⟨s0,a0,b0,c0⟩:=st 0 (n+3) 0 [] (by omega) (by simp) ⟨by decide,by decide⟩
 obtain⟨s1,a1,b1,c1⟩:=st 1 (n+2) s0 ([]++[xP (nU t d) (p[0]?.getD [])]) (by omega) (by simp) b0
 obtain⟨s2,a2,b2,c2⟩:=st 2 (n+1) s1 ([]++[xP (nU t d) (p[0]?.getD [])]++[xP (nU t d) (p[1]?.getD [])]) (by omega) (by simp) b1
 have e2:cI k (t,()) (ge p) d k (0,[],0)=cI k (t,()) (ge p) d (n+3+1) (0,[],((0:Nat):Int)):=by rw [←e];rfl
 rw [e2,a0,a1,a2,cI]
 dsimp only
 rw [if_neg (show¬(((2+1:Nat):Int) < 3) by omega),bs,lF hk0,bs]
 refine W.ret ⟨?_,b2,fun i=>?_⟩
 ·
  have em:∀i:Nat,(p.map (xP (nU t d)))[i]?.getD []=xP (nU t d) (p[i]?.getD []):=fun i=>by
   rw [List.getElem?_map];cases p[i]? <;> rfl
  show ge _=ge _;unfold ge;rw [em,em,em];rfl
 ·
  rw [c2,c1,c0];have hl:=hp.len;have h0:eu 0 i↔False:=by simp [eu]
  rw [h0,false_or,or_assoc];match p,hl with
  |[],_=>simp [dO]
  |[a],_=>simp [dO]
  |[a,b],_=>simp [dO]
  |[a,b,c],_=>simp
theorem yZ{t:bR}(hk0:50≤k){p:List (List Int)}(hp:HM p)(hl:p.length=t.2.2.length):dM k (t,()) (ge p)=some p:=by
 have h3:=hp.len;unfold dM;rw [dj (by exact⟨by omega,show Int.toNat (t.2.2.length:Int)≤4294967296 by omega⟩),bs]
 have hb:=W.loop (f:=dV k (t,()) (ge p)) (Q:=fun r=>r=p) (fun q y=>∃j:Nat,y.2=(j:Int)∧j≤p.length∧q=p.length - j∧y.1=p.take j++List.replicate (p.length - j) []) (by
  rintro aQ q ⟨o,y⟩ ⟨j,hj,hle,hq,ho⟩ ih;simp only at hj ho;subst hj;unfold dV;dsimp only;rw [List.length_replicate];refine W.ite (fun hlt=>?_) (fun hge=>W.ret ?_)
  ·have hj:j < p.length:=by omega
   have ho':j < o.length:=by rw [ho];simp only [List.length_append,List.length_take,List.length_replicate];omega
   rw [xd hk0 (by omega) (hp.fitL j),bs,ct ho',bs,bz (by omega) (by omega),bs];refine ih (q - 1) (_,(j:Int)+1) (by omega) ⟨j+1,by show(j:Int)+1=((j+1:Nat):Int);omega,by omega,by omega,?_⟩;show List.set o j (p[j]?.getD [])=_;have e1:p.length - j=p.length - (j+1)+1:=by omega
   rw [ho,List.set_append_right _ _ (by rw [List.length_take];omega),List.length_take,Nat.min_eq_left (by omega),Nat.sub_self,e1,List.replicate_succ,List.set_cons_zero,List.take_add_one,List.getElem?_eq_getElem hj];simp only [Option.toList_some,Option.getD_some,List.append_assoc,List.cons_append,List.nil_append]
  ·have:j=p.length:=by omega
   subst this;rw [ho];simp) p.length k (List.replicate (Int.toNat (t.2.2.length:Int)) [],0) (by omega) ⟨0,rfl,by omega,by omega,by simp [hl]⟩
 obtain⟨r,er,rfl⟩:=hb;rw [er,bs]
def ib(t:bR)(p:List (List Int))(d:Int):List Int:=((List.range t.2.1.length).filter fun(i:Nat)=>decide (∃l∈p,(i:Int)∈dO (nU t d) false l)).map fun(i:Nat)=>(i:Int)
theorem AW{t:bR}(hn:t.2.1.length≤8)(hnk:t.2.1.length < k){r:Int×List (List Int)}(hm:jT r.1){L:Nat→Prop}[DecidablePred L](hh:∀i:Nat,eu r.1 i↔L i):
 iW k t r k ([],0)=some (((List.range t.2.1.length).filter fun(i:Nat)=>decide (L i)).map fun(i:Nat)=>(i:Int)):=by
 have hb:=W.loop (f:=iW k t r) (Q:=fun o=>o=((List.range t.2.1.length).filter fun(i:Nat)=>decide (L i)).map fun(i:Nat)=>(i:Int)) (fun q y=>∃j:Nat,y.2=(j:Int)∧j≤t.2.1.length∧q=t.2.1.length - j∧y.1=((List.range j).filter fun(i:Nat)=>decide (L i)).map fun(i:Nat)=>(i:Int)) (by
  rintro aQ q ⟨o,y⟩ ⟨j,hj,hle,hq,ho⟩ ih;simp only at hj ho;subst hj
  have hol:o.length≤j:=by
   rw [ho,List.length_map];refine Nat.le_trans (List.length_filter_le _ _) ?_;simp
  unfold iW;dsimp only;refine W.ite (fun hlt=>?_) (fun hge=>W.ret ?_)
  ·rw [uv hm (by omega),bs];by_cases c:L j
   ·rw [decide_eq_true ((hh j).2 c),iT,dj (Ff (n:=8) (by omega) (by omega)),bs,bs,bz (by omega) (by omega),bs];refine ih (q - 1) (_,(j:Int)+1) (by omega) ⟨j+1,by show(j:Int)+1=((j+1:Nat):Int);omega,by omega,by omega,?_⟩;simp only;rw [List.range_succ,List.filter_append,List.map_append,←ho];simp [c]
   ·rw [decide_eq_false (fun h=>c ((hh j).1 h)),iF,bs,bz (by omega) (by omega),bs];refine ih (q - 1) (_,(j:Int)+1) (by omega) ⟨j+1,by show(j:Int)+1=((j+1:Nat):Int);omega,by omega,by omega,?_⟩;simp only;rw [List.range_succ,List.filter_append,List.map_append,←ho];simp [c]
  ·have:j=t.2.1.length:=by omega
   subst this;exact ho) t.2.1.length k ([],0) hnk ⟨0,rfl,by omega,by omega,by simp⟩
 obtain⟨o,eo,h⟩:=hb
 rw [eo,h]
theorem ky.fit{t:bR}{p:List (List Int)}(h:ky t p):HM p:=by
 have h5:=h.g.things;refine⟨by have:=h.len;have:=h.g.trunks;omega,fun l hl=>?_⟩;have hsub:∀x∈l,x∈p.flatten:=fun x hx=>List.mem_flatten.2 ⟨l,hl,hx⟩;have hnd:l.Nodup:=(List.pairwise_flatten.1 h.nd).1 l hl;have hr:∀x∈l,0≤x∧x < (t.2.1.length:Int):=fun x hx=>h.rng x (hsub x hx);have:=t9 _ l hnd hr;exact⟨by omega,fun x hx=>by have:=hr x hx;omega⟩
theorem MJ{t:bR}(hd:HO k t)(hs:kC k t){p:List (List Int)}(hp:kJ t p=0){d:Int}(h0:0≤d∧d < t.1):oZ k t p d=some (ib t p d,p.map (xP (nU t d)),0):=by
 have hk0:=hd.k0;have g:=ux hp;have f:=g.fit;have h6:=g.g.days;unfold oZ;rw [qs hs (by omega) (fun l hl=>by have:=(f.fit l hl).1;omega),bs,hp,if_neg (not_not_intro rfl),bz (by omega) (by omega),bs,i8,bs,decide_eq_true (show 0≤d∧d≤t.1 - 1 by omega),nT,lF hk0,bs];obtain⟨r,er,h1,h2,h3⟩:=Ba hd f (d:=d);rw [er,bs,AW hd.things (by have:=hd.things;omega) h2 h3,bs,h1,yZ hk0 f.next (by rw [List.length_map];exact g.len),bs];rfl
end
section
variable {k:Nat}
def vt(t:bR)(d:Int)(p:List (List Int)):List (List Int):=p.map (xP (nU t d))
def gq(t:bR)(p:List (List Int)):Nat→List (List Int)
 |0=>p
 |n+1=>vt t n (gq t p n)
theorem Ak{t:bR}{l l':List Int}(h:l.Perm l'):fC t l=fC t l':=by
 induction h with
 |nil=>rfl
 |cons x _ ih=>simp only [fC,ih]
 |swap x y l=>simp only [fC];omega
 |trans _ _ h1 h2=>rw [h1,h2]
theorem D4{t:bR}{d:Int}{p:List (List Int)}:(vt t d p).flatten.Perm p.flatten:=by
 unfold vt
 induction p with
 |nil=>exact List.Perm.refl _
 |cons l p ih=>
  simp only [List.map_cons,List.flatten_cons];exact lB.append ih
theorem ky.next{t:bR}{d:Int}{p:List (List Int)}(h:ky t p):ky t (vt t d p):=by
 have hp:=D4 (t:=t) (d:=d) (p:=p);refine⟨h.g,by unfold vt;rw [List.length_map];exact h.len,hp.nodup_iff.2 h.nd,fun x hx=>h.rng x (hp.mem_iff.1 hx),fun i hi=>hp.mem_iff.2 (h.all i hi),fun i hi=>?_⟩;have hi':i < p.length:=by unfold vt at hi;rwa [List.length_map] at hi
 have e:(vt t d p)[i]=xP (nU t d) p[i]:=by simp only [vt,List.getElem_map]
 rw [e,Ak lB];exact h.room i hi'
theorem ky.aft{t:bR}{p:List (List Int)}(h:ky t p):∀n,ky t (gq t p n)
 |0=>h
 |n+1=>(h.aft n).next
theorem BA{n:Nat}:∀{l:List Int} {j:Nat} {m:List Int},(m++l).Nodup→(∀x∈l,0≤x∧x < (n:Int))→bb (fun m _ x=>iZ n m x) j l m= .ok (m++l)
 |[],j,m,_,_=>by simp [bb]
 |x::l,j,m,hn,hr=>by
  have hx:=hr x (by simp)
  have hnm:x∉m:=fun h=>by
   rw [List.nodup_append] at hn
   exact hn.2.2 x h x (by simp) rfl
  have e:iZ n m x= .ok (m++[x]):=by
   unfold iZ;rw [if_neg (not_not_intro (show 0≤x∧x≤(n:Int) - 1 by omega)),if_neg hnm]
  rw [bb,e];show bb _ (j+1) l (m++[x])=_;rw [BA (by simpa using hn) (fun y hy=>hr y (by simp [hy]))];simp
theorem vy{t:bR}:∀{p:List (List Int)} {j:Nat} {m:List Int},(m++p.flatten).Nodup→(∀x∈p.flatten,0≤x∧x < (t.2.1.length:Int))→(∀i (h:i < p.length),fC t p[i]≤t.2.2[j+i]?.getD 0)→bb (fm t) j p m= .ok (m++p.flatten)
 |[],j,m,_,_,_=>by simp [bb]
 |l::p,j,m,hn,hr,hs=>by
  have h0:¬t.2.2[j]?.getD 0 < fC t l:=by have:=hs 0 (by simp);simp only [List.getElem_cons_zero,Nat.add_zero] at this;omega
  have e:fm t m j l= .ok (m++l):=by
   unfold fm;rw [BA (by rw [List.flatten_cons,←List.append_assoc] at hn;exact(List.nodup_append.1 hn).1) (fun x hx=>hr x (by simp [hx]))];exact if_neg h0
  rw [bb,e];show bb _ (j+1) p (m++l)=_
  rw [vy (by simpa using hn) (fun x hx=>hr x (by rw [List.flatten_cons];exact List.mem_append_right _ hx)) (fun i hi=>by
   have:=hs (i+1) (by simp;omega);have e3:j+1+i=j+(i+1):=by omega
   rw [e3];exact this)]
  simp
theorem ky.chkV{t:bR}{p:List (List Int)}(h:ky t p):chkV t p=0:=by
 unfold Go.Proofs.YtcnpijmfgfnpiaaGreatDoor.chkV;have hl:=h.len;have e:=vy (t:=t) (j:=0) (m:=[]) (by simpa using h.nd) h.rng (fun i hi=>by rw [Nat.zero_add];exact h.room i hi);rw [if_neg (by omega),if_neg (by omega),e,List.nil_append];have hm:vv t.2.1.length p.flatten:=⟨h.nd,h.rng⟩;simp only [hm.full.2 h.all,if_false]
theorem ky.chk{t:bR}{p:List (List Int)}(h:ky t p)(ht:kR t=0):kJ t p=0:=by
 unfold kJ;rw [if_neg (not_not_intro ht)];exact h.chkV
theorem Jg{t:bR}{p:List (List Int)}(h:kJ t p=0):kR t=0:=by
 unfold kJ at h;by_cases c:kR t=0
 ·exact c
 ·rw [if_pos c] at h;exact h
structure At(k:Nat)(t:bR)(p:List (List Int)):Prop where
 small:kC k t
 dayT:HO k t
 chk:kJ t p=0
theorem At.good{t:bR}{p:List (List Int)}(h:At k t p):ky t p:=ux h.chk
theorem At.aft{t:bR}{p:List (List Int)}(h:At k t p)(n:Nat):At k t (gq t p n):=⟨h.small,h.dayT,(h.good.aft n).chk (Jg h.chk)⟩
theorem At.ok{t:bR}{p:List (List Int)}(h:At k t p):bF k t p=some 0:=by
 have:=h.dayT.k0;rw [qs h.small (by omega) (fun l hl=>by have:=(h.good.fit.fit l hl).1;omega),h.chk]
theorem At.okR{t:bR}{p:List (List Int)}(h:At k t p):cY k t p=some 0:=by
 have:=h.dayT.k0;rw [uI h.small h.dayT.k0 (fun l hl=>by have:=(h.good.fit.fit l hl).1;omega),h.chk]
theorem uT.at{t:bR}{p:List (List Int)}{a:Nat}(h:uT t p a)(hk:50≤k)(hk1:k≤1000000)(ha:a≤8)(c:kJ t p=0):At k t p:=by
 have hs:=h.small hk hk1 ha;exact⟨hs,⟨hk,hk1,by have:=(ux c).g.things;omega,hs.worn⟩,c⟩
theorem Be{t:bR}(h:HO k t){p:List (List Int)}(hg:ky t p){n:Nat}(hn:n < k):f4 k (t,()) (ge p) (n:Int)=some (ge (gq t p n)):=by
 have hk1:=h.k1;unfold f4
 have hb:=W.loop (f:=dW k (t,()) (n:Int)) (Q:=fun r=>r=ge (gq t p n)) (fun q y=>∃j:Nat,y.2=(j:Int)∧j≤n∧q=n - j∧y.1=ge (gq t p j)) (by
  rintro aQ q ⟨o,y⟩ ⟨j,hj,hle,hq,ho⟩ ih;simp only at hj ho;subst hj ho;unfold dW;dsimp only;refine W.ite (fun hlt=>?_) (fun hge=>W.ret ?_)
  ·obtain⟨r,er,h1,_,_⟩:=Ba h (hg.aft j).fit (d:=(j:Int));rw [er,bs,bz (by omega) (by omega),bs,h1];exact ih (q - 1) (_,(j:Int)+1) (by omega) ⟨j+1,by show(j:Int)+1=((j+1:Nat):Int);omega,by omega,by omega,rfl⟩
  ·have:j=n:=by omega
   subst this;rfl) n k (ge p,0) hn ⟨0,rfl,by omega,by omega,rfl⟩
 obtain⟨r,er,rfl⟩:=hb;rw [er,bs]
theorem zT{t:bR}{p:List (List Int)}(h:At k t p){n:Nat}(hn:(n:Int)≤t.1):kW k t p (n:Int)=some (gq t p n,0):=by
 have h6:=h.good.g.days;have hk:=h.dayT.k0;unfold kW;rw [h.ok,bs,if_neg (not_not_intro rfl),i8,bs,decide_eq_true (show 0≤(n:Int)∧(n:Int)≤t.1 by omega),nT,lF hk,bs,Be h.dayT h.good (by omega),bs,yZ hk (h.good.aft n).fit (h.good.aft n).len,bs]
theorem Dj{q:List (List Int)}(hn:q.flatten.Nodup){i i':Nat}(h:i < q.length)(h':i' < q.length){x:Int}(hx:x∈q[i])(hx':x∈q[i']):i=i':=by
 induction q generalizing i i' with
 |nil=>simp at h
 |cons l q ih=>
  rw [List.flatten_cons,List.nodup_append] at hn;cases i with
  |zero=>
   cases i' with
   |zero=>rfl
   |succ i'=>exact absurd rfl (hn.2.2 x hx x (List.mem_flatten.2 ⟨_,List.getElem_mem (by simpa using h'),by simpa using hx'⟩))
  |succ i=>
   cases i' with
   |zero=>exact absurd rfl (hn.2.2 x hx' x (List.mem_flatten.2 ⟨_,List.getElem_mem (by simpa using h),by simpa using hx⟩))
   |succ i'=>exact congrArg (· +1) (ih hn.2.1 (i:=i) (i':=i') (by simpa using h) (by simpa using h') (by simpa using hx) (by simpa using hx'))
theorem DG{l:List Int}(hn:l.Nodup){j:Nat}(h:j < l.length):rc l l[j]=(j:Int):=by
 obtain⟨p,s,e,ei,_⟩:=zj (List.getElem_mem h);have e2:l=l.take j++l[j]::l.drop (j+1):=by rw [←List.drop_eq_getElem_cons h,List.take_append_drop]
 have h1:=(D5 hn e e2).1;have h2:=congrArg List.length h1;rw [List.length_take] at h2;rw [ei,h2];omega
theorem Hm{t:bR}{p:List (List Int)}(h:At k t p){n:Nat}(hn:(n:Int)≤t.1){i j:Nat}(hi:i < (gq t p n).length)(hj:j < (gq t p n)[i].length):
 mH k t p (gq t p n)[i][j] (n:Int)=some ((i:Int),((gq t p n)[i].length:Int) - 1 - (j:Int),0):=by
 have hg:=h.good.aft n
 have hk:=h.dayT.k0
 have hk1:=h.dayT.k1
 have h5:=hg.g.things
 have hf:=hg.fit
 have hx:=hg.rng _ (List.mem_flatten.2 ⟨_,List.getElem_mem hi,List.getElem_mem hj⟩)
 unfold mH
 rw [h.ok,bs,if_neg (not_not_intro rfl),bz (by omega) (by omega),bs,i8,bs,decide_eq_true (show 0≤(gq t p n)[i][j]∧(gq t p n)[i][j]≤(t.2.1.length:Int) - 1 by omega),nT,zT h hn,bs,if_neg (not_not_intro rfl)]
 clear h hn
 generalize gq t p n=q at hi hj hg hf hx⊢
 have hl5:=fun i (h:i < q.length)=>(hf.fit _ (List.getElem_mem h)).1
 have:=mZ (f:=fy k q[i][j] (q,0)) q (fun(_:Unit) j=>j) (fun _ a l=>if 0≤rc l q[i][j] then Except.error ((a:Int),(l.length:Int) - 1 - rc l q[i][j],(0:Int)) else .ok ()) (fun _ _=>True) (fun r=>some r)
  (fun m s a ha _=>⟨by
   have hl:=hl5 a ha;rw [fy,if_pos (Int.ofNat_lt.2 ha)];dsimp only;rw [ct ha,bs,zi (by omega) hk1,bs];by_cases c:0≤rc q[a] q[i][j]
   ·obtain⟨p',s',e',ei,_⟩:=zj (tz.1 c);have:=congrArg List.length e';simp only [List.length_append,List.length_cons] at this;rw [if_pos c,if_pos c,bz (by omega) (by omega),bs,bz (by omega) (by omega),bs]
   ·rw [if_neg c,if_neg c,bz (by omega) (by have:=hf.len;omega),bs],fun _ _=>trivial⟩)
  (fun m s _=>by rw [fy,if_neg (show¬((q.length:Int) < (q.length:Int)) by omega)]) (s0:=()) (n:=k) (by have:=hf.len;omega) trivial
 rw [show fy k q[i][j] (q,0) k 0=_ from this]
 have key:∀(m:List (List Int)) (a:Nat),q=q.take a++m→a≤i→bb (fun(_:Unit) a l=>if 0≤rc l q[i][j] then Except.error ((a:Int),(l.length:Int) - 1 - rc l q[i][j],(0:Int)) else .ok ()) a m ()= .error ((i:Int),(q[i].length:Int) - 1 - (j:Int),0):=by
  intro m
  induction m with
  |nil=>
   intro a e ha;exfalso;rw [List.append_nil] at e;have:=congrArg List.length e;rw [List.length_take] at this;omega
  |cons l m ih=>
   intro a e ha
   have hal:a < q.length:=by
    have:=congrArg List.length e;simp only [List.length_append,List.length_take,List.length_cons] at this;omega
   have el:q[a]=l:=by
    have h1:q[a]? =(q.take a++l::m)[a]? :=congrArg (fun z=>z[a]?) e;rw [List.getElem?_eq_getElem hal,List.getElem?_append_right (by rw [List.length_take];omega),List.length_take,Nat.min_eq_left (by omega),Nat.sub_self] at h1;simpa using h1
   rw [bb];by_cases c:0≤rc l q[i][j]
   ·have hia:=Dj hg.nd hal hi (x:=q[i][j]) (by rw [el];exact tz.1 c) (List.getElem_mem hj);subst hia;rw [if_pos c];have hnd:q[a].Nodup:=(List.pairwise_flatten.1 hg.nd).1 _ (List.getElem_mem hal);rw [←el,DG hnd hj]
   ·rw [if_neg c];have hne:a≠i:=fun e'=>by subst e';exact c (tz.2 (by rw [←el];exact List.getElem_mem hj))
    exact ih (a+1) (by rw [List.take_add_one,List.getElem?_eq_getElem hal,el];simpa using e) (by omega)
 rw [key q 0 (by simp) (by omega),ny]
end
end Go.Proofs.YtcnpijmfgfnpiaaGreatDoor
