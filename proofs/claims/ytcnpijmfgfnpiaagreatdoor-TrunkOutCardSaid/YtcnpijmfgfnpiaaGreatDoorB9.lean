import Derived.Test.YtcnpijmfgfnpiaaGreatDoorB5
import Derived.Test.YtcnpijmfgfnpiaaGreatDoorB6
import Derived.Test.YtcnpijmfgfnpiaaGreatDoorF2
set_option linter.unusedVariables false
namespace Go.Proofs.YtcnpijmfgfnpiaaGreatDoor
namespace K
open Go Go.ChangeShapes Go.WideShapes Go.ChangeAt Go.RowKit
@[reducible] def jh:Ty→Bool
 | .int _=>true
 | .bool=>true
 | .pair a b=>jh a && jh b
 | .agg t=>jh t
 | .arr _ t=>jh t
 | .slice t=>jh t && Nat.blt 0 t.cells
 |_=>false
def vz:Value→Bool
 | .iface _ _=>true
 |_=>false
theorem tJ{α:Type}{R:α→List Value→Prop}(h:∀x cs,R x cs→∀v∈cs,vz v=false):∀{l:List α} {cs:List Value},cQ R l cs→∀v∈cs,vz v=false
 |[],_,e=>by simp [cQ] at e;simp [e]
 |_::_,_,⟨c1,c2,e,h1,h2⟩=>by
  subst e
  intro v hv
  rcases List.mem_append.1 hv with hv |hv
  ·
   exact h _ _ h1 v hv
  ·
   exact tJ h h2 v hv
theorem MJ{S:FS}{w:World}(t:Ty):∀{x:t.den} {cs:List Value},jh t=true→rd S w t x cs→∀v∈cs,vz v=false:=by
 induction t with
 |int k=>intro x cs _ h v hv;simp only [rd] at h;subst h;simp at hv;subst hv;rfl
 |bool=>intro x cs _ h v hv;simp only [rd] at h;subst h;simp at hv;subst hv;rfl
 |pair a b iha ihb=>
  rintro x cs hp ⟨c1,c2,rfl,h1,h2⟩ v hv;simp [jh] at hp;rcases List.mem_append.1 hv with hv |hv
  ·exact iha hp.1 h1 v hv
  ·exact ihb hp.2 h2 v hv
 |agg t ih=>intro x cs hp h;exact ih hp h
 |arr n t ih=>intro l cs hp h;exact tJ (fun _ _ h=>ih hp h) h.2
 |slice t ih=>
  intro l cs hp h v hv;rcases h with⟨a,cap,rfl,_⟩ |⟨b,off,cap,c,T,fz,rfl,_⟩ <;> (simp at hv;subst hv;rfl)
 |_=>intro x cs hp;cases hp
theorem HA{S:FS}{w:World}{b0:Nat}{c0:Array Value}{T0:TypeId}{fz0:Nat×Nat}(h0:w.heap[b0]? =some (.cells c0 T0 fz0))(hc:∀v∈c0.toList,vz v=true)(t:Ty):
 ∀{x:t.den} {cs:List Value},jh t=true→rd S w t x cs→rd (fun b=>S b∧b≠b0) w t x cs:=by
 induction t with
 |int k=>intro x cs _ h;exact h
 |bool=>intro x cs _ h;exact h
 |pair a b iha ihb=>
  rintro x cs hp ⟨c1,c2,rfl,h1,h2⟩;simp [jh] at hp;exact⟨c1,c2,rfl,iha hp.1 h1,ihb hp.2 h2⟩
 |agg t ih=>intro x cs hp h;exact ih hp h
 |arr n t ih=>intro l cs hp h;exact⟨h.1,bq (fun _ _ h=>ih hp h) h.2⟩
 |slice t ih=>
  intro l cs hp h;have hp1:jh t=true:=by simp [jh] at hp;exact hp.1
  have hp2:0 < t.cells:=by simp [jh] at hp;exact hp.2
  rcases h with h |⟨b,off,cap,c,T,fz,rfl,hle,hS,hb,hr⟩
  ·exact .inl h
  ·by_cases hl:l=[]
   ·subst hl;exact .inl ⟨_,cap,rfl,rfl⟩
   ·refine .inr ⟨b,off,cap,c,T,fz,rfl,hle,⟨hS,fun e=>?_⟩,hb,bq (fun _ _ h=>ih hp1 h) hr⟩;subst e;rw [h0] at hb;cases hb;have hlen:=gi (fun _ _ h=>aH t h) hr;have hno:=tJ (fun _ _ h=>MJ t hp1 h) hr;have hpos:0 < l.length:=List.length_pos_iff.2 hl;have:0 < ((c0.toList.drop off).take (l.length * t.cells)).length:=by rw [hlen];exact Nat.mul_pos hpos hp2
    obtain⟨v,hv⟩:=List.exists_mem_of_length_pos this;have h1:=hno v hv;have h2:=hc v (List.mem_of_mem_drop (List.mem_of_mem_take hv));rw [h1] at h2;cases h2
 |_=>intro x cs hp;cases hp
theorem vO{S:FS}{w:World}{b0:Nat}{c0:Array Value}{T0:TypeId}{fz0:Nat×Nat}(h0:w.heap[b0]? =some (.cells c0 T0 fz0))(hc:∀v∈c0.toList,vz v=true):
 ∀{ts:List (TypeId×Ty)} {uz:List A} {vs:List Value},(∀p∈ts,jh p.2=true)→Lk ts uz→fH S w uz vs→fH (fun b=>S b∧b≠b0) w uz vs
 |[],uz,vs,_,hl,h=>by
  have hl:uz=[]:=hl
  subst hl
  exact h
 |p::ts,uz,vs,hp,hl,h=>by
  obtain⟨d,uz',rfl,hl'⟩:=hl
  obtain⟨v,vs',e,⟨cs,hr,hv⟩,h2⟩:=h
  exact⟨v,vs',e,⟨cs,HA h0 hc p.2 (hp p (by simp)) hr,hv⟩,vO h0 hc (fun q hq=>hp q (by simp [hq])) hl' h2⟩
section
variable {H:Type}{enc:TypeId×Value→H}{P:Program}
theorem yV{M:Md P}{f:Nat}{fn:Func}{B:TypeId}{s:ChangeSpec}{b0:Nat}{c0:Array Value}{T0:TypeId}{p0:Obj→Prop}(hp0:∀o,p0 o↔o= .cells c0 T0 (0,0))(hc0:∀v∈c0.toList,vz v=true)
 (ts:List (TypeId×Ty)) (hpl:∀p∈ts,jh p.2=true) (hp:fn.params.toList=ts.map (·.1)) (hr:fn.resultTypes= #[B]) (hB:P.underlying B=some .bool)
 (hm:∀p∈ts,MT P p.2 (.inl p.1)) (laid:laidOutB P=true) (hT:∀T∈ts.map (·.1),P.readableRec T=true∧T < P.types.size)
 (hs:∀ds:List (DataW H),ds.length=ts.length→s.fn H ds={ results:=[.lit (.bool true)],args:=ds }) (hv:s.vars=[])
 (law:∀uz,Lk ts uz→dn M f uz [.inv b0 p0] (fun _:Unit=>(bp [.eq (.bool true)],[.inv b0 p0])))
 (W:World) (base:Nat) (args:Array Value) (ds gs:List (DataW H)) (before:List MemPlace) (hb0:W.heap[b0]? =some (.cells c0 T0 (0,0)))
 (hval:∀(j:Nat) t v,fn.params[j]? =some t→args[j]? =some v→Value.okWide P W .any base t v)
 (hW:DataW.Whole enc P fn.params.toList s.vars false W args.toList ds gs before):
 l8 M .normal f args (vw W) fun e W'=>∃v,e= .returned v∧∀v1,bO W' v1→s.post enc P fn false true false false W args v v1.toWorld:=by
 have hW':=hW
 obtain⟨p,q,hA,hV,rfl,_,_⟩:=hW
 rw [hv] at hV
 obtain⟨rfl,rfl⟩:=trodVars_none hV
 have hlt:∀x∈p,x.block < W.heap.size:=hA.lt
 have hlen:=xz hA
 rw [hp,List.length_map] at hlen
 rw [hp] at hA
 obtain⟨uz,hL,h2⟩:=Bj (S:=fun b=>b < W.heap.size) (base:=base) hm (fun j t v h1 h2=>hval j t v (by rw [←hp] at h1;simpa using h1) (by simpa using h2)) hA hlt
 have h3:=vO hb0 hc0 hpl hL h2
 have hlt0:b0 < W.heap.size:=(Array.getElem?_eq_some_iff.1 hb0).1
 have hft:∀b,ay [D.inv b0 p0] b↔b=b0:=fun b=>by
  rw [di];exact⟨fun h=>(Option.some.inj h).symm,fun h=>by rw [h];rfl⟩
 have hO:aW [.inv b0 p0] (fun b=>b < W.heap.size∧b≠b0) (vw W):=by
  refine⟨fun d hd=>?_,fun b hb=>?_,List.pairwise_singleton _ _,fun b _=>⟨fun h=>h,fun h=>h⟩,fun _ _ h=>h,fun _ h=>h.elim,fun _ h=>h.elim⟩
  ·simp at hd;subst hd;exact⟨_,hb0,(hp0 _).2 rfl⟩
  ·rw [hft] at hb;subst hb;exact⟨fun h=>h.2 rfl,hlt0⟩
 have:=law uz hL .normal (fun e=>nomatch e) (fun b=>b < W.heap.size∧b≠b0) (vw W) args.toList (fun _ h=>h.1) h3 hO
 rw [Array.toArray_toList] at this
 refine this.mono ?_
 rintro e' W' ⟨_,S',v,rfl,h1,h2,h4,_⟩
 obtain rfl:v= .bool true:=h2
 refine⟨_,rfl,fun v1 hrel=>?_⟩
 have h5:=h4.rely h1.dom hrel
 replace h1:=h1.trans (bK.rely (X:=ay [D.inv b0 p0]) h1.dom hrel) fun b hb=>.inl hb
 obtain⟨o1,k0,k0'⟩:=h5.holds _ (List.mem_singleton.2 rfl)
 rw [(hp0 _).1 k0'] at k0
 have h6:bK (ay []) (fun b=>b < W.heap.size∧b≠b0) (vw W) S' v1:=by
  refine⟨h1.sub,fun b hb=>(h1.new b hb).imp id (Or.imp id fun hx=>absurd hb (h5.own b hx).1),h1.dom,h1.size,fun b hb ha hx=>?_,h1.os,h1.tape,h1.output,h1.subA,h1.oldA,h1.Z⟩;by_cases e:b=b0
  ·subst e;exact k0.trans hb0.symm
  ·exact h1.keep b hb ha (fun h=>e ((hft b).1 h))
 obtain⟨k1,k2⟩:=BS (may:=(· ∈p++[])) h6
 have hk:∀b,b < W.heap.size→v1.heap[b]? =W.heap[b]? :=fun b hb=>h6.keep b hb (fun hx=>hx) (fun hx=>eS hx)
 refine En (pa:=p) (pv:=[]) hW' (fun _ _ _=>?_) (fun sp hsp=>?_) (fun _ _=>?_) rfl k1 k2 (ok_one hr rfl (okWide_bool_mk hB _))
 ·
  rw [hr,List.append_nil,hs ds hlen];exact trodAll_mk1 (shut_bool hB _)
 ·
  rw [hp,List.append_nil,hs ds hlen];exact za laid hk hT hA (fun x hx=>⟨hlt x hx,hsp x (by simpa using hx)⟩)
 ·
  rw [hv,List.append_nil,hs ds hlen];rfl
end
section
open Go.Conc
variable {H:Type}{enc:TypeId×Value→H}
theorem wB{a:Assume}{C:Checked}{os:Os}{f:FuncId}{fn:Func}{s:ChangeSpec}{conds:List PathCond}{apart fresh handsOn again:Bool}{X:World→Prop}
 (hX:∀(w w':World),w.heap=w'.heap→X w→X w') (own:ownKnob C.prog.godebug=none) (started:os.Started) (hfn:C.prog.funcs[f]? =some fn)
 (witness:∃(w:World) (tape:Tape) (i:Input),w.os=os∧(w.forCall tape i).Shaped C.prog∧i.vars=[]∧Input.okWide C.prog (w.forCall tape i) .any w.heap.size f i∧
  ((s.pre enc C.prog fn conds apart (w.forCall tape i).memory i.args∧X (w.forCall tape i).memory)∧sizedMet enc C.prog fn (OpenSpec.ofChange s) apart (w.forCall tape i).memory i.args)∧a.holds C.prog (lone (Frame.enter C.prog f i.args .normal) [] (w.forCall tape i)))
 (runs:∀(W:World) (base:Nat) (args:Array Value) (ds gs:List (DataW H)) (before:List MemPlace),W.ShapedOpen C.prog→
  (∀(j:Nat) t v,fn.params[j]? =some t→args[j]? =some v→Value.okWide C.prog W .any base t v)→
  DataW.Whole enc C.prog fn.params.toList s.vars apart W args.toList ds gs before→X W→
  a.holds C.prog (lone (Frame.enter C.prog f args .normal) [] W)→
  ∃M last o w' t',runNT C.prog (M+1) (solo (Conc.G (Frame.enter C.prog f args .normal) []) W) #[]=(.ended o w',t')∧runN C.prog M (solo (Conc.G (Frame.enter C.prog f args .normal) []) W)= .next last∧
   step C.prog last= .ended o w'∧Conc.Good C.prog (fun v W'=>s.post enc C.prog fn apart fresh handsOn again W args v W') last o w' t'):
 ReturnsInLeavingWide a C os f .any (fun w args=>(s.pre enc C.prog fn conds apart w args∧X w)∧sizedMet enc C.prog fn (OpenSpec.ofChange s) apart w args) (s.post enc C.prog fn apart fresh handsOn again):=by
 refine returnsInLeavingWide_of_good own started witness ?_
 intro w tape i _ hsh _ hok hpre hholds
 obtain⟨_,_,_,fn',hfn',_,_,_,_,hval⟩:=hok
 obtain rfl:fn'=fn:=Option.some.inj (hfn'.symm.trans hfn)
 obtain⟨⟨⟨ds,gs,before,hw,_⟩,hx⟩,_⟩:=hpre
 obtain⟨M,last,o,w',t',h1,h2,h3,h4⟩:=runs (w.forCall tape i) w.heap.size i.args ds gs before hsh hval (DataW.Whole.of_heap (w':=w.forCall tape i) (by rfl) hw) (hX _ _ (by rfl) hx) hholds
 exact⟨M,last,o,w',t',h1,h2,h3,h4.mono fun v hp=>ChangeSpec.post_blind hp⟩
end
end K
end Go.Proofs.YtcnpijmfgfnpiaaGreatDoor
namespace Go.Proofs.YtcnpijmfgfnpiaaGreatDoor
open K Go Go.Proofs
def W{α:Type}(x:Option α)(Q:α→Prop):Prop:=∃a,x=some a∧Q a
namespace W
variable {α β ε:Type}{Q:β→Prop}
theorem ret{a:β}(h:Q a):W (some a) Q:=⟨a,rfl,h⟩
theorem mono{x:Option β}{R:β→Prop}(h:W x R)(hq:∀a,R a→Q a):W x Q:=let ⟨a,e,r⟩:=h;⟨a,e,hq a r⟩
theorem bind{x:Option α}{f:α→Option β}{R:α→Prop}(h:W x R)(hf:∀a,R a→W (f a) Q):W (x.bind f) Q:=by
 obtain⟨a,rfl,r⟩:=h;exact hf a r
theorem ck{n:Int}{f:Int→Option β}(h1: -9223372036854775808≤n)(h2:n≤9223372036854775807)(hf:W (f n) Q):W ((K.ck n).bind f) Q:=by
 rw [K.ck,if_pos ⟨h1,h2⟩];exact hf
theorem chk{p:Prop}[Decidable p]{f:Unit→Option β}(h:p)(hf:W (f ()) Q):W ((d4 p).bind f) Q:=by
 rw [d4,if_pos h];exact hf
theorem at_{l:List α}{i:Int}{f:α→Option β}(h0:0≤i)(h1:i < l.length)(hf:∀x,l[i.toNat]? =some x→W (f x) Q):W ((a8 l i).bind f) Q:=by
 have:i.toNat < l.length:=by omega
 rw [a8,if_pos h0,List.getElem?_eq_getElem this];exact hf _ (List.getElem?_eq_getElem this)
theorem ite{p:Prop}[Decidable p]{a b:Option β}(h1:p→W a Q)(h2:¬p→W b Q):W (if p then a else b) Q:=by
 split
 ·exact h1 ‹_›
 ·exact h2 ‹_›
theorem iteB{p:Prop}[Decidable p]{a b:Option α}{f:α→Option β}(h1:p→W (a.bind f) Q)(h2:¬p→W (b.bind f) Q):W ((if p then a else b).bind f) Q:=by
 split
 ·exact h1 ‹_›
 ·exact h2 ‹_›
theorem loop{T:Type}{f:Nat→T→Option β}(I:Nat→T→Prop)(step:∀aR m y,I m y→(∀m' y',m' < m→I m' y'→W (f aR y') Q)→W (f (aR+1) y) Q):∀m aR y,m < aR→I m y→W (f aR y) Q:=by
 intro m
 induction m using Nat.strongRecOn with
 |_ m ih=>
  intro aR y hm hI;cases aR with
  |zero=>omega
  |succ aR=>exact step aR m y hI fun m' y' h hI'=>ih m' h aR y' (by omega) hI'
end W
theorem wrap_u64(n:Int):0≤IntKind.u64.wrap n∧IntKind.u64.wrap n < 18446744073709551616:=by
 have h1:=Int.emod_nonneg n (show(18446744073709551616:Int)≠0 by decide);have h2:=Int.emod_lt_of_pos n (show(0:Int) < 18446744073709551616 by decide)
 have e:IntKind.u64.wrap n=n % 18446744073709551616:=by
  simp [IntKind.wrap,IntKind.signed,IntKind.bits]
 rw [e];exact⟨h1,h2⟩
theorem xn{n:Int}(h0:0≤n)(h1:n < 18446744073709551616):IntKind.u64.wrap n=n:=by
 have e:IntKind.u64.wrap n=n % 18446744073709551616:=by
  simp [IntKind.wrap,IntKind.signed,IntKind.bits]
 rw [e];exact Int.emod_eq_of_lt h0 h1
def Lo(l:bv)(m:Int):Prop:=0≤l.2.1∧l.2.1≤m
theorem HW{k:Nat}{l:bv}{m:Int}(h:Lo l m)(hm:m≤1000000000):W (iC k l) fun r=>0≤r.1∧r.1 < 72057594037927936∧Lo r.2 (m+1):=by
 obtain⟨h0,h1⟩:=h;unfold iC
 have fin:∀x:Int,W ((K.ck (l.2.1+1)).bind fun x4=>some (gZ .u64 (pT .u64 (IntKind.u64.wrap ((pT .u64 x (gZ .u64 x (29:Int))) * (2685821657736338717:Int))) (gZ .u64 (IntKind.u64.wrap ((pT .u64 x (gZ .u64 x (29:Int))) * (2685821657736338717:Int))) (32:Int))) (8:Int),(l.1,x4,x)))
  fun r=>0≤r.1∧r.1 < 72057594037927936∧Lo r.2 (m+1):=fun x=>by
  refine W.ck (by omega) (by omega) (W.ret ?_)
  generalize IntKind.u64.wrap ((pT .u64 x (gZ .u64 x (29:Int))) * (2685821657736338717:Int))=y
  have hx:0≤pT .u64 y (gZ .u64 y 32)∧pT .u64 y (gZ .u64 y 32) < 18446744073709551616:=wrap_u64 _
  have e:gZ .u64 (pT .u64 y (gZ .u64 y 32)) 8=(pT .u64 y (gZ .u64 y 32)) / 256:=by
   unfold gZ;rw [Int.fdiv_eq_ediv_of_nonneg _ (by decide)];rfl
  refine⟨?_,?_,?_,?_⟩
  ·
   show 0≤gZ .u64 (pT .u64 y (gZ .u64 y 32)) 8;rw [e];omega
  ·
   show gZ .u64 (pT .u64 y (gZ .u64 y 32)) 8 < _;rw [e];omega
  ·
   show 0≤l.2.1+1;omega
  ·
   show l.2.1+1≤m+1;omega
 refine W.iteB (fun hlt=>?_) (fun _=>fin _);cases hg:a8 l.1 l.2.1 with
 |some v=>exact fin _
 |none=>
  exfalso;have:l.2.1.toNat < l.1.length:=by omega
  rw [a8,if_pos h0,List.getElem?_eq_getElem this] at hg;cases hg
theorem qh{k:Nat}{l:bv}{m n:Int}(h:Lo l m)(hm:m≤1000000000)(hn:n≤1000000000):W (dB k l n) fun r=>0≤r.1∧(0≤n→r.1≤n)∧Lo r.2 (m+1):=by
 unfold dB;refine W.ite (fun h1=>W.ret ⟨Int.le_refl 0,fun h=>h,h.1,by show l.2.1≤m+1;have:=h.2;omega⟩) (fun h1=>?_);refine W.bind (HW h hm) fun r hr=>?_;refine W.ck (by omega) (by omega) ?_;have e:IntKind.u64.wrap (n+1)=n+1:=xn (by omega) (by omega);refine W.chk (by rw [e];omega) ?_;rw [e];have h2:Int.tmod r.1 (n+1)=r.1 % (n+1):=Int.tmod_eq_emod_of_nonneg hr.1;have h3:=Int.emod_nonneg r.1 (show n+1≠0 by omega);have h4:=Int.emod_lt_of_pos r.1 (show 0 < n+1 by omega);rw [h2];refine W.ck (by omega) (by omega) (W.ret ⟨h3,fun _=>by show r.1 % (n+1)≤n;omega,hr.2.2⟩)
theorem FH{k:Nat}{l:bv}{m a b:Int}(h:Lo l m)(hm:m≤1000000000)(ha:0≤a)(hab:a≤b)(hb:b≤1000000):W (eJ k l a b) fun r=>a≤r.1∧r.1≤b∧Lo r.2 (m+1):=by
 unfold eJ;refine W.ck (by omega) (by omega) (W.bind (qh h hm (by omega)) fun r hr=>?_);have:=hr.2.1 (by omega);refine W.ck (by omega) (by omega) (W.ret ⟨by show a≤a+r.1;omega,by show a+r.1≤b;omega,hr.2.2⟩)
theorem AV{k:Nat}{l:bv}{m a:Int}(h:Lo l m)(hm:m≤1000000000)(ha:0≤a)(hb:a≤1000000):W (fC k l a) fun r=>Lo r.2 (m+1):=by
 unfold fC;exact W.ck (by omega) (by omega) (W.bind (qh h hm (by omega)) fun r hr=>W.ret hr.2.2)
theorem Jk{k:Nat}{l:bv}{m:Int}{some_:List Int}(h:Lo l m)(hm:m≤1000000000)(h0:0 < some_.length)(h1:some_.length≤1000000):W (iV k l some_) fun r=>r.1∈some_∧Lo r.2 (m+1):=by
 unfold iV;refine W.ck (by omega) (by omega) (W.bind (qh h hm (by omega)) fun r hr=>?_);have:=hr.2.1 (by omega);refine W.at_ hr.1 (by omega) fun x hx=>W.ret ⟨List.mem_of_getElem? hx,hr.2.2⟩
theorem cr{α:Type}{l:List α}{i:Nat}(h:i < l.length):a8 l (i:Int)=some l[i]:=by
 rw [a8,if_pos (by omega)];exact List.getElem?_eq_getElem h
section
variable {α β γ ε σ T:Type}
theorem bs{a:α}{f:α→Option β}:(some a).bind f=f a:=by cases h:f a <;> simp [h]
theorem bF{n:Int}(h1: -9223372036854775808≤n)(h2:n≤9223372036854775807):K.ck n=some n:=by rw [K.ck,if_pos ⟨h1,h2⟩]
theorem dI{p:Prop}[Decidable p](h:p):d4 p=some ():=by rw [d4,if_pos h]
theorem lM{l:List α}{i:Int}(h0:0≤i)(h:i.toNat < l.length):a8 l i=some l[i.toNat]:=by rw [a8,if_pos h0];exact List.getElem?_eq_getElem h
theorem Am{l:List α}{i:Int}{x:α}(h0:0≤i)(h:l[i.toNat]? =some x):a8 l i=some x:=by rw [a8,if_pos h0];exact h
theorem og{a:α}{g:ε→Option β}{f:α→Option β}:K.bE (some (.ok a)) g f=f a:=by cases h:f a <;> simp [K.bE,h]
theorem nu{e:ε}{g:ε→Option β}{f:α→Option β}:K.bE (some (.error e)) g f=g e:=by cases h:g e <;> simp [K.bE,h]
theorem O1{n:Nat}(h:n≤4294967296):bS n:=h
def yM(g:σ→Nat→α→σ):Nat→List α→σ→σ
 |_,[],s=>s
 |j,x::l,s=>yM g (j+1) l (g s j x)
theorem nY(l:List α)(mk:σ→Int→T)(g:σ→Nat→α→σ)(P:Nat→σ→Prop){f:Nat→T→Option β}(fin:σ→Option β)
 (step:∀n s (j:Nat) (h:j < l.length),P j s→f (n+1) (mk s j)=f n (mk (g s j l[j]) ((j:Int)+1))∧P (j+1) (g s j l[j]))
 (stop:∀n s,P l.length s→f (n+1) (mk s l.length)=fin s) {s0:σ} {n:Nat} (hn:l.length < n) (h0:P 0 s0):f n (mk s0 0)=fin (yM g 0 l s0)∧P l.length (yM g 0 l s0):=by
 have key:∀(m:List α) (pre:List α) (n:Nat) (s:σ),l=pre++m→m.length < n→P pre.length s→f n (mk s pre.length)=fin (yM g pre.length m s)∧P l.length (yM g pre.length m s):=by
  intro m
  induction m with
  |nil=>
   intro pre n s e hn hp;obtain⟨n,rfl⟩:∃n',n=n'+1:=⟨n - 1,by omega⟩;have:l.length=pre.length:=by rw [e];simp
   rw [←this] at hp⊢;exact⟨stop n s hp,hp⟩
  |cons x m ih=>
   intro pre n s e hn hp;simp only [List.length_cons] at hn;obtain⟨n,rfl⟩:∃n',n=n'+1:=⟨n - 1,by omega⟩;have hl:pre.length < l.length:=by rw [e];simp
   have hx:l[pre.length]=x:=by simp [e]
   obtain⟨h1,h2⟩:=step n s pre.length hl hp;rw [hx] at h1 h2;have:=ih (pre++[x]) n (g s pre.length x) (by rw [e];simp) (by omega) (by rw [List.length_append];exact h2);rw [List.length_append] at this;simp only [List.length_cons,List.length_nil,Nat.zero_add] at this;rw [h1];exact this
 have:=key l [] n s0 rfl hn h0
 exact this
def bi(g:σ→Nat→α→Except ε σ):Nat→List α→σ→Except ε σ
 |_,[],s=>.ok s
 |j,x::l,s=>match g s j x with
  | .error e=>.error e
  | .ok s'=>bi g (j+1) l s'
theorem vF(l:List α)(mk:σ→Int→T)(g:σ→Nat→α→Except ε σ)(P:Nat→σ→Prop){f:Nat→T→Option β}(fin:Except ε σ→Option β)
 (step:∀n s (j:Nat) (h:j < l.length),P j s→(∃e,g s j l[j]= .error e∧f (n+1) (mk s j)=fin (.error e))∨(∃s',g s j l[j]= .ok s'∧f (n+1) (mk s j)=f n (mk s' ((j:Int)+1))∧P (j+1) s'))
 (stop:∀n s,P l.length s→f (n+1) (mk s l.length)=fin (.ok s)) {s0:σ} {n:Nat} (hn:l.length < n) (h0:P 0 s0):f n (mk s0 0)=fin (bi g 0 l s0):=by
 have key:∀(m:List α) (pre:List α) (n:Nat) (s:σ),l=pre++m→m.length < n→P pre.length s→f n (mk s pre.length)=fin (bi g pre.length m s):=by
  intro m
  induction m with
  |nil=>
   intro pre n s e hn hp;obtain⟨n,rfl⟩:∃n',n=n'+1:=⟨n - 1,by omega⟩;have:l.length=pre.length:=by rw [e];simp
   rw [←this] at hp⊢;exact stop n s hp
  |cons x m ih=>
   intro pre n s e hn hp;simp only [List.length_cons] at hn;obtain⟨n,rfl⟩:∃n',n=n'+1:=⟨n - 1,by omega⟩;have hl:pre.length < l.length:=by rw [e];simp
   have hx:l[pre.length]=x:=by simp [e]
   rcases step n s pre.length hl hp with⟨e',h1,h2⟩ |⟨s',h1,h2,h3⟩
   ·rw [hx] at h1;rw [h2,bi,h1]
   ·rw [hx] at h1;have:=ih (pre++[x]) n s' (by rw [e];simp) (by omega) (by rw [List.length_append];exact h3);rw [List.length_append] at this;simp only [List.length_cons,List.length_nil,Nat.zero_add] at this;rw [h2,bi,h1];exact this
 exact key l [] n s0 rfl hn h0
end
section
variable {α β ε σ T:Type}
theorem nT{a b:α}:(if¬(true=true) then a else b)=b:=rfl
theorem nF{a b:α}:(if¬(false=true) then a else b)=a:=rfl
theorem iT{a b:α}:(if true=true then a else b)=a:=rfl
theorem iF{a b:α}:(if false=true then a else b)=b:=rfl
theorem mH(l:List α)(mk:σ→Int→T)(g:σ→Nat→α→Except ε σ)(P:Nat→σ→Prop){f:Nat→T→Option β}(fin:Except ε σ→Option β)
 (step:∀n s (j:Nat) (h:j < l.length),P j s→(f (n+1) (mk s j)=match g s j l[j] with | .error e=>fin (.error e) | .ok s'=>f n (mk s' ((j:Int)+1)))∧∀s',g s j l[j]= .ok s'→P (j+1) s')
 (stop:∀n s,P l.length s→f (n+1) (mk s l.length)=fin (.ok s)) {s0:σ} {n:Nat} (hn:l.length < n) (h0:P 0 s0):f n (mk s0 0)=fin (bi g 0 l s0):=
 vF l mk g P fin (fun n s j h hp=>by
  obtain⟨h1,h2⟩:=step n s j h hp
  cases e:g s j l[j] with
  |error e'=>left;rw [e] at h1;exact⟨e',rfl,h1⟩
  |ok s'=>right;rw [e] at h1;exact⟨s',rfl,h1,h2 s' e⟩) stop hn h0
end
theorem ud{α:Type}(p:α→Bool):∀(l:List α) (j:Nat),bi (fun(_:Unit) j x=>if p x then Except.error (j:Int) else .ok ()) j l ()=match l.findIdx? p with |some i=>.error ((i+j:Nat):Int) |none=>.ok ()
 |[],j=>by simp [bi]
 |x::l,j=>by
  rw [bi,List.findIdx?_cons]
  by_cases h:p x=true
  ·
   simp [h]
  ·
   simp only [h,if_false,Bool.false_eq_true]
   rw [ud p l (j+1)]
   cases l.findIdx? p with
   |none=>rfl
   |some i=>simp only [Option.map_some];congr 2;omega
theorem xM{k:Nat}{a b:List Int}(h:a.length < k)(hk:a.length≤1000000):dA k a b=some (decide (a=b)):=by
 unfold dA;by_cases hl:a.length=b.length
 ·rw [if_neg (by simp [hl])]
  have key:=vF (f:=dp k a b) a (fun(_:Unit) j=>j) (fun _ j x=>if x=b[j]?.getD 0 then .ok () else Except.error false) (fun _ _=>True) (fun r=>some r)
   (fun n s j hj _=>by
    have hjb:j < b.length:=by omega
    have hb:b[j]?.getD 0=b[j]:=by simp [List.getElem?_eq_getElem hjb]
    have hck:ck ((j:Int)+1)=some ((j:Int)+1):=bF (by omega) (by omega);rw [hb];simp only [dp,Int.ofNat_lt,hj,if_true,cr hj,cr hjb,bs];by_cases e:a[j]=b[j] <;> simp [e,hck])
   (fun n s _=>by simp [dp]) (n:=k) (s0:=()) h trivial
  rw [show dp k a b k 0=_ from key]
  have:∀(a:List Int) (j:Nat),a.length+j=b.length→bi (fun(_:Unit) j x=>if x=b[j]?.getD 0 then .ok () else Except.error false) j a ()=if a=b.drop j then .ok () else .error false:=by
   intro a
   induction a with
   |nil=>
    intro j hj;have:b.drop j=[]:=List.drop_eq_nil_of_le (by simp only [List.length_nil] at hj;omega);rw [this];simp [bi]
   |cons x a ih=>
    intro j hj;simp only [List.length_cons] at hj;have hjb:j < b.length:=by omega
    have hd:b.drop j=b[j]::b.drop (j+1):=List.drop_eq_getElem_cons hjb;have hb:b[j]?.getD 0=b[j]:=by simp [List.getElem?_eq_getElem hjb]
    rw [bi,hb,hd];by_cases e:x=b[j]
    ·have h2:(x::a=b[j]::b.drop (j+1))=(a=b.drop (j+1)):=propext ⟨fun h=>(List.cons.inj h).2,fun h=>by rw [h,e]⟩;rw [if_pos e];simp only [h2];exact ih (j+1) (by omega)
    ·have h2:¬(x::a=b[j]::b.drop (j+1)):=fun h=>e (List.cons.inj h).1;rw [if_neg e];simp only [h2,if_false]
  rw [this a 0 (by omega),List.drop_zero];by_cases e:a=b
  ·rw [if_pos e,og,decide_eq_true e]
  ·rw [if_neg e,nu,decide_eq_false e]
 ·rw [if_pos (by omega),decide_eq_false (fun e=>hl (by rw [e]))]
def kw(s:Int):Prop:=0≤s∧s < 256
def eC(s:Int)(i:Nat):Prop:=s.toNat.testBit i=true
instance (s:Int) (i:Nat):Decidable (eC s i):=by unfold eC;infer_instance
theorem vW{x:Nat}(h:x < 256):IntKind.u8.wrap (x:Int)=x:=by
 have e:IntKind.u8.wrap (x:Int)=(x:Int) % 256:=by simp [IntKind.wrap,IntKind.signed,IntKind.bits]
 rw [e];omega
theorem nO{s:Int}(h:kw s):∃n:Nat,n < 256∧s=n:=⟨s.toNat,by have:=h.1;have:=h.2;omega,by have:=h.1;omega⟩
theorem zO{n:Nat}(h:n < 256):(BitVec.ofInt IntKind.u8.bits (n:Int)).toNat=n:=by
 show(BitVec.ofInt 8 (n:Int)).toNat=n;rw [BitVec.ofInt_natCast,BitVec.toNat_ofNat];exact Nat.mod_eq_of_lt h
theorem Fj{n m:Nat}(hn:n < 256)(hm:m < 256):n |||m < 256:=Nat.or_lt_two_pow (n:=8) hn hm
theorem HZ{n m:Nat}(hn:n < 256):n &&& m < 256:=Nat.lt_of_le_of_lt Nat.and_le_left hn
theorem wE{a b:Int}(ha:kw a)(hb:kw b):kw (A5 .u8 a b)∧∀i,eC (A5 .u8 a b) i↔eC a i∨eC b i:=by
 obtain⟨n,hn,rfl⟩:=nO ha;obtain⟨m,hm,rfl⟩:=nO hb
 have e:A5 .u8 (n:Int) (m:Int)=((n |||m:Nat):Int):=by
  unfold A5;rw [BitVec.toNat_or,zO hn,zO hm];exact vW (Fj hn hm)
 rw [e];refine⟨⟨by omega,by have:=Fj hn hm;omega⟩,fun i=>?_⟩;simp [eC,Nat.testBit_or]
theorem zN{x:Int}(h0:0≤x)(h8:x < 8):kw (mD .u8 1 x)∧∀i:Nat,eC (mD .u8 1 x) i↔(i:Int)=x:=by
 obtain⟨n,rfl⟩:=Int.eq_ofNat_of_zero_le h0;have hn:n < 8:=by omega
 have e:mD .u8 1 (n:Int)=((2 ^ n:Nat):Int):=by
  unfold mD
  have h1:min (Int.toNat (n:Int)) IntKind.u8.bits=n:=by
   show min n 8=n;omega
  rw [h1,Int.one_mul];have h2:2 ^ n < 256:=Nat.pow_lt_pow_right (by decide) hn;have h3:((2:Int) ^ n)=((2 ^ n:Nat):Int):=by simp
  rw [h3];exact vW h2
 rw [e];have h9:2 ^ n < 256:=Nat.pow_lt_pow_right (by decide) hn;refine⟨⟨Int.natCast_nonneg _,Int.ofNat_lt.2 h9⟩,fun i=>?_⟩;simp only [eC,Int.toNat_natCast,Nat.testBit_two_pow,decide_eq_true_eq];omega
theorem Ak{k:Nat}{s:Int}(hs:kw s){i:Nat}(hi:i < 8):eE k s (i:Int)=some (decide (eC s i)):=by
 obtain⟨n,hn,rfl⟩:=nO hs;unfold eE;rw [d4,if_pos (by omega)];show some _=some _;congr 1
 have e1:gZ .u8 (n:Int) (i:Int)=((n >>> i:Nat):Int):=by
  unfold gZ
  have h1:min (Int.toNat (i:Int)) IntKind.u8.bits=i:=by
   show min i 8=i;omega
  have h3:((2:Int) ^ i)=((2 ^ i:Nat):Int):=by simp
  rw [h1,h3,Int.fdiv_eq_ediv_of_nonneg _ (Int.natCast_nonneg _),Nat.shiftRight_eq_div_pow];rfl
 have hlt:n >>> i < 256:=Nat.lt_of_le_of_lt (by rw [Nat.shiftRight_eq_div_pow];exact Nat.div_le_self _ _) hn
 have e2:uT .u8 ((n >>> i:Nat):Int) 1=(((n >>> i) &&& 1:Nat):Int):=by
  unfold uT;have h1:(BitVec.ofInt IntKind.u8.bits 1).toNat=1:=rfl;rw [BitVec.toNat_and,zO hlt,h1];exact vW (HZ hlt)
 rw [e1,e2]
 have e3:(((n >>> i) &&& 1:Nat):Int)=1↔eC (n:Int) i:=by
  rw [eC,Int.toNat_natCast,Nat.testBit];have h5:(n >>> i) &&& 1=1 &&& (n >>> i):=Nat.and_comm _ _;rw [h5];have h4:1 &&& (n >>> i) < 2:=Nat.lt_of_le_of_lt Nat.and_le_left (by decide);simp only [bne_iff_ne,ne_eq];omega
 exact decide_eq_decide.2 e3
abbrev cY:=Int×(List (Int×(List Int)))×(List Int)
def lu(t:cY)(d n:Int):Bool:=match t.2.1[n.toNat]? with
 |some x=>decide (d∈x.2)
 |none=>false
def yf(w:Int→Bool)(l:List Int):List Int:=l.filter (fun n=> !w n)++l.filter w
def fQ(w:Int→Bool):Bool→List Int→List Int
 |_,[]=>[]
 |u,n::l=>if w n then fQ w true l else if u then n::fQ w u l else fQ w u l
theorem my{w:Int→Bool}{n:Int}:∀{l:List Int} {u:Bool},n∈fQ w u l↔w n=false∧∃p s,l=p++n::s∧(u=true∨∃m∈p,w m=true)
 |[],u=>by simp [fQ]
 |m::l,u=>by
  have cut:∀(u':Bool),(u'=true↔u=true∨w m=true)→((∃p s,m::l=p++n::s∧(u=true∨∃x∈p,w x=true))↔(m=n∧u=true)∨∃p s,l=p++n::s∧(u'=true∨∃x∈p,w x=true)):=fun u' hu=>by
   constructor
   ·
    rintro⟨p,s,e,h⟩
    cases p with
    |nil=>
     obtain⟨rfl,rfl⟩:=List.cons.inj e
     rcases h with h |⟨x,hx,_⟩
     ·
      exact .inl ⟨rfl,h⟩
     ·
      cases hx
    |cons y p=>
     obtain⟨rfl,rfl⟩:=List.cons.inj e
     refine .inr ⟨p,s,rfl,?_⟩
     rcases h with h |⟨x,hx,hw⟩
     ·
      exact .inl (hu.2 (.inl h))
     ·
      rcases List.mem_cons.1 hx with rfl |hx
      ·
       exact .inl (hu.2 (.inr hw))
      ·
       exact .inr ⟨x,hx,hw⟩
   ·
    rintro(⟨rfl,h⟩ |⟨p,s,rfl,h⟩)
    ·
     exact⟨[],l,rfl,.inl h⟩
    ·
     refine⟨m::p,s,rfl,?_⟩
     rcases h with h |⟨x,hx,hw⟩
     ·
      rcases hu.1 h with h |h
      ·
       exact .inl h
      ·
       exact .inr ⟨m,by simp,h⟩
     ·
      exact .inr ⟨x,by simp [hx],hw⟩
  rw [fQ]
  cases hm:w m with
  |true=>
   rw [if_pos rfl,my,cut true (by simp [hm])]
   constructor
   ·
    rintro⟨h,h'⟩;exact⟨h,.inr h'⟩
   ·
    rintro⟨h,⟨rfl,_⟩ |h'⟩
    ·
     rw [hm] at h;cases h
    ·
     exact⟨h,h'⟩
  |false=>
   rw [if_neg (by simp)]
   have hc:=cut u (by simp [hm])
   cases u with
   |true=>
    rw [if_pos rfl,List.mem_cons,my,hc]
    constructor
    ·
     rintro(rfl |⟨h,h'⟩)
     ·
      exact⟨hm,.inl ⟨rfl,rfl⟩⟩
     ·
      exact⟨h,.inr h'⟩
    ·
     rintro⟨h,⟨rfl,_⟩ |h'⟩
     ·
      exact .inl rfl
     ·
      exact .inr ⟨h,h'⟩
   |false=>
    rw [if_neg (by simp),my,hc]
    simp
theorem tX{w:Int→Bool}{l:List Int}:(yf w l).Perm l:=by
 unfold yf;exact List.perm_append_comm.trans (List.filter_append_perm w l)
theorem rV{w:Int→Bool}{l:List Int}{u:Bool}{n:Int}(h:n∈fQ w u l):n∈l:=by
 obtain⟨_,p,s,rfl,_⟩:=my.1 h;simp
theorem Da{l p s p' s':List Int}{n:Int}(hn:l.Nodup)(h:l=p++n::s)(h':l=p'++n::s'):p=p'∧s=s':=by
 subst h
 induction p generalizing p' with
 |nil=>
  cases p' with
  |nil=>exact⟨rfl,(List.cons.inj h').2⟩
  |cons y p'=>
   exfalso;obtain⟨rfl,h2⟩:=List.cons.inj h';simp only [List.nil_append,List.nodup_cons] at hn;rw [h2] at hn;exact hn.1 (by simp)
 |cons x p ih=>
  cases p' with
  |nil=>
   exfalso;obtain⟨rfl,h2⟩:=List.cons.inj h';simp only [List.cons_append,List.nodup_cons] at hn;exact hn.1 (by simp)
  |cons y p'=>
   obtain⟨rfl,h2⟩:=List.cons.inj h';simp only [List.cons_append,List.nodup_cons] at hn;obtain⟨h3,h4⟩:=ih (p':=p') hn.2 h2;exact⟨by rw [h3],h4⟩
theorem kz{k:Nat}{n a b:Int}:dQ k n a b=some (decide (a≤n∧n≤b)):=by
 unfold dQ;by_cases h:a≤n <;> simp [h]
theorem mE{k:Nat}{n a b:Int}:gh k n a b=some (decide (a≤n∧n≤b)):=by
 unfold gh;by_cases h:a≤n <;> simp [h]
def sU(days:Int)(l:List Int)(j:Nat)(x:Int):Except Int Unit:=
 if¬(0≤x∧x≤days - 1) then .error 1 else if 0 < j∧x≤l[j - 1]?.getD 0 then .error 5 else .ok ()
def jk(days:Int)(x:Int×(List Int)):Except Int Unit:=
 if¬(1≤x.1∧x.1≤3) then .error 1 else bi (fun _ j y=>sU days x.2 j y) 0 x.2 ()
def j9(n:Int):Except Int Unit:=if 0≤n∧n≤9 then .ok () else .error 1
def Bf{α:Type}:Except Int α→Int
 | .error e=>e
 | .ok _=>0
def lX(t:cY):Int:=
 if¬(1≤t.1∧t.1≤6) then 1 else if 5 < t.2.1.length then 6 else
  match bi (fun _ _ x=>jk t.1 x) 0 t.2.1 () with
  | .error e=>e
  | .ok _=>if t.2.2.length < 1 then 7 else if 3 < t.2.2.length then 6 else Bf (bi (fun _ _ n=>j9 n) 0 t.2.2 ())
structure j7(k:Nat)(t:cY):Prop where
 k1:k≤1000000
 things:t.2.1.length < k
 worn:∀x∈t.2.1,x.2.length < k
 trunks:t.2.2.length < k
section
variable {k:Nat}{t:cY}
theorem Em{l:List Int}{j:Nat}(h:j < l.length)(h0:0 < j):a8 l ((j:Int) - 1)=some (l[j - 1]?.getD 0):=by
 have e:((j:Int) - 1).toNat=j - 1:=by omega
 rw [a8,if_pos (by omega),e,List.getElem?_eq_getElem (by omega)];rfl
theorem Gn{x:Int×(List Int)}(hk:k≤1000000)(hx:x.2.length < k)(hd:1≤t.1∧t.1≤6):cJ k t x k 0=some (bi (fun _ j y=>sU t.1 x.2 j y) 0 x.2 ()):=
 mH (f:=cJ k t x) x.2 (fun(_:Unit) j=>j) (fun _ j y=>sU t.1 x.2 j y) (fun _ _=>True) (fun r=>some r)
  (fun n s j h _=>⟨by
   rw [cJ,if_pos (Int.ofNat_lt.2 h),cr h,bs,bF (by omega) (by omega),bs,kz,bs]
   unfold sU
   by_cases c1:0≤x.2[j]∧x.2[j]≤t.1 - 1
   ·
    rw [decide_eq_true c1,nT,if_neg (not_not_intro c1)]
    by_cases c2:0 < j
    ·
     rw [if_pos (show(0:Int) < (j:Int) by omega),bF (by omega) (by omega),bs,Em h c2,bs,bs]
     by_cases c3:x.2[j]≤x.2[j - 1]?.getD 0
     ·
      rw [decide_eq_true c3,iT,if_pos (show 0 < j∧x.2[j]≤x.2[j - 1]?.getD 0 from⟨c2,c3⟩)]
     ·
      rw [decide_eq_false c3,iF,if_neg (show¬(0 < j∧x.2[j]≤x.2[j - 1]?.getD 0) from fun h=>c3 h.2),bF (by omega) (by omega),bs]
    ·
     rw [if_neg (show¬(0:Int) < (j:Int) by omega),bs,iF,if_neg (show¬(0 < j∧x.2[j]≤x.2[j - 1]?.getD 0) from fun h=>c2 h.1),bF (by omega) (by omega),bs]
   ·
    rw [decide_eq_false c1,nF,if_pos (show¬(0≤x.2[j]∧x.2[j]≤t.1 - 1) from c1)],fun _ _=>trivial⟩)
  (fun n s _=>by rw [cJ,if_neg (by omega)]) (s0:=()) (n:=k) hx trivial
theorem Gq{x:Int×(List Int)}(hk:k≤1000000)(hx:x.2.length < k)(hd:1≤t.1∧t.1≤6):fo k t x k 0=some (bi (fun _ j y=>sU t.1 x.2 j y) 0 x.2 ()):=
 mH (f:=fo k t x) x.2 (fun(_:Unit) j=>j) (fun _ j y=>sU t.1 x.2 j y) (fun _ _=>True) (fun r=>some r)
  (fun n s j h _=>⟨by
   rw [fo,if_pos (Int.ofNat_lt.2 h),cr h,bs,bF (by omega) (by omega),bs,mE,bs]
   unfold sU
   by_cases c1:0≤x.2[j]∧x.2[j]≤t.1 - 1
   ·
    rw [decide_eq_true c1,nT,if_neg (not_not_intro c1)]
    by_cases c2:0 < j
    ·
     rw [if_pos (show(0:Int) < (j:Int) by omega),bs,bF (by omega) (by omega),bs,Em h c2,bs,bs]
     by_cases c3:x.2[j]≤x.2[j - 1]?.getD 0
     ·
      rw [decide_eq_true c3,iT,if_pos (show 0 < j∧x.2[j]≤x.2[j - 1]?.getD 0 from⟨c2,c3⟩)]
     ·
      rw [decide_eq_false c3,iF,if_neg (show¬(0 < j∧x.2[j]≤x.2[j - 1]?.getD 0) from fun h=>c3 h.2),bF (by omega) (by omega),bs]
    ·
     rw [if_neg (show¬(0:Int) < (j:Int) by omega),bs,iF,if_neg (show¬(0 < j∧x.2[j]≤x.2[j - 1]?.getD 0) from fun h=>c2 h.1),bF (by omega) (by omega),bs]
   ·
    rw [decide_eq_false c1,nF,if_pos (show¬(0≤x.2[j]∧x.2[j]≤t.1 - 1) from c1)],fun _ _=>trivial⟩)
  (fun n s _=>by rw [fo,if_neg (by omega)]) (s0:=()) (n:=k) hx trivial
theorem D7{x:Int×(List Int)}(hk:k≤1000000)(hx:x.2.length < k)(hd:1≤t.1∧t.1≤6):hC k t x=some (Bf (jk t.1 x)):=by
 unfold hC jk;rw [kz,bs,Gn hk hx hd];by_cases c:1≤x.1∧x.1≤3
 ·rw [decide_eq_true c,nT,if_neg (not_not_intro c)];cases bi (fun _ j y=>sU t.1 x.2 j y) 0 x.2 () with
  |error e=>rw [nu];rfl
  |ok u=>rw [og];rfl
 ·rw [decide_eq_false c,nF,if_pos (show¬(1≤x.1∧x.1≤3) from c)];rfl
theorem jR{α σ:Type}{g:σ→Nat→α→Except Int σ}(hg:∀s j x,g s j x≠.error 0):∀(l:List α) (j:Nat) (s:σ),bi g j l s≠.error 0
 |[],j,s=>by simp [bi]
 |x::l,j,s=>by
  rw [bi]
  cases h:g s j x with
  |error e=>intro h';rw [Except.error.inj h'] at h;exact hg _ _ _ h
  |ok s'=>exact jR hg l (j+1) s'
theorem yF{d:Int}{x:Int×(List Int)}:jk d x≠.error 0:=by
 unfold jk;split
 ·simp
 ·refine jR (fun s j y=>?_) _ _ _;unfold sU;split
  ·simp
  ·split <;> simp
theorem CP(h:j7 k t)(hd:1≤t.1∧t.1≤6):fj k t k 0=some (bi (fun _ _ x=>jk t.1 x) 0 t.2.1 ()):=
 mH (f:=fj k t) t.2.1 (fun(_:Unit) j=>j) (fun _ _ x=>jk t.1 x) (fun _ _=>True) (fun r=>some r)
  (fun n s j hj _=>⟨by
   rw [fj,if_pos (Int.ofNat_lt.2 hj),cr hj,bs,D7 h.k1 (h.worn _ (List.getElem_mem hj)) hd,bs]
   have h0:=yF (d:=t.1) (x:=t.2.1[j])
   have h1:=h.things
   have h2:=h.k1
   cases e:jk t.1 t.2.1[j] with
   |error e'=>rw [if_pos (show¬Bf (Except.error e':Except Int Unit)=0 from fun h=>h0 (by rw [e];exact congrArg _ h))];rfl
   |ok u=>rw [if_neg (show¬¬Bf (Except.ok u:Except Int Unit)=0 from fun h=>h rfl),bF (by omega) (by omega),bs],fun _ _=>trivial⟩)
  (fun n s _=>by rw [fj,if_neg (by omega)]) (s0:=()) (n:=k) h.things trivial
theorem CQ(h:j7 k t)(hd:1≤t.1∧t.1≤6):fp k t k 0=some (bi (fun _ _ x=>jk t.1 x) 0 t.2.1 ()):=
 mH (f:=fp k t) t.2.1 (fun(_:Unit) j=>j) (fun _ _ x=>jk t.1 x) (fun _ _=>True) (fun r=>some r)
  (fun n s j hj _=>⟨by
   rw [fp,if_pos (Int.ofNat_lt.2 hj),cr hj,bs,mE,bs,bs,Gq h.k1 (h.worn _ (List.getElem_mem hj)) hd]
   have h1:=h.things
   have h2:=h.k1
   unfold jk
   by_cases c:1≤t.2.1[j].1∧t.2.1[j].1≤3
   ·
    rw [decide_eq_true c,nT,if_neg (not_not_intro c)]
    cases bi (fun _ j' y=>sU t.1 t.2.1[j].2 j' y) 0 t.2.1[j].2 () with
    |error e=>rw [nu]
    |ok u=>rw [og,bF (by omega) (by omega),bs]
   ·
    rw [decide_eq_false c,nF,if_pos (show¬(1≤t.2.1[j].1∧t.2.1[j].1≤3) from c),nu],fun _ _=>trivial⟩)
  (fun n s _=>by rw [fp,if_neg (by omega)]) (s0:=()) (n:=k) h.things trivial
theorem BZ(h:j7 k t):fi k t k 0=some (bi (fun _ _ n=>j9 n) 0 t.2.2 ()):=
 mH (f:=fi k t) t.2.2 (fun(_:Unit) j=>j) (fun _ _ n=>j9 n) (fun _ _=>True) (fun r=>some r)
  (fun n s j hj _=>⟨by
   rw [fi,if_pos (Int.ofNat_lt.2 hj),cr hj,bs,kz,bs]
   have h1:=h.trunks
   have h2:=h.k1
   unfold j9
   by_cases c:0≤t.2.2[j]∧t.2.2[j]≤9
   ·
    rw [decide_eq_true c,nT,if_pos c,bF (by omega) (by omega),bs]
   ·
    rw [decide_eq_false c,nF,if_neg c],fun _ _=>trivial⟩)
  (fun n s _=>by rw [fi,if_neg (by omega)]) (s0:=()) (n:=k) h.trunks trivial
theorem B0(h:j7 k t):fm k t k 0=some (bi (fun _ _ n=>j9 n) 0 t.2.2 ()):=
 mH (f:=fm k t) t.2.2 (fun(_:Unit) j=>j) (fun _ _ n=>j9 n) (fun _ _=>True) (fun r=>some r)
  (fun n s j hj _=>⟨by
   rw [fm,if_pos (Int.ofNat_lt.2 hj),cr hj,bs,mE,bs]
   have h1:=h.trunks
   have h2:=h.k1
   unfold j9
   by_cases c:0≤t.2.2[j]∧t.2.2[j]≤9
   ·
    rw [decide_eq_true c,nT,if_pos c,bF (by omega) (by omega),bs]
   ·
    rw [decide_eq_false c,nF,if_neg c],fun _ _=>trivial⟩)
  (fun n s _=>by rw [fm,if_neg (by omega)]) (s0:=()) (n:=k) h.trunks trivial
theorem Dc(h:j7 k t):kB k t=some (lX t):=by
 unfold kB lX;rw [kz,bs];by_cases c:1≤t.1∧t.1≤6
 ·rw [decide_eq_true c,nT,if_neg (not_not_intro c),CP h c,BZ h];by_cases c1:5 < t.2.1.length
  ·rw [if_pos (show(5:Int) < (t.2.1.length:Int) by omega),if_pos c1]
  ·rw [if_neg (show¬(5:Int) < (t.2.1.length:Int) by omega),if_neg c1];cases bi (fun _ _ x=>jk t.1 x) 0 t.2.1 () with
   |error e=>rw [nu]
   |ok u=>
    rw [og];by_cases c2:t.2.2.length < 1
    ·rw [if_pos (by omega)];simp only [c2,if_true]
    ·rw [if_neg (by omega)];by_cases c3:3 < t.2.2.length
     ·rw [if_pos (by omega)];simp only [c2,c3,if_true,if_false]
     ·rw [if_neg (by omega)];simp only [c2,c3,if_false];cases bi (fun _ _ n=>j9 n) 0 t.2.2 () with
      |error e=>rw [nu];rfl
      |ok u=>rw [og];rfl
 ·rw [decide_eq_false c,nF,if_pos (show¬(1≤t.1∧t.1≤6) from c)]
theorem Df(h:j7 k t):mm k t=some (lX t):=by
 unfold mm lX;rw [mE,bs];by_cases c:1≤t.1∧t.1≤6
 ·rw [decide_eq_true c,nT,if_neg (not_not_intro c),CQ h c,B0 h];by_cases c1:5 < t.2.1.length
  ·rw [if_pos (show(5:Int) < (t.2.1.length:Int) by omega),if_pos c1]
  ·rw [if_neg (show¬(5:Int) < (t.2.1.length:Int) by omega),if_neg c1];cases bi (fun _ _ x=>jk t.1 x) 0 t.2.1 () with
   |error e=>rw [nu]
   |ok u=>
    rw [og];by_cases c2:t.2.2.length < 1
    ·rw [if_pos (by omega)];simp only [c2,if_true]
    ·rw [if_neg (by omega)];by_cases c3:3 < t.2.2.length
     ·rw [if_pos (by omega)];simp only [c2,c3,if_true,if_false]
     ·rw [if_neg (by omega)];simp only [c2,c3,if_false];cases bi (fun _ _ n=>j9 n) 0 t.2.2 () with
      |error e=>rw [nu];rfl
      |ok u=>rw [og];rfl
 ·rw [decide_eq_false c,nF,if_pos (show¬(1≤t.1∧t.1≤6) from c)]
end
theorem rZ{α:Type}{f:α→Except Int Unit}:∀{l:List α} {j:Nat},bi (fun(_:Unit) _ x=>f x) j l ()= .ok ()→∀x∈l,f x= .ok ()
 |[],_,_,_,h=>by cases h
 |y::l,j,h,x,hx=>by
  rw [bi] at h
  cases e:f y with
  |error e'=>rw [e] at h;cases h
  |ok u=>
   rw [e] at h
   rcases List.mem_cons.1 hx with rfl |hx
   ·
    exact e
   ·
    exact rZ h x hx
structure pw(t:cY):Prop where
 days:1≤t.1∧t.1≤6
 things:t.2.1.length≤5
 sizes:∀x∈t.2.1,1≤x.1∧x.1≤3
 trunks:1≤t.2.2.length∧t.2.2.length≤3
 rooms:∀n∈t.2.2,0≤n∧n≤9
theorem wH{t:cY}(h:lX t=0):pw t:=by
 unfold lX at h;by_cases c:1≤t.1∧t.1≤6
 ·rw [if_neg (not_not_intro c)] at h;by_cases c1:5 < t.2.1.length
  ·rw [if_pos c1] at h;cases h
  ·rw [if_neg c1] at h;have h0:bi (fun(_:Unit) _ x=>jk t.1 x) 0 t.2.1 ()≠.error 0:=jR (fun _ _ _=>yF) _ _ _;cases e:bi (fun(_:Unit) _ x=>jk t.1 x) 0 t.2.1 () with
   |error e'=>rw [e] at h h0;exact absurd (congrArg _ h) h0
   |ok u=>
    rw [e] at h;have hi:=rZ e;by_cases c2:t.2.2.length < 1
    ·simp only [c2,if_true] at h;cases h
    ·by_cases c3:3 < t.2.2.length
     ·simp only [c2,c3,if_true,if_false] at h;cases h
     ·simp only [c2,c3,if_false] at h;refine⟨c,by omega,fun x hx=>?_,by omega,?_⟩
      ·have:=hi x hx;unfold jk at this;by_cases c4:1≤x.1∧x.1≤3
       ·exact c4
       ·rw [if_pos c4] at this;cases this
      ·have h1:bi (fun(_:Unit) _ n=>j9 n) 0 t.2.2 ()≠.error 0:=jR (fun _ _ n=>by unfold j9;split <;> simp) _ _ _;cases e2:bi (fun(_:Unit) _ n=>j9 n) 0 t.2.2 () with
       |error e'=>rw [e2] at h h1;exact absurd (congrArg _ h) h1
       |ok u=>
        intro n hn
        have:=rZ e2 n hn;unfold j9 at this;by_cases c5:0≤n∧n≤9
        ·exact c5
        ·rw [if_neg c5] at this;cases this
 ·rw [if_pos c] at h;cases h
def jq(n:Nat)(met:List Int)(x:Int):Except Int (List Int):=if¬(0≤x∧x≤(n:Int) - 1) then .error 3 else if x∈met then .error 4 else .ok (met++[x])
def kl(t:cY)(x:Int):Int:=match t.2.1[x.toNat]? with |some y=>y.1 |none=>0
def hQ(t:cY):List Int→Int
 |[]=>0
 |x::l=>kl t x+hQ t l
def f9(t:cY)(met:List Int)(i:Nat)(l:List Int):Except Int (List Int):=
 match bi (fun m _ x=>jq t.2.1.length m x) 0 l met with
 | .error e=>.error e
 | .ok m=>if t.2.2[i]?.getD 0 < hQ t l then .error 12 else .ok m
def Db(t:cY)(p:List (List Int)):Int:=
 if p.length < t.2.2.length then 7 else if t.2.2.length < p.length then 6 else
  match bi (f9 t) 0 p [] with
  | .error e=>e
  | .ok m=>if m.length < t.2.1.length then 7 else 0
def pu(t:cY)(p:List (List Int)):Int:=if¬(lX t=0) then lX t else Db t p
structure vS(n:Nat)(m:List Int):Prop where
 nd:m.Nodup
 rng:∀x∈m,0≤x∧x < (n:Int)
theorem vS.put{n:Nat}{m m':List Int}{x:Int}(h:vS n m)(e:jq n m x= .ok m'):m'=m++[x]∧vS n m'∧0≤x∧x < (n:Int):=by
 unfold jq at e;by_cases c:0≤x∧x≤(n:Int) - 1
 ·rw [if_neg (not_not_intro c)] at e;by_cases c1:x∈m
  ·rw [if_pos c1] at e;cases e
  ·rw [if_neg c1] at e;cases e;refine⟨rfl,⟨?_,fun y hy=>?_⟩,c.1,by omega⟩
   ·rw [List.nodup_append];exact⟨h.nd,by simp,fun a ha b hb=>by rw [List.mem_singleton] at hb;subst hb;exact fun e=>c1 (e▸ha)⟩
   ·rcases List.mem_append.1 hy with hy |hy
    ·exact h.rng y hy
    ·rw [List.mem_singleton] at hy;omega
 ·rw [if_pos c] at e;cases e
theorem vS.puts{n:Nat}:∀{l:List Int} {j:Nat} {m m':List Int},vS n m→bi (fun m _ x=>jq n m x) j l m= .ok m'→m'=m++l∧vS n m'∧∀x∈l,0≤x∧x < (n:Int)
 |[],_,m,m',h,e=>by simp only [bi] at e;cases e;exact⟨by simp,h,by simp⟩
 |x::l,j,m,m',h,e=>by
  rw [bi] at e
  cases e1:jq n m x with
  |error e'=>rw [e1] at e;cases e
  |ok m1=>
   rw [e1] at e
   obtain⟨rfl,h1,h2⟩:=h.put e1
   obtain⟨rfl,h3,h4⟩:=vS.puts h1 e
   refine⟨by simp,h3,fun y hy=>?_⟩
   rcases List.mem_cons.1 hy with rfl |hy
   ·
    exact h2
   ·
    exact h4 y hy
theorem wh:∀(n:Nat) (l:List Int),l.Nodup→(∀x∈l,0≤x∧x < (n:Int))→l.length≤n
 |0,l,_,h=>by
  cases l with
  |nil=>simp
  |cons x l=>have:=h x (by simp);omega
 |n+1,l,hn,h=>by
  have h1:=wh n (l.erase (n:Int)) (hn.erase _) (fun x hx=>by
   have h2:=(List.Nodup.mem_erase_iff hn).1 hx
   have:=h x h2.2
   have:=h2.1
   omega)
  have:l.length≤(l.erase (n:Int)).length+1:=by rw [List.length_erase];split <;> omega
  omega
theorem vS.len{n:Nat}{m:List Int}(h:vS n m):m.length≤n:=wh n m h.nd h.rng
theorem vS.full{n:Nat}{m:List Int}(h:vS n m):¬m.length < n↔∀i:Nat,i < n→(i:Int)∈m:=by
 constructor
 ·intro hl i hi;by_cases c:(i:Int)∈m
  ·exact c
  ·have:=wh n ((i:Int)::m) (List.nodup_cons.2 ⟨c,h.nd⟩) (fun x hx=>by
    rcases List.mem_cons.1 hx with rfl |hx
    ·omega
    ·exact h.rng x hx)
   simp only [List.length_cons] at this;omega
 ·intro ha hl
  have h1:((List.range n).map fun(i:Nat)=>(i:Int)).length≤m.length:=by
   have:∀(k:Nat) (q:List Int),(∀i:Nat,i < k→(i:Int)∈q)→k≤q.length:=by
    intro k
    induction k with
    |zero=>intros;omega
    |succ k ih=>
     intro q hq;have hk:=hq k (by omega);have h2:=ih (q.erase (k:Int)) (fun i hi=>(List.mem_erase_of_ne (by omega)).2 (hq i (by omega)));rw [List.length_erase,if_pos (by simpa using hk)] at h2;have:=List.length_pos_of_mem hk;omega
   have:=this n m ha;simpa using this
  simp at h1;omega
def jO(m:List Int):Int:=m.foldl (fun s x=>A5 .u8 s (mD .u8 1 x)) 0
theorem Af{m:List Int}{x:Int}:jO (m++[x])=A5 .u8 (jO m) (mD .u8 1 x):=by
 unfold jO;rw [List.foldl_append];rfl
theorem Ag{m:List Int}(h:∀x∈m,0≤x∧x < 8):∀(s:Int),kw s→kw (m.foldl (fun s x=>A5 .u8 s (mD .u8 1 x)) s)∧∀i:Nat,eC (m.foldl (fun s x=>A5 .u8 s (mD .u8 1 x)) s) i↔eC s i∨(i:Int)∈m:=by
 induction m with
 |nil=>intro s hs;exact⟨hs,fun i=>by simp⟩
 |cons x m ih=>
  intro s hs;have hx:=h x (by simp);obtain⟨o1,o2⟩:=zN hx.1 hx.2;obtain⟨p1,p2⟩:=wE hs o1;obtain⟨q1,q2⟩:=ih (fun y hy=>h y (by simp [hy])) _ p1;refine⟨q1,fun i=>?_⟩;rw [List.foldl_cons,q2,p2,o2,List.mem_cons,or_assoc]
theorem yx{m:List Int}(h:∀x∈m,0≤x∧x < 8):kw (jO m)∧∀i:Nat,eC (jO m) i↔(i:Int)∈m:=by
 obtain⟨a,b⟩:=Ag h 0 ⟨by decide,by decide⟩;exact⟨a,fun i=>by rw [jO,b];simp [eC]⟩
theorem Ff{a b:Int}(ha:kw a)(hb:kw b)(h:∀i:Nat,eC a i↔eC b i):a=b:=by
 obtain⟨n,hn,rfl⟩:=nO ha;obtain⟨m,hm,rfl⟩:=nO hb;congr 1;refine Nat.eq_of_testBit_eq fun i=>?_;have:=h i;simp only [eC,Int.toNat_natCast] at this;exact Bool.eq_iff_iff.2 this
theorem Il:∀n:Nat,n≤5→kw (IntKind.u8.wrap ((mD .u8 1 (n:Int)) - 1))∧∀i:Nat,eC (IntKind.u8.wrap ((mD .u8 1 (n:Int)) - 1)) i↔i < n:=by
 have h1:∀n:Nat,n≤5→IntKind.u8.wrap ((mD .u8 1 (n:Int)) - 1)=((2 ^ n - 1:Nat):Int):=by decide
 intro n hn
 rw [h1 n hn];have h2:2 ^ n≤32:=Nat.pow_le_pow_right (by decide) hn;refine⟨⟨by omega,by omega⟩,fun i=>?_⟩;simp only [eC,Int.toNat_natCast,Nat.testBit_two_pow_sub_one,decide_eq_true_eq]
theorem FR{n:Nat}{m:List Int}(hn:n≤5)(h:vS n m):jO m=IntKind.u8.wrap ((mD .u8 1 (n:Int)) - 1)↔¬m.length < n:=by
 have h8:∀x∈m,0≤x∧x < 8:=fun x hx=>by have:=h.rng x hx;omega
 obtain⟨a,b⟩:=yx h8;obtain⟨c,d⟩:=Il n hn;rw [h.full];constructor
 ·intro e i hi;rw [←b,e,d];exact hi
 ·intro hi;refine Ff a c fun i=>?_;rw [b,d];refine⟨fun hm=>?_,hi i⟩;have:=h.rng _ hm;omega
section
variable {k:Nat}{t:cY}
theorem Kx{k:Nat}{l:List Int}{x:Int}(hk:l.length < k)(hk1:k≤1000000):qA k l x=some (decide (x∈l)):=by
 unfold qA
 have:=mH (f:=ib k l x) l (fun(_:Unit) j=>j) (fun _ _ y=>if y=x then Except.error true else .ok ()) (fun _ _=>True) (fun r=>some r)
  (fun n s j h _=>⟨by
   rw [ib,if_pos (Int.ofNat_lt.2 h),cr h,bs];by_cases c:l[j]=x
   ·rw [if_pos c,if_pos c]
   ·rw [if_neg c,if_neg c,bF (by omega) (by omega),bs],fun _ _=>trivial⟩)
  (fun n s _=>by rw [ib,if_neg (by omega)]) (s0:=()) (n:=k) hk trivial
 rw [show ib k l x k 0=_ from this]
 have key:∀(l:List Int) (j:Nat),bi (fun(_:Unit) _ y=>if y=x then Except.error true else .ok ()) j l ()=if x∈l then .error true else .ok ():=by
  intro l
  induction l with
  |nil=>intro j;simp [bi]
  |cons y l ih=>
   intro j;rw [bi];by_cases c:y=x
   ·rw [if_pos c,if_pos (by simp [c])]
   ·rw [if_neg c];show bi _ (j+1) l ()=_;rw [ih];have:x∈y::l↔x∈l:=by simp [List.mem_cons,Ne.symm c]
    simp only [this]
 rw [key];by_cases c:x∈l
 ·rw [if_pos c,nu,decide_eq_true c]
 ·rw [if_neg c,og,decide_eq_false c]
theorem xF{x:Int}(h0:0≤x)(h:x < (t.2.1.length:Int)):∃y,a8 t.2.1 x=some y∧y∈t.2.1∧kl t x=y.1:=by
 have hx:x.toNat < t.2.1.length:=by omega
 refine⟨t.2.1[x.toNat],lM h0 hx,List.getElem_mem hx,?_⟩;rw [kl,List.getElem?_eq_getElem hx]
theorem pI(g:pw t){x:Int}:0≤kl t x∧kl t x≤3:=by
 unfold kl;cases h:t.2.1[x.toNat]? with
 |none=>simp
 |some y=>have:=g.sizes y (List.mem_of_getElem? h);simp only;omega
theorem va(g:pw t):∀{l:List Int},0≤hQ t l∧hQ t l≤3 * (l.length:Int)
 |[]=>by simp [hQ]
 |x::l=>by have:=pI g (x:=x);have:=va g (l:=l);simp only [hQ,List.length_cons];omega
theorem BV{l l':List Int}:hQ t (l++l')=hQ t l+hQ t l':=by
 induction l with
 |nil=>simp [hQ]
 |cons x l ih=>simp only [List.cons_append,hQ,ih];omega
theorem Hu(g:pw t)(hk1:k≤1000000){l:List Int}(hl:l.length < k)(hx:∀x∈l,0≤x∧x < (t.2.1.length:Int)):mg k t l=some (hQ t l):=by
 unfold mg
 have:=nY (f:=fZ k t l) l (fun(s:Int) j=>(s,j)) (fun s _ x=>s+kl t x) (fun j s=>s=hQ t (l.take j)) (fun s=>some s)
  (fun n s j h hp=>by
   have hm:=hx _ (List.getElem_mem h);obtain⟨y,h1,h2,h3⟩:=xF hm.1 hm.2;have hs:=va g (l:=l.take j);have ho:=pI g (x:=l[j]);rw [List.length_take] at hs;refine⟨?_,?_⟩
   ·rw [fZ,if_pos (Int.ofNat_lt.2 h)];dsimp only;rw [cr h,bs,h1,bs,←h3,bF (by omega) (by omega),bs,bF (by omega) (by omega),bs]
   ·rw [List.take_add_one,List.getElem?_eq_getElem h,hp,Option.toList_some,BV];simp [hQ])
  (fun n s _=>by rw [fZ,if_neg (by omega)]) (s0:=0) (n:=k) hl (by simp [hQ])
 obtain⟨h1,h2⟩:=this;rw [show fZ k t l k (0,0)=_ from h1,bs,h2,List.take_length]
def rm(e:Int):Value:=.iface 118 (.agg #[.int .i64 e])
def QA(e:Int):Value:=if e=0 then .nilIface else rm e
theorem EB{e:Int}(h:¬e=0):QA e=rm e:=if_neg h
theorem HC(g:pw t)(hk1:k≤1000000){l m:List Int}(hl:l.length < k)(hm:vS t.2.1.length m):
 d5 k t l k (jO m,0)=match bi (fun m _ x=>jq t.2.1.length m x) 0 l m with | .error e=>some (.error (rm e)) | .ok m'=>some (.ok (jO m')):=
 mH (f:=d5 k t l) l (fun m j=>(jO m,j)) (fun m _ x=>jq t.2.1.length m x) (fun _ m=>vS t.2.1.length m) (fun r=>match r with | .error e=>some (.error (rm e)) | .ok m'=>some (.ok (jO m')))
  (fun n m j h hm=>⟨by
   have h5:=g.things
   rw [d5,if_pos (Int.ofNat_lt.2 h)]
   dsimp only
   rw [cr h,bs,bF (by omega) (by omega),bs,kz,bs]
   unfold jq
   by_cases c:0≤l[j]∧l[j]≤(t.2.1.length:Int) - 1
   ·
    rw [decide_eq_true c,nT,if_neg (not_not_intro c)]
    obtain⟨i,hi⟩:=Int.eq_ofNat_of_zero_le c.1
    have h8:∀x∈m,0≤x∧x < 8:=fun x hx=>by have:=hm.rng x hx;omega
    obtain⟨a,b⟩:=yx h8
    rw [hi,Ak a (by omega),bs]
    have hb:=b i
    by_cases c1:(i:Int)∈m
    ·
     rw [decide_eq_true (hb.2 c1),iT,if_pos c1];rfl
    ·
     rw [decide_eq_false (fun h=>c1 (hb.1 h)),iF,if_neg c1]
     unfold d6
     rw [dI (by omega),bs,bs,bF (by omega) (by omega),bs]
     show _=d5 k t l n (jO (m++[(i:Int)]),(j:Int)+1)
     rw [Af]
   ·
    rw [decide_eq_false c,nF,if_pos (show¬(0≤l[j]∧l[j]≤(t.2.1.length:Int) - 1) from c)];rfl,fun m' e=>(hm.put e).2.1⟩)
  (fun n m _=>by rw [d5,if_neg (by omega)]) (s0:=m) (n:=k) hl hm
theorem zw(g:pw t)(hk1:k≤1000000){p:List (List Int)}(hp:p.length=t.2.2.length)(hpk:p.length < k)(hl:∀l∈p,l.length < k):
 fh k t p k (0,0)=match bi (f9 t) 0 p [] with | .error e=>some (.error (rm e)) | .ok m'=>some (.ok (jO m')):=
 mH (f:=fh k t p) p (fun m j=>(jO m,j)) (f9 t) (fun _ m=>vS t.2.1.length m) (fun r=>match r with | .error e=>some (.error (rm e)) | .ok m'=>some (.ok (jO m')))
  (fun n m j h hm=>by
   refine⟨?_,fun m' e=>?_⟩
   ·
    rw [fh,if_pos (Int.ofNat_lt.2 h)]
    dsimp only
    rw [cr h,bs,HC g hk1 (hl _ (List.getElem_mem h)) hm]
    unfold f9
    cases e:bi (fun m _ x=>jq t.2.1.length m x) 0 p[j] m with
    |error e'=>dsimp only;rw [nu,nu]
    |ok m'=>
     obtain⟨_,_,h3⟩:=hm.puts e
     have hj:j < t.2.2.length:=by omega
     dsimp only
     rw [og,Hu g hk1 (hl _ (List.getElem_mem h)) h3,bs,cr hj,bs]
     have e2:t.2.2[j]?.getD 0=t.2.2[j]:=by rw [List.getElem?_eq_getElem hj];rfl
     rw [e2]
     by_cases c:t.2.2[j] < hQ t p[j]
     ·
      rw [if_pos c,if_pos c,nu];rfl
     ·
      rw [if_neg c,if_neg c,og,bF (by omega) (by omega),bs]
   ·
    unfold f9 at e
    cases e1:bi (fun m _ x=>jq t.2.1.length m x) 0 p[j] m with
    |error e'=>rw [e1] at e;cases e
    |ok m1=>
     rw [e1] at e
     dsimp only at e
     split at e
     ·
      cases e
     ·
      cases e;exact(hm.puts e1).2.1)
  (fun n m _=>by rw [fh,if_neg (by omega)]) (s0:=[]) (n:=k) hpk ⟨by simp,by simp⟩
theorem A1{p:List (List Int)}{m':List Int}:∀{j:Nat} {m:List Int},vS t.2.1.length m→bi (f9 t) j p m= .ok m'→m'=m++p.flatten∧vS t.2.1.length m'∧∀i (h:i < p.length),(∀x∈p[i],0≤x∧x < (t.2.1.length:Int))∧hQ t p[i]≤t.2.2[j+i]?.getD 0:=by
 induction p with
 |nil=>intro j m hm e;simp only [bi] at e;cases e;exact⟨by simp,hm,fun i h=>by simp at h⟩
 |cons l p ih=>
  intro j m hm e;rw [bi] at e;cases e1:f9 t m j l with
  |error e'=>rw [e1] at e;cases e
  |ok m1=>
   rw [e1] at e;unfold f9 at e1;cases e2:bi (fun m _ x=>jq t.2.1.length m x) 0 l m with
   |error e'=>rw [e2] at e1;cases e1
   |ok m2=>
    rw [e2] at e1;dsimp only at e1;split at e1
    ·cases e1
    ·rename_i hs;cases e1;obtain⟨rfl,h3,h4⟩:=hm.puts e2;obtain⟨h5,h6,h7⟩:=ih h3 e;refine⟨by rw [h5];simp,h6,fun i hi=>?_⟩;cases i with
     |zero=>exact⟨h4,by simp only [List.getElem_cons_zero,Nat.add_zero];omega⟩
     |succ i=>
      have:=h7 i (by simpa using hi);have e3:j+1+i=j+(i+1):=by omega
      rw [e3] at this;exact this
theorem BK(g:pw t)(hk1:k≤1000000){p:List (List Int)}(hpk:3 < k)(hl:∀l∈p,l.length < k):
 kA k t p=some (QA (Db t p)):=by
 unfold kA Db
 by_cases c1:p.length < t.2.2.length
 ·
  rw [if_pos (show(p.length:Int) < (t.2.2.length:Int) by omega),if_pos c1];rfl
 ·
  rw [if_neg (show¬(p.length:Int) < (t.2.2.length:Int) by omega),if_neg c1];by_cases c2:t.2.2.length < p.length
  ·rw [if_pos (show(t.2.2.length:Int) < (p.length:Int) by omega),if_pos c2];rfl
  ·rw [if_neg (show¬(t.2.2.length:Int) < (p.length:Int) by omega),if_neg c2,zw g hk1 (by omega) (by have:=g.trunks;omega) hl]
   have hne:bi (f9 t) 0 p []≠.error 0:=jR (fun m j l=>by
    unfold f9;have:=jR (g:=fun m _ x=>jq t.2.1.length m x) (fun m _ x=>by unfold jq;split;(· simp);(· split <;> simp)) l 0 m;cases e:bi (fun m _ x=>jq t.2.1.length m x) 0 l m with
    |error e'=>intro h;rw [e] at this;exact this h
    |ok m'=>dsimp only;split <;> simp) _ _ _
   cases e:bi (f9 t) 0 p [] with
   |error e'=>
    rw [e] at hne;have h0:¬e'=0:=fun h=>hne (by rw [h]);dsimp only;rw [nu,EB h0]
   |ok m=>
    obtain⟨_,h3,_⟩:=A1 (t:=t) ⟨by simp,by simp⟩ e;dsimp only;rw [og,dI (by omega),bs];have:=FR g.things h3;by_cases c3:m.length < t.2.1.length
    ·rw [if_pos (show¬jO m=_ from fun h=>this.1 h c3),if_pos c3];rfl
    ·rw [if_neg (show¬¬jO m=_ from fun h=>h (this.2 c3)),if_neg c3];rfl
theorem uj(h:j7 k t)(hpk:3 < k){p:List (List Int)}(hl:∀l∈p,l.length < k):cg k t p=some (pu t p):=by
 unfold cg pu;rw [Dc h,bs];by_cases c:lX t=0
 ·have g:=wH c;rw [if_neg (not_not_intro c),if_neg (not_not_intro c),BK g h.k1 hpk hl,bs];by_cases c1:Db t p=0
  ·rw [c1];rfl
  ·rw [EB c1];rfl
 ·rw [if_pos c,if_pos c]
end
section
variable {k:Nat}{t:cY}
theorem Ai{x:Int}(h:t.2.1.length≤1000000):jL k t x=some (decide (0≤x∧x≤(t.2.1.length:Int) - 1)):=by
 unfold jL;rw [bF (by omega) (by omega),bs,mE,bs]
def xQ(t:cY)(s:List Int×Int)(x:Int):Except Int (List Int×Int):=match jq t.2.1.length s.1 x with
 | .error e=>.error e
 | .ok m=>.ok (m,s.2+kl t x)
theorem xP:∀(l:List Int) (j:Nat) (m:List Int) (s:Int),bi (fun s _ x=>xQ t s x) j l (m,s)=match bi (fun m _ x=>jq t.2.1.length m x) j l m with | .error e=>.error e | .ok m'=>.ok (m',s+hQ t l)
 |[],j,m,s=>by simp [bi,hQ]
 |x::l,j,m,s=>by
  rw [bi,bi]
  have e:xQ t (m,s) x=match jq t.2.1.length m x with | .error e=>.error e | .ok m'=>.ok (m',s+kl t x):=rfl
  rw [e]
  cases jq t.2.1.length m x with
  |error e'=>rfl
  |ok m1=>
   dsimp only
   rw [xP l (j+1) m1 _]
   cases bi (fun m _ x=>jq t.2.1.length m x) (j+1) l m1 with
   |error e'=>rfl
   |ok m2=>simp only [hQ,Int.add_assoc]
theorem HD(g:pw t)(hk:50≤k)(hk1:k≤1000000){p:List (List Int)}{i:Nat}(hi:i < p.length)(hl:p[i].length < k){m:List Int}(hm:vS t.2.1.length m):
 bU k t p (m,(i:Int)) k (m,0,0)=match bi (fun m _ x=>jq t.2.1.length m x) 0 p[i] m with | .error e=>some (.error e) | .ok m'=>some (.ok (m',hQ t p[i])):=by
 have key:=mH (f:=bU k t p (m,(i:Int))) p[i] (fun(s:List Int×Int) j=>(s.1,s.2,j)) (fun s _ x=>xQ t s x)
  (fun j s=>vS t.2.1.length s.1∧0≤s.2∧s.2≤3 * (j:Int)) (fun r=>match r with | .error e=>some (.error e) | .ok s=>some (.ok s))
  (fun n s j h hs=>by
   obtain⟨hm',hs0,hs1⟩:=hs;have hlen:=hm'.len;have h5:=g.things;have ho:=pI g (x:=p[i][j]);refine⟨?_,fun s' e=>?_⟩
   ·rw [bU];dsimp only;rw [cr hi,bs,if_pos (Int.ofNat_lt.2 h),bs,cr h,bs,Ai (by omega),bs];unfold xQ jq;by_cases c:0≤p[i][j]∧p[i][j]≤(t.2.1.length:Int) - 1
    ·rw [decide_eq_true c,nT,if_neg (not_not_intro c),bs,cr h,bs,Kx (by omega) hk1,bs];by_cases c1:p[i][j]∈s.1
     ·rw [decide_eq_true c1,iT,if_pos c1]
     ·obtain⟨y,h1,h2,h3⟩:=xF (t:=t) (x:=p[i][j]) c.1 (by omega);rw [decide_eq_false c1,iF,if_neg c1,bs,cr h,bs,dI (O1 (by simp only [List.length_cons,List.length_nil];omega)),bs,bs,cr h,bs,h1,bs,←h3,bF (by omega) (by omega),bs,bF (by omega) (by omega),bs]
    ·rw [decide_eq_false c,nF,if_pos (show¬(0≤p[i][j]∧p[i][j]≤(t.2.1.length:Int) - 1) from c)]
   ·unfold xQ at e;cases e1:jq t.2.1.length s.1 p[i][j] with
    |error e'=>rw [e1] at e;cases e
    |ok m1=>
     rw [e1] at e;cases e;exact⟨(hm'.put e1).2.1,by simp only;omega,by simp only;omega⟩)
  (fun n s _=>by
   rw [bU];dsimp only;rw [cr hi,bs,if_neg (by omega)]) (s0:=(m,0)) (n:=k) hl ⟨hm,by simp,by simp⟩
 rw [show bU k t p (m,(i:Int)) k (m,0,0)=_ from key,xP]
 cases bi (fun m _ x=>jq t.2.1.length m x) 0 p[i] m with
 |error e=>rfl
 |ok m'=>simp only [Int.zero_add]
theorem zx(g:pw t)(hk:50≤k)(hk1:k≤1000000){p:List (List Int)}(hp:p.length=t.2.2.length)(hl:∀l∈p,l.length < k):
 co k t p k ([],0)=some (bi (f9 t) 0 p []):=
 mH (f:=co k t p) p (fun m j=>(m,j)) (f9 t) (fun _ m=>vS t.2.1.length m) (fun r=>some r)
  (fun n m j h hm=>by
   have h3:=g.trunks
   refine⟨?_,fun m' e=>?_⟩
   ·
    rw [co,if_pos (Int.ofNat_lt.2 h)]
    dsimp only
    rw [HD g hk hk1 h (hl _ (List.getElem_mem h)) hm]
    unfold f9
    cases e:bi (fun m _ x=>jq t.2.1.length m x) 0 p[j] m with
    |error e'=>dsimp only;rw [nu,nu]
    |ok m'=>
     have hj:j < t.2.2.length:=by omega
     dsimp only
     rw [og]
     dsimp only
     rw [cr hj,bs]
     have e2:t.2.2[j]?.getD 0=t.2.2[j]:=by rw [List.getElem?_eq_getElem hj];rfl
     rw [e2]
     by_cases c:t.2.2[j] < hQ t p[j]
     ·
      rw [if_pos c,if_pos c,nu]
     ·
      rw [if_neg c,if_neg c,og,bF (by omega) (by omega),bs]
   ·
    unfold f9 at e
    cases e1:bi (fun m _ x=>jq t.2.1.length m x) 0 p[j] m with
    |error e'=>rw [e1] at e;cases e
    |ok m1=>
     rw [e1] at e
     dsimp only at e
     split at e
     ·
      cases e
     ·
      cases e;exact(hm.puts e1).2.1)
  (fun n m _=>by rw [co,if_neg (by omega)]) (s0:=[]) (n:=k) (by have:=g.trunks;omega) ⟨by simp,by simp⟩
theorem AB(h:j7 k t)(hk:50≤k){p:List (List Int)}(hl:∀l∈p,l.length < k):fN k t p=some (pu t p):=by
 unfold fN pu;rw [Df h,bs];by_cases c:lX t=0
 ·have g:=wH c;rw [if_neg (not_not_intro c),if_neg (not_not_intro c)];unfold Db;by_cases c1:p.length < t.2.2.length
  ·rw [if_pos (show(p.length:Int) < (t.2.2.length:Int) by omega),if_pos c1]
  ·rw [if_neg (show¬(p.length:Int) < (t.2.2.length:Int) by omega),if_neg c1];by_cases c2:t.2.2.length < p.length
   ·rw [if_pos (show(t.2.2.length:Int) < (p.length:Int) by omega),if_pos c2]
   ·rw [if_neg (show¬(t.2.2.length:Int) < (p.length:Int) by omega),if_neg c2,zx g hk h.k1 (by omega) hl];cases bi (f9 t) 0 p [] with
    |error e=>rw [nu]
    |ok m=>
     rw [og];by_cases c3:m.length < t.2.1.length
     ·rw [if_pos (show(m.length:Int) < (t.2.1.length:Int) by omega)];simp only [c3,if_true]
     ·rw [if_neg (show¬(m.length:Int) < (t.2.1.length:Int) by omega)];simp only [c3,if_false]
 ·rw [if_pos c,if_pos c]
structure G3(t:cY)(p:List (List Int)):Prop where
 g:pw t
 len:p.length=t.2.2.length
 nd:p.flatten.Nodup
 rng:∀x∈p.flatten,0≤x∧x < (t.2.1.length:Int)
 all:∀i:Nat,i < t.2.1.length→(i:Int)∈p.flatten
 room:∀i (h:i < p.length),hQ t p[i]≤t.2.2[i]?.getD 0
theorem yH{p:List (List Int)}(h:pu t p=0):G3 t p:=by
 unfold pu at h;by_cases c:lX t=0
 ·rw [if_neg (not_not_intro c)] at h;have g:=wH c;unfold Db at h;by_cases c1:p.length < t.2.2.length
  ·rw [if_pos c1] at h;cases h
  ·rw [if_neg c1] at h;by_cases c2:t.2.2.length < p.length
   ·rw [if_pos c2] at h;cases h
   ·rw [if_neg c2] at h;cases e:bi (f9 t) 0 p [] with
    |error e'=>
     exfalso;rw [e] at h
     have hne:bi (f9 t) 0 p []≠.error 0:=jR (fun m j l=>by
      unfold f9;have:=jR (g:=fun m _ x=>jq t.2.1.length m x) (fun m _ x=>by unfold jq;split;(· simp);(· split <;> simp)) l 0 m;cases e:bi (fun m _ x=>jq t.2.1.length m x) 0 l m with
      |error e'=>intro h;rw [e] at this;exact this h
      |ok m'=>dsimp only;split <;> simp) _ _ _
     rw [e] at hne;exact hne (congrArg _ h)
    |ok m=>
     rw [e] at h;obtain⟨h3,h4,h5⟩:=A1 (t:=t) ⟨by simp,by simp⟩ e;rw [List.nil_append] at h3;subst h3;by_cases c3:p.flatten.length < t.2.1.length
     ·simp only [c3,if_true] at h;cases h
     ·exact⟨g,by omega,h4.nd,h4.rng,h4.full.1 c3,fun i hi=>by have:=(h5 i hi).2;rw [Nat.zero_add] at this;exact this⟩
 ·rw [if_pos c] at h;exact absurd h c
end
theorem Lo.mono{l:bv}{m n:Int}(h:Lo l m)(hn:m≤n):Lo l n:=⟨h.1,Int.le_trans h.2 hn⟩
theorem DD{α:Type}{l:List α}{x:α}{n:Nat}(h:l.length≤n)(hn:n≤1000000):bS (List.length l+List.length [x]):=by
 show List.length l+List.length [x]≤4294967296;simp only [List.length_cons,List.length_nil];omega
structure Dq(t:cY)(things trunks:Int):Prop where
 days:1≤t.1∧t.1≤4
 things:(t.2.1.length:Int)≤things
 item:∀x∈t.2.1,1≤x.1∧x.1≤3∧x.2.length≤4∧(∀d∈x.2,0≤d∧d < t.1)∧x.2.Pairwise (· < ·)
 trunks:1≤t.2.2.length∧(t.2.2.length:Int)≤trunks
 rooms:∀n∈t.2.2,0≤n∧n≤9
theorem wF{a b:Int}(ha:0≤a)(hb:0≤b):0≤pg a b∧pg a b≤a:=by
 unfold pg;split <;> omega
section
variable {k:Nat}
theorem Hg(hk:50≤k){r2:Int×bv}(hd:1≤r2.1∧r2.1≤4){l:bv}{m:Int}(hl:Lo l m)(hm:0≤m∧m≤1000):
 W (eH k r2 k (l.1,l.2.1,l.2.2,[],0)) fun r=>Lo (r.1,r.2.1,r.2.2.1) (m+4)∧r.2.2.2.length≤4∧(∀d∈r.2.2.2,0≤d∧d < r2.1)∧r.2.2.2.Pairwise (· < ·):=by
 refine W.loop (f:=eH k r2) (fun q y=>∃j:Nat,y.2.2.2.2=(j:Int)∧(j:Int)≤r2.1∧q=r2.1.toNat - j∧Lo (y.1,y.2.1,y.2.2.1) (m+j)∧y.2.2.2.1.length≤j∧(∀d∈y.2.2.2.1,0≤d∧d < (j:Int))∧y.2.2.2.1.Pairwise (· < ·)) ?_ r2.1.toNat k _ (by omega)
  ⟨0,rfl,by omega,by omega,by simpa using hl,by simp,by simp,by simp⟩
 rintro aR q ⟨a,b,c,o,y⟩ ⟨j,hj,hle,hq,hlo,hlen,hr,hpw⟩ ih
 simp only at hj hlo hlen hr hpw
 subst hj
 unfold eH
 dsimp only
 refine W.ite (fun hlt=>?_) (fun hge=>W.ret ⟨hlo.mono (by omega),by show o.length≤4;omega,fun d hd'=>by have:=hr d hd';omega,hpw⟩)
 obtain⟨r,er,hr'⟩:=AV (k:=k) (a:=2) hlo (by omega) (by decide) (by decide)
 rw [er,bs]
 cases hb:r.1 with
 |true=>
  rw [iT,dI (DD hlen (by omega)),bs,bs,bF (by omega) (by omega),bs]
  exact ih (q - 1) _ (by omega) ⟨j+1,by show(j:Int)+1=((j+1:Nat):Int);omega,by omega,by omega,hr'.mono (by omega),by simp only [List.length_append,List.length_cons,List.length_nil];omega,fun d hd'=>by
   rcases List.mem_append.1 hd' with h |h
   ·have:=hr d h;omega
   ·rw [List.mem_singleton] at h;omega,by
   refine List.pairwise_append.2 ⟨hpw,by simp,fun a ha b hb=>?_⟩;rw [List.mem_singleton] at hb;have:=hr a ha;omega⟩
 |false=>
  rw [iF,bs,bF (by omega) (by omega),bs];exact ih (q - 1) _ (by omega) ⟨j+1,by show(j:Int)+1=((j+1:Nat):Int);omega,by omega,by omega,hr'.mono (by omega),by simp only;omega,fun d hd'=>by have:=hr d hd';omega,hpw⟩
theorem BQ(hk:50≤k){r2:Int×bv}(hd:1≤r2.1∧r2.1≤4){l:bv}{m:Int}(hl:Lo l m)(hm:0≤m∧m≤100){n:Nat}(hn:n≤8):
 W (eI k r2 k (l.1,l.2.1,l.2.2,[],0,(n:Int))) fun r=>Lo (r.1,r.2.1,r.2.2.1) (m+50)∧r.2.2.2.1.length=n∧(∀x∈r.2.2.2.1,1≤x.1∧x.1≤3∧x.2.length≤4∧(∀d∈x.2,0≤d∧d < r2.1)∧x.2.Pairwise (· < ·))∧0≤r.2.2.2.2∧r.2.2.2.2≤30:=by
 refine W.loop (f:=eI k r2) (fun q y=>∃j:Nat,y.2.2.2.2.2=(n:Int) - (j:Int)∧j≤n∧q=n - j∧Lo (y.1,y.2.1,y.2.2.1) (m+5 * j)∧y.2.2.2.1.length=j∧(∀x∈y.2.2.2.1,1≤x.1∧x.1≤3∧x.2.length≤4∧(∀d∈x.2,0≤d∧d < r2.1)∧x.2.Pairwise (· < ·))∧0≤y.2.2.2.2.1∧y.2.2.2.2.1≤3 * j) ?_ n k _ (by omega)
  ⟨0,by simp,by omega,by omega,by simpa using hl,rfl,by simp,by simp,by simp⟩
 rintro aR q ⟨a,b,c,o,s,y⟩ ⟨j,hj,hle,hq,hlo,hlen,hx,hs0,hs1⟩ ih
 simp only at hj hlo hlen hx hs0 hs1
 subst hj
 unfold eI
 dsimp only
 refine W.ite (fun hlt=>?_) (fun hge=>W.ret ⟨hlo.mono (by omega),by show o.length=n;omega,hx,hs0,by show s≤30;omega⟩)
 obtain⟨r,er,hm1,hr⟩:=Jk (k:=k) (some_:=[1,1,1,2,3]) hlo (by omega) (by decide) (by decide)
 have hr3:1≤r.1∧r.1≤3:=by simp only [List.mem_cons,List.not_mem_nil,or_false] at hm1;omega
 rw [er,bs]
 obtain⟨w,ew,hw1,hw2,hw3,hw4⟩:=Hg hk hd (l:=r.2) hr (by omega)
 rw [show eH k r2 k (r.2.1,r.2.2.1,r.2.2.2,[],0)=some w from ew,bs,dI (DD (n:=8) (by omega) (by omega)),bs,bF (by omega) (by omega),bs,bs,bF (by omega) (by omega),bs]
 refine ih (q - 1) _ (by omega) ⟨j+1,by show(n:Int) - (j:Int) - 1=(n:Int) - ((j+1:Nat):Int);omega,by omega,by omega,hw1.mono (by omega),by simp only [List.length_append,List.length_cons,List.length_nil];omega,fun x hx'=>?_,by show 0≤s+r.1;omega,by show s+r.1≤3 * ((j+1:Nat):Int);omega⟩
 rcases List.mem_append.1 hx' with h |h
 ·
  exact hx x h
 ·
  rw [List.mem_singleton] at h;subst h;exact⟨hr3.1,hr3.2,hw2,hw3,hw4⟩
theorem BP(hk:50≤k){x4:(List Int)×Int×Int×(List ll)×Int}(hs:0≤x4.2.2.2.2∧x4.2.2.2.2≤30){l:bv}{m:Int}(hl:Lo l m)(hm:0≤m∧m≤200){n:Nat}(hn:n≤8):
 W (eG k x4 k (l.1,l.2.1,l.2.2,[],(n:Int))) fun r=>Lo (r.1,r.2.1,r.2.2.1) (m+10)∧r.2.2.2.length=n∧(∀x∈r.2.2.2,0≤x∧x≤9):=by
 refine W.loop (f:=eG k x4) (fun q y=>∃j:Nat,y.2.2.2.2=(n:Int) - (j:Int)∧j≤n∧q=n - j∧Lo (y.1,y.2.1,y.2.2.1) (m+j)∧y.2.2.2.1.length=j∧(∀x∈y.2.2.2.1,0≤x∧x≤9)) ?_ n k _ (by omega)
  ⟨0,by simp,by omega,by omega,by simpa using hl,rfl,by simp⟩
 rintro aR q ⟨a,b,c,o,y⟩ ⟨j,hj,hle,hq,hlo,hlen,hx⟩ ih
 simp only at hj hlo hlen hx
 subst hj
 unfold eG
 dsimp only
 refine W.ite (fun hlt=>?_) (fun hge=>W.ret ⟨hlo.mono (by omega),by show o.length=n;omega,hx⟩)
 rw [bF (by omega) (by omega),bs]
 obtain⟨r,er,hm1,hr⟩:=Jk (k:=k) (some_:=[1,2,3,pg 9 x4.2.2.2.2,pg 9 (x4.2.2.2.2+1)]) hlo (by omega) (by simp) (by simp)
 have i1:=wF (a:=9) (b:=x4.2.2.2.2) (by decide) hs.1
 have i2:=wF (a:=9) (b:=x4.2.2.2.2+1) (by decide) (by omega)
 have hr3:0≤r.1∧r.1≤9:=by simp only [List.mem_cons,List.not_mem_nil,or_false] at hm1;omega
 rw [er,bs,dI (DD (n:=8) (by omega) (by omega)),bs,bF (by omega) (by omega),bs]
 refine ih (q - 1) _ (by omega) ⟨j+1,by show(n:Int) - (j:Int) - 1=(n:Int) - ((j+1:Nat):Int);omega,by omega,by omega,hr.mono (by omega),by simp only [List.length_append,List.length_cons,List.length_nil];omega,fun x hx'=>?_⟩
 rcases List.mem_append.1 hx' with h |h
 ·
  exact hx x h
 ·
  rw [List.mem_singleton] at h;subst h;exact hr3
theorem Hq(hk:50≤k){l:bv}{m:Int}(hl:Lo l m)(hm:0≤m∧m≤50){a b:Nat}(ha:a≤8)(hb:1≤b∧b≤8):
 W (jy k l (a:Int) (b:Int)) fun r=>Dq r.1 a b∧Lo r.2 (m+100):=by
 unfold jy
 obtain⟨r,er,h1,h2,h3⟩:=FH (k:=k) (a:=1) (b:=4) hl (by omega) (by decide) (by decide) (by decide)
 rw [show eJ k (l.1,l.2.1,l.2.2) 1 4=some r from er,bs]
 obtain⟨r6,e6,h61,h62,h63⟩:=FH (k:=k) (a:=0) (b:=(a:Int)) h3 (by omega) (by decide) (by omega) (by omega)
 rw [show eJ k (r.2.1,r.2.2.1,r.2.2.2) 0 (a:Int)=some r6 from e6,bs]
 obtain⟨n,hn⟩:=Int.eq_ofNat_of_zero_le h61
 obtain⟨x4,e4,hl4,hlen4,hit,hs0,hs1⟩:=BQ hk (r2:=r) ⟨h1,h2⟩ h63 (by omega) (n:=n) (by omega)
 rw [show eI k r k (r6.2.1,r6.2.2.1,r6.2.2.2,[],0,r6.1)=some x4 by rw [hn];exact e4,bs]
 obtain⟨r31,e31,h311,h312,h313⟩:=FH (k:=k) (a:=1) (b:=(b:Int)) hl4 (by omega) (by decide) (by omega) (by omega)
 rw [show eJ k (x4.1,x4.2.1,x4.2.2.1) 1 (b:Int)=some r31 from e31,bs]
 obtain⟨n3,hn3⟩:=Int.eq_ofNat_of_zero_le (show 0≤r31.1 by omega)
 obtain⟨x29,e29,hl29,hlen29,hroom⟩:=BP hk (x4:=x4) ⟨hs0,hs1⟩ h313 (by omega) (n:=n3) (by omega)
 rw [show eG k x4 k (r31.2.1,r31.2.2.1,r31.2.2.2,[],r31.1)=some x29 by rw [hn3];exact e29,bs]
 obtain⟨r42,e42,h42⟩:=AV (k:=k) (a:=2) hl29 (by omega) (by decide) (by decide)
 rw [show fC k (x29.1,x29.2.1,x29.2.2.1) 2=some r42 from e42,bs]
 cases hb:r42.1 with
 |true=>
  have i1:=wF (a:=9) (b:=x4.2.2.2.2) (by decide) hs0;rw [iT,show a8 x29.2.2.2 0=some (x29.2.2.2[0]'(by omega)) from cr (i:=0) (by omega),bs,bs];refine W.ret ⟨⟨⟨h1,h2⟩,by show(x4.2.2.2.1.length:Int)≤_;omega,hit,by simp only [List.length_set];omega,fun y hy=>?_⟩,h42.mono (by omega)⟩;rcases List.mem_or_eq_of_mem_set hy with h |h
  ·exact hroom y h
  ·omega
 |false=>
  rw [iF,bs];exact W.ret ⟨⟨⟨h1,h2⟩,by show(x4.2.2.2.1.length:Int)≤_;omega,hit,by simp only;omega,hroom⟩,h42.mono (by omega)⟩
theorem oP{α:Type}{g:Nat→α→Except Int Unit}:∀(l:List α) (i:Nat),(∀(j:Nat) (h:j < l.length),g (i+j) l[j]= .ok ())→bi (fun(_:Unit) j x=>g j x) i l ()= .ok ()
 |[],_,_=>rfl
 |x::l,i,h=>by
  have h0:g i x= .ok ():=h 0 (by simp)
  rw [bi,h0]
  exact oP l (i+1) fun j hj=>by
   have:=h (j+1) (by simp;omega)
   rw [show i+1+j=i+(j+1) by omega]
   exact this
theorem Dq.chk{t:cY}{a b:Int}(h:Dq t a b)(ha:a≤5)(hb:b≤3):lX t=0:=by
 have h1:=h.days;have h2:=h.things;have h3:=h.trunks;unfold lX
 rw [if_neg (not_not_intro (show 1≤t.1∧t.1≤6 by omega)),if_neg (show¬5 < t.2.1.length by omega),oP (g:=fun _ x=>jk t.1 x) t.2.1 0 (fun j hj=>by
  obtain⟨a1,a2,_,a4,a5⟩:=h.item _ (List.getElem_mem hj);show jk t.1 t.2.1[j]= .ok ();unfold jk;rw [if_neg (not_not_intro ⟨a1,a2⟩)];refine oP (g:=fun i y=>sU t.1 t.2.1[j].2 i y) _ 0 (fun i hi=>?_);have hd:=a4 _ (List.getElem_mem hi);rw [Nat.zero_add];unfold sU;rw [if_neg (not_not_intro (show 0≤t.2.1[j].2[i]∧t.2.1[j].2[i]≤t.1 - 1 by omega)),if_neg];rintro⟨h0,hle⟩;have:=List.pairwise_iff_getElem.1 a5 (i - 1) i (by omega) hi (by omega);rw [List.getElem?_eq_getElem (show i - 1 < t.2.1[j].2.length by omega),Option.getD_some] at hle;omega)]
 simp only [show¬t.2.2.length < 1 by omega,show¬3 < t.2.2.length by omega,if_false]
 rw [oP (g:=fun _ n=>j9 n) t.2.2 0 (fun j hj=>by
  have:=h.rooms _ (List.getElem_mem hj);show j9 t.2.2[j]= .ok ();unfold j9;rw [if_pos this])]
 rfl
end
section
variable {k:Nat}
theorem Fe(hk:50≤k){l:bv}{m:Int}{n:Nat}(hl:Lo l m)(hm:0≤m∧m≤1000)(hn:n≤8):W (fS k l (n:Int)) fun r=>Lo r.2 (m+10)∧r.1.length=n∧∀x∈r.1,0≤x∧x < (n:Int):=by
 unfold fS;refine W.bind (R:=fun r=>Lo (r.2.1,r.2.2.1,r.2.2.2) (m+10)∧r.1.length=n∧∀x∈r.1,0≤x∧x < (n:Int)) ?_ fun r h=>W.ret h
 refine W.loop (f:=dO k (n:Int)) (fun q y=>∃j:Nat,y.2.2.2.2=(j:Int)∧j≤n∧q=n - j∧Lo (y.1,y.2.1,y.2.2.1) (m+j)∧y.2.2.2.1.length=j∧∀x∈y.2.2.2.1,0≤x∧x < (n:Int)) ?_ n k _ (by omega)
  ⟨0,rfl,by omega,by omega,by simpa using hl,rfl,by simp⟩
 rintro aR q ⟨nums,d,s,o,y⟩ ⟨j,hj,hle,hq,hlo,hlen,hx⟩ ih;simp only at hj hlo hlen hx;subst hj;unfold dO;dsimp only;refine W.ite (fun hlt=>?_) (fun hge=>W.ret ⟨hlo.mono (by omega),by show o.length=n;omega,hx⟩);obtain⟨r5,e5,a5,b5,c5⟩:=qh (k:=k) (n:=(j:Int)) hlo (by omega) (by omega);have b5:=b5 (by omega);have ho:(o++[(j:Int)]).length=j+1:=by simp [hlen]
 have hr5:r5.1.toNat < (o++[(j:Int)]).length:=by omega
 have hmem:∀x∈o++[(j:Int)],0≤x∧x < (n:Int):=fun x hx'=>by
  rcases List.mem_append.1 hx' with h |h
  ·exact hx x h
  ·simp only [List.mem_singleton] at h;omega
 rw [e5,bs,dI (DD (n:=8) (by omega) (by omega)),bs,lM a5 hr5,bs,cr (by omega),bs];have hgs:a8 (List.set (o++[(j:Int)]) (Int.toNat (j:Int)) (o++[(j:Int)])[r5.1.toNat]) r5.1=some ((List.set (o++[(j:Int)]) (Int.toNat (j:Int)) (o++[(j:Int)])[r5.1.toNat])[r5.1.toNat]'(by rw [List.length_set];exact hr5)):=lM a5 (by rw [List.length_set];exact hr5);rw [hgs,bs,bF (by omega) (by omega),bs];refine ih (q - 1) (_,_,_,_,(j:Int)+1) (by omega) ⟨j+1,by show(j:Int)+1=((j+1:Nat):Int);omega,by omega,by omega,c5.mono (by omega),by simp [hlen],fun x hx'=>?_⟩;rcases List.mem_or_eq_of_mem_set hx' with h |h
 ·rcases List.mem_or_eq_of_mem_set h with h |h
  ·exact hmem x h
  ·subst h;exact hmem _ (List.getElem_mem hr5)
 ·subst h;omega
theorem Hf{a b:Int}(ha:0≤a∧a≤1000000)(hb:0 < b∧b≤1000000):W (nR k a b) fun r=>0≤r∧r < b:=by
 unfold nR;have e1:Int.tmod a b=a % b:=Int.tmod_eq_emod_of_nonneg ha.1;have h1:=Int.emod_nonneg a (show b≠0 by omega);have h2:=Int.emod_lt_of_pos a hb.1;rw [dI (show b≠0 by omega),bs,e1,bF (by omega) (by omega),bs,bs];have e2:Int.tmod (a % b+b) b=(a % b+b) % b:=Int.tmod_eq_emod_of_nonneg (by omega);rw [e2];exact W.ret ⟨Int.emod_nonneg _ (by omega),Int.emod_lt_of_pos _ hb.1⟩
structure Pk(N i:Nat)(room:List Int)(out:List (List Int)):Prop where
 rl:room.length=N
 ol:out.length=N
 rr:∀x∈room, -3 * (i:Int)≤x∧x≤9
 oo:∀l∈out,l.length≤i
theorem Pk.next{N i:Nat}{room:List Int}{out:List (List Int)}(h:Pk N i room out):Pk N (i+1) room out:=
 ⟨h.rl,h.ol,fun x hx=>by have:=h.rr x hx;omega,fun l hl=>by have:=h.oo l hl;omega⟩
theorem Eo(hk:50≤k){t:cY}{a b:Int}(ht:Dq t a b){r7:(List Int)×bv}(h7:∀x∈r7.1,0≤x∧x < (t.2.1.length:Int))
 {y:(List Int)×Int×Int×(List Int)×Int×(List (List Int))} {i N:Nat} (hi:y.2.2.2.2.1=(i:Int)) (hil:i < r7.1.length) (hi8:i≤8) (hN:N≤8) (hp:Pk N i y.2.2.2.1 y.2.2.2.2.2)
 {r15:Int×bv} {m:Int} (h15:0≤r15.1∧r15.1≤100) (hlo:Lo r15.2 m):
 W (cV k t r7 y r15 k (0,y.2.2.2.2.2)) fun r=>Lo (r.1,r.2.1,r.2.2.1) m∧Pk N (i+1) r.2.2.2.1 r.2.2.2.2:=by
 refine W.loop (f:=cV k t r7 y r15) (fun q z=>∃j:Nat,z.1=(j:Int)∧j≤N∧q=N - j∧z.2=y.2.2.2.2.2) ?_ N k _ (by omega) ⟨0,rfl,by omega,by omega,rfl⟩
 rintro aR q ⟨z,o⟩ ⟨j,hj,hle,hq,ho⟩ ih
 simp only at hj ho
 subst hj ho
 have hrl:=hp.rl
 have hol:=hp.ol
 unfold cV
 dsimp only
 refine W.ite (fun hlt=>?_) (fun hge=>W.ret ⟨hlo,hp.next⟩)
 rw [bF (by omega) (by omega),bs]
 obtain⟨r19,e19,h190,h191⟩:=Hf (k:=k) (a:=r15.1+(j:Int)) (b:=(y.2.2.2.1.length:Int)) (by omega) (by omega)
 have hw:r19.toNat < y.2.2.2.1.length:=by omega
 have hx:=h7 _ (List.getElem_mem hil)
 have hx2:(r7.1[i]).toNat < t.2.1.length:=by omega
 have hsz:=ht.item _ (List.getElem_mem hx2)
 have hrr:=hp.rr _ (List.getElem_mem hw)
 rw [e19,bs,lM h190 hw,bs,hi,cr hil,bs,lM hx.1 hx2,bs]
 have put:W ((a8 y.2.2.2.2.2 r19).bind fun x26=>(some r7.1[i]).bind fun x27=>(d4 (bS (List.length x26+List.length [x27]))).bind fun _=>
  (some y.2.2.2.1[r19.toNat]).bind fun x30=>(some r7.1[i]).bind fun x31=>(a8 t.2.1 x31).bind fun x32=>(ck (x30 - x32.1)).bind fun x33=>
  (some y.2.2.2.1[r19.toNat]).bind fun x35=>some (r15.2.1,r15.2.2.1,r15.2.2.2,List.set y.2.2.2.1 (Int.toNat r19) x33,List.set y.2.2.2.2.2 (Int.toNat r19) (x26++[x27])))
  fun r=>Lo (r.1,r.2.1,r.2.2.1) m∧Pk N (i+1) r.2.2.2.1 r.2.2.2.2:=by
  have hw2:r19.toNat < y.2.2.2.2.2.length:=by omega
  have hoo:=hp.oo _ (List.getElem_mem hw2);rw [lM h190 hw2,bs,bs,dI (DD (n:=8) (by omega) (by omega)),bs,bs,bs,lM hx.1 hx2,bs,bF (by omega) (by omega),bs,bs];refine W.ret ⟨hlo,⟨by simp only [List.length_set];exact hrl,by simp only [List.length_set];exact hol,fun x hx=>?_,fun l hl=>?_⟩⟩
  ·rcases List.mem_or_eq_of_mem_set hx with h |h
   ·have:=hp.rr x h;omega
   ·omega
  ·rcases List.mem_or_eq_of_mem_set hl with h |h
   ·have:=hp.oo l h;omega
   ·subst h;simp only [List.length_append,List.length_cons,List.length_nil];omega
 refine W.iteB (fun c=>?_) (fun c=>?_)
 ·
  rw [bs,iT];exact put
 ·
  rw [bF (by omega) (by omega),bs,bs];dsimp only;by_cases c1:(j:Int)=(y.2.2.2.1.length:Int) - 1
  ·rw [decide_eq_true c1,iT];exact put
  ·rw [decide_eq_false c1,iF,bF (by omega) (by omega),bs];exact ih (q - 1) _ (by omega) ⟨j+1,by show(j:Int)+1=((j+1:Nat):Int);omega,by omega,by omega,rfl⟩
theorem zM(hk:50≤k){t:cY}{a b:Nat}(ht:Dq t a b)(ha:a≤8)(hb:b≤8){l:bv}{m:Int}(hl:Lo l m)(hm:0≤m∧m≤500):
 W (gI k l t) fun r=>r.1.length=t.2.2.length∧(∀x∈r.1,x.length≤8)∧Lo r.2 (m+20):=by
 have h1:=ht.things
 have h2:=ht.trunks
 unfold gI
 rw [dI (by exact⟨by omega,O1 (by omega)⟩),bs,dI (O1 (by simp only [List.length_nil];omega)),bs]
 obtain⟨r7,e7,hlo7,hlen7,hr7⟩:=Fe hk hl (by omega) (n:=t.2.1.length) (by omega)
 rw [show fS k (l.1,l.2.1,l.2.2) (t.2.1.length:Int)=some r7 from e7,bs]
 refine W.bind (R:=fun r=>Lo (r.1,r.2.1,r.2.2.1) (m+20)∧r.2.2.2.length=t.2.2.length∧∀x∈r.2.2.2,x.length≤8) ?_ fun r h=>W.ret ⟨h.2.1,h.2.2,h.1⟩
 refine W.loop (f:=eN k t r7) (fun q y=>∃j:Nat,y.2.2.2.2.1=(j:Int)∧j≤r7.1.length∧q=r7.1.length - j∧Lo (y.1,y.2.1,y.2.2.1) (m+10+j)∧Pk t.2.2.length j y.2.2.2.1 y.2.2.2.2.2) ?_ r7.1.length k _ (by omega)
  ⟨0,rfl,by omega,by omega,by simpa using hlo7,⟨by simp,by simp,fun x hx=>by have:=ht.rooms x (by simpa using hx);omega,fun l hl=>by simp at hl;simp [hl.2]⟩⟩
 rintro aR q ⟨nums,d,s,room,y,o⟩ ⟨j,hj,hle,hq,hlo,hp⟩ ih
 simp only at hj hlo hp
 subst hj
 have hrl:=hp.rl
 unfold eN
 dsimp only
 refine W.ite (fun hlt=>?_) (fun hge=>W.ret ⟨hlo.mono (by omega),hp.ol,fun x hx=>by have:=hp.oo x hx;omega⟩)
 rw [bF (by omega) (by omega),bs]
 obtain⟨r15,e15,a15,b15,c15⟩:=qh (k:=k) (n:=(room.length:Int) - 1) hlo (by omega) (by omega)
 have b15:=b15 (by omega)
 rw [e15,bs]
 obtain⟨r,er,h3,h4⟩:=Eo hk ht (r7:=r7) hr7 (y:=(nums,d,s,room,(j:Int),o)) (i:=j) (N:=t.2.2.length) rfl (by omega) (by omega) (by omega) hp (r15:=r15) ⟨a15,by omega⟩ c15
 rw [show cV k t r7 (nums,d,s,room,(j:Int),o) r15 k (0,o)=some r from er,bs,bF (by omega) (by omega),bs]
 exact ih (q - 1) _ (by omega) ⟨j+1,by show(j:Int)+1=((j+1:Nat):Int);omega,by omega,by omega,h3.mono (by omega),h4⟩
structure zi(t:cY)(p:List (List Int))(a:Int):Prop where
 kit:Dq t a 3
 len:p.length=t.2.2.length
 short:∀l∈p,l.length≤8
theorem Ht(hk:50≤k)(hk1:k≤1000000){l:bv}{m:Int}(hl:Lo l m)(hm:0≤m∧m≤10){a:Nat}(ha:a≤8):
 W (mz k l (a:Int)) fun r=>zi r.1 r.2.1 a∧r.2.2.1=decide (pu r.1 r.2.1=0)∧Lo r.2.2.2 (m+200):=by
 unfold mz
 obtain⟨r2,e2,ht,hl2⟩:=Hq hk hl (by omega) (a:=a) (b:=3) ha (by omega)
 rw [show jy k (l.1,l.2.1,l.2.2) (a:Int) 3=some r2 from e2,bs]
 obtain⟨r4,e4,h1,h2,h3⟩:=zM hk ht ha (by omega) hl2 (by omega)
 rw [show gI k (r2.2.1,r2.2.2.1,r2.2.2.2) r2.1=some r4 from e4,bs]
 have hs:j7 k r2.1:=⟨hk1,by have:=ht.things;omega,fun x hx=>by have:=ht.item x hx;omega,by have:=ht.trunks;omega⟩
 rw [AB hs hk (fun l hl=>by have:=h2 l hl;omega),bs]
 exact W.ret ⟨⟨ht,h1,h2⟩,rfl,h3.mono (by omega)⟩
theorem zi.small{t:cY}{p:List (List Int)}{a:Nat}(h:zi t p a)(hk:50≤k)(hk1:k≤1000000)(ha:a≤8):j7 k t:=
 ⟨hk1,by have:=h.kit.things;omega,fun x hx=>by have:=h.kit.item x hx;omega,by have:=h.kit.trunks;omega⟩
theorem zi.checkP{t:cY}{p:List (List Int)}{a:Nat}(h:zi t p a)(hk:50≤k)(hk1:k≤1000000)(ha:a≤8):cg k t p=some (pu t p):=
 uj (h.small hk hk1 ha) (by omega) fun l hl=>by have:=h.short l hl;omega
end
def uS(l:List Int)(x:Int):Int:=match l.findIdx? (fun y=>decide (y=x)) with
 |some i=>(i:Int)
 |none=> -1
theorem wG{l:List Int}{x:Int}:0≤uS l x↔x∈l:=by
 unfold uS;cases h:l.findIdx? (fun y=>decide (y=x)) with
 |none=>
  rw [List.findIdx?_eq_none_iff] at h;constructor
  ·intro h0;simp only at h0;omega
  ·intro hx;have:=h x hx;simp at this
 |some i=>
  rw [List.findIdx?_eq_some_iff_getElem] at h;obtain⟨hi,h1,_⟩:=h;have:l[i]=x:=by simpa using h1
  exact⟨fun _=>this▸List.getElem_mem hi,fun _=>by simp only;omega⟩
theorem FI{l:List Int}{x:Int}(h:x∈l):∃p s,l=p++x::s∧uS l x=(p.length:Int)∧x∉p:=by
 unfold uS;cases h1:l.findIdx? (fun y=>decide (y=x)) with
 |none=>
  rw [List.findIdx?_eq_none_iff] at h1;have:=h1 x h;simp at this
 |some i=>
  rw [List.findIdx?_eq_some_iff_getElem] at h1;obtain⟨hi,h2,h3⟩:=h1;have e:l[i]=x:=by simpa using h2
  refine⟨l.take i,l.drop (i+1),?_,by simp only [List.length_take];omega,fun hx=>?_⟩
  ·rw [←e,←List.drop_eq_getElem_cons hi,List.take_append_drop]
  ·obtain⟨j,hj,ej⟩:=List.getElem_of_mem hx;simp only [List.length_take] at hj;have:=h3 j (by omega);rw [List.getElem_take] at ej;simp [ej] at this
section
variable {k:Nat}
theorem yN{l:List Int}{x:Int}:K.bE (some (bi (fun(_:Unit) j y=>if decide (y=x) then Except.error (j:Int) else .ok ()) 0 l ())) some (fun _=>some (-1))=some (uS l x):=by
 rw [ud];unfold uS;cases l.findIdx? (fun y=>decide (y=x)) with
 |none=>exact og
 |some i=>exact nu
theorem JF{l:List Int}{x:Int}(hk:l.length < k)(hk1:k≤1000000):rY k l x=some (uS l x):=by
 unfold rY
 have:=mH (f:=iW k l x) l (fun(_:Unit) j=>j) (fun _ j y=>if decide (y=x) then Except.error (j:Int) else .ok ()) (fun _ _=>True) (fun r=>some r)
  (fun n s j h _=>⟨by
   rw [iW,if_pos (Int.ofNat_lt.2 h),cr h,bs];by_cases c:l[j]=x
   ·rw [if_pos c,decide_eq_true c,iT]
   ·rw [if_neg c,decide_eq_false c,iF,bF (by omega) (by omega),bs],fun _ _=>trivial⟩)
  (fun n s _=>by rw [iW,if_neg (by omega)]) (s0:=()) (n:=k) hk trivial
 rw [show iW k l x k 0=_ from this];exact yN
theorem FG{l:List Int}{x:Int}(hk:l.length < k)(hk1:k≤1000000):iy k l x=some (uS l x):=by
 unfold iy
 have:=mH (f:=cT k l x) l (fun(_:Unit) j=>j) (fun _ j y=>if decide (y=x) then Except.error (j:Int) else .ok ()) (fun _ _=>True) (fun r=>some r)
  (fun n s j h _=>⟨by
   rw [cT,if_pos (Int.ofNat_lt.2 h),cr h,bs];by_cases c:l[j]=x
   ·rw [if_pos c.symm,decide_eq_true c,iT]
   ·rw [if_neg (fun h=>c h.symm),decide_eq_false c,iF,bF (by omega) (by omega),bs],fun _ _=>trivial⟩)
  (fun n s _=>by rw [cT,if_neg (by omega)]) (s0:=()) (n:=k) hk trivial
 rw [show cT k l x k 0=_ from this];exact yN
theorem yT{l:List Int}{x:Int}(hk:l.length < k)(hk1:k≤1000000):fM k l x=some (decide (x∈l)):=by
 unfold fM;rw [FG hk hk1,bs];congr 1;exact decide_eq_decide.2 wG
def sO(l:List Int):List Int:=[l[0]?.getD (-1),l[1]?.getD (-1),l[2]?.getD (-1),l[3]?.getD (-1),l[4]?.getD (-1)]
def lJ(p:List (List Int)):List (List Int):=[sO (p[0]?.getD []),sO (p[1]?.getD []),sO (p[2]?.getD [])]
theorem vo{p ld:List (List Int)}{row:List Int}{i j n:Nat}{y:List (List Int)}(hi:i < 3)(hj:j < 5)(hr:ld[i]? =some row)(hl:row.length=5):
 cz k p (y,(i:Int)) (n+1) (ld,(j:Int))=cz k p (y,(i:Int)) n (ld.set i (row.set j ((p[i]?.getD [])[j]?.getD (-1))),((j+1:Nat):Int)):=by
 have hil:i < ld.length:=by
  rcases Nat.lt_or_ge i ld.length with h |h
  ·exact h
  ·rw [List.getElem?_eq_none h] at hr;cases hr
 have hg:a8 ld (i:Int)=some row:=Am (by omega) hr
 rw [cz]
 dsimp only
 rw [if_pos (show(j:Int) < 5 by omega),dI (by omega),bs,hg,bs,dI (by omega),bs]
 have ei:Int.toNat (i:Int)=i:=rfl
 have ej:Int.toNat (j:Int)=j:=rfl
 rw [ei,ej]
 by_cases c:i < p.length
 ·
  have ep:p[i]?.getD []=p[i]:=by rw [List.getElem?_eq_getElem c];rfl
  rw [if_pos (show(i:Int) < (p.length:Int) by omega),cr c,bs,bs,ep];by_cases c1:j < p[i].length
  ·have e2:p[i][j]?.getD (-1)=p[i][j]:=by rw [List.getElem?_eq_getElem c1];rfl
   rw [decide_eq_true (show(j:Int) < (p[i].length:Int) by omega),iT,bs,cr c1,bs,bs]
   have hg2:a8 (ld.set i (row.set j (-1))) (i:Int)=some (row.set j (-1)):=Am (by omega) (by
    show(ld.set i (row.set j (-1)))[i]? =_;rw [List.getElem?_set_self hil])
   rw [hg2,bs,bs,bs,bF (by omega) (by omega),bs,List.set_set,List.set_set,e2];rfl
  ·have e2:p[i][j]?.getD (-1)= -1:=by rw [List.getElem?_eq_none (by omega)];rfl
   rw [decide_eq_false (show¬(j:Int) < (p[i].length:Int) by omega),iF,bs,bF (by omega) (by omega),bs,e2];rfl
 ·
  have ep:p[i]?.getD []=[]:=by rw [List.getElem?_eq_none (by omega)];rfl
  rw [if_neg (show¬(i:Int) < (p.length:Int) by omega),bs,iF,bs,bF (by omega) (by omega),bs,ep];rfl
theorem Fq(hk:50≤k){p ld:List (List Int)}{row:List Int}{i:Nat}{y:List (List Int)}(hi:i < 3)(hr:ld[i]? =some row)(hl:row.length=5):
 cz k p (y,(i:Int)) k (ld,0)=some (ld.set i (sO (p[i]?.getD []))):=by
 obtain⟨n,rfl⟩:∃n,k=n+6:=⟨k - 6,by omega⟩
 have hil:i < ld.length:=by
  rcases Nat.lt_or_ge i ld.length with h |h
  ·exact h
  ·rw [List.getElem?_eq_none h] at hr;cases hr
 match row,hl with
 |[a,b,c,d,e],_=>
  have st:∀(j m:Nat) (row':List Int),j < 5→row'.length=5→cz (n+6) p (y,(i:Int)) (m+1) (ld.set i row',(j:Int))=cz (n+6) p (y,(i:Int)) m (ld.set i (row'.set j ((p[i]?.getD [])[j]?.getD (-1))),((j+1:Nat):Int)):=fun j m row' hj hl'=>by
   rw [vo hi hj (List.getElem?_set_self hil) hl',List.set_set]
  have h0:=vo (k:=n+6) (p:=p) (y:=y) (n:=n+5) (j:=0) hi (by omega) hr rfl;rw [show((0:Nat):Int)=0 from rfl] at h0;rw [h0,st 1 _ _ (by omega) (by simp),st 2 _ _ (by omega) (by simp),st 3 _ _ (by omega) (by simp),st 4 _ _ (by omega) (by simp),cz];dsimp only;rw [if_neg (show¬(((4+1:Nat):Int) < 5) by omega)];rfl
theorem t4(hk:50≤k){p:List (List Int)}:dE k p=some (lJ p):=by
 unfold dE;obtain⟨n,e⟩:∃n,k=n+4:=⟨k - 4,by omega⟩
 have st:∀(i m:Nat) (ld:List (List Int)) (row:List Int),i < 3→ld[i]? =some row→row.length=5→cN k p (m+1) (ld,(i:Int))=cN k p m (ld.set i (sO (p[i]?.getD [])),((i+1:Nat):Int)):=fun i m ld row hi hr hl=>by
  rw [cN];dsimp only;rw [if_pos (show(i:Int) < 3 by omega),Fq hk hi hr hl,bs,bF (by omega) (by omega),bs];rfl
 have h0:=st 0 (n+3) [[0,0,0,0,0],[0,0,0,0,0],[0,0,0,0,0]] _ (by omega) rfl rfl;rw [show((0:Nat):Int)=0 from rfl] at h0;have e2:cN k p k ([[0,0,0,0,0],[0,0,0,0,0],[0,0,0,0,0]],0)=cN k p (n+3+1) ([[0,0,0,0,0],[0,0,0,0,0],[0,0,0,0,0]],0):=by rw [←e]
 rw [e2,h0,st 1 _ _ _ (by omega) rfl rfl,st 2 _ _ _ (by omega) rfl rfl,cN];dsimp only;rw [if_neg (show¬(((2+1:Nat):Int) < 3) by omega),bs];rfl
def LE(l:List Int):Prop:=l.length≤5∧∀x∈l,0≤x
theorem zL{l:List Int}(h:LE l):(sO l).filter (fun x=>decide (0≤x))=l:=by
 obtain⟨h1,h2⟩:=h;match l,h1 with
 |[],_=>rfl
 |[a],_=>have:=h2 a (by simp);simp [sO,this]
 |[a,b],_=>have:=h2 a (by simp);have:=h2 b (by simp);simp [sO, *]
 |[a,b,c],_=>have:=h2 a (by simp);have:=h2 b (by simp);have:=h2 c (by simp);simp [sO, *]
 |[a,b,c,d],_=>have:=h2 a (by simp);have:=h2 b (by simp);have:=h2 c (by simp);have:=h2 d (by simp);simp [sO, *]
 |[a,b,c,d,e],_=>have:=h2 a (by simp);have:=h2 b (by simp);have:=h2 c (by simp);have:=h2 d (by simp);have:=h2 e (by simp);simp [sO, *]
theorem Fv(hk:50≤k){row:List Int}(hr:row.length=5):cG k row k ([],0)=some (row.filter fun x=>decide (0≤x)):=by
 have:=nY (f:=cG k row) row (fun(s:List Int) j=>(s,j)) (fun s _ x=>if 0≤x then s++[x] else s) (fun j s=>s.length≤j∧s=(row.take j).filter fun x=>decide (0≤x)) (fun s=>some s)
  (fun n s j h hp=>by
   have hl:=hp.1;refine⟨?_,?_,?_⟩
   ·rw [cG];dsimp only;rw [if_pos (show(j:Int) < 5 by omega),cr h,bs];by_cases c:0≤row[j]
    ·rw [if_pos c,dI (DD (n:=5) (by omega) (by omega)),bs,bs,bF (by omega) (by omega),bs,if_pos c]
    ·rw [if_neg c,bs,bF (by omega) (by omega),bs,if_neg c]
   ·split
    ·simp only [List.length_append,List.length_cons,List.length_nil];omega
    ·omega
   ·rw [List.take_add_one,List.getElem?_eq_getElem h,Option.toList_some,List.filter_append,←hp.2];by_cases c:0≤row[j]
    ·rw [if_pos c];simp [c]
    ·rw [if_neg c];simp [c])
  (fun n s _=>by rw [cG,if_neg (show¬((row.length:Int) < 5) by omega)]) (s0:=[]) (n:=k) (by omega) ⟨by simp,by simp⟩
 obtain⟨h1,h2,h3⟩:=this;rw [show cG k row k ([],0)=_ from h1,h3,List.take_of_length_le (Nat.le_refl _)]
theorem A4(hk:50≤k){p:List (List Int)}{i:Nat}(hi:i < 3)(hf:LE (p[i]?.getD [])):dz k (lJ p) (i:Int)=some (p[i]?.getD []):=by
 unfold dz
 have hg:a8 (lJ p) (i:Int)=some (sO (p[i]?.getD [])):=Am (by omega) (by
  match i,hi with
  |0,_=>rfl
  |1,_=>rfl
  |2,_=>rfl)
 rw [dI (by omega),bs,hg,bs,Fv hk rfl,bs,zL hf]
end
section
variable {k:Nat}
theorem AK{t:cY}{d:Int}{n:Nat}:lu t d (n:Int)=true↔∃h:n < t.2.1.length,d∈t.2.1[n].2:=by
 unfold lu;rw [show((n:Int)).toNat=n from rfl];rcases Nat.lt_or_ge n t.2.1.length with h |h
 ·rw [List.getElem?_eq_getElem h];simp [h]
 ·rw [List.getElem?_eq_none h];simp [Nat.not_lt.2 h]
theorem DK(hk1:k≤1000000){t:cY}(hn:t.2.1.length≤8)(hnk:t.2.1.length < k)(hw:∀x∈t.2.1,x.2.length < k){d:Int}:W (gy k (t,()) d) fun m=>kw m∧∀i:Nat,eC m i↔lu t d (i:Int)=true:=by
 unfold gy;refine W.bind (R:=fun m=>kw m∧∀i:Nat,eC m i↔lu t d (i:Int)=true) ?_ fun r h=>W.ret h
 refine W.loop (f:=eM k (t,()) d) (fun q y=>∃j:Nat,y.2=(j:Int)∧j≤t.2.1.length∧q=t.2.1.length - j∧kw y.1∧∀i:Nat,eC y.1 i↔i < j∧lu t d (i:Int)=true) ?_ t.2.1.length k (0,0) hnk
  ⟨0,rfl,by omega,by omega,⟨by decide,by decide⟩,fun i=>by simp [eC]⟩
 rintro aR q ⟨s,y⟩ ⟨j,hj,hle,hq,hm,hh⟩ ih;simp only at hj hm hh;subst hj;unfold eM;dsimp only;refine W.ite (fun hlt=>?_) (fun hge=>W.ret ⟨hm,fun i=>?_⟩)
 ·have hlt':j < t.2.1.length:=by omega
  rw [cr hlt',bs,yT (hw _ (List.getElem_mem hlt')) hk1,bs];have hj:lu t d (j:Int)=true↔d∈t.2.1[j].2:=by rw [AK];exact⟨fun⟨_,h⟩=>h,fun h=>⟨hlt',h⟩⟩
  by_cases c:d∈t.2.1[j].2
  ·obtain⟨o1,o2⟩:=zN (x:=(j:Int)) (by omega) (by omega);obtain⟨p1,p2⟩:=wE hm o1;rw [decide_eq_true c,iT];unfold d6;rw [dI (by omega),bs,bs,bs,bF (by omega) (by omega),bs];refine ih (q - 1) (_,(j:Int)+1) (by omega) ⟨j+1,by show(j:Int)+1=((j+1:Nat):Int);omega,by omega,by omega,p1,fun i=>?_⟩;rw [p2,hh,o2];constructor
   ·rintro(⟨a,b⟩ |h)
    ·exact⟨by omega,b⟩
    ·have:i=j:=by omega
     subst this;exact⟨by omega,hj.2 c⟩
   ·rintro⟨a,b⟩;by_cases e:i=j
    ·exact .inr (by omega)
    ·exact .inl ⟨by omega,b⟩
  ·rw [decide_eq_false c,iF,bs,bF (by omega) (by omega),bs];refine ih (q - 1) (_,(j:Int)+1) (by omega) ⟨j+1,by show(j:Int)+1=((j+1:Nat):Int);omega,by omega,by omega,hm,fun i=>?_⟩;rw [hh];constructor
   ·rintro⟨a,b⟩;exact⟨by omega,b⟩
   ·rintro⟨a,b⟩;have:i≠j:=fun e=>c (hj.1 (e▸b));exact⟨by omega,b⟩
 ·rw [hh];constructor
  ·exact fun h=>h.2
  ·intro h;obtain⟨h1,_⟩:=AK.1 h;exact⟨by omega,h⟩
theorem HE{l:List Int}(hk:l.length < k)(hk1:k≤1000000):nD k l=some l:=by
 have key:∀(j n:Nat),j≤l.length→j < n→cp k l (pm fun(y3:List Int) (p5:Int×Int)=>some ((p5.2::y3),true)) n ((j:Int) - 1,(l.drop j,false))=some (l,false):=by
  intro j
  induction j with
  |zero=>
   intro n _ hn
   obtain⟨n,rfl⟩:∃n',n=n'+1:=⟨n - 1,by omega⟩;rw [cp];dsimp only;rw [if_neg (by omega),List.drop_zero]
  |succ j ih=>
   intro n hj hn
   obtain⟨n,rfl⟩:∃n',n=n'+1:=⟨n - 1,by omega⟩;have e1:((j+1:Nat):Int) - 1=(j:Int):=by omega
   rw [cp,e1];dsimp only;rw [if_pos (show(0:Int)≤(j:Int) by omega),cr (by omega),bs];rw [show pm (fun(y3:List Int) (p5:Int×Int)=>some ((p5.2::y3),true)) (List.drop (j+1) l,false) ((j:Int),l[j])=some ((l[j]::List.drop (j+1) l,false),true) from rfl,bs];dsimp only;rw [nT,bF (by omega) (by omega),bs];have:=ih n (by omega) (by omega);rw [List.drop_eq_getElem_cons (show j < l.length by omega)] at this;exact this
 unfold nD gg;rw [bF (by omega) (by omega),bs];have:=key l.length k (by omega) hk;rw [List.drop_length] at this;rw [this,bs,iF]
theorem Cf{m:Int}(hm:kw m){w:Int→Bool}(hw:∀i:Nat,i < 8→(eC m i↔w (i:Int)=true)):∀(l:List Int) (n:Nat) (lf:Int) (up stay:List Int),l.length < n→(∀x∈l,0≤x∧x < 8)→kw lf→up.length+stay.length+l.length≤1000→
 W (f4 k m n (lf,up,stay,l)) fun r=>r.2=(stay++l.filter (fun x=> !w x))++(up++l.filter w)∧kw r.1∧∀i:Nat,eC r.1 i↔eC lf i∨(i:Int)∈fQ w (!up.isEmpty) l:=by
 intro l
 induction l with
 |nil=>
  intro n lf up stay hn _ hlf hlen
  obtain⟨n,rfl⟩:∃n',n=n'+1:=⟨n - 1,by omega⟩;rw [f4];dsimp only;rw [show List.isEmpty ([]:List Int)=true from rfl,iT,dI (O1 (by simp only [List.length_nil] at hlen;omega)),bs];exact W.ret ⟨by simp,hlf,fun i=>by simp [fQ]⟩
 |cons x l ih=>
  intro n lf up stay hn hx hlf hlen
  simp only [List.length_cons] at hn hlen;obtain⟨n,rfl⟩:∃n',n=n'+1:=⟨n - 1,by omega⟩;have hx0:=hx x (by simp);have hxl:∀y∈l,0≤y∧y < 8:=fun y hy=>hx y (by simp [hy]);obtain⟨xi,hxi⟩:=Int.eq_ofNat_of_zero_le hx0.1;subst hxi;have hhx:=hw xi (by omega);rw [f4];dsimp only;rw [show List.isEmpty ((xi:Int)::l)=false from rfl,iF,show nz ((xi:Int)::l)=some ((xi:Int),l) from rfl,bs,Ak hm (by omega),bs];by_cases c:w (xi:Int)=true
  ·rw [decide_eq_true (hhx.2 c),iT,bs,dI (DD (n:=1000) (by omega) (by omega)),bs,bs];refine(ih n lf (up++[(xi:Int)]) stay (by omega) hxl hlf (by simp only [List.length_append,List.length_cons,List.length_nil];omega)).mono fun r hr=>?_;obtain⟨h1,h2,h3⟩:=hr;refine⟨?_,h2,fun i=>?_⟩
   ·rw [h1];simp [c]
   ·rw [h3,fQ,if_pos c,show(!(up++[(xi:Int)]).isEmpty)=true by cases up <;> rfl]
  ·have c':w (xi:Int)=false:=by simpa using c
   rw [decide_eq_false (fun h=>c (hhx.1 h)),iF];cases up with
   |nil=>
    rw [if_neg (show¬(0:Int) < (([]:List Int).length:Int) by simp),bs,bs,dI (DD (n:=1000) (by omega) (by omega)),bs,bs];refine(ih n lf [] (stay++[(xi:Int)]) (by omega) hxl hlf (by simp only [List.length_append,List.length_cons,List.length_nil] at hlen⊢;omega)).mono fun r hr=>?_;obtain⟨h1,h2,h3⟩:=hr;refine⟨?_,h2,fun i=>?_⟩
    ·rw [h1];simp [c']
    ·rw [h3,fQ,if_neg c];simp
   |cons u up=>
    obtain⟨o1,o2⟩:=zN (x:=(xi:Int)) (by omega) (by omega);obtain⟨p1,p2⟩:=wE hlf o1;rw [if_pos (show(0:Int) < ((u::up).length:Int) by simp only [List.length_cons];omega),bs];unfold d6;rw [dI (show(0:Int)≤(xi:Int) by omega),bs,bs,bs,bs,dI (DD (n:=1000) (by omega) (by omega)),bs,bs];refine(ih n _ (u::up) (stay++[(xi:Int)]) (by omega) hxl p1 (by simp only [List.length_append,List.length_cons,List.length_nil] at hlen⊢;omega)).mono fun r hr=>?_;obtain⟨h1,h2,h3⟩:=hr;refine⟨?_,h2,fun i=>?_⟩
    ·rw [h1];simp [c']
    ·rw [h3,p2,o2,fQ,if_neg c];simp only [List.isEmpty_cons,Bool.not_false,if_true,List.mem_cons,or_assoc]
theorem HF(hk1:k≤1000000){m:Int}(hm:kw m){w:Int→Bool}(hw:∀i:Nat,i < 8→(eC m i↔w (i:Int)=true)){l:List Int}(hl:l.length < k)(hl9:l.length≤1000)(hx:∀x∈l,0≤x∧x < 8):
 W (mh k l m) fun r=>r.2=yf w l∧kw r.1∧∀i:Nat,eC r.1 i↔(i:Int)∈fQ w false l:=by
 unfold mh
 rw [HE hl hk1,bs]
 refine(Cf hm hw l k 0 [] [] hl hx ⟨by decide,by decide⟩ (by simp only [List.length_nil];omega)).mono fun r hr=>?_
 obtain⟨h1,h2,h3⟩:=hr
 refine⟨by rw [h1];simp [yf],h2,fun i=>?_⟩
 rw [h3];simp [eC]
structure Ha(p:List (List Int)):Prop where
 len:p.length≤3
 fit:∀l∈p,l.length≤5∧∀x∈l,0≤x∧x < 8
theorem Ha.at{p:List (List Int)}(h:Ha p)(i:Nat):(p[i]?.getD []).length≤5∧∀x∈p[i]?.getD [],0≤x∧x < 8:=by
 rcases Nat.lt_or_ge i p.length with hi |hi
 ·rw [List.getElem?_eq_getElem hi];exact h.fit _ (List.getElem_mem hi)
 ·rw [List.getElem?_eq_none hi];simp
theorem Ha.fitL{p:List (List Int)}(h:Ha p)(i:Nat):LE (p[i]?.getD []):=⟨(h.at i).1,fun x hx=>((h.at i).2 x hx).1⟩
theorem Ha.next{p:List (List Int)}(h:Ha p){w:Int→Bool}:Ha (p.map (yf w)):=
 ⟨by rw [List.length_map];exact h.len,fun l hl=>by
  obtain⟨q,hq,rfl⟩:=List.mem_map.1 hl
  have:=h.fit q hq
  exact⟨by rw [tX.length_eq];exact this.1,fun x hx=>this.2 x (tX.mem_iff.1 hx)⟩⟩
structure LG(k:Nat)(t:cY):Prop where
 k0:50≤k
 k1:k≤1000000
 things:t.2.1.length≤8
 worn:∀x∈t.2.1,x.2.length < k
theorem K7{t:cY}(h:LG k t){p:List (List Int)}(hp:Ha p){d:Int}:
 W (ik k (t,()) (lJ p) d) fun r=>r.2=lJ (p.map (yf (lu t d)))∧kw r.1∧∀i:Nat,eC r.1 i↔∃l∈p,(i:Int)∈fQ (lu t d) false l:=by
 have hk0:=h.k0
 have hk1:=h.k1
 have h8:=h.things
 obtain⟨m,em,hm,hmm⟩:=DK hk1 (t:=t) (d:=d) h8 (by omega) h.worn
 unfold ik
 have st:∀(i n:Nat) (s:Int) (o:List (List Int)),i < 3→o.length≤3→kw s→∃s',cE k (t,()) (lJ p) d (n+1) (s,o,(i:Int))=cE k (t,()) (lJ p) d n (s',o++[yf (lu t d) (p[i]?.getD [])],((i+1:Nat):Int))∧kw s'∧∀j:Nat,eC s' j↔eC s j∨(j:Int)∈fQ (lu t d) false (p[i]?.getD []):=by
  intro i n s o hi ho hs;have hf:=hp.at i;obtain⟨r,er,h1,h2,h3⟩:=HF hk1 (m:=m) hm (w:=lu t d) (fun j _=>hmm j) (l:=p[i]?.getD []) (by omega) (by omega) hf.2;obtain⟨p1,p2⟩:=wE hs h2;refine⟨A5 .u8 s r.1,?_,p1,fun j=>by rw [p2,h3]⟩;rw [cE];dsimp only;rw [if_pos (show(i:Int) < 3 by omega),A4 hk0 hi (hp.fitL i),bs,em,bs,er,bs,dI (DD (n:=3) (by omega) (by omega)),bs,bF (by omega) (by omega),bs,h1];rfl
 obtain⟨n,e⟩:∃n,k=n+4:=⟨k - 4,by omega⟩
 obtain⟨s0,a0,b0,c0⟩:=st 0 (n+3) 0 [] (by omega) (by simp) ⟨by decide,by decide⟩
 obtain⟨s1,a1,b1,c1⟩:=st 1 (n+2) s0 ([]++[yf (lu t d) (p[0]?.getD [])]) (by omega) (by simp) b0
 obtain⟨s2,a2,b2,c2⟩:=st 2 (n+1) s1 ([]++[yf (lu t d) (p[0]?.getD [])]++[yf (lu t d) (p[1]?.getD [])]) (by omega) (by simp) b1
 have e2:cE k (t,()) (lJ p) d k (0,[],0)=cE k (t,()) (lJ p) d (n+3+1) (0,[],((0:Nat):Int)):=by rw [←e];rfl
 rw [e2,a0,a1,a2,cE]
 dsimp only
 rw [if_neg (show¬(((2+1:Nat):Int) < 3) by omega),bs,t4 hk0,bs]
 refine W.ret ⟨?_,b2,fun i=>?_⟩
 ·
  have em:∀i:Nat,(p.map (yf (lu t d)))[i]?.getD []=yf (lu t d) (p[i]?.getD []):=fun i=>by
   rw [List.getElem?_map];cases p[i]? <;> rfl
  show lJ _=lJ _;unfold lJ;rw [em,em,em];rfl
 ·
  rw [c2,c1,c0];have hl:=hp.len;have h0:eC 0 i↔False:=by simp [eC]
  rw [h0,false_or,or_assoc];match p,hl with
  |[],_=>simp [fQ]
  |[a],_=>simp [fQ]
  |[a,b],_=>simp [fQ]
  |[a,b,c],_=>simp
theorem Ft{t:cY}(hk0:50≤k){p:List (List Int)}(hp:Ha p)(hl:p.length=t.2.2.length):eP k (t,()) (lJ p)=some p:=by
 have h3:=hp.len;unfold eP;rw [dI (by exact⟨by omega,show Int.toNat (t.2.2.length:Int)≤4294967296 by omega⟩),bs]
 have hb:=W.loop (f:=dN k (t,()) (lJ p)) (Q:=fun r=>r=p) (fun q y=>∃j:Nat,y.2=(j:Int)∧j≤p.length∧q=p.length - j∧y.1=p.take j++List.replicate (p.length - j) []) (by
  rintro aR q ⟨o,y⟩ ⟨j,hj,hle,hq,ho⟩ ih;simp only at hj ho;subst hj;unfold dN;dsimp only;rw [List.length_replicate];refine W.ite (fun hlt=>?_) (fun hge=>W.ret ?_)
  ·have hj:j < p.length:=by omega
   have ho':j < o.length:=by rw [ho];simp only [List.length_append,List.length_take,List.length_replicate];omega
   rw [A4 hk0 (by omega) (hp.fitL j),bs,cr ho',bs,bF (by omega) (by omega),bs];refine ih (q - 1) (_,(j:Int)+1) (by omega) ⟨j+1,by show(j:Int)+1=((j+1:Nat):Int);omega,by omega,by omega,?_⟩;show List.set o j (p[j]?.getD [])=_;have e1:p.length - j=p.length - (j+1)+1:=by omega
   rw [ho,List.set_append_right _ _ (by rw [List.length_take];omega),List.length_take,Nat.min_eq_left (by omega),Nat.sub_self,e1,List.replicate_succ,List.set_cons_zero,List.take_add_one,List.getElem?_eq_getElem hj];simp only [Option.toList_some,Option.getD_some,List.append_assoc,List.cons_append,List.nil_append]
  ·have:j=p.length:=by omega
   subst this;rw [ho];simp) p.length k (List.replicate (Int.toNat (t.2.2.length:Int)) [],0) (by omega) ⟨0,rfl,by omega,by omega,by simp [hl]⟩
 obtain⟨r,er,rfl⟩:=hb;rw [er,bs]
def qL(t:cY)(p:List (List Int))(d:Int):List Int:=((List.range t.2.1.length).filter fun(i:Nat)=>decide (∃l∈p,(i:Int)∈fQ (lu t d) false l)).map fun(i:Nat)=>(i:Int)
theorem Ah{t:cY}(hn:t.2.1.length≤8)(hnk:t.2.1.length < k){r:Int×List (List Int)}(hm:kw r.1){L:Nat→Prop}[DecidablePred L](hh:∀i:Nat,eC r.1 i↔L i):
 iN k t r k ([],0)=some (((List.range t.2.1.length).filter fun(i:Nat)=>decide (L i)).map fun(i:Nat)=>(i:Int)):=by
 have hb:=W.loop (f:=iN k t r) (Q:=fun o=>o=((List.range t.2.1.length).filter fun(i:Nat)=>decide (L i)).map fun(i:Nat)=>(i:Int)) (fun q y=>∃j:Nat,y.2=(j:Int)∧j≤t.2.1.length∧q=t.2.1.length - j∧y.1=((List.range j).filter fun(i:Nat)=>decide (L i)).map fun(i:Nat)=>(i:Int)) (by
  rintro aR q ⟨o,y⟩ ⟨j,hj,hle,hq,ho⟩ ih;simp only at hj ho;subst hj
  have hol:o.length≤j:=by
   rw [ho,List.length_map];refine Nat.le_trans (List.length_filter_le _ _) ?_;simp
  unfold iN;dsimp only;refine W.ite (fun hlt=>?_) (fun hge=>W.ret ?_)
  ·rw [Ak hm (by omega),bs];by_cases c:L j
   ·rw [decide_eq_true ((hh j).2 c),iT,dI (DD (n:=8) (by omega) (by omega)),bs,bs,bF (by omega) (by omega),bs];refine ih (q - 1) (_,(j:Int)+1) (by omega) ⟨j+1,by show(j:Int)+1=((j+1:Nat):Int);omega,by omega,by omega,?_⟩;simp only;rw [List.range_succ,List.filter_append,List.map_append,←ho];simp [c]
   ·rw [decide_eq_false (fun h=>c ((hh j).1 h)),iF,bs,bF (by omega) (by omega),bs];refine ih (q - 1) (_,(j:Int)+1) (by omega) ⟨j+1,by show(j:Int)+1=((j+1:Nat):Int);omega,by omega,by omega,?_⟩;simp only;rw [List.range_succ,List.filter_append,List.map_append,←ho];simp [c]
  ·have:j=t.2.1.length:=by omega
   subst this;exact ho) t.2.1.length k ([],0) hnk ⟨0,rfl,by omega,by omega,by simp⟩
 obtain⟨o,eo,h⟩:=hb
 rw [eo,h]
theorem G3.fit{t:cY}{p:List (List Int)}(h:G3 t p):Ha p:=by
 have h5:=h.g.things;refine⟨by have:=h.len;have:=h.g.trunks;omega,fun l hl=>?_⟩;have hsub:∀x∈l,x∈p.flatten:=fun x hx=>List.mem_flatten.2 ⟨l,hl,hx⟩;have hnd:l.Nodup:=(List.pairwise_flatten.1 h.nd).1 l hl;have hr:∀x∈l,0≤x∧x < (t.2.1.length:Int):=fun x hx=>h.rng x (hsub x hx);have:=wh _ l hnd hr;exact⟨by omega,fun x hx=>by have:=hr x hx;omega⟩
theorem LF{t:cY}(hd:LG k t)(hs:j7 k t){p:List (List Int)}(hp:pu t p=0){d:Int}(h0:0≤d∧d < t.1):oG k t p d=some (qL t p d,p.map (yf (lu t d)),0):=by
 have hk0:=hd.k0;have g:=yH hp;have f:=g.fit;have h6:=g.g.days;unfold oG;rw [uj hs (by omega) (fun l hl=>by have:=(f.fit l hl).1;omega),bs,hp,if_neg (not_not_intro rfl),bF (by omega) (by omega),bs,kz,bs,decide_eq_true (show 0≤d∧d≤t.1 - 1 by omega),nT,t4 hk0,bs];obtain⟨r,er,h1,h2,h3⟩:=K7 hd f (d:=d);rw [er,bs,Ah hd.things (by have:=hd.things;omega) h2 h3,bs,h1,Ft hk0 f.next (by rw [List.length_map];exact g.len),bs];rfl
end
section
variable {k:Nat}
theorem tc{t:cY}(hk1:k≤1000000)(hw:∀x∈t.2.1,x.2.length < k){n d:Int}(h:0≤n∧n < (t.2.1.length:Int)):lh k t n d=some (lu t d n):=by
 have hn:n.toNat < t.2.1.length:=by omega
 unfold lh;rw [lM h.1 hn,bs,JF (hw _ (List.getElem_mem hn)) hk1,bs];congr 1;unfold lu;rw [List.getElem?_eq_getElem hn];exact decide_eq_decide.2 wG
theorem yt{t:cY}(hk1:k≤1000000)(hw:∀x∈t.2.1,x.2.length < k){d:Int}{l:List Int}(hl:l.length < k)(hx:∀x∈l,0≤x∧x < (t.2.1.length:Int)){y:(List Int)×Int}(b:Bool)(hb:decide (y.2=1)=b){o:List Int}(ho:o.length≤1000000):
 fq k t l d y k (o,0)=some (o++l.filter fun x=>decide (lu t d x=b)):=by
 have:=nY (f:=fq k t l d y) l (fun(s:List Int) j=>(s,j)) (fun s _ x=>if lu t d x=b then s++[x] else s) (fun j s=>s.length≤1000000+j∧s=o++(l.take j).filter fun x=>decide (lu t d x=b)) (fun s=>some s)
  (fun n s j h hp=>by
   have hl1:=hp.1;refine⟨?_,?_,?_⟩
   ·rw [fq];dsimp only;rw [if_pos (Int.ofNat_lt.2 h),cr h,bs,tc hk1 hw (hx _ (List.getElem_mem h)),bs,hb];by_cases c:lu t d l[j]=b
    ·rw [if_pos c,bs,dI (show bS _ by show _≤4294967296;simp only [List.length_cons,List.length_nil];omega),bs,bs,bF (by omega) (by omega),bs,if_pos c]
    ·rw [if_neg c,bs,bF (by omega) (by omega),bs,if_neg c]
   ·split
    ·simp only [List.length_append,List.length_cons,List.length_nil];omega
    ·omega
   ·rw [List.take_add_one,List.getElem?_eq_getElem h,Option.toList_some,List.filter_append,←List.append_assoc,←hp.2];by_cases c:lu t d l[j]=b
    ·rw [if_pos c];simp [c]
    ·rw [if_neg c];simp [c])
  (fun n s _=>by rw [fq,if_neg (by omega)]) (s0:=o) (n:=k) hl ⟨by omega,by simp⟩
 obtain⟨h1,h2,h3⟩:=this
 rw [show fq k t l d y k (o,0)=_ from h1,h3,List.take_of_length_le (Nat.le_refl _)]
theorem HY{t:cY}(hk:50≤k)(hk1:k≤1000000)(hw:∀x∈t.2.1,x.2.length < k){d:Int}{l:List Int}(hl:l.length < k)(hx:∀x∈l,0≤x∧x < (t.2.1.length:Int)):
 nQ k t l d=some (yf (lu t d) l):=by
 unfold nQ
 obtain⟨n,e⟩:∃n,k=n+3:=⟨k - 3,by omega⟩
 have e2:ft k t l d k ([],0)=ft k t l d (n+1+1+1) ([],0):=by rw [←e]
 have hfl:(l.filter fun x=>decide (lu t d x=false)).length≤1000000:=Nat.le_trans (List.length_filter_le _ _) (by omega)
 rw [e2,ft]
 dsimp only
 rw [if_pos (show(0:Int) < 2 by decide),yt hk1 hw hl hx (y:=([],0)) false rfl (by simp),bs,bF (by decide) (by decide),bs,ft]
 dsimp only
 rw [if_pos (show(0:Int)+1 < 2 by decide),yt hk1 hw hl hx (y:=(_,0+1)) true rfl (by simpa using hfl),bs,bF (by decide) (by decide),bs,ft]
 dsimp only
 rw [if_neg (show¬((0:Int)+1+1 < 2) by decide),bs,List.nil_append]
 unfold yf
 congr 2
 ·
  refine List.filter_congr fun x _=>?_;cases lu t d x <;> rfl
 ·
  refine List.filter_congr fun x _=>?_;cases lu t d x <;> rfl
theorem pn{k:Nat}{l:List Int}(h:l.length < k)(hk:k≤1000000):dA k l l=some true:=by
 rw [xM h (by omega)];simp
theorem Gu{t:cY}(hk1:k≤1000000)(hw:∀x∈t.2.1,x.2.length < k){d:Int}{r3:aZ×(List (List Int))×Bool×bv}(h3:r3.1=t){y24:(List Int)×Int}{l:List Int}(hg:a8 r3.2.1 y24.2=some l)(hx:∀x∈l,0≤x∧x < (t.2.1.length:Int))
 {p s:List Int} (e:l=p++s) (hp:p.length < k):bZ k r3 d y24 (p.length:Int) k (false,0)=some (p.any (lu t d)):=by
 subst h3
 have:=nY (f:=bZ k r3 d y24 (p.length:Int)) p (fun(b:Bool) j=>(b,j)) (fun b _ x=>b || lu r3.1 d x) (fun j b=>b=(p.take j).any (lu r3.1 d)) (fun b=>some b)
  (fun n b j h hb=>by
   have hj:j < l.length:=by rw [e,List.length_append];omega
   have ej:l[j]=p[j]:=by simp only [e];exact List.getElem_append_left h
   refine⟨?_,?_⟩
   ·rw [bZ];dsimp only;rw [if_pos (Int.ofNat_lt.2 h)];cases b with
    |true=>rw [iT,bs,bF (by omega) (by omega),bs,Bool.true_or]
    |false=>rw [iF,hg,bs,cr hj,bs,tc hk1 hw (hx _ (List.getElem_mem hj)),bs,bs,bF (by omega) (by omega),bs,ej,Bool.false_or]
   ·rw [List.take_add_one,List.getElem?_eq_getElem h,hb];simp only [Option.toList_some,List.any_append,List.any_cons,List.any_nil,Bool.or_false])
  (fun n b _=>by rw [bZ,if_neg (by omega)]) (s0:=false) (n:=k) hp (by simp)
 obtain⟨h1,h2⟩:=this
 rw [show bZ k r3 d y24 (p.length:Int) k (false,0)=_ from h1,h2,List.take_of_length_le (Nat.le_refl _)]
def Az(t:cY)(d n:Int)(l:List Int):Bool:=decide (n∈fQ (lu t d) false l)
theorem IB{t:cY}{d n:Int}{l p s:List Int}(hn:l.Nodup)(e:l=p++n::s):n∈fQ (lu t d) false l↔p.any (lu t d)=true∧lu t d n=false:=by
 rw [my];constructor
 ·rintro⟨h1,p',s',e',h2⟩;obtain⟨rfl,_⟩:=Da hn e e';rcases h2 with h2 |⟨m,hm,hw⟩
  ·cases h2
  ·exact⟨List.any_eq_true.2 ⟨m,hm,hw⟩,h1⟩
 ·rintro⟨h1,h2⟩;obtain⟨m,hm,hw⟩:=List.any_eq_true.1 h1;exact⟨h2,p,s,e,.inr ⟨m,hm,hw⟩⟩
theorem Ax{t:cY}(hk:50≤k)(hk1:k≤1000000)(hw:∀x∈t.2.1,x.2.length < k){d:Int}{r3:aZ×(List (List Int))×Bool×bv}(h3:r3.1=t)(hpl:r3.2.1.length≤3)
 (hl:∀l∈r3.2.1,l.length≤8∧l.Nodup∧∀x∈l,0≤x∧x < (t.2.1.length:Int)) {n:Int} (hn:0≤n∧n < (t.2.1.length:Int)) {o:List Int} (ho:o.length≤100):
 cO k r3 d (o,n) k (o,0)=some (o++(r3.2.1.filter (Az t d n)).map fun _=>n):=by
 have:=nY (f:=cO k r3 d (o,n)) r3.2.1 (fun(s:List Int) j=>(s,j)) (fun s _ l=>if Az t d n l=true then s++[n] else s) (fun j s=>s.length≤100+j∧s=o++((r3.2.1.take j).filter (Az t d n)).map fun _=>n) (fun s=>some s)
  (fun m s j h hp=>by
   obtain⟨a1,a2,a3⟩:=hl _ (List.getElem_mem h);have hl1:=hp.1;refine⟨?_,?_,?_⟩
   ·rw [cO];dsimp only;rw [if_pos (Int.ofNat_lt.2 h),cr h,bs,JF (by omega) hk1,bs];unfold Az;by_cases c:n∈r3.2.1[j]
    ·obtain⟨p,s',e,ei,_⟩:=FI c;have hpl:p.length < k:=by have:=congrArg List.length e;simp only [List.length_append,List.length_cons] at this;omega
     rw [ei,Gu hk1 hw h3 (y24:=(s,(j:Int))) (l:=r3.2.1[j]) (cr h) a3 e hpl,bs,if_pos (show(0:Int)≤(p.length:Int) by omega),h3];have hd:=IB (t:=t) (d:=d) a2 e;cases hb:p.any (lu t d) with
     |true=>
      rw [iT,tc hk1 hw hn,bs,bs];cases hwn:lu t d n with
      |true=>
       rw [Bool.not_true,iF,decide_eq_false (fun h=>by have:=(hd.1 h).2;rw [hwn] at this;cases this),iF,bs,bF (by omega) (by omega),bs]
      |false=>
       rw [Bool.not_false,iT,decide_eq_true (hd.2 ⟨hb,hwn⟩),iT,dI (DD (n:=200) (by omega) (by omega)),bs,bs,bF (by omega) (by omega),bs]
     |false=>
      rw [iF,bs,iF,decide_eq_false (fun h=>by have:=(hd.1 h).1;rw [hb] at this;cases this),iF,bs,bF (by omega) (by omega),bs]
    ·have hi:¬0≤uS r3.2.1[j] n:=fun h=>c (wG.1 h)
     have hlp:∃b,bZ k r3 d (s,(j:Int)) (uS r3.2.1[j] n) k (false,0)=some b:=by
      obtain⟨m',e⟩:∃m',k=m'+1:=⟨k - 1,by omega⟩;refine⟨false,?_⟩;rw [e,bZ];dsimp only;rw [if_neg (by omega)]
     obtain⟨b,eb⟩:=hlp;rw [eb,bs,if_neg hi,bs,iF,bs,bF (by omega) (by omega),bs,decide_eq_false (fun h=>c (rV h)),iF]
   ·split
    ·simp only [List.length_append,List.length_cons,List.length_nil];omega
    ·omega
   ·rw [List.take_add_one,List.getElem?_eq_getElem h,Option.toList_some,List.filter_append,List.map_append,←List.append_assoc,←hp.2];by_cases c:Az t d n r3.2.1[j]=true
    ·rw [if_pos c];simp [c]
    ·rw [if_neg c];simp [c])
  (fun m s _=>by rw [cO,if_neg (by omega)]) (s0:=o) (n:=k) (by omega) ⟨by omega,by simp⟩
 obtain⟨h1,h2,h3'⟩:=this
 rw [show cO k r3 d (o,n) k (o,0)=_ from h1,h3',List.take_of_length_le (Nat.le_refl _)]
theorem EA{t:cY}{p:List (List Int)}(hp:p.flatten.Nodup){d n:Int}:((p.filter (Az t d n)).map fun _=>n)=if decide (∃l∈p,n∈fQ (lu t d) false l)=true then [n] else []:=by
 induction p with
 |nil=>simp
 |cons l p ih=>
  rw [List.flatten_cons,List.nodup_append] at hp;obtain⟨h1,h2,h3⟩:=hp;have ih:=ih h2;by_cases c:n∈fQ (lu t d) false l
  ·have hno:p.filter (Az t d n)=[]:=by
    rw [List.filter_eq_nil_iff];intro q hq hd;exact h3 n (rV c) n (List.mem_flatten.2 ⟨q,hq,rV (of_decide_eq_true hd)⟩) rfl
   rw [List.filter_cons_of_pos (by exact decide_eq_true c),hno,decide_eq_true ⟨l,by simp,c⟩];rfl
  ·rw [List.filter_cons_of_neg (by intro h;exact c (of_decide_eq_true h)),ih];have:(∃q∈l::p,n∈fQ (lu t d) false q)↔∃q∈p,n∈fQ (lu t d) false q:=by simp [c]
   simp only [this]
theorem IC{t:cY}(hk:50≤k)(hk1:k≤1000000)(hw:∀x∈t.2.1,x.2.length < k){d:Int}{r3:aZ×(List (List Int))×Bool×bv}(h3:r3.1=t)(hpl:r3.2.1.length≤3)(hnd:r3.2.1.flatten.Nodup)(hn8:t.2.1.length≤8)
 (hl:∀l∈r3.2.1,l.length≤8∧l.Nodup∧∀x∈l,0≤x∧x < (t.2.1.length:Int)):
 dU k r3 d k ([],0)=some (qL t r3.2.1 d):=by
 have hb:=W.loop (f:=dU k r3 d) (Q:=fun o=>o=qL t r3.2.1 d) (fun q y=>∃j:Nat,y.2=(j:Int)∧j≤t.2.1.length∧q=t.2.1.length - j∧y.1=((List.range j).filter fun(i:Nat)=>decide (∃l∈r3.2.1,(i:Int)∈fQ (lu t d) false l)).map fun(i:Nat)=>(i:Int)) (by
  rintro aR q ⟨o,y⟩ ⟨j,hj,hle,hq,ho⟩ ih;simp only at hj ho;subst hj
  have hol:o.length≤j:=by
   rw [ho,List.length_map];refine Nat.le_trans (List.length_filter_le _ _) ?_;simp
  unfold dU;dsimp only;rw [h3];refine W.ite (fun hlt=>?_) (fun hge=>W.ret ?_)
  ·rw [Ax hk hk1 hw h3 hpl hl (n:=(j:Int)) (by omega) (o:=o) (by omega),bs,bF (by omega) (by omega),bs];refine ih (q - 1) (_,(j:Int)+1) (by omega) ⟨j+1,by show(j:Int)+1=((j+1:Nat):Int);omega,by omega,by omega,?_⟩;simp only;rw [List.range_succ,List.filter_append,List.map_append,←ho,EA hnd];by_cases c:∃l∈r3.2.1,(j:Int)∈fQ (lu t d) false l
   ·simp [c]
   ·simp [c]
  ·have:j=t.2.1.length:=by omega
   subst this;exact ho) t.2.1.length k ([],0) (by omega) ⟨0,rfl,by omega,by omega,by simp⟩
 obtain⟨o,eo,h⟩:=hb
 rw [eo,h]
theorem GE{t:cY}(hk:50≤k)(hk1:k≤1000000)(hw:∀x∈t.2.1,x.2.length < k){d:Int}{r3:aZ×(List (List Int))×Bool×bv}(h3:r3.1=t)(hpl:r3.2.1.length≤3)
 (hl:∀l∈r3.2.1,l.length≤8∧l.Nodup∧∀x∈l,0≤x∧x < (t.2.1.length:Int)) {r15:(List Int)×(List (List Int))×Int} (h15:r15.2.1=r3.2.1.map (yf (lu t d))):
 dT k r3 d r15 k 0=some (.ok ()):=by
 have hb:=W.loop (f:=dT k r3 d r15) (Q:=fun o=>o= .ok ()) (fun q y=>∃j:Nat,y=(j:Int)∧j≤r3.2.1.length∧q=r3.2.1.length - j) (by
  rintro aR q y ⟨j,hj,hle,hq⟩ ih;subst hj;unfold dT;refine W.ite (fun hlt=>?_) (fun hge=>W.ret rfl);have hj:j < r3.2.1.length:=by omega
  obtain⟨a1,a2,a3⟩:=hl _ (List.getElem_mem hj)
  have hg:a8 r15.2.1 (j:Int)=some (yf (lu t d) r3.2.1[j]):=by
   rw [h15,cr (by rw [List.length_map];exact hj),List.getElem_map]
  rw [hg,bs,cr hj,bs,h3,HY hk hk1 hw (by omega) a3,bs,pn (by rw [tX.length_eq];omega) hk1,bs,nT,bF (by omega) (by omega),bs];exact ih (q - 1) _ (by omega) ⟨j+1,by omega,by omega,by omega⟩) r3.2.1.length k 0 (by omega) ⟨0,rfl,by omega,by omega⟩
 obtain⟨o,eo,h⟩:=hb
 rw [eo,h]
theorem uD(hk:50≤k)(hk1:k≤1000000)(hp:jx k=some true)(a0:List Int):ko k a0=some true:=by
 unfold ko;rw [show lL k a0=some (a0,0,1) from rfl,bs];obtain⟨r3,e3,hg,his,_⟩:=Ht hk hk1 (l:=(a0,0,1)) (m:=0) ⟨by simp,by simp⟩ (by decide) (a:=5) (by decide);rw [show mz k (a0,0,1) 5=some r3 from e3,bs];have hsm:j7 k r3.1:=hg.small hk hk1 (by decide);rw [his];by_cases c:pu r3.1 r3.2.1=0
 ·rw [decide_eq_true c,nT];have gp:=yH c;have f:=gp.fit;have h6:=gp.g.days;have hl:∀l∈r3.2.1,l.length≤8∧l.Nodup∧∀x∈l,0≤x∧x < (r3.1.2.1.length:Int):=fun l hl=>⟨by have:=(f.fit l hl).1;omega,(List.pairwise_flatten.1 gp.nd).1 l hl,fun x hx=>gp.rng x (List.mem_flatten.2 ⟨l,hl,hx⟩)⟩;have hd:LG k r3.1:=⟨hk,hk1,by have:=gp.g.things;omega,hsm.worn⟩
  have hb:=W.loop (f:=fg k r3) (Q:=fun o=>o= .ok ()) (fun q y=>∃j:Nat,y=(j:Int)∧(j:Int)≤r3.1.1∧q=r3.1.1.toNat - j) (by
   rintro aR q y ⟨j,hj,hle,hq⟩ ih;subst hj;unfold fg;refine W.ite (fun hlt=>?_) (fun hge=>W.ret rfl)
   have hlen:(qL r3.1 r3.2.1 (j:Int)).length < k:=by
    unfold qL;rw [List.length_map];refine Nat.lt_of_le_of_lt (List.length_filter_le _ _) ?_;rw [List.length_range];have:=hsm.things;omega
   rw [LF hd hsm c (d:=(j:Int)) ⟨by omega,hlt⟩,bs];dsimp only;rw [if_neg (not_not_intro rfl),List.length_map,decide_eq_true rfl,Bool.not_true,bs,iF,IC hk hk1 hsm.worn rfl f.len gp.nd (by have:=gp.g.things;omega) hl,bs,pn hlen hk1,bs,nT,GE hk hk1 hsm.worn rfl f.len hl rfl,og,bF (by omega) (by omega),bs];exact ih (q - 1) _ (by omega) ⟨j+1,by omega,by omega,by omega⟩) r3.1.1.toNat k 0 (by omega) ⟨0,rfl,by omega,by omega⟩
  obtain⟨o,eo,h⟩:=hb;rw [eo,h,og,hp,bs]
 ·rw [decide_eq_false c,nF,hg.checkP hk hk1 (by decide),bs,if_pos c,hp,bs,bs]
end
end Go.Proofs.YtcnpijmfgfnpiaaGreatDoor
