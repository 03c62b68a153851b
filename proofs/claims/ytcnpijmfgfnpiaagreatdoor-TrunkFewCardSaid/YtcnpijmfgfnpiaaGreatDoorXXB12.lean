import Derived.Test.YtcnpijmfgfnpiaaGreatDoorXXB5
import Derived.Test.YtcnpijmfgfnpiaaGreatDoorXXB7
import Derived.Test.YtcnpijmfgfnpiaaGreatDoorXXF2
set_option linter.unusedSimpArgs false
set_option linter.unusedVariables false
namespace Go.Proofs.YtcnpijmfgfnpiaaGreatDoor
namespace K
open Go Go.ChangeShapes Go.WideShapes Go.ChangeAt Go.RowKit
@[reducible] def jy:Ty→Bool
 | .int _=>true
 | .bool=>true
 | .str=>true
 | .pair a b=>jy a && jy b
 | .agg t=>jy t
 | .arr _ t=>jy t
 | .slice t=>jy t && Nat.blt 0 t.cells
 |_=>false
def wG:Value→Bool
 | .iface _ _=>true
 |_=>false
theorem uB{α:Type}{R:α→List Value→Prop}(h:∀x cs,R x cs→∀v∈cs,wG v=false):∀{l:List α} {cs:List Value},cS R l cs→∀v∈cs,wG v=false
 |[],_,e=>by simp [cS] at e;simp [e]
 |_::_,_,⟨c1,c2,e,h1,h2⟩=>by
  subst e
  intro v hv
  rcases List.mem_append.1 hv with hv |hv
  ·
   exact h _ _ h1 v hv
  ·
   exact uB h h2 v hv
theorem Oa{S:FS}{w:World}(t:Ty):∀{x:t.den} {cs:List Value},jy t=true→rd S w t x cs→∀v∈cs,wG v=false:=by
 induction t with
 |int k=>intro x cs _ h v hv;simp only [rd] at h;subst h;simp at hv;subst hv;rfl
 |bool=>intro x cs _ h v hv;simp only [rd] at h;subst h;simp at hv;subst hv;rfl
 |str=>intro x cs _ h v hv;simp only [rd] at h;subst h;simp at hv;subst hv;rfl
 |pair a b iha ihb=>
  rintro x cs hp ⟨c1,c2,rfl,h1,h2⟩ v hv;simp [jy] at hp;rcases List.mem_append.1 hv with hv |hv
  ·exact iha hp.1 h1 v hv
  ·exact ihb hp.2 h2 v hv
 |agg t ih=>intro x cs hp h;exact ih hp h
 |arr n t ih=>intro l cs hp h;exact uB (fun _ _ h=>ih hp h) h.2
 |slice t ih=>
  intro l cs hp h v hv;rcases h with⟨a,cap,rfl,_⟩ |⟨b,off,cap,c,T,fz,rfl,_⟩ <;> (simp at hv;subst hv;rfl)
 |_=>intro x cs hp;cases hp
theorem IG{S:FS}{w:World}{b0:Nat}{c0:Array Value}{T0:TypeId}{fz0:Nat×Nat}(h0:w.heap[b0]? =some (.cells c0 T0 fz0))(hc:∀v∈c0.toList,wG v=true)(t:Ty):
 ∀{x:t.den} {cs:List Value},jy t=true→rd S w t x cs→rd (fun b=>S b∧b≠b0) w t x cs:=by
 induction t with
 |int k=>intro x cs _ h;exact h
 |bool=>intro x cs _ h;exact h
 |str=>intro x cs _ h;exact h
 |pair a b iha ihb=>
  rintro x cs hp ⟨c1,c2,rfl,h1,h2⟩;simp [jy] at hp;exact⟨c1,c2,rfl,iha hp.1 h1,ihb hp.2 h2⟩
 |agg t ih=>intro x cs hp h;exact ih hp h
 |arr n t ih=>intro l cs hp h;exact⟨h.1,bm (fun _ _ h=>ih hp h) h.2⟩
 |slice t ih=>
  intro l cs hp h;have hp1:jy t=true:=by simp [jy] at hp;exact hp.1
  have hp2:0 < t.cells:=by simp [jy] at hp;exact hp.2
  rcases h with h |⟨b,off,cap,c,T,fz,rfl,hle,hS,hb,hr⟩
  ·exact .inl h
  ·by_cases hl:l=[]
   ·subst hl;exact .inl ⟨_,cap,rfl,rfl⟩
   ·refine .inr ⟨b,off,cap,c,T,fz,rfl,hle,⟨hS,fun e=>?_⟩,hb,bm (fun _ _ h=>ih hp1 h) hr⟩;subst e;rw [h0] at hb;cases hb;have hlen:=gB (fun _ _ h=>aH t h) hr;have hno:=uB (fun _ _ h=>Oa t hp1 h) hr;have hpos:0 < l.length:=List.length_pos_iff.2 hl;have:0 < ((c0.toList.drop off).take (l.length * t.cells)).length:=by rw [hlen];exact Nat.mul_pos hpos hp2
    obtain⟨v,hv⟩:=List.exists_mem_of_length_pos this;have h1:=hno v hv;have h2:=hc v (List.mem_of_mem_drop (List.mem_of_mem_take hv));rw [h1] at h2;cases h2
 |_=>intro x cs hp;cases hp
theorem wW{S:FS}{w:World}{b0:Nat}{c0:Array Value}{T0:TypeId}{fz0:Nat×Nat}(h0:w.heap[b0]? =some (.cells c0 T0 fz0))(hc:∀v∈c0.toList,wG v=true):
 ∀{ts:List (TypeId×Ty)} {uz:List A} {vs:List Value},(∀p∈ts,jy p.2=true)→Lk ts uz→fO S w uz vs→fO (fun b=>S b∧b≠b0) w uz vs
 |[],uz,vs,_,hl,h=>by
  have hl:uz=[]:=hl
  subst hl
  exact h
 |p::ts,uz,vs,hp,hl,h=>by
  obtain⟨d,uz',rfl,hl'⟩:=hl
  obtain⟨v,vs',e,⟨cs,hr,hv⟩,h2⟩:=h
  exact⟨v,vs',e,⟨cs,IG h0 hc p.2 (hp p (by simp)) hr,hv⟩,wW h0 hc (fun q hq=>hp q (by simp [hq])) hl' h2⟩
section
variable {H:Type}{enc:TypeId×Value→H}{P:Program}
theorem Ac{M:Md P}{f:Nat}{fn:Func}{B:TypeId}{s:ChangeSpec}{b0:Nat}{c0:Array Value}{T0:TypeId}{p0:Obj→Prop}(hp0:∀o,p0 o↔o= .cells c0 T0 (0,0))(hc0:∀v∈c0.toList,wG v=true)
 (ts:List (TypeId×Ty)) (hpl:∀p∈ts,jy p.2=true) (hp:fn.params.toList=ts.map (·.1)) (hr:fn.resultTypes= #[B]) (hB:P.underlying B=some .bool)
 (hm:∀p∈ts,MT P p.2 (.inl p.1)) (laid:laidOutB P=true) (hT:∀T∈ts.map (·.1),P.readableRec T=true∧T < P.types.size)
 (hs:∀ds:List (DataW H),ds.length=ts.length→s.fn H ds={ results:=[.lit (.bool true)],args:=ds }) (hv:s.vars=[])
 (law:∀uz,Lk ts uz→dh M f uz [.inv b0 p0] (fun _:Unit=>(bu [.eq (.bool true)],[.inv b0 p0])))
 (W:World) (base:Nat) (args:Array Value) (ds gs:List (DataW H)) (before:List MemPlace) (hb0:W.heap[b0]? =some (.cells c0 T0 (0,0)))
 (hval:∀(j:Nat) t v,fn.params[j]? =some t→args[j]? =some v→Value.okWide P W .any base t v)
 (hW:DataW.Whole enc P fn.params.toList s.vars false W args.toList ds gs before):
 mF M .normal f args (vw W) fun e W'=>∃v,e= .returned v∧∀v1,bO W' v1→s.post enc P fn false true false false W args v v1.toWorld:=by
 have hW':=hW
 obtain⟨p,q,hA,hV,rfl,_,_⟩:=hW
 rw [hv] at hV
 obtain⟨rfl,rfl⟩:=trodVars_none hV
 have hlt:∀x∈p,x.block < W.heap.size:=hA.lt
 have hlen:=yI hA
 rw [hp,List.length_map] at hlen
 rw [hp] at hA
 obtain⟨uz,hL,h2⟩:=Dc (S:=fun b=>b < W.heap.size) (base:=base) hm (fun j t v h1 h2=>hval j t v (by rw [←hp] at h1;simpa using h1) (by simpa using h2)) hA hlt
 have h3:=wW hb0 hc0 hpl hL h2
 have hlt0:b0 < W.heap.size:=(Array.getElem?_eq_some_iff.1 hb0).1
 have hft:∀b,ax [D.inv b0 p0] b↔b=b0:=fun b=>by
  rw [dn];exact⟨fun h=>(Option.some.inj h).symm,fun h=>by rw [h];rfl⟩
 have hO:aW [.inv b0 p0] (fun b=>b < W.heap.size∧b≠b0) (vw W):=by
  refine⟨fun d hd=>?_,fun b hb=>?_,List.pairwise_singleton _ _,fun b _=>⟨fun h=>h,fun h=>h⟩,fun _ _ h=>h,fun _ h=>h.elim,fun _ h=>h.elim⟩
  ·simp at hd;subst hd;exact⟨_,hb0,(hp0 _).2 rfl⟩
  ·rw [hft] at hb;subst hb;exact⟨fun h=>h.2 rfl,hlt0⟩
 have:=law uz hL .normal (fun e=>nomatch e) (fun b=>b < W.heap.size∧b≠b0) (vw W) args.toList (fun _ h=>h.1) h3 hO
 rw [Array.toArray_toList] at this
 refine this.mono ?_
 rintro e' W' ⟨_,S',v,rfl,h1,h2,h4,_⟩
 obtain rfl:v= .bool true:=h2
 refine⟨_,rfl,fun v1 hrel=>?_⟩
 have h5:=h4.rely h1.dom hrel
 replace h1:=h1.trans (bN.rely (X:=ax [D.inv b0 p0]) h1.dom hrel) fun b hb=>.inl hb
 obtain⟨o1,k0,k0'⟩:=h5.holds _ (List.mem_singleton.2 rfl)
 rw [(hp0 _).1 k0'] at k0
 have h6:bN (ax []) (fun b=>b < W.heap.size∧b≠b0) (vw W) S' v1:=by
  refine⟨h1.sub,fun b hb=>(h1.new b hb).imp id (Or.imp id fun hx=>absurd hb (h5.own b hx).1),h1.dom,h1.size,fun b hb ha hx=>?_,h1.os,h1.tape,h1.output,h1.subA,h1.oldA,h1.Z⟩;by_cases e:b=b0
  ·subst e;exact k0.trans hb0.symm
  ·exact h1.keep b hb ha (fun h=>e ((hft b).1 h))
 obtain⟨k1,k2⟩:=DY (may:=(· ∈p++[])) h6
 have hk:∀b,b < W.heap.size→v1.heap[b]? =W.heap[b]? :=fun b hb=>h6.keep b hb (fun hx=>hx) (fun hx=>eW hx)
 refine FQ (pa:=p) (pv:=[]) hW' (fun _ _ _=>?_) (fun sp hsp=>?_) (fun _ _=>?_) rfl k1 k2 (ok_one hr rfl (okWide_bool_mk hB _))
 ·
  rw [hr,List.append_nil,hs ds hlen];exact trodAll_mk1 (shut_bool hB _)
 ·
  rw [hp,List.append_nil,hs ds hlen];exact Ai laid hk hT hA (fun x hx=>⟨hlt x hx,hsp x (by simpa using hx)⟩)
 ·
  rw [hv,List.append_nil,hs ds hlen];rfl
end
section
open Go.Conc
variable {H:Type}{enc:TypeId×Value→H}
theorem xJ{a:Assume}{C:Checked}{os:Os}{f:FuncId}{fn:Func}{s:ChangeSpec}{conds:List PathCond}{apart fresh handsOn again:Bool}{X:World→Prop}
 (hX:∀(w w':World),w.heap=w'.heap→X w→X w') (own:ownKnob C.prog.godebug=none) (started:os.Started) (hfn:C.prog.funcs[f]? =some fn)
 (witness:∃(w:World) (tape:Tape) (i:Input),w.os=os∧(w.forCall tape i).Shaped C.prog∧i.vars=[]∧Input.okWide C.prog (w.forCall tape i) .any w.heap.size f i∧
  ((s.pre enc C.prog fn conds apart (w.forCall tape i).memory i.args∧X (w.forCall tape i).memory)∧sizedMet enc C.prog fn (OpenSpec.ofChange s) apart (w.forCall tape i).memory i.args)∧a.holds C.prog (lone (Frame.enter C.prog f i.args .normal) [] (w.forCall tape i)))
 (runs:∀(W:World) (base:Nat) (args:Array Value) (ds gs:List (DataW H)) (before:List MemPlace),W.ShapedOpen C.prog→
  (∀(j:Nat) t v,fn.params[j]? =some t→args[j]? =some v→Value.okWide C.prog W .any base t v)→
  DataW.Whole enc C.prog fn.params.toList s.vars apart W args.toList ds gs before→X W→
  a.holds C.prog (lone (Frame.enter C.prog f args .normal) [] W)→
  ∃M last o w' t',runNT C.prog (M+1) (solo (Conc.G (Frame.enter C.prog f args .normal) []) W) #[]=(.ended o w',t')∧runN C.prog M (solo (Conc.G (Frame.enter C.prog f args .normal) []) W)= .next last∧
   step C.prog last= .ended o w'∧Conc.Good C.prog (fun v W'=>s.post enc C.prog fn apart fresh handsOn again W args v W') last o w' t'):
 ReturnsInLeavingWide a C os f .any (fun w args=>(s.pre enc C.prog fn conds apart w args∧X w)∧sizedMet enc C.prog fn (OpenSpec.ofChange s) apart w args) (s.post enc C.prog fn apart fresh handsOn again):=by
 refine returnsInLeavingWide_of_good own started witness ?_
 intro w tape i _ hsh _ hok hpre hholds
 obtain⟨_,_,_,fn',hfn',_,_,_,_,hval⟩:=hok
 obtain rfl:fn'=fn:=Option.some.inj (hfn'.symm.trans hfn)
 obtain⟨⟨⟨ds,gs,before,hw,_⟩,hx⟩,_⟩:=hpre
 obtain⟨M,last,o,w',t',h1,h2,h3,h4⟩:=runs (w.forCall tape i) w.heap.size i.args ds gs before hsh hval (DataW.Whole.of_heap (w':=w.forCall tape i) (by rfl) hw) (hX _ _ (by rfl) hx) hholds
 exact⟨M,last,o,w',t',h1,h2,h3,h4.mono fun v hp=>ChangeSpec.post_blind hp⟩
end
end K
end Go.Proofs.YtcnpijmfgfnpiaaGreatDoor
namespace Go.Proofs.YtcnpijmfgfnpiaaGreatDoor
open K Go Go.Proofs
def W{α:Type}(x:Option α)(Q:α→Prop):Prop:=∃a,x=some a∧Q a
namespace W
variable {α β ε:Type}{Q:β→Prop}
theorem ret{a:β}(h:Q a):W (some a) Q:=⟨a,rfl,h⟩
theorem mono{x:Option β}{R:β→Prop}(h:W x R)(hq:∀a,R a→Q a):W x Q:=let ⟨a,e,r⟩:=h;⟨a,e,hq a r⟩
theorem bind{x:Option α}{f:α→Option β}{R:α→Prop}(h:W x R)(hf:∀a,R a→W (f a) Q):W (x.bind f) Q:=by
 obtain⟨a,rfl,r⟩:=h;exact hf a r
theorem ck{n:Int}{f:Int→Option β}(h1: -9223372036854775808≤n)(h2:n≤9223372036854775807)(hf:W (f n) Q):W ((K.ck n).bind f) Q:=by
 rw [K.ck,if_pos ⟨h1,h2⟩];exact hf
theorem chk{p:Prop}[Decidable p]{f:Unit→Option β}(h:p)(hf:W (f ()) Q):W ((eE p).bind f) Q:=by
 rw [eE,if_pos h];exact hf
theorem at_{l:List α}{i:Int}{f:α→Option β}(h0:0≤i)(h1:i < l.length)(hf:∀x,l[i.toNat]? =some x→W (f x) Q):W ((bf l i).bind f) Q:=by
 have:i.toNat < l.length:=by omega
 rw [bf,if_pos h0,List.getElem?_eq_getElem this];exact hf _ (List.getElem?_eq_getElem this)
theorem ite{p:Prop}[Decidable p]{a b:Option β}(h1:p→W a Q)(h2:¬p→W b Q):W (if p then a else b) Q:=by
 split
 ·exact h1 ‹_›
 ·exact h2 ‹_›
theorem iteB{p:Prop}[Decidable p]{a b:Option α}{f:α→Option β}(h1:p→W (a.bind f) Q)(h2:¬p→W (b.bind f) Q):W ((if p then a else b).bind f) Q:=by
 split
 ·exact h1 ‹_›
 ·exact h2 ‹_›
theorem loop{T:Type}{f:Nat→T→Option β}(I:Nat→T→Prop)(step:∀aO m y,I m y→(∀m' y',m' < m→I m' y'→W (f aO y') Q)→W (f (aO+1) y) Q):∀m aO y,m < aO→I m y→W (f aO y) Q:=by
 intro m
 induction m using Nat.strongRecOn with
 |_ m ih=>
  intro aO y hm hI;cases aO with
  |zero=>omega
  |succ aO=>exact step aO m y hI fun m' y' h hI'=>ih m' h aO y' (by omega) hI'
end W
theorem wrap_u64(n:Int):0≤IntKind.u64.wrap n∧IntKind.u64.wrap n < 18446744073709551616:=by
 have h1:=Int.emod_nonneg n (show(18446744073709551616:Int)≠0 by decide);have h2:=Int.emod_lt_of_pos n (show(0:Int) < 18446744073709551616 by decide)
 have e:IntKind.u64.wrap n=n % 18446744073709551616:=by
  simp [IntKind.wrap,IntKind.signed,IntKind.bits]
 rw [e];exact⟨h1,h2⟩
theorem yy{n:Int}(h0:0≤n)(h1:n < 18446744073709551616):IntKind.u64.wrap n=n:=by
 have e:IntKind.u64.wrap n=n % 18446744073709551616:=by
  simp [IntKind.wrap,IntKind.signed,IntKind.bits]
 rw [e];exact Int.emod_eq_of_lt h0 h1
def Lo(l:cQ)(m:Int):Prop:=0≤l.2.1∧l.2.1≤m
theorem I5{k:Nat}{l:cQ}{m:Int}(h:Lo l m)(hm:m≤1000000000):W (iO k l) fun r=>0≤r.1∧r.1 < 72057594037927936∧Lo r.2 (m+1):=by
 obtain⟨h0,h1⟩:=h;unfold iO
 have fin:∀x:Int,W ((K.ck (l.2.1+1)).bind fun x4=>some (ic .u64 (qB .u64 (IntKind.u64.wrap ((qB .u64 x (ic .u64 x (29:Int))) * (2685821657736338717:Int))) (ic .u64 (IntKind.u64.wrap ((qB .u64 x (ic .u64 x (29:Int))) * (2685821657736338717:Int))) (32:Int))) (8:Int),(l.1,x4,x)))
  fun r=>0≤r.1∧r.1 < 72057594037927936∧Lo r.2 (m+1):=fun x=>by
  refine W.ck (by omega) (by omega) (W.ret ?_)
  generalize IntKind.u64.wrap ((qB .u64 x (ic .u64 x (29:Int))) * (2685821657736338717:Int))=y
  have hx:0≤qB .u64 y (ic .u64 y 32)∧qB .u64 y (ic .u64 y 32) < 18446744073709551616:=wrap_u64 _
  have e:ic .u64 (qB .u64 y (ic .u64 y 32)) 8=(qB .u64 y (ic .u64 y 32)) / 256:=by
   unfold ic;rw [Int.fdiv_eq_ediv_of_nonneg _ (by decide)];rfl
  refine⟨?_,?_,?_,?_⟩
  ·
   show 0≤ic .u64 (qB .u64 y (ic .u64 y 32)) 8;rw [e];omega
  ·
   show ic .u64 (qB .u64 y (ic .u64 y 32)) 8 < _;rw [e];omega
  ·
   show 0≤l.2.1+1;omega
  ·
   show l.2.1+1≤m+1;omega
 refine W.iteB (fun hlt=>?_) (fun _=>fin _);cases hg:bf l.1 l.2.1 with
 |some v=>exact fin _
 |none=>
  exfalso;have:l.2.1.toNat < l.1.length:=by omega
  rw [bf,if_pos h0,List.getElem?_eq_getElem this] at hg;cases hg
theorem xg{k:Nat}{l:cQ}{m n:Int}(h:Lo l m)(hm:m≤1000000000)(hn:n≤1000000000):W (fJ k l n) fun r=>0≤r.1∧(0≤n→r.1≤n)∧Lo r.2 (m+1):=by
 unfold fJ;refine W.ite (fun h1=>W.ret ⟨Int.le_refl 0,fun h=>h,h.1,by show l.2.1≤m+1;have:=h.2;omega⟩) (fun h1=>?_);refine W.bind (I5 h hm) fun r hr=>?_;refine W.ck (by omega) (by omega) ?_;have e:IntKind.u64.wrap (n+1)=n+1:=yy (by omega) (by omega);refine W.chk (by rw [e];omega) ?_;rw [e];have h2:Int.tmod r.1 (n+1)=r.1 % (n+1):=Int.tmod_eq_emod_of_nonneg hr.1;have h3:=Int.emod_nonneg r.1 (show n+1≠0 by omega);have h4:=Int.emod_lt_of_pos r.1 (show 0 < n+1 by omega);rw [h2];refine W.ck (by omega) (by omega) (W.ret ⟨h3,fun _=>by show r.1 % (n+1)≤n;omega,hr.2.2⟩)
theorem G5{k:Nat}{l:cQ}{m a b:Int}(h:Lo l m)(hm:m≤1000000000)(ha:0≤a)(hab:a≤b)(hb:b≤1000000):W (eO k l a b) fun r=>a≤r.1∧r.1≤b∧Lo r.2 (m+1):=by
 unfold eO;refine W.ck (by omega) (by omega) (W.bind (xg h hm (by omega)) fun r hr=>?_);have:=hr.2.1 (by omega);refine W.ck (by omega) (by omega) (W.ret ⟨by show a≤a+r.1;omega,by show a+r.1≤b;omega,hr.2.2⟩)
theorem CC{k:Nat}{l:cQ}{m a:Int}(h:Lo l m)(hm:m≤1000000000)(ha:0≤a)(hb:a≤1000000):W (fK k l a) fun r=>Lo r.2 (m+1):=by
 unfold fK;exact W.ck (by omega) (by omega) (W.bind (xg h hm (by omega)) fun r hr=>W.ret hr.2.2)
theorem KR{k:Nat}{l:cQ}{m:Int}{some_:List Int}(h:Lo l m)(hm:m≤1000000000)(h0:0 < some_.length)(h1:some_.length≤1000000):W (jl k l some_) fun r=>r.1∈some_∧Lo r.2 (m+1):=by
 unfold jl;refine W.ck (by omega) (by omega) (W.bind (xg h hm (by omega)) fun r hr=>?_);have:=hr.2.1 (by omega);refine W.at_ hr.1 (by omega) fun x hx=>W.ret ⟨List.mem_of_getElem? hx,hr.2.2⟩
theorem dD{α:Type}{l:List α}{i:Nat}(h:i < l.length):bf l (i:Int)=some l[i]:=by
 rw [bf,if_pos (by omega)];exact List.getElem?_eq_getElem h
section
variable {α β γ ε σ T:Type}
theorem bs{a:α}{f:α→Option β}:(some a).bind f=f a:=by cases h:f a <;> simp [h]
theorem cy{n:Int}(h1: -9223372036854775808≤n)(h2:n≤9223372036854775807):K.ck n=some n:=by rw [K.ck,if_pos ⟨h1,h2⟩]
theorem dz{p:Prop}[Decidable p](h:p):eE p=some ():=by rw [eE,if_pos h]
theorem Jf{l:List α}{i:Int}(h0:0≤i)(h:i.toNat < l.length):bf l i=some l[i.toNat]:=by rw [bf,if_pos h0];exact List.getElem?_eq_getElem h
theorem xR{l:List α}{i:Int}{x:α}(h0:0≤i)(h:l[i.toNat]? =some x):bf l i=some x:=by rw [bf,if_pos h0];exact h
theorem oa{a:α}{g:ε→Option β}{f:α→Option β}:K.bE (some (.ok a)) g f=f a:=by cases h:f a <;> simp [K.bE,h]
theorem tR{e:ε}{g:ε→Option β}{f:α→Option β}:K.bE (some (.error e)) g f=g e:=by cases h:g e <;> simp [K.bE,h]
theorem Qx{n:Nat}(h:n≤4294967296):bX n:=h
def zQ(g:σ→Nat→α→σ):Nat→List α→σ→σ
 |_,[],s=>s
 |j,x::l,s=>zQ g (j+1) l (g s j x)
theorem zP(l:List α)(mk:σ→Int→T)(g:σ→Nat→α→σ)(P:Nat→σ→Prop){f:Nat→T→Option β}(fin:σ→Option β)
 (step:∀n s (j:Nat) (h:j < l.length),P j s→f (n+1) (mk s j)=f n (mk (g s j l[j]) ((j:Int)+1))∧P (j+1) (g s j l[j]))
 (stop:∀n s,P l.length s→f (n+1) (mk s l.length)=fin s) {s0:σ} {n:Nat} (hn:l.length < n) (h0:P 0 s0):f n (mk s0 0)=fin (zQ g 0 l s0)∧P l.length (zQ g 0 l s0):=by
 have key:∀(m:List α) (pre:List α) (n:Nat) (s:σ),l=pre++m→m.length < n→P pre.length s→f n (mk s pre.length)=fin (zQ g pre.length m s)∧P l.length (zQ g pre.length m s):=by
  intro m
  induction m with
  |nil=>
   intro pre n s e hn hp;obtain⟨n,rfl⟩:∃n',n=n'+1:=⟨n - 1,by omega⟩;have:l.length=pre.length:=by rw [e];simp
   rw [←this] at hp⊢;exact⟨stop n s hp,hp⟩
  |cons x m ih=>
   intro pre n s e hn hp;simp only [List.length_cons] at hn;obtain⟨n,rfl⟩:∃n',n=n'+1:=⟨n - 1,by omega⟩;have hl:pre.length < l.length:=by rw [e];simp
   have hx:l[pre.length]=x:=by simp [e]
   obtain⟨h1,h2⟩:=step n s pre.length hl hp;rw [hx] at h1 h2;have:=ih (pre++[x]) n (g s pre.length x) (by rw [e];simp) (by omega) (by rw [List.length_append];exact h2);rw [List.length_append] at this;simp only [List.length_cons,List.length_nil,Nat.zero_add] at this;rw [h1];exact this
 have:=key l [] n s0 rfl hn h0
 exact this
def bS(g:σ→Nat→α→Except ε σ):Nat→List α→σ→Except ε σ
 |_,[],s=>.ok s
 |j,x::l,s=>match g s j x with
  | .error e=>.error e
  | .ok s'=>bS g (j+1) l s'
theorem wN(l:List α)(mk:σ→Int→T)(g:σ→Nat→α→Except ε σ)(P:Nat→σ→Prop){f:Nat→T→Option β}(fin:Except ε σ→Option β)
 (step:∀n s (j:Nat) (h:j < l.length),P j s→(∃e,g s j l[j]= .error e∧f (n+1) (mk s j)=fin (.error e))∨(∃s',g s j l[j]= .ok s'∧f (n+1) (mk s j)=f n (mk s' ((j:Int)+1))∧P (j+1) s'))
 (stop:∀n s,P l.length s→f (n+1) (mk s l.length)=fin (.ok s)) {s0:σ} {n:Nat} (hn:l.length < n) (h0:P 0 s0):f n (mk s0 0)=fin (bS g 0 l s0):=by
 have key:∀(m:List α) (pre:List α) (n:Nat) (s:σ),l=pre++m→m.length < n→P pre.length s→f n (mk s pre.length)=fin (bS g pre.length m s):=by
  intro m
  induction m with
  |nil=>
   intro pre n s e hn hp;obtain⟨n,rfl⟩:∃n',n=n'+1:=⟨n - 1,by omega⟩;have:l.length=pre.length:=by rw [e];simp
   rw [←this] at hp⊢;exact stop n s hp
  |cons x m ih=>
   intro pre n s e hn hp;simp only [List.length_cons] at hn;obtain⟨n,rfl⟩:∃n',n=n'+1:=⟨n - 1,by omega⟩;have hl:pre.length < l.length:=by rw [e];simp
   have hx:l[pre.length]=x:=by simp [e]
   rcases step n s pre.length hl hp with⟨e',h1,h2⟩ |⟨s',h1,h2,h3⟩
   ·rw [hx] at h1;rw [h2,bS,h1]
   ·rw [hx] at h1;have:=ih (pre++[x]) n s' (by rw [e];simp) (by omega) (by rw [List.length_append];exact h3);rw [List.length_append] at this;simp only [List.length_cons,List.length_nil,Nat.zero_add] at this;rw [h2,bS,h1];exact this
 exact key l [] n s0 rfl hn h0
end
section
variable {α β ε σ T:Type}
theorem nT{a b:α}:(if¬(true=true) then a else b)=b:=rfl
theorem nF{a b:α}:(if¬(false=true) then a else b)=a:=rfl
theorem iT{a b:α}:(if true=true then a else b)=a:=rfl
theorem iF{a b:α}:(if false=true then a else b)=b:=rfl
theorem vd(l:List α)(mk:σ→Int→T)(g:σ→Nat→α→Except ε σ)(P:Nat→σ→Prop){f:Nat→T→Option β}(fin:Except ε σ→Option β)
 (step:∀n s (j:Nat) (h:j < l.length),P j s→(f (n+1) (mk s j)=match g s j l[j] with | .error e=>fin (.error e) | .ok s'=>f n (mk s' ((j:Int)+1)))∧∀s',g s j l[j]= .ok s'→P (j+1) s')
 (stop:∀n s,P l.length s→f (n+1) (mk s l.length)=fin (.ok s)) {s0:σ} {n:Nat} (hn:l.length < n) (h0:P 0 s0):f n (mk s0 0)=fin (bS g 0 l s0):=
 wN l mk g P fin (fun n s j h hp=>by
  obtain⟨h1,h2⟩:=step n s j h hp
  cases e:g s j l[j] with
  |error e'=>left;rw [e] at h1;exact⟨e',rfl,h1⟩
  |ok s'=>right;rw [e] at h1;exact⟨s',rfl,h1,h2 s' e⟩) stop hn h0
end
theorem vf{α:Type}(p:α→Bool):∀(l:List α) (j:Nat),bS (fun(_:Unit) j x=>if p x then Except.error (j:Int) else .ok ()) j l ()=match l.findIdx? p with |some i=>.error ((i+j:Nat):Int) |none=>.ok ()
 |[],j=>by simp [bS]
 |x::l,j=>by
  rw [bS,List.findIdx?_cons]
  by_cases h:p x=true
  ·
   simp [h]
  ·
   simp only [h,if_false,Bool.false_eq_true]
   rw [vf p l (j+1)]
   cases l.findIdx? p with
   |none=>rfl
   |some i=>simp only [Option.map_some];congr 2;omega
theorem tl{k:Nat}{a b:List Int}(h:a.length < k)(hk:a.length≤1000000):dK k a b=some (decide (a=b)):=by
 unfold dK;by_cases hl:a.length=b.length
 ·rw [if_neg (by simp [hl])]
  have key:=wN (f:=dw k a b) a (fun(_:Unit) j=>j) (fun _ j x=>if x=b[j]?.getD 0 then .ok () else Except.error false) (fun _ _=>True) (fun r=>some r)
   (fun n s j hj _=>by
    have hjb:j < b.length:=by omega
    have hb:b[j]?.getD 0=b[j]:=by simp [List.getElem?_eq_getElem hjb]
    have hck:ck ((j:Int)+1)=some ((j:Int)+1):=cy (by omega) (by omega);rw [hb];simp only [dw,Int.ofNat_lt,hj,if_true,dD hj,dD hjb,bs];by_cases e:a[j]=b[j] <;> simp [e,hck])
   (fun n s _=>by simp [dw]) (n:=k) (s0:=()) h trivial
  rw [show dw k a b k 0=_ from key]
  have:∀(a:List Int) (j:Nat),a.length+j=b.length→bS (fun(_:Unit) j x=>if x=b[j]?.getD 0 then .ok () else Except.error false) j a ()=if a=b.drop j then .ok () else .error false:=by
   intro a
   induction a with
   |nil=>
    intro j hj;have:b.drop j=[]:=List.drop_eq_nil_of_le (by simp only [List.length_nil] at hj;omega);rw [this];simp [bS]
   |cons x a ih=>
    intro j hj;simp only [List.length_cons] at hj;have hjb:j < b.length:=by omega
    have hd:b.drop j=b[j]::b.drop (j+1):=List.drop_eq_getElem_cons hjb;have hb:b[j]?.getD 0=b[j]:=by simp [List.getElem?_eq_getElem hjb]
    rw [bS,hb,hd];by_cases e:x=b[j]
    ·have h2:(x::a=b[j]::b.drop (j+1))=(a=b.drop (j+1)):=propext ⟨fun h=>(List.cons.inj h).2,fun h=>by rw [h,e]⟩;rw [if_pos e];simp only [h2];exact ih (j+1) (by omega)
    ·have h2:¬(x::a=b[j]::b.drop (j+1)):=fun h=>e (List.cons.inj h).1;rw [if_neg e];simp only [h2,if_false]
  rw [this a 0 (by omega),List.drop_zero];by_cases e:a=b
  ·rw [if_pos e,oa,decide_eq_true e]
  ·rw [if_neg e,tR,decide_eq_false e]
 ·rw [if_pos (by omega),decide_eq_false (fun e=>hl (by rw [e]))]
def lT(s:Int):Prop:=0≤s∧s < 256
def eY(s:Int)(i:Nat):Prop:=s.toNat.testBit i=true
instance (s:Int) (i:Nat):Decidable (eY s i):=by unfold eY;infer_instance
theorem xe{x:Nat}(h:x < 256):IntKind.u8.wrap (x:Int)=x:=by
 have e:IntKind.u8.wrap (x:Int)=(x:Int) % 256:=by simp [IntKind.wrap,IntKind.signed,IntKind.bits]
 rw [e];omega
theorem oJ{s:Int}(h:lT s):∃n:Nat,n < 256∧s=n:=⟨s.toNat,by have:=h.1;have:=h.2;omega,by have:=h.1;omega⟩
theorem A8{n:Nat}(h:n < 256):(BitVec.ofInt IntKind.u8.bits (n:Int)).toNat=n:=by
 show(BitVec.ofInt 8 (n:Int)).toNat=n;rw [BitVec.ofInt_natCast,BitVec.toNat_ofNat];exact Nat.mod_eq_of_lt h
theorem GR{n m:Nat}(hn:n < 256)(hm:m < 256):n |||m < 256:=Nat.or_lt_two_pow (n:=8) hn hm
theorem I6{n m:Nat}(hn:n < 256):n &&& m < 256:=Nat.lt_of_le_of_lt Nat.and_le_left hn
theorem xN{a b:Int}(ha:lT a)(hb:lT b):lT (CS .u8 a b)∧∀i,eY (CS .u8 a b) i↔eY a i∨eY b i:=by
 obtain⟨n,hn,rfl⟩:=oJ ha;obtain⟨m,hm,rfl⟩:=oJ hb
 have e:CS .u8 (n:Int) (m:Int)=((n |||m:Nat):Int):=by
  unfold CS;rw [BitVec.toNat_or,A8 hn,A8 hm];exact xe (GR hn hm)
 rw [e];refine⟨⟨by omega,by have:=GR hn hm;omega⟩,fun i=>?_⟩;simp [eY,Nat.testBit_or]
theorem xp{x:Int}(h0:0≤x)(h8:x < 8):lT (my .u8 1 x)∧∀i:Nat,eY (my .u8 1 x) i↔(i:Int)=x:=by
 obtain⟨n,rfl⟩:=Int.eq_ofNat_of_zero_le h0;have hn:n < 8:=by omega
 have e:my .u8 1 (n:Int)=((2 ^ n:Nat):Int):=by
  unfold my
  have h1:min (Int.toNat (n:Int)) IntKind.u8.bits=n:=by
   show min n 8=n;omega
  rw [h1,Int.one_mul];have h2:2 ^ n < 256:=Nat.pow_lt_pow_right (by decide) hn;have h3:((2:Int) ^ n)=((2 ^ n:Nat):Int):=by simp
  rw [h3];exact xe h2
 rw [e];have h9:2 ^ n < 256:=Nat.pow_lt_pow_right (by decide) hn;refine⟨⟨Int.natCast_nonneg _,Int.ofNat_lt.2 h9⟩,fun i=>?_⟩;simp only [eY,Int.toNat_natCast,Nat.testBit_two_pow,decide_eq_true_eq];omega
theorem xQ{k:Nat}{s:Int}(hs:lT s){i:Nat}(hi:i < 8):dM k s (i:Int)=some (decide (eY s i)):=by
 obtain⟨n,hn,rfl⟩:=oJ hs;unfold dM;rw [eE,if_pos (by omega)];show some _=some _;congr 1
 have e1:ic .u8 (n:Int) (i:Int)=((n >>> i:Nat):Int):=by
  unfold ic
  have h1:min (Int.toNat (i:Int)) IntKind.u8.bits=i:=by
   show min i 8=i;omega
  have h3:((2:Int) ^ i)=((2 ^ i:Nat):Int):=by simp
  rw [h1,h3,Int.fdiv_eq_ediv_of_nonneg _ (Int.natCast_nonneg _),Nat.shiftRight_eq_div_pow];rfl
 have hlt:n >>> i < 256:=Nat.lt_of_le_of_lt (by rw [Nat.shiftRight_eq_div_pow];exact Nat.div_le_self _ _) hn
 have e2:vU .u8 ((n >>> i:Nat):Int) 1=(((n >>> i) &&& 1:Nat):Int):=by
  unfold vU;have h1:(BitVec.ofInt IntKind.u8.bits 1).toNat=1:=rfl;rw [BitVec.toNat_and,A8 hlt,h1];exact xe (I6 hlt)
 rw [e1,e2]
 have e3:(((n >>> i) &&& 1:Nat):Int)=1↔eY (n:Int) i:=by
  rw [eY,Int.toNat_natCast,Nat.testBit];have h5:(n >>> i) &&& 1=1 &&& (n >>> i):=Nat.and_comm _ _;rw [h5];have h4:1 &&& (n >>> i) < 2:=Nat.lt_of_le_of_lt Nat.and_le_left (by decide);simp only [bne_iff_ne,ne_eq];omega
 exact decide_eq_decide.2 e3
abbrev aV:=Int×(List (Int×(List Int)))×(List Int)
def DG(t:aV)(d n:Int):Bool:=match t.2.1[n.toNat]? with
 |some x=>decide (d∈x.2)
 |none=>false
def IU(w:Int→Bool)(l:List Int):List Int:=l.filter (fun n=> !w n)++l.filter w
def ji(w:Int→Bool):Bool→List Int→List Int
 |_,[]=>[]
 |u,n::l=>if w n then ji w true l else if u then n::ji w u l else ji w u l
theorem px{w:Int→Bool}{n:Int}:∀{l:List Int} {u:Bool},n∈ji w u l↔w n=false∧∃p s,l=p++n::s∧(u=true∨∃m∈p,w m=true)
 |[],u=>by simp [ji]
 |m::l,u=>by
  have cut:∀(u':Bool),(u'=true↔u=true∨w m=true)→((∃p s,m::l=p++n::s∧(u=true∨∃x∈p,w x=true))↔(m=n∧u=true)∨∃p s,l=p++n::s∧(u'=true∨∃x∈p,w x=true)):=fun u' hu=>by
   constructor
   ·
    rintro⟨p,s,e,h⟩
    cases p with
    |nil=>
     obtain⟨rfl,rfl⟩:=List.cons.inj e
     rcases h with h |⟨x,hx,_⟩
     ·
      exact .inl ⟨rfl,h⟩
     ·
      cases hx
    |cons y p=>
     obtain⟨rfl,rfl⟩:=List.cons.inj e
     refine .inr ⟨p,s,rfl,?_⟩
     rcases h with h |⟨x,hx,hw⟩
     ·
      exact .inl (hu.2 (.inl h))
     ·
      rcases List.mem_cons.1 hx with rfl |hx
      ·
       exact .inl (hu.2 (.inr hw))
      ·
       exact .inr ⟨x,hx,hw⟩
   ·
    rintro(⟨rfl,h⟩ |⟨p,s,rfl,h⟩)
    ·
     exact⟨[],l,rfl,.inl h⟩
    ·
     refine⟨m::p,s,rfl,?_⟩
     rcases h with h |⟨x,hx,hw⟩
     ·
      rcases hu.1 h with h |h
      ·
       exact .inl h
      ·
       exact .inr ⟨m,by simp,h⟩
     ·
      exact .inr ⟨x,by simp [hx],hw⟩
  rw [ji]
  cases hm:w m with
  |true=>
   rw [if_pos rfl,px,cut true (by simp [hm])]
   constructor
   ·
    rintro⟨h,h'⟩;exact⟨h,.inr h'⟩
   ·
    rintro⟨h,⟨rfl,_⟩ |h'⟩
    ·
     rw [hm] at h;cases h
    ·
     exact⟨h,h'⟩
  |false=>
   rw [if_neg (by simp)]
   have hc:=cut u (by simp [hm])
   cases u with
   |true=>
    rw [if_pos rfl,List.mem_cons,px,hc]
    constructor
    ·
     rintro(rfl |⟨h,h'⟩)
     ·
      exact⟨hm,.inl ⟨rfl,rfl⟩⟩
     ·
      exact⟨h,.inr h'⟩
    ·
     rintro⟨h,⟨rfl,_⟩ |h'⟩
     ·
      exact .inl rfl
     ·
      exact .inr ⟨h,h'⟩
   |false=>
    rw [if_neg (by simp),px,hc]
    simp
theorem lE{w:Int→Bool}{l:List Int}:(IU w l).Perm l:=by
 unfold IU;exact List.perm_append_comm.trans (List.filter_append_perm w l)
theorem wA{w:Int→Bool}{l:List Int}{u:Bool}{n:Int}(h:n∈ji w u l):n∈l:=by
 obtain⟨_,p,s,rfl,_⟩:=px.1 h;simp
theorem mH{k:Nat}{n a b:Int}:dY k n a b=some (decide (a≤n∧n≤b)):=by
 unfold dY;by_cases h:a≤n <;> simp [h]
def zX(days:Int)(l:List Int)(j:Nat)(x:Int):Except Int Unit:=
 if¬(0≤x∧x≤days - 1) then .error 1 else if 0 < j∧x≤l[j - 1]?.getD 0 then .error 5 else .ok ()
def lJ(days:Int)(x:Int×(List Int)):Except Int Unit:=
 if¬(1≤x.1∧x.1≤3) then .error 1 else bS (fun _ j y=>zX days x.2 j y) 0 x.2 ()
def nQ(n:Int):Except Int Unit:=if 0≤n∧n≤9 then .ok () else .error 1
def C5{α:Type}:Except Int α→Int
 | .error e=>e
 | .ok _=>0
def jF(t:aV):Int:=
 if¬(1≤t.1∧t.1≤6) then 1 else if 5 < t.2.1.length then 6 else
  match bS (fun _ _ x=>lJ t.1 x) 0 t.2.1 () with
  | .error e=>e
  | .ok _=>if t.2.2.length < 1 then 7 else if 3 < t.2.2.length then 6 else C5 (bS (fun _ _ n=>nQ n) 0 t.2.2 ())
structure jW(k:Nat)(t:aV):Prop where
 k1:k≤1000000
 things:t.2.1.length < k
 worn:∀x∈t.2.1,x.2.length < k
 trunks:t.2.2.length < k
section
variable {k:Nat}{t:aV}
theorem LF{l:List Int}{j:Nat}(h:j < l.length)(h0:0 < j):bf l ((j:Int) - 1)=some (l[j - 1]?.getD 0):=by
 have e:((j:Int) - 1).toNat=j - 1:=by omega
 rw [bf,if_pos (by omega),e,List.getElem?_eq_getElem (by omega)];rfl
theorem HH{x:Int×(List Int)}(hk:k≤1000000)(hx:x.2.length < k)(hd:1≤t.1∧t.1≤6):cO k t x k 0=some (bS (fun _ j y=>zX t.1 x.2 j y) 0 x.2 ()):=
 vd (f:=cO k t x) x.2 (fun(_:Unit) j=>j) (fun _ j y=>zX t.1 x.2 j y) (fun _ _=>True) (fun r=>some r)
  (fun n s j h _=>⟨by
   rw [cO,if_pos (Int.ofNat_lt.2 h),dD h,bs,cy (by omega) (by omega),bs,mH,bs]
   unfold zX
   by_cases c1:0≤x.2[j]∧x.2[j]≤t.1 - 1
   ·
    rw [decide_eq_true c1,nT,if_neg (not_not_intro c1)]
    by_cases c2:0 < j
    ·
     rw [if_pos (show(0:Int) < (j:Int) by omega),cy (by omega) (by omega),bs,LF h c2,bs,bs]
     by_cases c3:x.2[j]≤x.2[j - 1]?.getD 0
     ·
      rw [decide_eq_true c3,iT,if_pos (show 0 < j∧x.2[j]≤x.2[j - 1]?.getD 0 from⟨c2,c3⟩)]
     ·
      rw [decide_eq_false c3,iF,if_neg (show¬(0 < j∧x.2[j]≤x.2[j - 1]?.getD 0) from fun h=>c3 h.2),cy (by omega) (by omega),bs]
    ·
     rw [if_neg (show¬(0:Int) < (j:Int) by omega),bs,iF,if_neg (show¬(0 < j∧x.2[j]≤x.2[j - 1]?.getD 0) from fun h=>c2 h.1),cy (by omega) (by omega),bs]
   ·
    rw [decide_eq_false c1,nF,if_pos (show¬(0≤x.2[j]∧x.2[j]≤t.1 - 1) from c1)],fun _ _=>trivial⟩)
  (fun n s _=>by rw [cO,if_neg (by omega)]) (s0:=()) (n:=k) hx trivial
theorem Fq{x:Int×(List Int)}(hk:k≤1000000)(hx:x.2.length < k)(hd:1≤t.1∧t.1≤6):il k t x=some (C5 (lJ t.1 x)):=by
 unfold il lJ;rw [mH,bs,HH hk hx hd];by_cases c:1≤x.1∧x.1≤3
 ·rw [decide_eq_true c,nT,if_neg (not_not_intro c)];cases bS (fun _ j y=>zX t.1 x.2 j y) 0 x.2 () with
  |error e=>rw [tR];rfl
  |ok u=>rw [oa];rfl
 ·rw [decide_eq_false c,nF,if_pos (show¬(1≤x.1∧x.1≤3) from c)];rfl
theorem ko{α σ:Type}{g:σ→Nat→α→Except Int σ}(hg:∀s j x,g s j x≠.error 0):∀(l:List α) (j:Nat) (s:σ),bS g j l s≠.error 0
 |[],j,s=>by simp [bS]
 |x::l,j,s=>by
  rw [bS]
  cases h:g s j x with
  |error e=>intro h';rw [Except.error.inj h'] at h;exact hg _ _ _ h
  |ok s'=>exact ko hg l (j+1) s'
theorem zH{d:Int}{x:Int×(List Int)}:lJ d x≠.error 0:=by
 unfold lJ;split
 ·simp
 ·refine ko (fun s j y=>?_) _ _ _;unfold zX;split
  ·simp
  ·split <;> simp
theorem Et(h:jW k t)(hd:1≤t.1∧t.1≤6):ft k t k 0=some (bS (fun _ _ x=>lJ t.1 x) 0 t.2.1 ()):=
 vd (f:=ft k t) t.2.1 (fun(_:Unit) j=>j) (fun _ _ x=>lJ t.1 x) (fun _ _=>True) (fun r=>some r)
  (fun n s j hj _=>⟨by
   rw [ft,if_pos (Int.ofNat_lt.2 hj),dD hj,bs,Fq h.k1 (h.worn _ (List.getElem_mem hj)) hd,bs]
   have h0:=zH (d:=t.1) (x:=t.2.1[j])
   have h1:=h.things
   have h2:=h.k1
   cases e:lJ t.1 t.2.1[j] with
   |error e'=>rw [if_pos (show¬C5 (Except.error e':Except Int Unit)=0 from fun h=>h0 (by rw [e];exact congrArg _ h))];rfl
   |ok u=>rw [if_neg (show¬¬C5 (Except.ok u:Except Int Unit)=0 from fun h=>h rfl),cy (by omega) (by omega),bs],fun _ _=>trivial⟩)
  (fun n s _=>by rw [ft,if_neg (by omega)]) (s0:=()) (n:=k) h.things trivial
theorem D4(h:jW k t):fp k t k 0=some (bS (fun _ _ n=>nQ n) 0 t.2.2 ()):=
 vd (f:=fp k t) t.2.2 (fun(_:Unit) j=>j) (fun _ _ n=>nQ n) (fun _ _=>True) (fun r=>some r)
  (fun n s j hj _=>⟨by
   rw [fp,if_pos (Int.ofNat_lt.2 hj),dD hj,bs,mH,bs]
   have h1:=h.trunks
   have h2:=h.k1
   unfold nQ
   by_cases c:0≤t.2.2[j]∧t.2.2[j]≤9
   ·
    rw [decide_eq_true c,nT,if_pos c,cy (by omega) (by omega),bs]
   ·
    rw [decide_eq_false c,nF,if_neg c],fun _ _=>trivial⟩)
  (fun n s _=>by rw [fp,if_neg (by omega)]) (s0:=()) (n:=k) h.trunks trivial
theorem s8(h:jW k t):jL k t=some (jF t):=by
 unfold jL jF;rw [mH,bs];by_cases c:1≤t.1∧t.1≤6
 ·rw [decide_eq_true c,nT,if_neg (not_not_intro c),Et h c,D4 h];by_cases c1:5 < t.2.1.length
  ·rw [if_pos (show(5:Int) < (t.2.1.length:Int) by omega),if_pos c1]
  ·rw [if_neg (show¬(5:Int) < (t.2.1.length:Int) by omega),if_neg c1];cases bS (fun _ _ x=>lJ t.1 x) 0 t.2.1 () with
   |error e=>rw [tR]
   |ok u=>
    rw [oa];by_cases c2:t.2.2.length < 1
    ·rw [if_pos (by omega)];simp only [c2,if_true]
    ·rw [if_neg (by omega)];by_cases c3:3 < t.2.2.length
     ·rw [if_pos (by omega)];simp only [c2,c3,if_true,if_false]
     ·rw [if_neg (by omega)];simp only [c2,c3,if_false];cases bS (fun _ _ n=>nQ n) 0 t.2.2 () with
      |error e=>rw [tR];rfl
      |ok u=>rw [oa];rfl
 ·rw [decide_eq_false c,nF,if_pos (show¬(1≤t.1∧t.1≤6) from c)]
end
theorem sU{α:Type}{f:α→Except Int Unit}:∀{l:List α} {j:Nat},bS (fun(_:Unit) _ x=>f x) j l ()= .ok ()→∀x∈l,f x= .ok ()
 |[],_,_,_,h=>by cases h
 |y::l,j,h,x,hx=>by
  rw [bS] at h
  cases e:f y with
  |error e'=>rw [e] at h;cases h
  |ok u=>
   rw [e] at h
   rcases List.mem_cons.1 hx with rfl |hx
   ·
    exact e
   ·
    exact sU h x hx
structure jG(t:aV):Prop where
 days:1≤t.1∧t.1≤6
 things:t.2.1.length≤5
 sizes:∀x∈t.2.1,1≤x.1∧x.1≤3
 trunks:1≤t.2.2.length∧t.2.2.length≤3
 rooms:∀n∈t.2.2,0≤n∧n≤9
theorem nB{t:aV}(h:jF t=0):jG t:=by
 unfold jF at h;by_cases c:1≤t.1∧t.1≤6
 ·rw [if_neg (not_not_intro c)] at h;by_cases c1:5 < t.2.1.length
  ·rw [if_pos c1] at h;cases h
  ·rw [if_neg c1] at h;have h0:bS (fun(_:Unit) _ x=>lJ t.1 x) 0 t.2.1 ()≠.error 0:=ko (fun _ _ _=>zH) _ _ _;cases e:bS (fun(_:Unit) _ x=>lJ t.1 x) 0 t.2.1 () with
   |error e'=>rw [e] at h h0;exact absurd (congrArg _ h) h0
   |ok u=>
    rw [e] at h;have hi:=sU e;by_cases c2:t.2.2.length < 1
    ·simp only [c2,if_true] at h;cases h
    ·by_cases c3:3 < t.2.2.length
     ·simp only [c2,c3,if_true,if_false] at h;cases h
     ·simp only [c2,c3,if_false] at h;refine⟨c,by omega,fun x hx=>?_,by omega,?_⟩
      ·have:=hi x hx;unfold lJ at this;by_cases c4:1≤x.1∧x.1≤3
       ·exact c4
       ·rw [if_pos c4] at this;cases this
      ·have h1:bS (fun(_:Unit) _ n=>nQ n) 0 t.2.2 ()≠.error 0:=ko (fun _ _ n=>by unfold nQ;split <;> simp) _ _ _;cases e2:bS (fun(_:Unit) _ n=>nQ n) 0 t.2.2 () with
       |error e'=>rw [e2] at h h1;exact absurd (congrArg _ h) h1
       |ok u=>
        intro n hn
        have:=sU e2 n hn;unfold nQ at this;by_cases c5:0≤n∧n≤9
        ·exact c5
        ·rw [if_neg c5] at this;cases this
 ·rw [if_pos c] at h;cases h
def mT(n:Nat)(met:List Int)(x:Int):Except Int (List Int):=if¬(0≤x∧x≤(n:Int) - 1) then .error 3 else if x∈met then .error 4 else .ok (met++[x])
def eZ(t:aV)(x:Int):Int:=match t.2.1[x.toNat]? with |some y=>y.1 |none=>0
def cP(t:aV):List Int→Int
 |[]=>0
 |x::l=>eZ t x+cP t l
def ii(t:aV)(met:List Int)(i:Nat)(l:List Int):Except Int (List Int):=
 match bS (fun m _ x=>mT t.2.1.length m x) 0 l met with
 | .error e=>.error e
 | .ok m=>if t.2.2[i]?.getD 0 < cP t l then .error 12 else .ok m
def chkV(t:aV)(p:List (List Int)):Int:=
 if p.length < t.2.2.length then 7 else if t.2.2.length < p.length then 6 else
  match bS (ii t) 0 p [] with
  | .error e=>e
  | .ok m=>if m.length < t.2.1.length then 7 else 0
def pY(t:aV)(p:List (List Int)):Int:=if¬(jF t=0) then jF t else chkV t p
structure tG(n:Nat)(m:List Int):Prop where
 nd:m.Nodup
 rng:∀x∈m,0≤x∧x < (n:Int)
theorem tG.put{n:Nat}{m m':List Int}{x:Int}(h:tG n m)(e:mT n m x= .ok m'):m'=m++[x]∧tG n m'∧0≤x∧x < (n:Int):=by
 unfold mT at e;by_cases c:0≤x∧x≤(n:Int) - 1
 ·rw [if_neg (not_not_intro c)] at e;by_cases c1:x∈m
  ·rw [if_pos c1] at e;cases e
  ·rw [if_neg c1] at e;cases e;refine⟨rfl,⟨?_,fun y hy=>?_⟩,c.1,by omega⟩
   ·rw [List.nodup_append];exact⟨h.nd,by simp,fun a ha b hb=>by rw [List.mem_singleton] at hb;subst hb;exact fun e=>c1 (e▸ha)⟩
   ·rcases List.mem_append.1 hy with hy |hy
    ·exact h.rng y hy
    ·rw [List.mem_singleton] at hy;omega
 ·rw [if_pos c] at e;cases e
theorem tG.puts{n:Nat}:∀{l:List Int} {j:Nat} {m m':List Int},tG n m→bS (fun m _ x=>mT n m x) j l m= .ok m'→m'=m++l∧tG n m'∧∀x∈l,0≤x∧x < (n:Int)
 |[],_,m,m',h,e=>by simp only [bS] at e;cases e;exact⟨by simp,h,by simp⟩
 |x::l,j,m,m',h,e=>by
  rw [bS] at e
  cases e1:mT n m x with
  |error e'=>rw [e1] at e;cases e
  |ok m1=>
   rw [e1] at e
   obtain⟨rfl,h1,h2⟩:=h.put e1
   obtain⟨rfl,h3,h4⟩:=tG.puts h1 e
   refine⟨by simp,h3,fun y hy=>?_⟩
   rcases List.mem_cons.1 hy with rfl |hy
   ·
    exact h2
   ·
    exact h4 y hy
theorem uF:∀(n:Nat) (l:List Int),l.Nodup→(∀x∈l,0≤x∧x < (n:Int))→l.length≤n
 |0,l,_,h=>by
  cases l with
  |nil=>simp
  |cons x l=>have:=h x (by simp);omega
 |n+1,l,hn,h=>by
  have h1:=uF n (l.erase (n:Int)) (hn.erase _) (fun x hx=>by
   have h2:=(List.Nodup.mem_erase_iff hn).1 hx
   have:=h x h2.2
   have:=h2.1
   omega)
  have:l.length≤(l.erase (n:Int)).length+1:=by rw [List.length_erase];split <;> omega
  omega
theorem tG.len{n:Nat}{m:List Int}(h:tG n m):m.length≤n:=uF n m h.nd h.rng
theorem tG.full{n:Nat}{m:List Int}(h:tG n m):¬m.length < n↔∀i:Nat,i < n→(i:Int)∈m:=by
 constructor
 ·intro hl i hi;by_cases c:(i:Int)∈m
  ·exact c
  ·have:=uF n ((i:Int)::m) (List.nodup_cons.2 ⟨c,h.nd⟩) (fun x hx=>by
    rcases List.mem_cons.1 hx with rfl |hx
    ·omega
    ·exact h.rng x hx)
   simp only [List.length_cons] at this;omega
 ·intro ha hl
  have h1:((List.range n).map fun(i:Nat)=>(i:Int)).length≤m.length:=by
   have:∀(k:Nat) (q:List Int),(∀i:Nat,i < k→(i:Int)∈q)→k≤q.length:=by
    intro k
    induction k with
    |zero=>intros;omega
    |succ k ih=>
     intro q hq;have hk:=hq k (by omega);have h2:=ih (q.erase (k:Int)) (fun i hi=>(List.mem_erase_of_ne (by omega)).2 (hq i (by omega)));rw [List.length_erase,if_pos (by simpa using hk)] at h2;have:=List.length_pos_of_mem hk;omega
   have:=this n m ha;simpa using this
  simp at h1;omega
def gR(m:List Int):Int:=m.foldl (fun s x=>CS .u8 s (my .u8 1 x)) 0
theorem Br{m:List Int}{x:Int}:gR (m++[x])=CS .u8 (gR m) (my .u8 1 x):=by
 unfold gR;rw [List.foldl_append];rfl
theorem Bt{m:List Int}(h:∀x∈m,0≤x∧x < 8):∀(s:Int),lT s→lT (m.foldl (fun s x=>CS .u8 s (my .u8 1 x)) s)∧∀i:Nat,eY (m.foldl (fun s x=>CS .u8 s (my .u8 1 x)) s) i↔eY s i∨(i:Int)∈m:=by
 induction m with
 |nil=>intro s hs;exact⟨hs,fun i=>by simp⟩
 |cons x m ih=>
  intro s hs;have hx:=h x (by simp);obtain⟨o1,o2⟩:=xp hx.1 hx.2;obtain⟨p1,p2⟩:=xN hs o1;obtain⟨q1,q2⟩:=ih (fun y hy=>h y (by simp [hy])) _ p1;refine⟨q1,fun i=>?_⟩;rw [List.foldl_cons,q2,p2,o2,List.mem_cons,or_assoc]
theorem oK{m:List Int}(h:∀x∈m,0≤x∧x < 8):lT (gR m)∧∀i:Nat,eY (gR m) i↔(i:Int)∈m:=by
 obtain⟨a,b⟩:=Bt h 0 ⟨by decide,by decide⟩;exact⟨a,fun i=>by rw [gR,b];simp [eY]⟩
theorem zy{a b:Int}(ha:lT a)(hb:lT b)(h:∀i:Nat,eY a i↔eY b i):a=b:=by
 obtain⟨n,hn,rfl⟩:=oJ ha;obtain⟨m,hm,rfl⟩:=oJ hb;congr 1;refine Nat.eq_of_testBit_eq fun i=>?_;have:=h i;simp only [eY,Int.toNat_natCast] at this;exact Bool.eq_iff_iff.2 this
theorem Js:∀n:Nat,n≤5→lT (IntKind.u8.wrap ((my .u8 1 (n:Int)) - 1))∧∀i:Nat,eY (IntKind.u8.wrap ((my .u8 1 (n:Int)) - 1)) i↔i < n:=by
 have h1:∀n:Nat,n≤5→IntKind.u8.wrap ((my .u8 1 (n:Int)) - 1)=((2 ^ n - 1:Nat):Int):=by decide
 intro n hn
 rw [h1 n hn];have h2:2 ^ n≤32:=Nat.pow_le_pow_right (by decide) hn;refine⟨⟨by omega,by omega⟩,fun i=>?_⟩;simp only [eY,Int.toNat_natCast,Nat.testBit_two_pow_sub_one,decide_eq_true_eq]
theorem zO{n:Nat}{m:List Int}(hn:n≤5)(h:tG n m):gR m=IntKind.u8.wrap ((my .u8 1 (n:Int)) - 1)↔¬m.length < n:=by
 have h8:∀x∈m,0≤x∧x < 8:=fun x hx=>by have:=h.rng x hx;omega
 obtain⟨a,b⟩:=oK h8;obtain⟨c,d⟩:=Js n hn;rw [h.full];constructor
 ·intro e i hi;rw [←b,e,d];exact hi
 ·intro hi;refine zy a c fun i=>?_;rw [b,d];refine⟨fun hm=>?_,hi i⟩;have:=h.rng _ hm;omega
section
variable {k:Nat}{t:aV}
theorem yL{x:Int}(h0:0≤x)(h:x < (t.2.1.length:Int)):∃y,bf t.2.1 x=some y∧y∈t.2.1∧eZ t x=y.1:=by
 have hx:x.toNat < t.2.1.length:=by omega
 refine⟨t.2.1[x.toNat],Jf h0 hx,List.getElem_mem hx,?_⟩;rw [eZ,List.getElem?_eq_getElem hx]
theorem qo(g:jG t){x:Int}:0≤eZ t x∧eZ t x≤3:=by
 unfold eZ;cases h:t.2.1[x.toNat]? with
 |none=>simp
 |some y=>have:=g.sizes y (List.mem_of_getElem? h);simp only;omega
theorem mS(g:jG t):∀{l:List Int},0≤cP t l∧cP t l≤3 * (l.length:Int)
 |[]=>by simp [cP]
 |x::l=>by have:=qo g (x:=x);have:=mS g (l:=l);simp only [cP,List.length_cons];omega
theorem sx{l l':List Int}:cP t (l++l')=cP t l+cP t l':=by
 induction l with
 |nil=>simp [cP]
 |cons x l ih=>simp only [List.cons_append,cP,ih];omega
theorem Ci(g:jG t)(hk1:k≤1000000){l:List Int}(hl:l.length < k)(hx:∀x∈l,0≤x∧x < (t.2.1.length:Int)):mM k t l=some (cP t l):=by
 unfold mM
 have:=zP (f:=gf k t l) l (fun(s:Int) j=>(s,j)) (fun s _ x=>s+eZ t x) (fun j s=>s=cP t (l.take j)) (fun s=>some s)
  (fun n s j h hp=>by
   have hm:=hx _ (List.getElem_mem h);obtain⟨y,h1,h2,h3⟩:=yL hm.1 hm.2;have hs:=mS g (l:=l.take j);have ho:=qo g (x:=l[j]);rw [List.length_take] at hs;refine⟨?_,?_⟩
   ·rw [gf,if_pos (Int.ofNat_lt.2 h)];dsimp only;rw [dD h,bs,h1,bs,←h3,cy (by omega) (by omega),bs,cy (by omega) (by omega),bs]
   ·rw [List.take_add_one,List.getElem?_eq_getElem h,hp,Option.toList_some,sx];simp [cP])
  (fun n s _=>by rw [gf,if_neg (by omega)]) (s0:=0) (n:=k) hl (by simp [cP])
 obtain⟨h1,h2⟩:=this;rw [show gf k t l k (0,0)=_ from h1,bs,h2,List.take_length]
def sb(e:Int):Value:=.iface 118 (.agg #[.int .i64 e])
def RQ(e:Int):Value:=if e=0 then .nilIface else sb e
theorem FW{e:Int}(h:¬e=0):RQ e=sb e:=if_neg h
theorem II(g:jG t)(hk1:k≤1000000){l m:List Int}(hl:l.length < k)(hm:tG t.2.1.length m):
 eB k t l k (gR m,0)=match bS (fun m _ x=>mT t.2.1.length m x) 0 l m with | .error e=>some (.error (sb e)) | .ok m'=>some (.ok (gR m')):=
 vd (f:=eB k t l) l (fun m j=>(gR m,j)) (fun m _ x=>mT t.2.1.length m x) (fun _ m=>tG t.2.1.length m) (fun r=>match r with | .error e=>some (.error (sb e)) | .ok m'=>some (.ok (gR m')))
  (fun n m j h hm=>⟨by
   have h5:=g.things
   rw [eB,if_pos (Int.ofNat_lt.2 h)]
   dsimp only
   rw [dD h,bs,cy (by omega) (by omega),bs,mH,bs]
   unfold mT
   by_cases c:0≤l[j]∧l[j]≤(t.2.1.length:Int) - 1
   ·
    rw [decide_eq_true c,nT,if_neg (not_not_intro c)]
    obtain⟨i,hi⟩:=Int.eq_ofNat_of_zero_le c.1
    have h8:∀x∈m,0≤x∧x < 8:=fun x hx=>by have:=hm.rng x hx;omega
    obtain⟨a,b⟩:=oK h8
    rw [hi,xQ a (by omega),bs]
    have hb:=b i
    by_cases c1:(i:Int)∈m
    ·
     rw [decide_eq_true (hb.2 c1),iT,if_pos c1];rfl
    ·
     rw [decide_eq_false (fun h=>c1 (hb.1 h)),iF,if_neg c1]
     unfold dI
     rw [dz (by omega),bs,bs,cy (by omega) (by omega),bs]
     show _=eB k t l n (gR (m++[(i:Int)]),(j:Int)+1)
     rw [Br]
   ·
    rw [decide_eq_false c,nF,if_pos (show¬(0≤l[j]∧l[j]≤(t.2.1.length:Int) - 1) from c)];rfl,fun m' e=>(hm.put e).2.1⟩)
  (fun n m _=>by rw [eB,if_neg (by omega)]) (s0:=m) (n:=k) hl hm
theorem AP(g:jG t)(hk1:k≤1000000){p:List (List Int)}(hp:p.length=t.2.2.length)(hpk:p.length < k)(hl:∀l∈p,l.length < k):
 fo k t p k (0,0)=match bS (ii t) 0 p [] with | .error e=>some (.error (sb e)) | .ok m'=>some (.ok (gR m')):=
 vd (f:=fo k t p) p (fun m j=>(gR m,j)) (ii t) (fun _ m=>tG t.2.1.length m) (fun r=>match r with | .error e=>some (.error (sb e)) | .ok m'=>some (.ok (gR m')))
  (fun n m j h hm=>by
   refine⟨?_,fun m' e=>?_⟩
   ·
    rw [fo,if_pos (Int.ofNat_lt.2 h)]
    dsimp only
    rw [dD h,bs,II g hk1 (hl _ (List.getElem_mem h)) hm]
    unfold ii
    cases e:bS (fun m _ x=>mT t.2.1.length m x) 0 p[j] m with
    |error e'=>dsimp only;rw [tR,tR]
    |ok m'=>
     obtain⟨_,_,h3⟩:=hm.puts e
     have hj:j < t.2.2.length:=by omega
     dsimp only
     rw [oa,Ci g hk1 (hl _ (List.getElem_mem h)) h3,bs,dD hj,bs]
     have e2:t.2.2[j]?.getD 0=t.2.2[j]:=by rw [List.getElem?_eq_getElem hj];rfl
     rw [e2]
     by_cases c:t.2.2[j] < cP t p[j]
     ·
      rw [if_pos c,if_pos c,tR];rfl
     ·
      rw [if_neg c,if_neg c,oa,cy (by omega) (by omega),bs]
   ·
    unfold ii at e
    cases e1:bS (fun m _ x=>mT t.2.1.length m x) 0 p[j] m with
    |error e'=>rw [e1] at e;cases e
    |ok m1=>
     rw [e1] at e
     dsimp only at e
     split at e
     ·
      cases e
     ·
      cases e;exact(hm.puts e1).2.1)
  (fun n m _=>by rw [fo,if_neg (by omega)]) (s0:=[]) (n:=k) hpk ⟨by simp,by simp⟩
theorem CO{p:List (List Int)}{m':List Int}:∀{j:Nat} {m:List Int},tG t.2.1.length m→bS (ii t) j p m= .ok m'→m'=m++p.flatten∧tG t.2.1.length m'∧∀i (h:i < p.length),(∀x∈p[i],0≤x∧x < (t.2.1.length:Int))∧cP t p[i]≤t.2.2[j+i]?.getD 0:=by
 induction p with
 |nil=>intro j m hm e;simp only [bS] at e;cases e;exact⟨by simp,hm,fun i h=>by simp at h⟩
 |cons l p ih=>
  intro j m hm e;rw [bS] at e;cases e1:ii t m j l with
  |error e'=>rw [e1] at e;cases e
  |ok m1=>
   rw [e1] at e;unfold ii at e1;cases e2:bS (fun m _ x=>mT t.2.1.length m x) 0 l m with
   |error e'=>rw [e2] at e1;cases e1
   |ok m2=>
    rw [e2] at e1;dsimp only at e1;split at e1
    ·cases e1
    ·rename_i hs;cases e1;obtain⟨rfl,h3,h4⟩:=hm.puts e2;obtain⟨h5,h6,h7⟩:=ih h3 e;refine⟨by rw [h5];simp,h6,fun i hi=>?_⟩;cases i with
     |zero=>exact⟨h4,by simp only [List.getElem_cons_zero,Nat.add_zero];omega⟩
     |succ i=>
      have:=h7 i (by simpa using hi);have e3:j+1+i=j+(i+1):=by omega
      rw [e3] at this;exact this
theorem DK(g:jG t)(hk1:k≤1000000){p:List (List Int)}(hpk:3 < k)(hl:∀l∈p,l.length < k):
 kV k t p=some (RQ (chkV t p)):=by
 unfold kV chkV
 by_cases c1:p.length < t.2.2.length
 ·
  rw [if_pos (show(p.length:Int) < (t.2.2.length:Int) by omega),if_pos c1];rfl
 ·
  rw [if_neg (show¬(p.length:Int) < (t.2.2.length:Int) by omega),if_neg c1];by_cases c2:t.2.2.length < p.length
  ·rw [if_pos (show(t.2.2.length:Int) < (p.length:Int) by omega),if_pos c2];rfl
  ·rw [if_neg (show¬(t.2.2.length:Int) < (p.length:Int) by omega),if_neg c2,AP g hk1 (by omega) (by have:=g.trunks;omega) hl]
   have hne:bS (ii t) 0 p []≠.error 0:=ko (fun m j l=>by
    unfold ii;have:=ko (g:=fun m _ x=>mT t.2.1.length m x) (fun m _ x=>by unfold mT;split;(· simp);(· split <;> simp)) l 0 m;cases e:bS (fun m _ x=>mT t.2.1.length m x) 0 l m with
    |error e'=>intro h;rw [e] at this;exact this h
    |ok m'=>dsimp only;split <;> simp) _ _ _
   cases e:bS (ii t) 0 p [] with
   |error e'=>
    rw [e] at hne;have h0:¬e'=0:=fun h=>hne (by rw [h]);dsimp only;rw [tR,FW h0]
   |ok m=>
    obtain⟨_,h3,_⟩:=CO (t:=t) ⟨by simp,by simp⟩ e;dsimp only;rw [oa,dz (by omega),bs];have:=zO g.things h3;by_cases c3:m.length < t.2.1.length
    ·rw [if_pos (show¬gR m=_ from fun h=>this.1 h c3),if_pos c3];rfl
    ·rw [if_neg (show¬¬gR m=_ from fun h=>h (this.2 c3)),if_neg c3];rfl
theorem BP(h:jW k t)(hpk:3 < k){p:List (List Int)}(hl:∀l∈p,l.length < k):cK k t p=some (pY t p):=by
 unfold cK pY;rw [s8 h,bs];by_cases c:jF t=0
 ·have g:=nB c;rw [if_neg (not_not_intro c),if_neg (not_not_intro c),DK g h.k1 hpk hl,bs];by_cases c1:chkV t p=0
  ·rw [c1];rfl
  ·rw [FW c1];rfl
 ·rw [if_pos c,if_pos c]
end
section
variable {k:Nat}{t:aV}
structure gi(t:aV)(p:List (List Int)):Prop where
 g:jG t
 len:p.length=t.2.2.length
 nd:p.flatten.Nodup
 rng:∀x∈p.flatten,0≤x∧x < (t.2.1.length:Int)
 all:∀i:Nat,i < t.2.1.length→(i:Int)∈p.flatten
 room:∀i (h:i < p.length),cP t p[i]≤t.2.2[i]?.getD 0
theorem zK{p:List (List Int)}(h:pY t p=0):gi t p:=by
 unfold pY at h;by_cases c:jF t=0
 ·rw [if_neg (not_not_intro c)] at h;have g:=nB c;unfold chkV at h;by_cases c1:p.length < t.2.2.length
  ·rw [if_pos c1] at h;cases h
  ·rw [if_neg c1] at h;by_cases c2:t.2.2.length < p.length
   ·rw [if_pos c2] at h;cases h
   ·rw [if_neg c2] at h;cases e:bS (ii t) 0 p [] with
    |error e'=>
     exfalso;rw [e] at h
     have hne:bS (ii t) 0 p []≠.error 0:=ko (fun m j l=>by
      unfold ii;have:=ko (g:=fun m _ x=>mT t.2.1.length m x) (fun m _ x=>by unfold mT;split;(· simp);(· split <;> simp)) l 0 m;cases e:bS (fun m _ x=>mT t.2.1.length m x) 0 l m with
      |error e'=>intro h;rw [e] at this;exact this h
      |ok m'=>dsimp only;split <;> simp) _ _ _
     rw [e] at hne;exact hne (congrArg _ h)
    |ok m=>
     rw [e] at h;obtain⟨h3,h4,h5⟩:=CO (t:=t) ⟨by simp,by simp⟩ e;rw [List.nil_append] at h3;subst h3;by_cases c3:p.flatten.length < t.2.1.length
     ·simp only [c3,if_true] at h;cases h
     ·exact⟨g,by omega,h4.nd,h4.rng,h4.full.1 c3,fun i hi=>by have:=(h5 i hi).2;rw [Nat.zero_add] at this;exact this⟩
 ·rw [if_pos c] at h;exact absurd h c
end
theorem Lo.mono{l:cQ}{m n:Int}(h:Lo l m)(hn:m≤n):Lo l n:=⟨h.1,Int.le_trans h.2 hn⟩
theorem KQ{α:Type}{l:List α}{x:α}{n:Nat}(h:l.length≤n)(hn:n≤1000000):bX (List.length l+List.length [x]):=by
 show List.length l+List.length [x]≤4294967296;simp only [List.length_cons,List.length_nil];omega
structure Ar(t:aV)(things trunks:Int):Prop where
 days:1≤t.1∧t.1≤4
 things:(t.2.1.length:Int)≤things
 item:∀x∈t.2.1,1≤x.1∧x.1≤3∧x.2.length≤4∧(∀d∈x.2,0≤d∧d < t.1)∧x.2.Pairwise (· < ·)
 trunks:1≤t.2.2.length∧(t.2.2.length:Int)≤trunks
 rooms:∀n∈t.2.2,0≤n∧n≤9
theorem xO{a b:Int}(ha:0≤a)(hb:0≤b):0≤pQ a b∧pQ a b≤a:=by
 unfold pQ;split <;> omega
section
variable {k:Nat}
theorem Iq(hk:50≤k){r2:Int×cQ}(hd:1≤r2.1∧r2.1≤4){l:cQ}{m:Int}(hl:Lo l m)(hm:0≤m∧m≤1000):
 W (eM k r2 k (l.1,l.2.1,l.2.2,[],0)) fun r=>Lo (r.1,r.2.1,r.2.2.1) (m+4)∧r.2.2.2.length≤4∧(∀d∈r.2.2.2,0≤d∧d < r2.1)∧r.2.2.2.Pairwise (· < ·):=by
 refine W.loop (f:=eM k r2) (fun q y=>∃j:Nat,y.2.2.2.2=(j:Int)∧(j:Int)≤r2.1∧q=r2.1.toNat - j∧Lo (y.1,y.2.1,y.2.2.1) (m+j)∧y.2.2.2.1.length≤j∧(∀d∈y.2.2.2.1,0≤d∧d < (j:Int))∧y.2.2.2.1.Pairwise (· < ·)) ?_ r2.1.toNat k _ (by omega)
  ⟨0,rfl,by omega,by omega,by simpa using hl,by simp,by simp,by simp⟩
 rintro aO q ⟨a,b,c,o,y⟩ ⟨j,hj,hle,hq,hlo,hlen,hr,hpw⟩ ih
 simp only at hj hlo hlen hr hpw
 subst hj
 unfold eM
 dsimp only
 refine W.ite (fun hlt=>?_) (fun hge=>W.ret ⟨hlo.mono (by omega),by show o.length≤4;omega,fun d hd'=>by have:=hr d hd';omega,hpw⟩)
 obtain⟨r,er,hr'⟩:=CC (k:=k) (a:=2) hlo (by omega) (by decide) (by decide)
 rw [er,bs]
 cases hb:r.1 with
 |true=>
  rw [iT,dz (KQ hlen (by omega)),bs,bs,cy (by omega) (by omega),bs]
  exact ih (q - 1) _ (by omega) ⟨j+1,by show(j:Int)+1=((j+1:Nat):Int);omega,by omega,by omega,hr'.mono (by omega),by simp only [List.length_append,List.length_cons,List.length_nil];omega,fun d hd'=>by
   rcases List.mem_append.1 hd' with h |h
   ·have:=hr d h;omega
   ·rw [List.mem_singleton] at h;omega,by
   refine List.pairwise_append.2 ⟨hpw,by simp,fun a ha b hb=>?_⟩;rw [List.mem_singleton] at hb;have:=hr a ha;omega⟩
 |false=>
  rw [iF,bs,cy (by omega) (by omega),bs];exact ih (q - 1) _ (by omega) ⟨j+1,by show(j:Int)+1=((j+1:Nat):Int);omega,by omega,by omega,hr'.mono (by omega),by simp only;omega,fun d hd'=>by have:=hr d hd';omega,hpw⟩
theorem DT(hk:50≤k){r2:Int×cQ}(hd:1≤r2.1∧r2.1≤4){l:cQ}{m:Int}(hl:Lo l m)(hm:0≤m∧m≤100){n:Nat}(hn:n≤8):
 W (eN k r2 k (l.1,l.2.1,l.2.2,[],0,(n:Int))) fun r=>Lo (r.1,r.2.1,r.2.2.1) (m+50)∧r.2.2.2.1.length=n∧(∀x∈r.2.2.2.1,1≤x.1∧x.1≤3∧x.2.length≤4∧(∀d∈x.2,0≤d∧d < r2.1)∧x.2.Pairwise (· < ·))∧0≤r.2.2.2.2∧r.2.2.2.2≤30:=by
 refine W.loop (f:=eN k r2) (fun q y=>∃j:Nat,y.2.2.2.2.2=(n:Int) - (j:Int)∧j≤n∧q=n - j∧Lo (y.1,y.2.1,y.2.2.1) (m+5 * j)∧y.2.2.2.1.length=j∧(∀x∈y.2.2.2.1,1≤x.1∧x.1≤3∧x.2.length≤4∧(∀d∈x.2,0≤d∧d < r2.1)∧x.2.Pairwise (· < ·))∧0≤y.2.2.2.2.1∧y.2.2.2.2.1≤3 * j) ?_ n k _ (by omega)
  ⟨0,by simp,by omega,by omega,by simpa using hl,rfl,by simp,by simp,by simp⟩
 rintro aO q ⟨a,b,c,o,s,y⟩ ⟨j,hj,hle,hq,hlo,hlen,hx,hs0,hs1⟩ ih
 simp only at hj hlo hlen hx hs0 hs1
 subst hj
 unfold eN
 dsimp only
 refine W.ite (fun hlt=>?_) (fun hge=>W.ret ⟨hlo.mono (by omega),by show o.length=n;omega,hx,hs0,by show s≤30;omega⟩)
 obtain⟨r,er,hm1,hr⟩:=KR (k:=k) (some_:=[1,1,1,2,3]) hlo (by omega) (by decide) (by decide)
 have hr3:1≤r.1∧r.1≤3:=by simp only [List.mem_cons,List.not_mem_nil,or_false] at hm1;omega
 rw [er,bs]
 obtain⟨w,ew,hw1,hw2,hw3,hw4⟩:=Iq hk hd (l:=r.2) hr (by omega)
 rw [show eM k r2 k (r.2.1,r.2.2.1,r.2.2.2,[],0)=some w from ew,bs,dz (KQ (n:=8) (by omega) (by omega)),bs,cy (by omega) (by omega),bs,bs,cy (by omega) (by omega),bs]
 refine ih (q - 1) _ (by omega) ⟨j+1,by show(n:Int) - (j:Int) - 1=(n:Int) - ((j+1:Nat):Int);omega,by omega,by omega,hw1.mono (by omega),by simp only [List.length_append,List.length_cons,List.length_nil];omega,fun x hx'=>?_,by show 0≤s+r.1;omega,by show s+r.1≤3 * ((j+1:Nat):Int);omega⟩
 rcases List.mem_append.1 hx' with h |h
 ·
  exact hx x h
 ·
  rw [List.mem_singleton] at h;subst h;exact⟨hr3.1,hr3.2,hw2,hw3,hw4⟩
theorem DO(hk:50≤k){x4:(List Int)×Int×Int×(List jp)×Int}(hs:0≤x4.2.2.2.2∧x4.2.2.2.2≤30){l:cQ}{m:Int}(hl:Lo l m)(hm:0≤m∧m≤200){n:Nat}(hn:n≤8):
 W (eK k x4 k (l.1,l.2.1,l.2.2,[],(n:Int))) fun r=>Lo (r.1,r.2.1,r.2.2.1) (m+10)∧r.2.2.2.length=n∧(∀x∈r.2.2.2,0≤x∧x≤9):=by
 refine W.loop (f:=eK k x4) (fun q y=>∃j:Nat,y.2.2.2.2=(n:Int) - (j:Int)∧j≤n∧q=n - j∧Lo (y.1,y.2.1,y.2.2.1) (m+j)∧y.2.2.2.1.length=j∧(∀x∈y.2.2.2.1,0≤x∧x≤9)) ?_ n k _ (by omega)
  ⟨0,by simp,by omega,by omega,by simpa using hl,rfl,by simp⟩
 rintro aO q ⟨a,b,c,o,y⟩ ⟨j,hj,hle,hq,hlo,hlen,hx⟩ ih
 simp only at hj hlo hlen hx
 subst hj
 unfold eK
 dsimp only
 refine W.ite (fun hlt=>?_) (fun hge=>W.ret ⟨hlo.mono (by omega),by show o.length=n;omega,hx⟩)
 rw [cy (by omega) (by omega),bs]
 obtain⟨r,er,hm1,hr⟩:=KR (k:=k) (some_:=[1,2,3,pQ 9 x4.2.2.2.2,pQ 9 (x4.2.2.2.2+1)]) hlo (by omega) (by simp) (by simp)
 have i1:=xO (a:=9) (b:=x4.2.2.2.2) (by decide) hs.1
 have i2:=xO (a:=9) (b:=x4.2.2.2.2+1) (by decide) (by omega)
 have hr3:0≤r.1∧r.1≤9:=by simp only [List.mem_cons,List.not_mem_nil,or_false] at hm1;omega
 rw [er,bs,dz (KQ (n:=8) (by omega) (by omega)),bs,cy (by omega) (by omega),bs]
 refine ih (q - 1) _ (by omega) ⟨j+1,by show(n:Int) - (j:Int) - 1=(n:Int) - ((j+1:Nat):Int);omega,by omega,by omega,hr.mono (by omega),by simp only [List.length_append,List.length_cons,List.length_nil];omega,fun x hx'=>?_⟩
 rcases List.mem_append.1 hx' with h |h
 ·
  exact hx x h
 ·
  rw [List.mem_singleton] at h;subst h;exact hr3
theorem IA(hk:50≤k){l:cQ}{m:Int}(hl:Lo l m)(hm:0≤m∧m≤50){a b:Nat}(ha:a≤8)(hb:1≤b∧b≤8):
 W (jQ k l (a:Int) (b:Int)) fun r=>Ar r.1 a b∧Lo r.2 (m+100):=by
 unfold jQ
 obtain⟨r,er,h1,h2,h3⟩:=G5 (k:=k) (a:=1) (b:=4) hl (by omega) (by decide) (by decide) (by decide)
 rw [show eO k (l.1,l.2.1,l.2.2) 1 4=some r from er,bs]
 obtain⟨r6,e6,h61,h62,h63⟩:=G5 (k:=k) (a:=0) (b:=(a:Int)) h3 (by omega) (by decide) (by omega) (by omega)
 rw [show eO k (r.2.1,r.2.2.1,r.2.2.2) 0 (a:Int)=some r6 from e6,bs]
 obtain⟨n,hn⟩:=Int.eq_ofNat_of_zero_le h61
 obtain⟨x4,e4,hl4,hlen4,hit,hs0,hs1⟩:=DT hk (r2:=r) ⟨h1,h2⟩ h63 (by omega) (n:=n) (by omega)
 rw [show eN k r k (r6.2.1,r6.2.2.1,r6.2.2.2,[],0,r6.1)=some x4 by rw [hn];exact e4,bs]
 obtain⟨r31,e31,h311,h312,h313⟩:=G5 (k:=k) (a:=1) (b:=(b:Int)) hl4 (by omega) (by decide) (by omega) (by omega)
 rw [show eO k (x4.1,x4.2.1,x4.2.2.1) 1 (b:Int)=some r31 from e31,bs]
 obtain⟨n3,hn3⟩:=Int.eq_ofNat_of_zero_le (show 0≤r31.1 by omega)
 obtain⟨x29,e29,hl29,hlen29,hroom⟩:=DO hk (x4:=x4) ⟨hs0,hs1⟩ h313 (by omega) (n:=n3) (by omega)
 rw [show eK k x4 k (r31.2.1,r31.2.2.1,r31.2.2.2,[],r31.1)=some x29 by rw [hn3];exact e29,bs]
 obtain⟨r42,e42,h42⟩:=CC (k:=k) (a:=2) hl29 (by omega) (by decide) (by decide)
 rw [show fK k (x29.1,x29.2.1,x29.2.2.1) 2=some r42 from e42,bs]
 cases hb:r42.1 with
 |true=>
  have i1:=xO (a:=9) (b:=x4.2.2.2.2) (by decide) hs0;rw [iT,show bf x29.2.2.2 0=some (x29.2.2.2[0]'(by omega)) from dD (i:=0) (by omega),bs,bs];refine W.ret ⟨⟨⟨h1,h2⟩,by show(x4.2.2.2.1.length:Int)≤_;omega,hit,by simp only [List.length_set];omega,fun y hy=>?_⟩,h42.mono (by omega)⟩;rcases List.mem_or_eq_of_mem_set hy with h |h
  ·exact hroom y h
  ·omega
 |false=>
  rw [iF,bs];exact W.ret ⟨⟨⟨h1,h2⟩,by show(x4.2.2.2.1.length:Int)≤_;omega,hit,by simp only;omega,hroom⟩,h42.mono (by omega)⟩
theorem pA{α:Type}{g:Nat→α→Except Int Unit}:∀(l:List α) (i:Nat),(∀(j:Nat) (h:j < l.length),g (i+j) l[j]= .ok ())→bS (fun(_:Unit) j x=>g j x) i l ()= .ok ()
 |[],_,_=>rfl
 |x::l,i,h=>by
  have h0:g i x= .ok ():=h 0 (by simp)
  rw [bS,h0]
  exact pA l (i+1) fun j hj=>by
   have:=h (j+1) (by simp;omega)
   rw [show i+1+j=i+(j+1) by omega]
   exact this
theorem Ar.chk{t:aV}{a b:Int}(h:Ar t a b)(ha:a≤5)(hb:b≤3):jF t=0:=by
 have h1:=h.days;have h2:=h.things;have h3:=h.trunks;unfold jF
 rw [if_neg (not_not_intro (show 1≤t.1∧t.1≤6 by omega)),if_neg (show¬5 < t.2.1.length by omega),pA (g:=fun _ x=>lJ t.1 x) t.2.1 0 (fun j hj=>by
  obtain⟨a1,a2,_,a4,a5⟩:=h.item _ (List.getElem_mem hj);show lJ t.1 t.2.1[j]= .ok ();unfold lJ;rw [if_neg (not_not_intro ⟨a1,a2⟩)];refine pA (g:=fun i y=>zX t.1 t.2.1[j].2 i y) _ 0 (fun i hi=>?_);have hd:=a4 _ (List.getElem_mem hi);rw [Nat.zero_add];unfold zX;rw [if_neg (not_not_intro (show 0≤t.2.1[j].2[i]∧t.2.1[j].2[i]≤t.1 - 1 by omega)),if_neg];rintro⟨h0,hle⟩;have:=List.pairwise_iff_getElem.1 a5 (i - 1) i (by omega) hi (by omega);rw [List.getElem?_eq_getElem (show i - 1 < t.2.1[j].2.length by omega),Option.getD_some] at hle;omega)]
 simp only [show¬t.2.2.length < 1 by omega,show¬3 < t.2.2.length by omega,if_false]
 rw [pA (g:=fun _ n=>nQ n) t.2.2 0 (fun j hj=>by
  have:=h.rooms _ (List.getElem_mem hj);show nQ t.2.2[j]= .ok ();unfold nQ;rw [if_pos this])]
 rfl
end
section
variable {k:Nat}
structure Pk(N i:Nat)(room:List Int)(out:List (List Int)):Prop where
 rl:room.length=N
 ol:out.length=N
 rr:∀x∈room, -3 * (i:Int)≤x∧x≤9
 oo:∀l∈out,l.length≤i
theorem Pk.next{N i:Nat}{room:List Int}{out:List (List Int)}(h:Pk N i room out):Pk N (i+1) room out:=
 ⟨h.rl,h.ol,fun x hx=>by have:=h.rr x hx;omega,fun l hl=>by have:=h.oo l hl;omega⟩
structure Dw(t:aV)(p:List (List Int))(a:Int):Prop where
 kit:Ar t a 3
 len:p.length=t.2.2.length
 short:∀l∈p,l.length≤8
theorem Dw.small{t:aV}{p:List (List Int)}{a:Nat}(h:Dw t p a)(hk:50≤k)(hk1:k≤1000000)(ha:a≤8):jW k t:=
 ⟨hk1,by have:=h.kit.things;omega,fun x hx=>by have:=h.kit.item x hx;omega,by have:=h.kit.trunks;omega⟩
end
def zJ(l:List Int)(x:Int):Int:=match l.findIdx? (fun y=>decide (y=x)) with
 |some i=>(i:Int)
 |none=> -1
theorem xP{l:List Int}{x:Int}:0≤zJ l x↔x∈l:=by
 unfold zJ;cases h:l.findIdx? (fun y=>decide (y=x)) with
 |none=>
  rw [List.findIdx?_eq_none_iff] at h;constructor
  ·intro h0;simp only at h0;omega
  ·intro hx;have:=h x hx;simp at this
 |some i=>
  rw [List.findIdx?_eq_some_iff_getElem] at h;obtain⟨hi,h1,_⟩:=h;have:l[i]=x:=by simpa using h1
  exact⟨fun _=>this▸List.getElem_mem hi,fun _=>by simp only;omega⟩
section
variable {k:Nat}
theorem zS{l:List Int}{x:Int}:K.bE (some (bS (fun(_:Unit) j y=>if decide (y=x) then Except.error (j:Int) else .ok ()) 0 l ())) some (fun _=>some (-1))=some (zJ l x):=by
 rw [vf];unfold zJ;cases l.findIdx? (fun y=>decide (y=x)) with
 |none=>exact oa
 |some i=>exact tR
theorem P4{l:List Int}{x:Int}(hk:l.length < k)(hk1:k≤1000000):uW k l x=some (zJ l x):=by
 unfold uW
 have:=vd (f:=jm k l x) l (fun(_:Unit) j=>j) (fun _ j y=>if decide (y=x) then Except.error (j:Int) else .ok ()) (fun _ _=>True) (fun r=>some r)
  (fun n s j h _=>⟨by
   rw [jm,if_pos (Int.ofNat_lt.2 h),dD h,bs];by_cases c:l[j]=x
   ·rw [if_pos c,decide_eq_true c,iT]
   ·rw [if_neg c,decide_eq_false c,iF,cy (by omega) (by omega),bs],fun _ _=>trivial⟩)
  (fun n s _=>by rw [jm,if_neg (by omega)]) (s0:=()) (n:=k) hk trivial
 rw [show jm k l x k 0=_ from this];exact zS
theorem G4{l:List Int}{x:Int}(hk:l.length < k)(hk1:k≤1000000):iM k l x=some (zJ l x):=by
 unfold iM
 have:=vd (f:=cX k l x) l (fun(_:Unit) j=>j) (fun _ j y=>if decide (y=x) then Except.error (j:Int) else .ok ()) (fun _ _=>True) (fun r=>some r)
  (fun n s j h _=>⟨by
   rw [cX,if_pos (Int.ofNat_lt.2 h),dD h,bs];by_cases c:l[j]=x
   ·rw [if_pos c.symm,decide_eq_true c,iT]
   ·rw [if_neg (fun h=>c h.symm),decide_eq_false c,iF,cy (by omega) (by omega),bs],fun _ _=>trivial⟩)
  (fun n s _=>by rw [cX,if_neg (by omega)]) (s0:=()) (n:=k) hk trivial
 rw [show cX k l x k 0=_ from this];exact zS
theorem Aa{l:List Int}{x:Int}(hk:l.length < k)(hk1:k≤1000000):fV k l x=some (decide (x∈l)):=by
 unfold fV;rw [G4 hk hk1,bs];congr 1;exact decide_eq_decide.2 xP
def jO(l:List Int):List Int:=[l[0]?.getD (-1),l[1]?.getD (-1),l[2]?.getD (-1),l[3]?.getD (-1),l[4]?.getD (-1)]
def cu(p:List (List Int)):List (List Int):=[jO (p[0]?.getD []),jO (p[1]?.getD []),jO (p[2]?.getD [])]
theorem wv{p ld:List (List Int)}{row:List Int}{i j n:Nat}{y:List (List Int)}(hi:i < 3)(hj:j < 5)(hr:ld[i]? =some row)(hl:row.length=5):
 cF k p (y,(i:Int)) (n+1) (ld,(j:Int))=cF k p (y,(i:Int)) n (ld.set i (row.set j ((p[i]?.getD [])[j]?.getD (-1))),((j+1:Nat):Int)):=by
 have hil:i < ld.length:=by
  rcases Nat.lt_or_ge i ld.length with h |h
  ·exact h
  ·rw [List.getElem?_eq_none h] at hr;cases hr
 have hg:bf ld (i:Int)=some row:=xR (by omega) hr
 rw [cF]
 dsimp only
 rw [if_pos (show(j:Int) < 5 by omega),dz (by omega),bs,hg,bs,dz (by omega),bs]
 have ei:Int.toNat (i:Int)=i:=rfl
 have ej:Int.toNat (j:Int)=j:=rfl
 rw [ei,ej]
 by_cases c:i < p.length
 ·
  have ep:p[i]?.getD []=p[i]:=by rw [List.getElem?_eq_getElem c];rfl
  rw [if_pos (show(i:Int) < (p.length:Int) by omega),dD c,bs,bs,ep];by_cases c1:j < p[i].length
  ·have e2:p[i][j]?.getD (-1)=p[i][j]:=by rw [List.getElem?_eq_getElem c1];rfl
   rw [decide_eq_true (show(j:Int) < (p[i].length:Int) by omega),iT,bs,dD c1,bs,bs]
   have hg2:bf (ld.set i (row.set j (-1))) (i:Int)=some (row.set j (-1)):=xR (by omega) (by
    show(ld.set i (row.set j (-1)))[i]? =_;rw [List.getElem?_set_self hil])
   rw [hg2,bs,bs,bs,cy (by omega) (by omega),bs,List.set_set,List.set_set,e2];rfl
  ·have e2:p[i][j]?.getD (-1)= -1:=by rw [List.getElem?_eq_none (by omega)];rfl
   rw [decide_eq_false (show¬(j:Int) < (p[i].length:Int) by omega),iF,bs,cy (by omega) (by omega),bs,e2];rfl
 ·
  have ep:p[i]?.getD []=[]:=by rw [List.getElem?_eq_none (by omega)];rfl
  rw [if_neg (show¬(i:Int) < (p.length:Int) by omega),bs,iF,bs,cy (by omega) (by omega),bs,ep];rfl
theorem GW(hk:50≤k){p ld:List (List Int)}{row:List Int}{i:Nat}{y:List (List Int)}(hi:i < 3)(hr:ld[i]? =some row)(hl:row.length=5):
 cF k p (y,(i:Int)) k (ld,0)=some (ld.set i (jO (p[i]?.getD []))):=by
 obtain⟨n,rfl⟩:∃n,k=n+6:=⟨k - 6,by omega⟩
 have hil:i < ld.length:=by
  rcases Nat.lt_or_ge i ld.length with h |h
  ·exact h
  ·rw [List.getElem?_eq_none h] at hr;cases hr
 match row,hl with
 |[a,b,c,d,e],_=>
  have st:∀(j m:Nat) (row':List Int),j < 5→row'.length=5→cF (n+6) p (y,(i:Int)) (m+1) (ld.set i row',(j:Int))=cF (n+6) p (y,(i:Int)) m (ld.set i (row'.set j ((p[i]?.getD [])[j]?.getD (-1))),((j+1:Nat):Int)):=fun j m row' hj hl'=>by
   rw [wv hi hj (List.getElem?_set_self hil) hl',List.set_set]
  have h0:=wv (k:=n+6) (p:=p) (y:=y) (n:=n+5) (j:=0) hi (by omega) hr rfl;rw [show((0:Nat):Int)=0 from rfl] at h0;rw [h0,st 1 _ _ (by omega) (by simp),st 2 _ _ (by omega) (by simp),st 3 _ _ (by omega) (by simp),st 4 _ _ (by omega) (by simp),cF];dsimp only;rw [if_neg (show¬(((4+1:Nat):Int) < 5) by omega)];rfl
theorem uQ(hk:50≤k){p:List (List Int)}:dr k p=some (cu p):=by
 unfold dr;obtain⟨n,e⟩:∃n,k=n+4:=⟨k - 4,by omega⟩
 have st:∀(i m:Nat) (ld:List (List Int)) (row:List Int),i < 3→ld[i]? =some row→row.length=5→cR k p (m+1) (ld,(i:Int))=cR k p m (ld.set i (jO (p[i]?.getD [])),((i+1:Nat):Int)):=fun i m ld row hi hr hl=>by
  rw [cR];dsimp only;rw [if_pos (show(i:Int) < 3 by omega),GW hk hi hr hl,bs,cy (by omega) (by omega),bs];rfl
 have h0:=st 0 (n+3) [[0,0,0,0,0],[0,0,0,0,0],[0,0,0,0,0]] _ (by omega) rfl rfl;rw [show((0:Nat):Int)=0 from rfl] at h0;have e2:cR k p k ([[0,0,0,0,0],[0,0,0,0,0],[0,0,0,0,0]],0)=cR k p (n+3+1) ([[0,0,0,0,0],[0,0,0,0,0],[0,0,0,0,0]],0):=by rw [←e]
 rw [e2,h0,st 1 _ _ _ (by omega) rfl rfl,st 2 _ _ _ (by omega) rfl rfl,cR];dsimp only;rw [if_neg (show¬(((2+1:Nat):Int) < 3) by omega),bs];rfl
def Kv(l:List Int):Prop:=l.length≤5∧∀x∈l,0≤x
theorem nq{l:List Int}(h:Kv l):(jO l).filter (fun x=>decide (0≤x))=l:=by
 obtain⟨h1,h2⟩:=h;match l,h1 with
 |[],_=>rfl
 |[a],_=>have:=h2 a (by simp);simp [jO,this]
 |[a,b],_=>have:=h2 a (by simp);have:=h2 b (by simp);simp [jO, *]
 |[a,b,c],_=>have:=h2 a (by simp);have:=h2 b (by simp);have:=h2 c (by simp);simp [jO, *]
 |[a,b,c,d],_=>have:=h2 a (by simp);have:=h2 b (by simp);have:=h2 c (by simp);have:=h2 d (by simp);simp [jO, *]
 |[a,b,c,d,e],_=>have:=h2 a (by simp);have:=h2 b (by simp);have:=h2 c (by simp);have:=h2 d (by simp);have:=h2 e (by simp);simp [jO, *]
theorem GY(hk:50≤k){row:List Int}(hr:row.length=5):cJ k row k ([],0)=some (row.filter fun x=>decide (0≤x)):=by
 have:=zP (f:=cJ k row) row (fun(s:List Int) j=>(s,j)) (fun s _ x=>if 0≤x then s++[x] else s) (fun j s=>s.length≤j∧s=(row.take j).filter fun x=>decide (0≤x)) (fun s=>some s)
  (fun n s j h hp=>by
   have hl:=hp.1;refine⟨?_,?_,?_⟩
   ·rw [cJ];dsimp only;rw [if_pos (show(j:Int) < 5 by omega),dD h,bs];by_cases c:0≤row[j]
    ·rw [if_pos c,dz (KQ (n:=5) (by omega) (by omega)),bs,bs,cy (by omega) (by omega),bs,if_pos c]
    ·rw [if_neg c,bs,cy (by omega) (by omega),bs,if_neg c]
   ·split
    ·simp only [List.length_append,List.length_cons,List.length_nil];omega
    ·omega
   ·rw [List.take_add_one,List.getElem?_eq_getElem h,Option.toList_some,List.filter_append,←hp.2];by_cases c:0≤row[j]
    ·rw [if_pos c];simp [c]
    ·rw [if_neg c];simp [c])
  (fun n s _=>by rw [cJ,if_neg (show¬((row.length:Int) < 5) by omega)]) (s0:=[]) (n:=k) (by omega) ⟨by simp,by simp⟩
 obtain⟨h1,h2,h3⟩:=this;rw [show cJ k row k ([],0)=_ from h1,h3,List.take_of_length_le (Nat.le_refl _)]
theorem xI(hk:50≤k){p:List (List Int)}{i:Nat}(hi:i < 3)(hf:Kv (p[i]?.getD [])):dJ k (cu p) (i:Int)=some (p[i]?.getD []):=by
 unfold dJ
 have hg:bf (cu p) (i:Int)=some (jO (p[i]?.getD [])):=xR (by omega) (by
  match i,hi with
  |0,_=>rfl
  |1,_=>rfl
  |2,_=>rfl)
 rw [dz (by omega),bs,hg,bs,GY hk rfl,bs,nq hf]
end
section
variable {k:Nat}
theorem BX{t:aV}{d:Int}{n:Nat}:DG t d (n:Int)=true↔∃h:n < t.2.1.length,d∈t.2.1[n].2:=by
 unfold DG;rw [show((n:Int)).toNat=n from rfl];rcases Nat.lt_or_ge n t.2.1.length with h |h
 ·rw [List.getElem?_eq_getElem h];simp [h]
 ·rw [List.getElem?_eq_none h];simp [Nat.not_lt.2 h]
theorem E4(hk1:k≤1000000){t:aV}(hn:t.2.1.length≤8)(hnk:t.2.1.length < k)(hw:∀x∈t.2.1,x.2.length < k){d:Int}:W (gU k (t,()) d) fun m=>lT m∧∀i:Nat,eY m i↔DG t d (i:Int)=true:=by
 unfold gU;refine W.bind (R:=fun m=>lT m∧∀i:Nat,eY m i↔DG t d (i:Int)=true) ?_ fun r h=>W.ret h
 refine W.loop (f:=eP k (t,()) d) (fun q y=>∃j:Nat,y.2=(j:Int)∧j≤t.2.1.length∧q=t.2.1.length - j∧lT y.1∧∀i:Nat,eY y.1 i↔i < j∧DG t d (i:Int)=true) ?_ t.2.1.length k (0,0) hnk
  ⟨0,rfl,by omega,by omega,⟨by decide,by decide⟩,fun i=>by simp [eY]⟩
 rintro aO q ⟨s,y⟩ ⟨j,hj,hle,hq,hm,hh⟩ ih;simp only at hj hm hh;subst hj;unfold eP;dsimp only;refine W.ite (fun hlt=>?_) (fun hge=>W.ret ⟨hm,fun i=>?_⟩)
 ·have hlt':j < t.2.1.length:=by omega
  rw [dD hlt',bs,Aa (hw _ (List.getElem_mem hlt')) hk1,bs];have hj:DG t d (j:Int)=true↔d∈t.2.1[j].2:=by rw [BX];exact⟨fun⟨_,h⟩=>h,fun h=>⟨hlt',h⟩⟩
  by_cases c:d∈t.2.1[j].2
  ·obtain⟨o1,o2⟩:=xp (x:=(j:Int)) (by omega) (by omega);obtain⟨p1,p2⟩:=xN hm o1;rw [decide_eq_true c,iT];unfold dI;rw [dz (by omega),bs,bs,bs,cy (by omega) (by omega),bs];refine ih (q - 1) (_,(j:Int)+1) (by omega) ⟨j+1,by show(j:Int)+1=((j+1:Nat):Int);omega,by omega,by omega,p1,fun i=>?_⟩;rw [p2,hh,o2];constructor
   ·rintro(⟨a,b⟩ |h)
    ·exact⟨by omega,b⟩
    ·have:i=j:=by omega
     subst this;exact⟨by omega,hj.2 c⟩
   ·rintro⟨a,b⟩;by_cases e:i=j
    ·exact .inr (by omega)
    ·exact .inl ⟨by omega,b⟩
  ·rw [decide_eq_false c,iF,bs,cy (by omega) (by omega),bs];refine ih (q - 1) (_,(j:Int)+1) (by omega) ⟨j+1,by show(j:Int)+1=((j+1:Nat):Int);omega,by omega,by omega,hm,fun i=>?_⟩;rw [hh];constructor
   ·rintro⟨a,b⟩;exact⟨by omega,b⟩
   ·rintro⟨a,b⟩;have:i≠j:=fun e=>c (hj.1 (e▸b));exact⟨by omega,b⟩
 ·rw [hh];constructor
  ·exact fun h=>h.2
  ·intro h;obtain⟨h1,_⟩:=BX.1 h;exact⟨by omega,h⟩
theorem IL{l:List Int}(hk:l.length < k)(hk1:k≤1000000):om k l=some l:=by
 have key:∀(j n:Nat),j≤l.length→j < n→co k l (lu fun(y3:List Int) (p5:Int×Int)=>some ((p5.2::y3),true)) n ((j:Int) - 1,(l.drop j,false))=some (l,false):=by
  intro j
  induction j with
  |zero=>
   intro n _ hn
   obtain⟨n,rfl⟩:∃n',n=n'+1:=⟨n - 1,by omega⟩;rw [co];dsimp only;rw [if_neg (by omega),List.drop_zero]
  |succ j ih=>
   intro n hj hn
   obtain⟨n,rfl⟩:∃n',n=n'+1:=⟨n - 1,by omega⟩;have e1:((j+1:Nat):Int) - 1=(j:Int):=by omega
   rw [co,e1];dsimp only;rw [if_pos (show(0:Int)≤(j:Int) by omega),dD (by omega),bs];rw [show lu (fun(y3:List Int) (p5:Int×Int)=>some ((p5.2::y3),true)) (List.drop (j+1) l,false) ((j:Int),l[j])=some ((l[j]::List.drop (j+1) l,false),true) from rfl,bs];dsimp only;rw [nT,cy (by omega) (by omega),bs];have:=ih n (by omega) (by omega);rw [List.drop_eq_getElem_cons (show j < l.length by omega)] at this;exact this
 unfold om gy;rw [cy (by omega) (by omega),bs];have:=key l.length k (by omega) hk;rw [List.drop_length] at this;rw [this,bs,iF]
theorem Eb{m:Int}(hm:lT m){w:Int→Bool}(hw:∀i:Nat,i < 8→(eY m i↔w (i:Int)=true)):∀(l:List Int) (n:Nat) (lf:Int) (up stay:List Int),l.length < n→(∀x∈l,0≤x∧x < 8)→lT lf→up.length+stay.length+l.length≤1000→
 W (gg k m n (lf,up,stay,l)) fun r=>r.2=(stay++l.filter (fun x=> !w x))++(up++l.filter w)∧lT r.1∧∀i:Nat,eY r.1 i↔eY lf i∨(i:Int)∈ji w (!up.isEmpty) l:=by
 intro l
 induction l with
 |nil=>
  intro n lf up stay hn _ hlf hlen
  obtain⟨n,rfl⟩:∃n',n=n'+1:=⟨n - 1,by omega⟩;rw [gg];dsimp only;rw [show List.isEmpty ([]:List Int)=true from rfl,iT,dz (Qx (by simp only [List.length_nil] at hlen;omega)),bs];exact W.ret ⟨by simp,hlf,fun i=>by simp [ji]⟩
 |cons x l ih=>
  intro n lf up stay hn hx hlf hlen
  simp only [List.length_cons] at hn hlen;obtain⟨n,rfl⟩:∃n',n=n'+1:=⟨n - 1,by omega⟩;have hx0:=hx x (by simp);have hxl:∀y∈l,0≤y∧y < 8:=fun y hy=>hx y (by simp [hy]);obtain⟨xi,hxi⟩:=Int.eq_ofNat_of_zero_le hx0.1;subst hxi;have hhx:=hw xi (by omega);rw [gg];dsimp only;rw [show List.isEmpty ((xi:Int)::l)=false from rfl,iF,show og ((xi:Int)::l)=some ((xi:Int),l) from rfl,bs,xQ hm (by omega),bs];by_cases c:w (xi:Int)=true
  ·rw [decide_eq_true (hhx.2 c),iT,bs,dz (KQ (n:=1000) (by omega) (by omega)),bs,bs];refine(ih n lf (up++[(xi:Int)]) stay (by omega) hxl hlf (by simp only [List.length_append,List.length_cons,List.length_nil];omega)).mono fun r hr=>?_;obtain⟨h1,h2,h3⟩:=hr;refine⟨?_,h2,fun i=>?_⟩
   ·rw [h1];simp [c]
   ·rw [h3,ji,if_pos c,show(!(up++[(xi:Int)]).isEmpty)=true by cases up <;> rfl]
  ·have c':w (xi:Int)=false:=by simpa using c
   rw [decide_eq_false (fun h=>c (hhx.1 h)),iF];cases up with
   |nil=>
    rw [if_neg (show¬(0:Int) < (([]:List Int).length:Int) by simp),bs,bs,dz (KQ (n:=1000) (by omega) (by omega)),bs,bs];refine(ih n lf [] (stay++[(xi:Int)]) (by omega) hxl hlf (by simp only [List.length_append,List.length_cons,List.length_nil] at hlen⊢;omega)).mono fun r hr=>?_;obtain⟨h1,h2,h3⟩:=hr;refine⟨?_,h2,fun i=>?_⟩
    ·rw [h1];simp [c']
    ·rw [h3,ji,if_neg c];simp
   |cons u up=>
    obtain⟨o1,o2⟩:=xp (x:=(xi:Int)) (by omega) (by omega);obtain⟨p1,p2⟩:=xN hlf o1;rw [if_pos (show(0:Int) < ((u::up).length:Int) by simp only [List.length_cons];omega),bs];unfold dI;rw [dz (show(0:Int)≤(xi:Int) by omega),bs,bs,bs,bs,dz (KQ (n:=1000) (by omega) (by omega)),bs,bs];refine(ih n _ (u::up) (stay++[(xi:Int)]) (by omega) hxl p1 (by simp only [List.length_append,List.length_cons,List.length_nil] at hlen⊢;omega)).mono fun r hr=>?_;obtain⟨h1,h2,h3⟩:=hr;refine⟨?_,h2,fun i=>?_⟩
    ·rw [h1];simp [c']
    ·rw [h3,p2,o2,ji,if_neg c];simp only [List.isEmpty_cons,Bool.not_false,if_true,List.mem_cons,or_assoc]
theorem IP(hk1:k≤1000000){m:Int}(hm:lT m){w:Int→Bool}(hw:∀i:Nat,i < 8→(eY m i↔w (i:Int)=true)){l:List Int}(hl:l.length < k)(hl9:l.length≤1000)(hx:∀x∈l,0≤x∧x < 8):
 W (mN k l m) fun r=>r.2=IU w l∧lT r.1∧∀i:Nat,eY r.1 i↔(i:Int)∈ji w false l:=by
 unfold mN
 rw [IL hl hk1,bs]
 refine(Eb hm hw l k 0 [] [] hl hx ⟨by decide,by decide⟩ (by simp only [List.length_nil];omega)).mono fun r hr=>?_
 obtain⟨h1,h2,h3⟩:=hr
 refine⟨by rw [h1];simp [IU],h2,fun i=>?_⟩
 rw [h3];simp [eY]
structure Ie(p:List (List Int)):Prop where
 len:p.length≤3
 fit:∀l∈p,l.length≤5∧∀x∈l,0≤x∧x < 8
theorem Ie.at{p:List (List Int)}(h:Ie p)(i:Nat):(p[i]?.getD []).length≤5∧∀x∈p[i]?.getD [],0≤x∧x < 8:=by
 rcases Nat.lt_or_ge i p.length with hi |hi
 ·rw [List.getElem?_eq_getElem hi];exact h.fit _ (List.getElem_mem hi)
 ·rw [List.getElem?_eq_none hi];simp
theorem Ie.fitL{p:List (List Int)}(h:Ie p)(i:Nat):Kv (p[i]?.getD []):=⟨(h.at i).1,fun x hx=>((h.at i).2 x hx).1⟩
theorem Ie.next{p:List (List Int)}(h:Ie p){w:Int→Bool}:Ie (p.map (IU w)):=
 ⟨by rw [List.length_map];exact h.len,fun l hl=>by
  obtain⟨q,hq,rfl⟩:=List.mem_map.1 hl
  have:=h.fit q hq
  exact⟨by rw [lE.length_eq];exact this.1,fun x hx=>this.2 x (lE.mem_iff.1 hx)⟩⟩
structure tV(k:Nat)(t:aV):Prop where
 k0:50≤k
 k1:k≤1000000
 things:t.2.1.length≤8
 worn:∀x∈t.2.1,x.2.length < k
theorem zz{t:aV}(hk0:50≤k){p:List (List Int)}(hp:Ie p)(hl:p.length=t.2.2.length):dk k (t,()) (cu p)=some p:=by
 have h3:=hp.len;unfold dk;rw [dz (by exact⟨by omega,show Int.toNat (t.2.2.length:Int)≤4294967296 by omega⟩),bs]
 have hb:=W.loop (f:=dU k (t,()) (cu p)) (Q:=fun r=>r=p) (fun q y=>∃j:Nat,y.2=(j:Int)∧j≤p.length∧q=p.length - j∧y.1=p.take j++List.replicate (p.length - j) []) (by
  rintro aO q ⟨o,y⟩ ⟨j,hj,hle,hq,ho⟩ ih;simp only at hj ho;subst hj;unfold dU;dsimp only;rw [List.length_replicate];refine W.ite (fun hlt=>?_) (fun hge=>W.ret ?_)
  ·have hj:j < p.length:=by omega
   have ho':j < o.length:=by rw [ho];simp only [List.length_append,List.length_take,List.length_replicate];omega
   rw [xI hk0 (by omega) (hp.fitL j),bs,dD ho',bs,cy (by omega) (by omega),bs];refine ih (q - 1) (_,(j:Int)+1) (by omega) ⟨j+1,by show(j:Int)+1=((j+1:Nat):Int);omega,by omega,by omega,?_⟩;show List.set o j (p[j]?.getD [])=_;have e1:p.length - j=p.length - (j+1)+1:=by omega
   rw [ho,List.set_append_right _ _ (by rw [List.length_take];omega),List.length_take,Nat.min_eq_left (by omega),Nat.sub_self,e1,List.replicate_succ,List.set_cons_zero,List.take_add_one,List.getElem?_eq_getElem hj];simp only [Option.toList_some,Option.getD_some,List.append_assoc,List.cons_append,List.nil_append]
  ·have:j=p.length:=by omega
   subst this;rw [ho];simp) p.length k (List.replicate (Int.toNat (t.2.2.length:Int)) [],0) (by omega) ⟨0,rfl,by omega,by omega,by simp [hl]⟩
 obtain⟨r,er,rfl⟩:=hb;rw [er,bs]
theorem gi.fit{t:aV}{p:List (List Int)}(h:gi t p):Ie p:=by
 have h5:=h.g.things;refine⟨by have:=h.len;have:=h.g.trunks;omega,fun l hl=>?_⟩;have hsub:∀x∈l,x∈p.flatten:=fun x hx=>List.mem_flatten.2 ⟨l,hl,hx⟩;have hnd:l.Nodup:=(List.pairwise_flatten.1 h.nd).1 l hl;have hr:∀x∈l,0≤x∧x < (t.2.1.length:Int):=fun x hx=>h.rng x (hsub x hx);have:=uF _ l hnd hr;exact⟨by omega,fun x hx=>by have:=hr x hx;omega⟩
end
section
variable {k:Nat}
def zW(t:aV)(d:Int)(p:List (List Int)):List (List Int):=p.map (IU (DG t d))
def Nh(t:aV)(p:List (List Int)):Nat→List (List Int)
 |0=>p
 |n+1=>zW t n (Nh t p n)
theorem AY{t:aV}{l l':List Int}(h:l.Perm l'):cP t l=cP t l':=by
 induction h with
 |nil=>rfl
 |cons x _ ih=>simp only [cP,ih]
 |swap x y l=>simp only [cP];omega
 |trans _ _ h1 h2=>rw [h1,h2]
theorem EJ{t:aV}{d:Int}{p:List (List Int)}:(zW t d p).flatten.Perm p.flatten:=by
 unfold zW
 induction p with
 |nil=>exact List.Perm.refl _
 |cons l p ih=>
  simp only [List.map_cons,List.flatten_cons];exact lE.append ih
theorem gi.next{t:aV}{d:Int}{p:List (List Int)}(h:gi t p):gi t (zW t d p):=by
 have hp:=EJ (t:=t) (d:=d) (p:=p);refine⟨h.g,by unfold zW;rw [List.length_map];exact h.len,hp.nodup_iff.2 h.nd,fun x hx=>h.rng x (hp.mem_iff.1 hx),fun i hi=>hp.mem_iff.2 (h.all i hi),fun i hi=>?_⟩;have hi':i < p.length:=by unfold zW at hi;rwa [List.length_map] at hi
 have e:(zW t d p)[i]=IU (DG t d) p[i]:=by simp only [zW,List.getElem_map]
 rw [e,AY lE];exact h.room i hi'
theorem gi.aft{t:aV}{p:List (List Int)}(h:gi t p):∀n,gi t (Nh t p n)
 |0=>h
 |n+1=>(h.aft n).next
theorem CE{n:Nat}:∀{l:List Int} {j:Nat} {m:List Int},(m++l).Nodup→(∀x∈l,0≤x∧x < (n:Int))→bS (fun m _ x=>mT n m x) j l m= .ok (m++l)
 |[],j,m,_,_=>by simp [bS]
 |x::l,j,m,hn,hr=>by
  have hx:=hr x (by simp)
  have hnm:x∉m:=fun h=>by
   rw [List.nodup_append] at hn
   exact hn.2.2 x h x (by simp) rfl
  have e:mT n m x= .ok (m++[x]):=by
   unfold mT;rw [if_neg (not_not_intro (show 0≤x∧x≤(n:Int) - 1 by omega)),if_neg hnm]
  rw [bS,e];show bS _ (j+1) l (m++[x])=_;rw [CE (by simpa using hn) (fun y hy=>hr y (by simp [hy]))];simp
theorem vY{t:aV}:∀{p:List (List Int)} {j:Nat} {m:List Int},(m++p.flatten).Nodup→(∀x∈p.flatten,0≤x∧x < (t.2.1.length:Int))→(∀i (h:i < p.length),cP t p[i]≤t.2.2[j+i]?.getD 0)→bS (ii t) j p m= .ok (m++p.flatten)
 |[],j,m,_,_,_=>by simp [bS]
 |l::p,j,m,hn,hr,hs=>by
  have h0:¬t.2.2[j]?.getD 0 < cP t l:=by have:=hs 0 (by simp);simp only [List.getElem_cons_zero,Nat.add_zero] at this;omega
  have e:ii t m j l= .ok (m++l):=by
   unfold ii;rw [CE (by rw [List.flatten_cons,←List.append_assoc] at hn;exact(List.nodup_append.1 hn).1) (fun x hx=>hr x (by simp [hx]))];exact if_neg h0
  rw [bS,e];show bS _ (j+1) p (m++l)=_
  rw [vY (by simpa using hn) (fun x hx=>hr x (by rw [List.flatten_cons];exact List.mem_append_right _ hx)) (fun i hi=>by
   have:=hs (i+1) (by simp;omega);have e3:j+1+i=j+(i+1):=by omega
   rw [e3];exact this)]
  simp
theorem gi.chkV{t:aV}{p:List (List Int)}(h:gi t p):chkV t p=0:=by
 unfold Go.Proofs.YtcnpijmfgfnpiaaGreatDoor.chkV;have hl:=h.len;have e:=vY (t:=t) (j:=0) (m:=[]) (by simpa using h.nd) h.rng (fun i hi=>by rw [Nat.zero_add];exact h.room i hi);rw [if_neg (by omega),if_neg (by omega),e,List.nil_append];have hm:tG t.2.1.length p.flatten:=⟨h.nd,h.rng⟩;simp only [hm.full.2 h.all,if_false]
theorem gi.chk{t:aV}{p:List (List Int)}(h:gi t p)(ht:jF t=0):pY t p=0:=by
 unfold pY;rw [if_neg (not_not_intro ht)];exact h.chkV
theorem JQ{t:aV}{p:List (List Int)}(h:pY t p=0):jF t=0:=by
 unfold pY at h;by_cases c:jF t=0
 ·exact c
 ·rw [if_pos c] at h;exact h
structure At(k:Nat)(t:aV)(p:List (List Int)):Prop where
 small:jW k t
 dayT:tV k t
 chk:pY t p=0
theorem At.good{t:aV}{p:List (List Int)}(h:At k t p):gi t p:=zK h.chk
theorem At.aft{t:aV}{p:List (List Int)}(h:At k t p)(n:Nat):At k t (Nh t p n):=⟨h.small,h.dayT,(h.good.aft n).chk (JQ h.chk)⟩
theorem At.ok{t:aV}{p:List (List Int)}(h:At k t p):cK k t p=some 0:=by
 have:=h.dayT.k0;rw [BP h.small (by omega) (fun l hl=>by have:=(h.good.fit.fit l hl).1;omega),h.chk]
theorem Dw.at{t:aV}{p:List (List Int)}{a:Nat}(h:Dw t p a)(hk:50≤k)(hk1:k≤1000000)(ha:a≤8)(c:pY t p=0):At k t p:=by
 have hs:=h.small hk hk1 ha;exact⟨hs,⟨hk,hk1,by have:=(zK c).g.things;omega,hs.worn⟩,c⟩
end
section
variable {k:Nat}
theorem ma{w:Int→Bool}:∀{l:List Int} {u:Bool},l.Nodup→(ji w u l).Nodup
 |[],_,_=>by simp [ji]
 |n::l,u,h=>by
  obtain⟨h1,h2⟩:=List.nodup_cons.1 h
  rw [ji]
  split
  ·
   exact ma h2
  ·
   split
   ·
    exact List.nodup_cons.2 ⟨fun h'=>h1 (wA h'),ma h2⟩
   ·
    exact ma h2
theorem HJ{q:List Int}(hn:q.Nodup){N:Nat}(hr:∀x∈q,0≤x∧x < (N:Int)):((List.range N).filter fun(i:Nat)=>decide ((i:Int)∈q)).length=q.length:=by
 have h:(((List.range N).filter fun(i:Nat)=>decide ((i:Int)∈q)).map fun(i:Nat)=>(i:Int)).Perm q:=by
  rw [List.perm_iff_count];intro a
  have h1:(((List.range N).filter fun(i:Nat)=>decide ((i:Int)∈q)).map fun(i:Nat)=>(i:Int)).Nodup:=by
   refine List.Pairwise.map _ (fun a b hab=>?_) (List.nodup_range.filter _);omega
  rw [h1.count,hn.count]
  have:a∈(((List.range N).filter fun(i:Nat)=>decide ((i:Int)∈q)).map fun(i:Nat)=>(i:Int))↔a∈q:=by
   simp only [List.mem_map,List.mem_filter,List.mem_range,decide_eq_true_eq];constructor
   ·rintro⟨i,⟨_,h⟩,rfl⟩;exact h
   ·intro h;have:=hr a h;exact⟨a.toNat,⟨by omega,by rw [Int.toNat_of_nonneg this.1];exact h⟩,Int.toNat_of_nonneg this.1⟩
  simp only [this]
 have:=h.length_eq;rwa [List.length_map] at this
theorem Hm{s:Int}(hs:lT s){i:Nat}(hi:i < 8):wM s (i:Int)=decide (eY s i):=by
 have:=xQ (k:=0) hs hi;unfold dM at this;rw [dz (by omega),bs] at this;exact Option.some.inj this
theorem CY{s:Int}(hs:lT s):∀(n i:Nat),i+n≤8→qC s n i=((List.range' i n).filter fun j=>decide (eY s j)).length
 |0,i,_=>by simp [qC]
 |n+1,i,h=>by
  rw [qC,Hm hs (by omega),CY hs n (i+1) (by omega),List.range'_succ,List.filter_cons]
  by_cases c:eY s i
  ·
   simp [c];omega
  ·
   simp [c]
def ox(t:aV):Nat→Int→List Int→Nat
 |0,_,_=>0
 |n+1,d,l=>(ji (DG t d) false l).length+ox t n (d+1) (IU (DG t d) l)
theorem Hn{t:aV}(h:tV k t):∀(n:Nat) (d:Int) (l:List Int),l.Nodup→(∀x∈l,0≤x∧x < (t.2.1.length:Int))→OZ k (t,()) n d l=some (ox t n d l)
 |0,d,l,_,_=>rfl
 |n+1,d,l,hn,hx=>by
  have hk0:=h.k0
  have h8:=h.things
  have hl:=uF _ l hn hx
  obtain⟨m,em,hm,hmm⟩:=E4 h.k1 (t:=t) (d:=d) h8 (by omega) h.worn
  obtain⟨r,er,h1,h2,h3⟩:=IP h.k1 (m:=m) hm (w:=DG t d) (fun j _=>hmm j) (l:=l) (by omega) (by omega) (fun x hx'=>by have:=hx x hx';omega)
  rw [OZ,em,bs,er,bs,h1,Hn h n (d+1) _ (lE.nodup_iff.2 hn) (fun x hx'=>hx x (lE.mem_iff.1 hx')),bs,ox]
  congr 2
  rw [CY h2 _ _ (by simpa using h8)]
  show(List.filter _ (List.range' 0 t.2.1.length)).length=_
  rw [←List.range_eq_range',←HJ (ma hn) (N:=t.2.1.length) (fun x hx'=>hx x (wA hx'))]
  congr 1
  exact List.filter_congr fun i _=>decide_eq_decide.2 (h3 i)
def ug(t:aV)(n:Nat)(d:Int)(p:List (List Int)):Nat:=(p.map (ox t n d)).sum
theorem Cm{t:aV}:∀(n:Nat) (d:Int) (l:List Int),ox t n d l≤n * l.length
 |0,_,_=>by simp [ox]
 |n+1,d,l=>by
  have h1:=Cm (t:=t) n (d+1) (IU (DG t d) l)
  have h2:∀(l:List Int) (u:Bool),(ji (DG t d) u l).length≤l.length:=by
   intro l
   induction l with
   |nil=>intro u;simp [ji]
   |cons x l ih=>
    intro u;rw [ji];split
    ·have:=ih true;simp only [List.length_cons];omega
    ·split
     ·have:=ih u;simp only [List.length_cons];omega
     ·have:=ih u;simp only [List.length_cons];omega
  have h3:=h2 l false;rw [lE.length_eq] at h1;rw [ox,Nat.add_mul,Nat.one_mul];omega
theorem Jt{t:aV}{p:List (List Int)}(h:At k t p){q:List (List Int)}(hq:gi t q){d:Int}(hd:0≤d∧d≤t.1):fD k (t,()) (cu q) d=some ((ug t (t.1 - d).toNat d q:Nat):Int):=by
 have g:=hq.g;have f:=hq.fit;have h3:=g.trunks;have h5:=g.things;have h6:=g.days;have hlen:=hq.len
 have hrow:∀i:Nat,(q[i]?.getD []).Nodup∧∀x∈q[i]?.getD [],0≤x∧x < (t.2.1.length:Int):=fun i=>by
  rcases Nat.lt_or_ge i q.length with hi |hi
  ·rw [List.getElem?_eq_getElem hi,Option.getD_some];exact⟨(List.pairwise_flatten.1 hq.nd).1 _ (List.getElem_mem hi),fun x hx=>hq.rng x (List.mem_flatten.2 ⟨_,List.getElem_mem hi,hx⟩)⟩
  ·rw [List.getElem?_eq_none hi,Option.getD_none];exact⟨List.nodup_nil,fun x hx=>by cases hx⟩
 have hone:∀i:Nat,i < 3→oQ k (t,()) (cu q) (i:Int) d=some (ox t (t.1 - d).toNat d (q[i]?.getD [])):=fun i hi=>by
  unfold oQ;dsimp only;rw [if_pos (show t.1≤1000000∧t.2.1.length≤1000000∧0≤d by omega),xI h.dayT.k0 hi (f.fitL i),bs,Hn h.dayT _ _ _ (hrow i).1 (hrow i).2]
 have hsum:∀n:Nat,n≤q.length→vb k (t,()) (cu q) d n=some (ug t (t.1 - d).toNat d (q.take n)):=by
  intro n
  induction n with
  |zero=>intro _;simp [vb,ug]
  |succ n ih=>
   intro hn;rw [vb,ih (by omega),bs,hone n (by omega),bs,List.take_add_one,List.getElem?_eq_getElem (show n < q.length by omega)];simp only [ug,Option.toList_some,Option.getD_some,List.map_append,List.map_cons,List.map_nil,List.sum_append,List.sum_cons,List.sum_nil,Nat.add_zero]
 have hb:ug t (t.1 - d).toNat d q≤1000:=by
  have hl5:∀l∈q,ox t (t.1 - d).toNat d l≤30:=fun l hl=>by
   have h1:=Cm (t:=t) (t.1 - d).toNat d l;have h2:=(f.fit l hl).1;have h4:(t.1 - d).toNat≤6:=by omega
   have:=Nat.mul_le_mul h4 h2;omega
  have:∀(q:List (List Int)),(∀l∈q,ox t (t.1 - d).toNat d l≤30)→ug t (t.1 - d).toNat d q≤30 * q.length:=by
   intro q
   induction q with
   |nil=>intro _;simp [ug]
   |cons l q ih=>
    intro hq;have h1:=hq l (by simp);have h2:=ih fun l hl=>hq l (by simp [hl]);simp only [ug,List.map_cons,List.sum_cons,List.length_cons] at h2⊢;omega
  have:=this q hl5;have:=f.len;omega
 unfold fD;dsimp only;rw [if_pos (show t.2.2.length≤1000 by omega),←hlen,hsum q.length (Nat.le_refl _),List.take_of_length_le (Nat.le_refl _),bs,if_pos (show ug t (t.1 - d).toNat d q < 9223372036854775808 by omega)]
theorem LW{q:List (List Int)}(f:Ie q):Il (cu q):=by
 have hp:∀i,uv (jO (q[i]?.getD [])):=fun i=>by
  obtain⟨h1,h2⟩:=f.at i
  have g:∀j:Nat, -1≤(q[i]?.getD [])[j]?.getD (-1)∧(q[i]?.getD [])[j]?.getD (-1) < 8:=fun j=>by
   rcases Nat.lt_or_ge j (q[i]?.getD []).length with hj |hj
   ·have:=h2 _ (List.getElem_mem hj);rw [List.getElem?_eq_getElem hj,Option.getD_some];omega
   ·rw [List.getElem?_eq_none hj,Option.getD_none];omega
  refine⟨rfl,fun n hn=>?_⟩;simp only [jO,List.mem_cons,List.not_mem_nil,or_false] at hn;rcases hn with rfl |rfl |rfl |rfl |rfl
  ·exact g 0
  ·exact g 1
  ·exact g 2
  ·exact g 3
  ·exact g 4
 refine⟨rfl,fun r hr=>?_⟩;simp only [cu,List.mem_cons,List.not_mem_nil,or_false] at hr;rcases hr with rfl |rfl |rfl
 ·exact hp 0
 ·exact hp 1
 ·exact hp 2
end
def iL(q:List (List Int))(tr i:Nat):List (List Int):=q.set tr (q[tr]?.getD []++[(i:Int)])
def m7(n N:Nat):Nat→List (List Int)→Nat→List (List (List Int))
 |0,_,_=>[]
 |m+1,q,tr=>
  if tr=N then(if q.flatten.length < n then [] else [q])
  else m7 n N m q (tr+1)++(List.range n).flatMap fun(i:Nat)=>if(i:Int)∈q.flatten then [] else m7 n N m (iL q tr i) tr
def jK(t:aV):Nat→List (List Int)→Nat→List (List (List Int))
 |0,_,_=>[]
 |m+1,q,tr=>
  if tr=t.2.2.length then(if q.flatten.length < t.2.1.length then [] else [q])
  else jK t m q (tr+1)++(List.range t.2.1.length).flatMap fun(i:Nat)=>if(i:Int)∈q.flatten∨t.2.2[tr]?.getD 0 < cP t (q[tr]?.getD [])+eZ t (i:Int) then [] else jK t m (iL q tr i) tr
def pW(t:aV)(q:List (List Int)):Bool:=(List.range q.length).all fun i=>decide (cP t (q[i]?.getD [])≤t.2.2[i]?.getD 0)
def If(q x:List (List Int)):Prop:=x.length=q.length∧∀i:Nat,∃s,x[i]?.getD []=q[i]?.getD []++s
theorem If.refl{q:List (List Int)}:If q q:=⟨rfl,fun i=>⟨[],by simp⟩⟩
theorem If.trans{a b c:List (List Int)}(h:If a b)(h':If b c):If a c:=⟨h'.1.trans h.1,fun i=>by
 obtain⟨s,e⟩:=h.2 i
 obtain⟨s',e'⟩:=h'.2 i
 exact⟨s++s',by rw [e',e,List.append_assoc]⟩⟩
theorem qX{q:List (List Int)}{tr i:Nat}(h:tr < q.length){j:Nat}:(iL q tr i)[j]?.getD []=if j=tr then q[tr]?.getD []++[(i:Int)] else q[j]?.getD []:=by
 unfold iL;rw [List.getElem?_set];by_cases e:tr=j
 ·subst e;simp [h]
 ·rw [if_neg e,if_neg (fun h=>e h.symm)]
theorem If.top{q:List (List Int)}{tr i:Nat}(h:tr < q.length):If q (iL q tr i):=⟨by unfold iL;rw [List.length_set],fun j=>by
 rw [qX h]
 by_cases e:j=tr
 ·
  subst e;exact⟨[(i:Int)],by rw [if_pos rfl]⟩
 ·
  exact⟨[],by rw [if_neg e];simp⟩⟩
theorem pB{n N:Nat}:∀{m:Nat} {q:List (List Int)} {tr:Nat},q.length=N→∀x∈m7 n N m q tr,If q x
 |0,_,_,_,x,hx=>by cases hx
 |m+1,q,tr,hq,x,hx=>by
  rw [m7] at hx
  by_cases c:tr=N
  ·
   rw [if_pos c] at hx
   split at hx
   ·
    cases hx
   ·
    rw [List.mem_singleton] at hx;subst hx;exact If.refl
  ·
   rw [if_neg c] at hx
   rcases List.mem_append.1 hx with hx |hx
   ·
    exact pB hq x hx
   ·
    obtain⟨i,hi,hx⟩:=List.mem_flatMap.1 hx
    split at hx
    ·
     cases hx
    ·
     by_cases ht:tr < q.length
     ·
      exact(If.top ht).trans (pB (by unfold iL;rw [List.length_set,hq]) x hx)
     ·
      have e:iL q tr i=q:=by unfold iL;rw [List.set_eq_of_length_le (by omega)]
      rw [e] at hx
      exact pB hq x hx
theorem qn{t:aV}{l:List Int}{x:Int}:cP t (l++[x])=cP t l+eZ t x:=by rw [sx];simp [cP]
theorem iP{t:aV}{q:List (List Int)}:pW t q=true↔∀i,i < q.length→cP t (q[i]?.getD [])≤t.2.2[i]?.getD 0:=by
 unfold pW;simp [List.all_eq_true]
theorem oS{t:aV}(g:jG t):∀{m:Nat} {q:List (List Int)} {tr:Nat},q.length=t.2.2.length→tr≤t.2.2.length→pW t q=true→jK t m q tr=(m7 t.2.1.length t.2.2.length m q tr).filter (pW t)
 |0,_,_,_,_,_=>rfl
 |m+1,q,tr,hq,ht,hf=>by
  rw [jK,m7]
  by_cases c:tr=t.2.2.length
  ·
   rw [if_pos c,if_pos c]
   split
   ·
    rfl
   ·
    rw [List.filter_cons_of_pos hf,List.filter_nil]
  ·
   rw [if_neg c,if_neg c,List.filter_append,oS g hq (by omega) hf,List.filter_flatMap]
   congr 1
   congr 1
   funext i
   by_cases c1:(i:Int)∈q.flatten
   ·
    rw [if_pos (.inl c1),if_pos c1];rfl
   ·
    rw [if_neg c1]
    have htr:tr < q.length:=by omega
    by_cases c2:t.2.2[tr]?.getD 0 < cP t (q[tr]?.getD [])+eZ t (i:Int)
    ·
     rw [if_pos (.inr c2)]
     symm
     rw [List.filter_eq_nil_iff]
     intro x hx hfx
     obtain⟨e1,e2⟩:=pB (by unfold iL;rw [List.length_set,hq]) x hx
     obtain⟨s,es⟩:=e2 tr
     rw [qX htr,if_pos rfl] at es
     have:=iP.1 hfx tr (by rw [e1];unfold iL;rw [List.length_set];exact htr)
     rw [es,sx,qn] at this
     have:=(mS g (l:=s)).1
     omega
    ·
     rw [if_neg (fun h=>h.elim c1 c2)]
     refine oS g (by unfold iL;rw [List.length_set,hq]) ht ?_
     rw [iP]
     intro j hj
     unfold iL at hj
     rw [List.length_set] at hj
     rw [qX htr]
     by_cases e:j=tr
     ·
      rw [if_pos e,qn,e];omega
     ·
      rw [if_neg e];exact iP.1 hf j hj
section
variable {k:Nat}{σ:Type}
theorem IM{l:List Int}(h:l.length < 5){x:Int}:(jO l).set l.length x=jO (l++[x]):=by
 match l,h with
 |[],_=>rfl
 |[a],_=>rfl
 |[a,b],_=>rfl
 |[a,b,c],_=>rfl
 |[a,b,c,d],_=>rfl
theorem GV{q:List (List Int)}{tr i:Nat}(ht:tr < q.length)(h3:q.length≤3)(h:(q[tr]?.getD []).length < 5):(cu q).set tr ((jO (q[tr]?.getD [])).set (q[tr]?.getD []).length (i:Int))=cu (iL q tr i):=by
 rw [IM h];have e:=fun j=>qX (i:=i) ht (j:=j);unfold cu;rw [e 0,e 1,e 2];match tr,(show tr < 3 by omega) with
 |0,_=>rfl
 |1,_=>rfl
 |2,_=>rfl
theorem xH{q:List (List Int)}{tr:Nat}(h:tr < 3):bf (cu q) (tr:Int)=some (jO (q[tr]?.getD [])):=xR (by omega) (by
 match tr,h with
 |0,_=>rfl
 |1,_=>rfl
 |2,_=>rfl)
theorem oq{q:List (List Int)}{tr i:Nat}(h:tr < q.length):(iL q tr i).flatten.Perm (q.flatten++[(i:Int)]):=by
 unfold iL
 induction q generalizing tr with
 |nil=>simp at h
 |cons l q ih=>
  cases tr with
  |zero=>
   simp only [List.set_cons_zero,List.getElem?_cons_zero,Option.getD_some,List.flatten_cons,List.append_assoc];exact(List.Perm.refl l).append List.perm_append_comm
  |succ tr=>
   simp only [List.set_cons_succ,List.getElem?_cons_succ,List.flatten_cons,List.append_assoc];exact(List.Perm.refl l).append (ih (by simpa using h))
structure Mk(t:aV)(q:List (List Int)):Prop where
 len:q.length=t.2.2.length
 met:tG t.2.1.length q.flatten
theorem Mk.row{t:aV}{q:List (List Int)}(h:Mk t q)(j:Nat):(∀x∈q[j]?.getD [],x∈q.flatten)∧(q[j]?.getD []).length≤q.flatten.length:=by
 rcases Nat.lt_or_ge j q.length with hj |hj
 ·rw [List.getElem?_eq_getElem hj,Option.getD_some];refine⟨fun x hx=>List.mem_flatten.2 ⟨_,List.getElem_mem hj,hx⟩,?_⟩;exact(List.sublist_flatten_of_mem (List.getElem_mem hj)).length_le
 ·rw [List.getElem?_eq_none hj];simp
theorem Mk.top{t:aV}{q:List (List Int)}(h:Mk t q){tr i:Nat}(ht:tr < q.length)(hi:i < t.2.1.length)(hn:(i:Int)∉q.flatten):Mk t (iL q tr i):=by
 have hp:=oq (i:=i) ht;refine⟨by unfold iL;rw [List.length_set,h.len],hp.nodup_iff.2 ?_,fun x hx=>?_⟩
 ·rw [List.nodup_append];exact⟨h.met.nd,by simp,fun a ha b hb=>by rw [List.mem_singleton] at hb;subst hb;exact fun e=>hn (e▸ha)⟩
 ·rcases List.mem_append.1 (hp.mem_iff.1 hx) with hx |hx
  ·exact h.met.rng x hx
  ·rw [List.mem_singleton] at hx;omega
theorem GO{t:aV}(g:jG t){q:List (List Int)}(h:Mk t q){tr i:Nat}(ht:tr < q.length)(hi:i < t.2.1.length):CS .u8 (gR q.flatten) (my .u8 1 (i:Int))=gR (iL q tr i).flatten:=by
 have h5:=g.things;have h8:∀x∈q.flatten,0≤x∧x < 8:=fun x hx=>by have:=h.met.rng x hx;omega
 have hp:=oq (i:=i) ht
 have h8':∀x∈(iL q tr i).flatten,0≤x∧x < 8:=fun x hx=>by
  rcases List.mem_append.1 (hp.mem_iff.1 hx) with hx |hx
  ·exact h8 x hx
  ·rw [List.mem_singleton] at hx;omega
 obtain⟨a1,a2⟩:=oK h8;obtain⟨b1,b2⟩:=xp (x:=(i:Int)) (by omega) (by omega);obtain⟨c1,c2⟩:=xN a1 b1;obtain⟨d1,d2⟩:=oK h8';refine zy c1 d1 fun j=>?_;rw [c2,a2,b2,d2,hp.mem_iff,List.mem_append,List.mem_singleton]
theorem Je{t:aV}(h:tV k t)(g:jG t){Y:σ→(List (List Int))→Option (σ×Bool)}{f:σ→List (List Int)→σ}{P:List (List (List Int))→σ→Prop}
 {L:Nat} (hY:∀(pre:List (List (List Int))) (s:σ) (q:List (List Int)),gi t q→pre.length < L→P pre s→Y s (cu q)=some (f s q,true)∧P (pre++[q]) (f s q)):
 ∀(m:Nat) (q:List (List Int)) (tr:Nat) (pre:List (List (List Int))) (s:σ),Mk t q→pW t q=true→tr≤t.2.2.length→(t.2.1.length - q.flatten.length)+(t.2.2.length - tr) < m→pre.length+(jK t m q tr).length≤L→P pre s→
  bD k Y (t,()) m (cu q) (tr:Int) (gR q.flatten) s=some (true,(jK t m q tr).foldl f s)∧P (pre++jK t m q tr) ((jK t m q tr).foldl f s):=by
 have h5:=g.things
 have h3:=g.trunks
 have hk:=h.k0
 have hk1:=h.k1
 intro m
 induction m with
 |zero=>intro q tr pre s _ _ _ hm;omega
 |succ m ih=>
  intro q tr pre s hq hfits ht hm hL hP;rw [jK] at hL;have hlen:=hq.met.len;have hql:=hq.len;rw [bD,jK];dsimp only;by_cases c:tr=t.2.2.length
  ·rw [if_pos c] at hL;rw [if_pos (show(tr:Int)=(t.2.2.length:Int) by omega),if_pos c,dz (by omega),bs];have hfull:=zO g.things hq.met;by_cases c1:q.flatten.length < t.2.1.length
   ·rw [if_pos (show¬gR q.flatten=_ from fun h=>hfull.1 h c1),if_pos c1,bs];exact⟨rfl,by simpa using hP⟩
   ·rw [if_neg c1] at hL
    have hgp:gi t q:=⟨g,hq.len,hq.met.nd,hq.met.rng,hq.met.full.1 c1,fun i hi=>by
     have:=iP.1 hfits i hi;rw [List.getElem?_eq_getElem hi,Option.getD_some] at this;exact this⟩
    obtain⟨y1,y2⟩:=hY pre s q hgp (by simp only [List.length_cons,List.length_nil] at hL;omega) hP;rw [if_neg (show¬¬gR q.flatten=_ from fun h=>h (hfull.2 c1)),if_neg c1,y1,bs,bs];exact⟨rfl,y2⟩
  ·have htr:tr < q.length:=by omega
   rw [if_neg c,List.length_append] at hL;rw [if_neg (show¬(tr:Int)=(t.2.2.length:Int) by omega),if_neg c,cy (by omega) (by omega),bs];obtain⟨i1,i2⟩:=ih q (tr+1) pre s hq hfits (by omega) (by omega) (by omega) hP;have e1:(tr:Int)+1=((tr+1:Nat):Int):=by omega
   obtain⟨r1,r2⟩:=hq.row tr;have hfit:Kv (q[tr]?.getD []):=⟨by omega,fun x hx=>(hq.met.rng x (r1 x hx)).1⟩;rw [e1,i1,bs,nT,xI hk (by omega) hfit,bs];have h8:∀x∈q.flatten,0≤x∧x < 8:=fun x hx=>by have:=hq.met.rng x hx;omega
   obtain⟨a1,a2⟩:=oK h8;generalize hs1:(jK t m q (tr+1)).foldl f s=s1 at i2⊢
   have loop:∀(d j n:Nat) (s2:σ) (pre2:List (List (List Int))),j+d=t.2.1.length→d < n→pre2.length+((List.range' j d).flatMap fun(i:Nat)=>if(i:Int)∈q.flatten∨t.2.2[tr]?.getD 0 < cP t (q[tr]?.getD [])+eZ t (i:Int) then [] else jK t m (iL q tr i) tr).length≤L→P pre2 s2→
    bJ k (cu q) (tr:Int) (gR q.flatten) (t,()) (bD k Y (t,()) m) (q[tr]?.getD []) n ((j:Int),s2)=some (.ok (((List.range' j d).flatMap fun(i:Nat)=>if(i:Int)∈q.flatten∨t.2.2[tr]?.getD 0 < cP t (q[tr]?.getD [])+eZ t (i:Int) then [] else jK t m (iL q tr i) tr).foldl f s2))∧
    P (pre2++((List.range' j d).flatMap fun(i:Nat)=>if(i:Int)∈q.flatten∨t.2.2[tr]?.getD 0 < cP t (q[tr]?.getD [])+eZ t (i:Int) then [] else jK t m (iL q tr i) tr)) (((List.range' j d).flatMap fun(i:Nat)=>if(i:Int)∈q.flatten∨t.2.2[tr]?.getD 0 < cP t (q[tr]?.getD [])+eZ t (i:Int) then [] else jK t m (iL q tr i) tr).foldl f s2):=by
    intro d
    induction d with
    |zero=>
     intro j n s2 pre2 hj hn hL2 hp2;obtain⟨n,rfl⟩:∃n',n=n'+1:=⟨n - 1,by omega⟩;rw [bJ];dsimp only;rw [if_neg (by omega)];exact⟨rfl,by simpa using hp2⟩
    |succ d ihd=>
     intro j n s2 pre2 hj hn hL2 hp2;obtain⟨n,rfl⟩:∃n',n=n'+1:=⟨n - 1,by omega⟩;have hjl:j < t.2.1.length:=by omega
     rw [List.range'_succ,List.flatMap_cons,List.length_append] at hL2
     have next:∀(s3:σ) (pre3:List (List (List Int))),pre3.length+((List.range' (j+1) d).flatMap fun(i:Nat)=>if(i:Int)∈q.flatten∨t.2.2[tr]?.getD 0 < cP t (q[tr]?.getD [])+eZ t (i:Int) then [] else jK t m (iL q tr i) tr).length≤L→P pre3 s3→(ck ((j:Int)+1)).bind (fun x32=>bJ k (cu q) (tr:Int) (gR q.flatten) (t,()) (bD k Y (t,()) m) (q[tr]?.getD []) n (x32,s3))=_∧_:=fun s3 pre3 hL3 hp3=>by
      have:=ihd (j+1) n s3 pre3 (by omega) (by omega) hL3 hp3;rw [cy (by omega) (by omega),bs,show(j:Int)+1=((j+1:Nat):Int) by omega];exact this
     rw [bJ];dsimp only;rw [if_pos (show(j:Int) < (t.2.1.length:Int) by omega),dD hjl,bs,xQ a1 (by omega),bs,List.range'_succ,List.flatMap_cons,List.foldl_append];by_cases c1:(j:Int)∈q.flatten
     ·rw [decide_eq_true ((a2 j).2 c1),iT,bs,iT,oa,if_pos (.inl c1)];rw [if_pos (.inl c1)] at hL2;exact next s2 pre2 (by simpa using hL2) hp2
     ·have hso:eZ t (j:Int)=t.2.1[j].1:=by
       unfold eZ;rw [show((j:Int)).toNat=j from rfl,List.getElem?_eq_getElem hjl]
      have hro:=qo g (x:=(j:Int));have hrs:=mS g (l:=q[tr]?.getD []);have htl:t.2.2[tr]?.getD 0=t.2.2[tr]'(by omega):=by rw [List.getElem?_eq_getElem (by omega)];rfl
      rw [decide_eq_false (fun h=>c1 ((a2 j).1 h)),iF,Ci g hk1 (by omega) (fun x hx=>hq.met.rng x (r1 x hx)),bs,←hso,cy (by omega) (by omega),bs,dD (by omega),bs,bs,←htl];by_cases c2:t.2.2[tr]?.getD 0 < cP t (q[tr]?.getD [])+eZ t (j:Int)
      ·rw [decide_eq_true c2,iT,oa,if_pos (.inr c2)];rw [if_pos (.inr c2)] at hL2;exact next s2 pre2 (by simpa using hL2) hp2
      ·have hl4:(q[tr]?.getD []).length < 5:=by
        have:q.flatten.length < t.2.1.length:=by
         rcases Nat.lt_or_ge q.flatten.length t.2.1.length with h |h
         ·exact h
         ·exact absurd (hq.met.full.1 (by omega) j hjl) c1
        omega
       have hq':=hq.top htr hjl c1;have hfl:=(oq (i:=j) htr).length_eq;simp only [List.length_append,List.length_cons,List.length_nil] at hfl;have hlt:q.flatten.length < t.2.1.length:=by have:=hq'.met.len;omega
       rw [if_neg (fun h=>h.elim c1 c2)] at hL2
       have hfits':pW t (iL q tr j)=true:=by
        rw [iP];intro a ha;unfold iL at ha;rw [List.length_set] at ha;rw [qX htr];by_cases e:a=tr
        ·rw [if_pos e,qn,e];omega
        ·rw [if_neg e];exact iP.1 hfits a ha
       obtain⟨k1,k2⟩:=ih (iL q tr j) tr pre2 s2 hq' hfits' ht (by omega) (by omega) hp2;rw [decide_eq_false c2,iF,dz (by omega),bs,xH (by omega),bs,dz (by omega),bs];unfold dI;rw [dz (by omega),bs,bs,show Int.toNat (tr:Int)=tr from rfl,show Int.toNat ((q[tr]?.getD []).length:Int)=(q[tr]?.getD []).length from rfl,GV htr (by omega) hl4,GO g hq htr hjl,k1,bs,nT,oa,if_neg (fun h=>h.elim c1 c2)];have:=next _ _ (by rw [List.length_append];omega) k2;rw [List.append_assoc] at this;exact this
   obtain⟨l1,l2⟩:=loop t.2.1.length 0 k s1 (pre++jK t m q (tr+1)) (by omega) (by omega) (by rw [List.length_append,←List.range_eq_range'];omega) i2;rw [show((0:Nat):Int)=0 from rfl] at l1;rw [l1,oa,List.foldl_append,hs1,List.range_eq_range'];refine⟨rfl,?_⟩;rw [List.append_assoc] at l2;exact l2
theorem rF{α β:Type}{f g:α→List β}:∀{l:List α},(∀x∈l,f x=g x)→l.flatMap f=l.flatMap g
 |[],_=>rfl
 |x::l,h=>by rw [List.flatMap_cons,List.flatMap_cons,h x (by simp),rF fun y hy=>h y (by simp [hy])]
theorem qD{n N:Nat}:∀{m m':Nat} {q:List (List Int)} {tr:Nat},q.length=N→tG n q.flatten→tr≤N→(n - q.flatten.length)+(N - tr) < m→(n - q.flatten.length)+(N - tr) < m'→m7 n N m q tr=m7 n N m' q tr
 |0,_,_,_,_,_,_,h,_=>by omega
 |m+1,0,_,_,_,_,_,_,h=>by omega
 |m+1,m'+1,q,tr,hq,hm,ht,h,h'=>by
  rw [m7,m7]
  by_cases c:tr=N
  ·
   rw [if_pos c,if_pos c]
  ·
   rw [if_neg c,if_neg c,qD (m:=m) (m':=m') hq hm (by omega) (by omega) (by omega)]
   congr 1
   refine rF fun i hi=>?_
   by_cases c1:(i:Int)∈q.flatten
   ·
    rw [if_pos c1,if_pos c1]
   ·
    rw [if_neg c1,if_neg c1]
    have htr:tr < q.length:=by omega
    have hp:=oq (i:=i) htr
    have hl:=hp.length_eq
    simp only [List.length_append,List.length_cons,List.length_nil] at hl
    have hi':=List.mem_range.1 hi
    have hm':tG n (iL q tr i).flatten:=⟨hp.nodup_iff.2 (by
     rw [List.nodup_append]
     exact⟨hm.nd,by simp,fun a ha b hb=>by rw [List.mem_singleton] at hb;subst hb;exact fun e=>c1 (e▸ha)⟩),fun x hx=>by
     rcases List.mem_append.1 (hp.mem_iff.1 hx) with hx |hx
     ·
      exact hm.rng x hx
     ·
      rw [List.mem_singleton] at hx;omega⟩
    have:=hm'.len
    exact qD (by unfold iL;rw [List.length_set,hq]) hm' ht (by omega) (by omega)
def J2(n N:Nat):List (List (List Int)):=m7 n N 10 (List.replicate N []) 0
def kz(t:aV):List (List (List Int)):=(J2 t.2.1.length t.2.2.length).filter (pW t)
theorem Ag:((List.range 6).all fun n=>(List.range 4).all fun N=>decide ((J2 n N).length≤2520))=true:=by decide+kernel
theorem tp{t:aV}(h:tV k t)(g:jG t){Y:σ→(List (List Int))→Option (σ×Bool)}{f:σ→List (List Int)→σ}{P:List (List (List Int))→σ→Prop}
 (hY:∀(pre:List (List (List Int))) (s:σ) (q:List (List Int)),gi t q→pre.length < 2520→P pre s→Y s (cu q)=some (f s q,true)∧P (pre++[q]) (f s q)) {s:σ} (hP:P [] s):
 dq k Y (t,()) s=some ((kz t).foldl f s)∧P (kz t) ((kz t).foldl f s):=by
 have h5:=g.things
 have h3:=g.trunks
 have hk0:=h.k0
 have e:cu []=cu (List.replicate t.2.2.length []):=by
  have:∀j:Nat,(List.replicate t.2.2.length ([]:List Int))[j]?.getD []=[]:=fun j=>by
   rw [List.getElem?_replicate];split <;> rfl
  unfold cu;rw [this,this,this];rfl
 have hfl:(List.replicate t.2.2.length ([]:List Int)).flatten=[]:=by simp
 have hmet:tG t.2.1.length (List.replicate t.2.2.length ([]:List Int)).flatten:=by rw [hfl];exact⟨by simp,by simp⟩
 have hm:Mk t (List.replicate t.2.2.length []):=⟨by simp,hmet⟩
 have hneed:(t.2.1.length - (List.replicate t.2.2.length ([]:List Int)).flatten.length)+(t.2.2.length - 0) < 10:=by rw [hfl];simp only [List.length_nil];omega
 have hfit:pW t (List.replicate t.2.2.length [])=true:=by
  rw [iP];intro i hi;rw [List.length_replicate] at hi;rw [List.getElem?_replicate,if_pos hi,Option.getD_some];have hr:=g.rooms _ (List.getElem_mem hi);rw [List.getElem?_eq_getElem hi];simp only [cP,Option.getD_some];omega
 have ea:jK t k (List.replicate t.2.2.length []) 0=kz t:=by
  rw [oS g (by simp) (by omega) hfit,qD (m':=10) (by simp) hmet (by omega) (by omega) hneed];rfl
 obtain⟨a,b⟩:=Je h g hY k (List.replicate t.2.2.length []) 0 [] s hm hfit (by omega) (by omega) (by
  rw [ea,List.length_nil,Nat.zero_add];refine Nat.le_trans (List.length_filter_le _ _) ?_;have:=Ag;rw [List.all_eq_true] at this;have:=this t.2.1.length (List.mem_range.2 (by omega));rw [List.all_eq_true] at this;exact of_decide_eq_true (this t.2.2.length (List.mem_range.2 (by omega)))) hP
 rw [ea] at a b
 refine⟨?_,by simpa using b⟩
 unfold dq
 rw [hfl] at a
 rw [uQ hk0,bs,e]
 rw [show gR []=0 from rfl,show((0:Nat):Int)=0 from rfl] at a
 rw [a,bs]
end
theorem vi{n N:Nat}:∀{m:Nat} {q:List (List Int)} {tr:Nat},q.length=N→tG n q.flatten→tr≤N→∀x∈m7 n N m q tr,x.length=N∧tG n x.flatten∧¬x.flatten.length < n
 |0,_,_,_,_,_,x,hx=>by cases hx
 |m+1,q,tr,hq,hm,ht,x,hx=>by
  rw [m7] at hx
  by_cases c:tr=N
  ·
   rw [if_pos c] at hx
   split at hx
   ·
    cases hx
   ·
    rename_i hl
    rw [List.mem_singleton] at hx;subst hx
    exact⟨hq,hm,hl⟩
  ·
   rw [if_neg c] at hx
   rcases List.mem_append.1 hx with hx |hx
   ·
    exact vi hq hm (by omega) x hx
   ·
    obtain⟨i,hi,hx⟩:=List.mem_flatMap.1 hx
    split at hx
    ·
     cases hx
    ·
     rename_i c1
     have htr:tr < q.length:=by omega
     have hp:=oq (i:=i) htr
     have hi':=List.mem_range.1 hi
     have hm':tG n (iL q tr i).flatten:=⟨hp.nodup_iff.2 (by
      rw [List.nodup_append]
      exact⟨hm.nd,by simp,fun a ha b hb=>by rw [List.mem_singleton] at hb;subst hb;exact fun e=>c1 (e▸ha)⟩),fun x hx=>by
      rcases List.mem_append.1 (hp.mem_iff.1 hx) with hx |hx
      ·
       exact hm.rng x hx
      ·
       rw [List.mem_singleton] at hx;omega⟩
     exact vi (by unfold iL;rw [List.length_set,hq]) hm' ht x hx
theorem Db{n N:Nat}{x:List (List Int)}(h:x∈J2 n N):x.length=N∧tG n x.flatten∧¬x.flatten.length < n:=
 vi (by simp) (by simp only [List.flatten_replicate_nil];exact⟨by simp,by simp⟩) (by omega) x h
theorem jr{t:aV}(g:jG t){q:List (List Int)}(h:q∈kz t):gi t q:=by
 obtain⟨h1,h2⟩:=List.mem_filter.1 h;obtain⟨a,b,c⟩:=Db h1
 exact⟨g,a,b.nd,b.rng,b.full.1 c,fun i hi=>by
  have:=iP.1 h2 i hi;rw [List.getElem?_eq_getElem hi,Option.getD_some] at this;exact this⟩
theorem HQ{t:aV}(g:jG t):(kz t).length≤2520:=by
 have h5:=g.things;have h3:=g.trunks;refine Nat.le_trans (List.length_filter_le _ _) ?_;have:=Ag;rw [List.all_eq_true] at this;have:=this t.2.1.length (List.mem_range.2 (by omega));rw [List.all_eq_true] at this;exact of_decide_eq_true (this t.2.2.length (List.mem_range.2 (by omega)))
theorem At.of{k:Nat}{t:aV}(h:tV k t)(hs:jW k t)(ht:jF t=0){q:List (List Int)}(hq:gi t q):At k t q:=⟨hs,h,hq.chk ht⟩
def di(t:aV)(q:List (List Int)):Nat:=ug t t.1.toNat 0 q
def pZ{α:Type}(f:α→Nat)(b:Option (α×Nat))(o:α):Option (α×Nat):=match b with
 |none=>some (o,f o)
 |some (x,n)=>if f o < n then some (o,f o) else some (x,n)
def qK{α:Type}(f:α→Nat)(l:List α):Option (α×Nat)→Prop
 |none=>l=[]
 |some (x,n)=>n=f x∧(∀y∈l,n≤f y)∧∃p s,l=p++x::s∧∀y∈p,n < f y
theorem Af{α:Type}{f:α→Nat}:∀(l pre:List α) (b:Option (α×Nat)),qK f pre b→qK f (pre++l) (l.foldl (pZ f) b)
 |[],pre,b,h=>by simpa using h
 |o::l,pre,b,h=>by
  have h1:qK f (pre++[o]) (pZ f b o):=by
   cases b with
   |none=>
    have h:pre=[]:=h;subst h;exact⟨rfl,fun y hy=>by simp only [List.nil_append,List.mem_singleton] at hy;subst hy;exact Nat.le_refl _,[],[],rfl,by simp⟩
   |some b=>
    obtain⟨x,n⟩:=b;obtain⟨h1,h2,p,s,h3,h4⟩:=h;unfold pZ;dsimp only;by_cases c:f o < n
    ·rw [if_pos c];refine⟨rfl,fun y hy=>?_,pre,[],rfl,fun y hy=>Nat.lt_of_lt_of_le c (h2 y hy)⟩;rcases List.mem_append.1 hy with hy |hy
     ·exact Nat.le_of_lt (Nat.lt_of_lt_of_le c (h2 y hy))
     ·rw [List.mem_singleton] at hy;subst hy;exact Nat.le_refl _
    ·rw [if_neg c];refine⟨h1,fun y hy=>?_,p,s++[o],by rw [h3];simp,h4⟩;rcases List.mem_append.1 hy with hy |hy
     ·exact h2 y hy
     ·rw [List.mem_singleton] at hy;subst hy;omega
  have:=Af l (pre++[o]) _ h1;rwa [List.append_assoc] at this
theorem JX{α:Type}{f:α→Nat}(l:List α):qK f l (l.foldl (pZ f) none):=by
 have:=Af (f:=f) l [] none rfl;simpa using this
section
variable {k:Nat}
theorem zA{t:aV}(h:tV k t)(hs:jW k t)(ht:jF t=0){q:List (List Int)}(hq:gi t q):bH k t (cu q)=some (di t q:Int):=by
 have hA:=At.of h hs ht hq;have h6:=hq.g.days;unfold bH;rw [dz (LW hq.fit),bs,Jt hA hq (by omega),bs,Int.sub_zero];rfl
theorem BM{t:aV}(h:tV k t)(g:jG t):fW k (t,())=some ((kz t).map cu):=by
 unfold fW gz
 have:=tp (k:=k) h g (Y:=lu (fun(y2:(List (List (List Int)))) (p4:(List (List Int)))=>(eE (bX (List.length y2+List.length [p4]))).bind fun _=>some (y2++[p4],true))) (f:=fun s q=>(s.1++[cu q],false)) (P:=fun pre s=>s=(pre.map cu,false)) (by
  rintro pre s q hq hl rfl;refine⟨?_,by simp⟩;show(((eE (bX _)).bind fun _=>some (_,true)).bind fun r=>some ((r.1, !r.2),r.2):Option _)=_;rw [dz (Qx (by simp only [List.length_map,List.length_cons,List.length_nil];omega)),bs,bs];rfl) (s:=([],false)) rfl
 obtain⟨h1,h2⟩:=this;rw [h1,bs,h2,iF,bs]
theorem Bv{t:aV}(h:tV k t)(hs:jW k t)(ht:jF t=0)(hk:3000≤k){l:List (List (List Int))}(hl:∀q∈l,gi t q)(hlen:l.length≤2520):
 ik k t (l.map cu)=some (match l.foldl (pZ (di t)) none with |none=>([[0,0,0,0,0],[0,0,0,0,0],[0,0,0,0,0]],0,false) |some (q,n)=>(cu q,(n:Int),true)):=by
 have hk1:=h.k1
 unfold ik
 have key:∀(d j n:Nat) (b:Option (List (List Int)×Nat)),j+d=l.length→d < n→
  cN k t (l.map cu) n (match b with |none=>([[0,0,0,0,0],[0,0,0,0,0],[0,0,0,0,0]],0,false,(j:Int)) |some (q,m)=>(cu q,(m:Int),true,(j:Int)))=
  some (match (l.drop j).foldl (pZ (di t)) b with |none=>([[0,0,0,0,0],[0,0,0,0,0],[0,0,0,0,0]],0,false) |some (q,n)=>(cu q,(n:Int),true)):=by
  intro d
  induction d with
  |zero=>
   intro j n b hj hn;obtain⟨n,rfl⟩:∃n',n=n'+1:=⟨n - 1,by omega⟩;rw [List.drop_of_length_le (by omega),cN];cases b with
   |none=>dsimp only;rw [if_neg (by rw [List.length_map];omega)];rfl
   |some b=>obtain⟨q,m⟩:=b;dsimp only;rw [if_neg (by rw [List.length_map];omega)];rfl
  |succ d ih=>
   intro j n b hj hn;obtain⟨n,rfl⟩:∃n',n=n'+1:=⟨n - 1,by omega⟩;have hjl:j < l.length:=by omega
   have hg:=zA h hs ht (hl _ (List.getElem_mem hjl));have hgi:bf (l.map cu) (j:Int)=some (cu l[j]):=by rw [dD (by rw [List.length_map];exact hjl),List.getElem_map]
   have:=ih (j+1) n (pZ (di t) b l[j]) (by omega) (by omega);rw [List.drop_eq_getElem_cons hjl,List.foldl_cons,←this,cN];cases b with
   |none=>
    dsimp only;rw [if_pos (by rw [List.length_map];omega),hgi,bs,hg,bs,nF,bs,iT,bs,cy (by omega) (by omega),bs];rfl
   |some b=>
    obtain⟨q,m⟩:=b;dsimp only;rw [if_pos (by rw [List.length_map];omega),hgi,bs,hg,bs,nT,bs];unfold pZ;by_cases c:di t l[j] < m
    ·rw [decide_eq_true (Int.ofNat_lt.2 c),iT,bs,cy (by omega) (by omega),bs];simp only [c,if_true];rfl
    ·rw [decide_eq_false (fun h=>c (Int.ofNat_lt.1 h)),iF,bs,cy (by omega) (by omega),bs];simp only [c,if_false];rfl
 have:=key l.length 0 k none (by omega) (by omega)
 rw [List.drop_zero] at this
 rw [show cN k t (l.map cu) k ([[0,0,0,0,0],[0,0,0,0,0],[0,0,0,0,0]],0,false,0)=_ from this,bs]
def rN(t:aV):Option (List (List Int)×Nat):=(kz t).foldl (pZ (di t)) none
theorem rM{t:aV}:qK (di t) (kz t) (rN t):=JX _
theorem KC{t:aV}(h:tV k t)(hs:jW k t)(hk:3000≤k)(ht:jF t=0):jv k t=some (match rN t with |none=>([],0,11) |some (q,n)=>(q,(n:Int),0)):=by
 have g:=nB ht;unfold jv;rw [s8 hs,bs,ht,if_neg (not_not_intro rfl),BM h g,bs,Bv h hs ht hk (fun q hq=>jr g hq) (HQ g),bs];have hb:=rM (t:=t);unfold rN at *;cases e:(kz t).foldl (pZ (di t)) none with
 |none=>dsimp only;rw [nF]
 |some b=>
  obtain⟨q,n⟩:=b;rw [e] at hb;obtain⟨_,_,p,s,h3,_⟩:=hb;have hq:=jr g (q:=q) (by rw [h3];simp);dsimp only;rw [nT,zz h.k0 hq.fit hq.len,bs]
end
end Go.Proofs.YtcnpijmfgfnpiaaGreatDoor
