import Derived.Test.YtddneonghpmidaaGreatDoorSBF2
set_option linter.unusedSimpArgs false
set_option linter.unusedVariables false
namespace Go.Proofs.YtddneonghpmidaaGreatDoor
namespace K
open Go Go.ChangeShapes Go.WideShapes Go.ChangeAt Go.RowKit
@[reducible] def kd:Ty→Bool
 | .int _=>true
 | .bool=>true
 | .str=>true
 | .pair a b=>kd a && kd b
 | .agg t=>kd t
 | .arr _ t=>kd t
 | .slice t=>kd t && Nat.blt 0 t.cells
 |_=>false
def yb:Value→Bool
 | .iface _ _=>true
 |_=>false
theorem vU{α:Type}{R:α→List Value→Prop}(h:∀x cs,R x cs→∀v∈cs,yb v=false):∀{l:List α} {cs:List Value},cM R l cs→∀v∈cs,yb v=false
 |[],_,e=>by simp [cM] at e;simp [e]
 |_::_,_,⟨c1,c2,e,h1,h2⟩=>by
  subst e
  intro v hv
  rcases List.mem_append.1 hv with hv |hv
  ·
   exact h _ _ h1 v hv
  ·
   exact vU h h2 v hv
theorem Qw{S:FS}{w:World}(t:Ty):∀{x:t.den} {cs:List Value},kd t=true→rd S w t x cs→∀v∈cs,yb v=false:=by
 induction t with
 |int k=>intro x cs _ h v hv;simp only [rd] at h;subst h;simp at hv;subst hv;rfl
 |bool=>intro x cs _ h v hv;simp only [rd] at h;subst h;simp at hv;subst hv;rfl
 |str=>intro x cs _ h v hv;simp only [rd] at h;subst h;simp at hv;subst hv;rfl
 |pair a b iha ihb=>
  rintro x cs hp ⟨c1,c2,rfl,h1,h2⟩ v hv;simp [kd] at hp;rcases List.mem_append.1 hv with hv |hv
  ·exact iha hp.1 h1 v hv
  ·exact ihb hp.2 h2 v hv
 |agg t ih=>intro x cs hp h;exact ih hp h
 |arr n t ih=>intro l cs hp h;exact vU (fun _ _ h=>ih hp h) h.2
 |slice t ih=>
  intro l cs hp h v hv;rcases h with⟨a,cap,rfl,_⟩ |⟨b,off,cap,c,T,fz,rfl,_⟩ <;> (simp at hv;subst hv;rfl)
 |_=>intro x cs hp;cases hp
theorem KX{S:FS}{w:World}{b0:Nat}{c0:Array Value}{T0:TypeId}{fz0:Nat×Nat}(h0:w.heap[b0]? =some (.cells c0 T0 fz0))(hc:∀v∈c0.toList,yb v=true)(t:Ty):
 ∀{x:t.den} {cs:List Value},kd t=true→rd S w t x cs→rd (fun b=>S b∧b≠b0) w t x cs:=by
 induction t with
 |int k=>intro x cs _ h;exact h
 |bool=>intro x cs _ h;exact h
 |str=>intro x cs _ h;exact h
 |pair a b iha ihb=>
  rintro x cs hp ⟨c1,c2,rfl,h1,h2⟩;simp [kd] at hp;exact⟨c1,c2,rfl,iha hp.1 h1,ihb hp.2 h2⟩
 |agg t ih=>intro x cs hp h;exact ih hp h
 |arr n t ih=>intro l cs hp h;exact⟨h.1,bF (fun _ _ h=>ih hp h) h.2⟩
 |slice t ih=>
  intro l cs hp h;have hp1:kd t=true:=by simp [kd] at hp;exact hp.1
  have hp2:0 < t.cells:=by simp [kd] at hp;exact hp.2
  rcases h with h |⟨b,off,cap,c,T,fz,rfl,hle,hS,hb,hr⟩
  ·exact .inl h
  ·by_cases hl:l=[]
   ·subst hl;exact .inl ⟨_,cap,rfl,rfl⟩
   ·refine .inr ⟨b,off,cap,c,T,fz,rfl,hle,⟨hS,fun e=>?_⟩,hb,bF (fun _ _ h=>ih hp1 h) hr⟩;subst e;rw [h0] at hb;cases hb;have hlen:=ig (fun _ _ h=>aM t h) hr;have hno:=vU (fun _ _ h=>Qw t hp1 h) hr;have hpos:0 < l.length:=List.length_pos_iff.2 hl;have:0 < ((c0.toList.drop off).take (l.length * t.cells)).length:=by rw [hlen];exact Nat.mul_pos hpos hp2
    obtain⟨v,hv⟩:=List.exists_mem_of_length_pos this;have h1:=hno v hv;have h2:=hc v (List.mem_of_mem_drop (List.mem_of_mem_take hv));rw [h1] at h2;cases h2
 |_=>intro x cs hp;cases hp
theorem yr{S:FS}{w:World}{b0:Nat}{c0:Array Value}{T0:TypeId}{fz0:Nat×Nat}(h0:w.heap[b0]? =some (.cells c0 T0 fz0))(hc:∀v∈c0.toList,yb v=true):
 ∀{ts:List (TypeId×Ty)} {uz:List A} {vs:List Value},(∀p∈ts,kd p.2=true)→Lk ts uz→gr S w uz vs→gr (fun b=>S b∧b≠b0) w uz vs
 |[],uz,vs,_,hl,h=>by
  have hl:uz=[]:=hl
  subst hl
  exact h
 |p::ts,uz,vs,hp,hl,h=>by
  obtain⟨d,uz',rfl,hl'⟩:=hl
  obtain⟨v,vs',e,⟨cs,hr,hv⟩,h2⟩:=h
  exact⟨v,vs',e,⟨cs,KX h0 hc p.2 (hp p (by simp)) hr,hv⟩,yr h0 hc (fun q hq=>hp q (by simp [hq])) hl' h2⟩
section
variable {H:Type}{enc:TypeId×Value→H}{P:Program}
theorem BB{M:Md P}{f:Nat}{fn:Func}{B:TypeId}{s:ChangeSpec}{b0:Nat}{c0:Array Value}{T0:TypeId}{p0:Obj→Prop}(hp0:∀o,p0 o↔o= .cells c0 T0 (0,0))(hc0:∀v∈c0.toList,yb v=true)
 (ts:List (TypeId×Ty)) (hpl:∀p∈ts,kd p.2=true) (hp:fn.params.toList=ts.map (·.1)) (hr:fn.resultTypes= #[B]) (hB:P.underlying B=some .bool)
 (hm:∀p∈ts,MT P p.2 (.inl p.1)) (laid:laidOutB P=true) (hT:∀T∈ts.map (·.1),P.readableRec T=true∧T < P.types.size)
 (hs:∀ds:List (DataW H),ds.length=ts.length→s.fn H ds={ results:=[.lit (.bool true)],args:=ds }) (hv:s.vars=[])
 (law:∀uz,Lk ts uz→dD M f uz [.inv b0 p0] (fun _:Unit=>(bp [.eq (.bool true)],[.inv b0 p0])))
 (W:World) (base:Nat) (args:Array Value) (ds gs:List (DataW H)) (before:List MemPlace) (hb0:W.heap[b0]? =some (.cells c0 T0 (0,0)))
 (hval:∀(j:Nat) t v,fn.params[j]? =some t→args[j]? =some v→Value.okWide P W .any base t v)
 (hW:DataW.Whole enc P fn.params.toList s.vars false W args.toList ds gs before):
 nC M .normal f args (vw W) fun e W'=>∃v,e= .returned v∧∀v1,cd W' v1→s.post enc P fn false true false false W args v v1.toWorld:=by
 have hW':=hW
 obtain⟨p,q,hA,hV,rfl,_,_⟩:=hW
 rw [hv] at hV
 obtain⟨rfl,rfl⟩:=trodVars_none hV
 have hlt:∀x∈p,x.block < W.heap.size:=hA.lt
 have hlen:=Ae hA
 rw [hp,List.length_map] at hlen
 rw [hp] at hA
 obtain⟨uz,hL,h2⟩:=EW (S:=fun b=>b < W.heap.size) (base:=base) hm (fun j t v h1 h2=>hval j t v (by rw [←hp] at h1;simpa using h1) (by simpa using h2)) hA hlt
 have h3:=yr hb0 hc0 hpl hL h2
 have hlt0:b0 < W.heap.size:=(Array.getElem?_eq_some_iff.1 hb0).1
 have hft:∀b,aE [D.inv b0 p0] b↔b=b0:=fun b=>by
  rw [dI];exact⟨fun h=>(Option.some.inj h).symm,fun h=>by rw [h];rfl⟩
 have hO:bf [.inv b0 p0] (fun b=>b < W.heap.size∧b≠b0) (vw W):=by
  refine⟨fun d hd=>?_,fun b hb=>?_,List.pairwise_singleton _ _,fun b _=>⟨fun h=>h,fun h=>h⟩,fun _ _ h=>h,fun _ h=>h.elim,fun _ h=>h.elim⟩
  ·simp at hd;subst hd;exact⟨_,hb0,(hp0 _).2 rfl⟩
  ·rw [hft] at hb;subst hb;exact⟨fun h=>h.2 rfl,hlt0⟩
 have:=law uz hL .normal (fun e=>nomatch e) (fun b=>b < W.heap.size∧b≠b0) (vw W) args.toList (fun _ h=>h.1) h3 hO
 rw [Array.toArray_toList] at this
 refine this.mono ?_
 rintro e' W' ⟨_,S',v,rfl,h1,h2,h4,_⟩
 obtain rfl:v= .bool true:=h2
 refine⟨_,rfl,fun v1 hrel=>?_⟩
 have h5:=h4.rely h1.dom hrel
 replace h1:=h1.trans (bV.rely (X:=aE [D.inv b0 p0]) h1.dom hrel) fun b hb=>.inl hb
 obtain⟨o1,k0,k0'⟩:=h5.holds _ (List.mem_singleton.2 rfl)
 rw [(hp0 _).1 k0'] at k0
 have h6:bV (aE []) (fun b=>b < W.heap.size∧b≠b0) (vw W) S' v1:=by
  refine⟨h1.sub,fun b hb=>(h1.new b hb).imp id (Or.imp id fun hx=>absurd hb (h5.own b hx).1),h1.dom,h1.size,fun b hb ha hx=>?_,h1.os,h1.tape,h1.output,h1.subA,h1.oldA,h1.Z⟩;by_cases e:b=b0
  ·subst e;exact k0.trans hb0.symm
  ·exact h1.keep b hb ha (fun h=>e ((hft b).1 h))
 obtain⟨k1,k2⟩:=FB (may:=(· ∈p++[])) h6
 have hk:∀b,b < W.heap.size→v1.heap[b]? =W.heap[b]? :=fun b hb=>h6.keep b hb (fun hx=>hx) (fun hx=>fw hx)
 refine HL (pa:=p) (pv:=[]) hW' (fun _ _ _=>?_) (fun sp hsp=>?_) (fun _ _=>?_) rfl k1 k2 (ok_one hr rfl (okWide_bool_mk hB _))
 ·
  rw [hr,List.append_nil,hs ds hlen];exact trodAll_mk1 (shut_bool hB _)
 ·
  rw [hp,List.append_nil,hs ds hlen];exact BJ laid hk hT hA (fun x hx=>⟨hlt x hx,hsp x (by simpa using hx)⟩)
 ·
  rw [hv,List.append_nil,hs ds hlen];rfl
end
section
open Go.Conc
variable {H:Type}{enc:TypeId×Value→H}
theorem zh{a:Assume}{C:Checked}{os:Os}{f:FuncId}{fn:Func}{s:ChangeSpec}{conds:List PathCond}{apart fresh handsOn again:Bool}{X:World→Prop}
 (hX:∀(w w':World),w.heap=w'.heap→X w→X w') (own:ownKnob C.prog.godebug=none) (started:os.Started) (hfn:C.prog.funcs[f]? =some fn)
 (witness:∃(w:World) (tape:Tape) (i:Input),w.os=os∧(w.forCall tape i).Shaped C.prog∧i.vars=[]∧Input.okWide C.prog (w.forCall tape i) .any w.heap.size f i∧
  ((s.pre enc C.prog fn conds apart (w.forCall tape i).memory i.args∧X (w.forCall tape i).memory)∧sizedMet enc C.prog fn (OpenSpec.ofChange s) apart (w.forCall tape i).memory i.args)∧a.holds C.prog (lone (Frame.enter C.prog f i.args .normal) [] (w.forCall tape i)))
 (runs:∀(W:World) (base:Nat) (args:Array Value) (ds gs:List (DataW H)) (before:List MemPlace),W.ShapedOpen C.prog→
  (∀(j:Nat) t v,fn.params[j]? =some t→args[j]? =some v→Value.okWide C.prog W .any base t v)→
  DataW.Whole enc C.prog fn.params.toList s.vars apart W args.toList ds gs before→X W→
  a.holds C.prog (lone (Frame.enter C.prog f args .normal) [] W)→
  ∃M last o w' t',runNT C.prog (M+1) (solo (Conc.G (Frame.enter C.prog f args .normal) []) W) #[]=(.ended o w',t')∧runN C.prog M (solo (Conc.G (Frame.enter C.prog f args .normal) []) W)= .next last∧
   step C.prog last= .ended o w'∧Conc.Good C.prog (fun v W'=>s.post enc C.prog fn apart fresh handsOn again W args v W') last o w' t'):
 ReturnsInLeavingWide a C os f .any (fun w args=>(s.pre enc C.prog fn conds apart w args∧X w)∧sizedMet enc C.prog fn (OpenSpec.ofChange s) apart w args) (s.post enc C.prog fn apart fresh handsOn again):=by
 refine returnsInLeavingWide_of_good own started witness ?_
 intro w tape i _ hsh _ hok hpre hholds
 obtain⟨_,_,_,fn',hfn',_,_,_,_,hval⟩:=hok
 obtain rfl:fn'=fn:=Option.some.inj (hfn'.symm.trans hfn)
 obtain⟨⟨⟨ds,gs,before,hw,_⟩,hx⟩,_⟩:=hpre
 obtain⟨M,last,o,w',t',h1,h2,h3,h4⟩:=runs (w.forCall tape i) w.heap.size i.args ds gs before hsh hval (DataW.Whole.of_heap (w':=w.forCall tape i) (by rfl) hw) (hX _ _ (by rfl) hx) hholds
 exact⟨M,last,o,w',t',h1,h2,h3,h4.mono fun v hp=>ChangeSpec.post_blind hp⟩
end
end K
end Go.Proofs.YtddneonghpmidaaGreatDoor
namespace Go.Proofs.YtddneonghpmidaaGreatDoor
open K Go Go.Proofs
def W{α:Type}(x:Option α)(Q:α→Prop):Prop:=∃a,x=some a∧Q a
namespace W
variable {α β ε:Type}{Q:β→Prop}
theorem ret{a:β}(h:Q a):W (some a) Q:=⟨a,rfl,h⟩
theorem mono{x:Option β}{R:β→Prop}(h:W x R)(hq:∀a,R a→Q a):W x Q:=let ⟨a,e,r⟩:=h;⟨a,e,hq a r⟩
theorem bind{x:Option α}{f:α→Option β}{R:α→Prop}(h:W x R)(hf:∀a,R a→W (f a) Q):W (x.bind f) Q:=by
 obtain⟨a,rfl,r⟩:=h;exact hf a r
theorem ck{n:Int}{f:Int→Option β}(h1: -9223372036854775808≤n)(h2:n≤9223372036854775807)(hf:W (f n) Q):W ((K.ck n).bind f) Q:=by
 rw [K.ck,if_pos ⟨h1,h2⟩];exact hf
theorem chk{p:Prop}[Decidable p]{f:Unit→Option β}(h:p)(hf:W (f ()) Q):W ((cP p).bind f) Q:=by
 rw [cP,if_pos h];exact hf
theorem at_{l:List α}{i:Int}{f:α→Option β}(h0:0≤i)(h1:i < l.length)(hf:∀x,l[i.toNat]? =some x→W (f x) Q):W ((aP l i).bind f) Q:=by
 have:i.toNat < l.length:=by omega
 rw [aP,if_pos h0,List.getElem?_eq_getElem this];exact hf _ (List.getElem?_eq_getElem this)
theorem ite{p:Prop}[Decidable p]{a b:Option β}(h1:p→W a Q)(h2:¬p→W b Q):W (if p then a else b) Q:=by
 split
 ·exact h1 ‹_›
 ·exact h2 ‹_›
theorem iteB{p:Prop}[Decidable p]{a b:Option α}{f:α→Option β}(h1:p→W (a.bind f) Q)(h2:¬p→W (b.bind f) Q):W ((if p then a else b).bind f) Q:=by
 split
 ·exact h1 ‹_›
 ·exact h2 ‹_›
theorem bEE{x:Option (Except ε α)}{g:ε→Option β}{f:α→Option β}{R:Except ε α→Prop}(h:W x R)(hg:∀e,R (.error e)→W (g e) Q)(hf:∀a,R (.ok a)→W (f a) Q):W (K.bE x g f) Q:=by
 obtain⟨a,rfl,r⟩:=h;cases a with
 |error e=>exact hg e r
 |ok a=>exact hf a r
theorem loop{T:Type}{f:Nat→T→Option β}(I:Nat→T→Prop)(step:∀aS m y,I m y→(∀m' y',m' < m→I m' y'→W (f aS y') Q)→W (f (aS+1) y) Q):∀m aS y,m < aS→I m y→W (f aS y) Q:=by
 intro m
 induction m using Nat.strongRecOn with
 |_ m ih=>
  intro aS y hm hI;cases aS with
  |zero=>omega
  |succ aS=>exact step aS m y hI fun m' y' h hI'=>ih m' h aS y' (by omega) hI'
end W
theorem wrap_u64(n:Int):0≤IntKind.u64.wrap n∧IntKind.u64.wrap n < 18446744073709551616:=by
 have h1:=Int.emod_nonneg n (show(18446744073709551616:Int)≠0 by decide);have h2:=Int.emod_lt_of_pos n (show(0:Int) < 18446744073709551616 by decide)
 have e:IntKind.u64.wrap n=n % 18446744073709551616:=by
  simp [IntKind.wrap,IntKind.signed,IntKind.bits]
 rw [e];exact⟨h1,h2⟩
theorem zU{n:Int}(h0:0≤n)(h1:n < 18446744073709551616):IntKind.u64.wrap n=n:=by
 have e:IntKind.u64.wrap n=n % 18446744073709551616:=by
  simp [IntKind.wrap,IntKind.signed,IntKind.bits]
 rw [e];exact Int.emod_eq_of_lt h0 h1
def Lo(l:bW)(m:Int):Prop:=0≤l.2.1∧l.2.1≤m
theorem Lr{k:Nat}{l:bW}{m:Int}(h:Lo l m)(hm:m≤1000000000):W (jC k l) fun r=>0≤r.1∧r.1 < 72057594037927936∧Lo r.2 (m+1):=by
 obtain⟨h0,h1⟩:=h;unfold jC
 have fin:∀x:Int,W ((K.ck (l.2.1+1)).bind fun x4=>some (iI .u64 (rY .u64 (IntKind.u64.wrap ((rY .u64 x (iI .u64 x (29:Int))) * (2685821657736338717:Int))) (iI .u64 (IntKind.u64.wrap ((rY .u64 x (iI .u64 x (29:Int))) * (2685821657736338717:Int))) (32:Int))) (8:Int),(l.1,x4,x)))
  fun r=>0≤r.1∧r.1 < 72057594037927936∧Lo r.2 (m+1):=fun x=>by
  refine W.ck (by omega) (by omega) (W.ret ?_)
  generalize IntKind.u64.wrap ((rY .u64 x (iI .u64 x (29:Int))) * (2685821657736338717:Int))=y
  have hx:0≤rY .u64 y (iI .u64 y 32)∧rY .u64 y (iI .u64 y 32) < 18446744073709551616:=wrap_u64 _
  have e:iI .u64 (rY .u64 y (iI .u64 y 32)) 8=(rY .u64 y (iI .u64 y 32)) / 256:=by
   unfold iI;rw [Int.fdiv_eq_ediv_of_nonneg _ (by decide)];rfl
  refine⟨?_,?_,?_,?_⟩
  ·
   show 0≤iI .u64 (rY .u64 y (iI .u64 y 32)) 8;rw [e];omega
  ·
   show iI .u64 (rY .u64 y (iI .u64 y 32)) 8 < _;rw [e];omega
  ·
   show 0≤l.2.1+1;omega
  ·
   show l.2.1+1≤m+1;omega
 refine W.iteB (fun hlt=>?_) (fun _=>fin _);cases hg:aP l.1 l.2.1 with
 |some v=>exact fin _
 |none=>
  exfalso;have:l.2.1.toNat < l.1.length:=by omega
  rw [aP,if_pos h0,List.getElem?_eq_getElem this] at hg;cases hg
theorem sq{k:Nat}{l:bW}{m n:Int}(h:Lo l m)(hm:m≤1000000000)(hn:n≤1000000000):W (d4 k l n) fun r=>0≤r.1∧(0≤n→r.1≤n)∧Lo r.2 (m+1):=by
 unfold d4;refine W.ite (fun h1=>W.ret ⟨Int.le_refl 0,fun h=>h,h.1,by show l.2.1≤m+1;have:=h.2;omega⟩) (fun h1=>?_);refine W.bind (Lr h hm) fun r hr=>?_;refine W.ck (by omega) (by omega) ?_;have e:IntKind.u64.wrap (n+1)=n+1:=zU (by omega) (by omega);refine W.chk (by rw [e];omega) ?_;rw [e];have h2:Int.tmod r.1 (n+1)=r.1 % (n+1):=Int.tmod_eq_emod_of_nonneg hr.1;have h3:=Int.emod_nonneg r.1 (show n+1≠0 by omega);have h4:=Int.emod_lt_of_pos r.1 (show 0 < n+1 by omega);rw [h2];refine W.ck (by omega) (by omega) (W.ret ⟨h3,fun _=>by show r.1 % (n+1)≤n;omega,hr.2.2⟩)
theorem IW{k:Nat}{l:bW}{m a b:Int}(h:Lo l m)(hm:m≤1000000000)(ha:0≤a)(hab:a≤b)(hb:b≤1000000):W (fg k l a b) fun r=>a≤r.1∧r.1≤b∧Lo r.2 (m+1):=by
 unfold fg;refine W.ck (by omega) (by omega) (W.bind (sq h hm (by omega)) fun r hr=>?_);have:=hr.2.1 (by omega);refine W.ck (by omega) (by omega) (W.ret ⟨by show a≤a+r.1;omega,by show a+r.1≤b;omega,hr.2.2⟩)
theorem Ew{k:Nat}{l:bW}{m a:Int}(h:Lo l m)(hm:m≤1000000000)(ha:0≤a)(hb:a≤1000000):W (gh k l a) fun r=>Lo r.2 (m+1):=by
 unfold gh;exact W.ck (by omega) (by omega) (W.bind (sq h hm (by omega)) fun r hr=>W.ret hr.2.2)
theorem ND{k:Nat}{l:bW}{m:Int}{some_:List Int}(h:Lo l m)(hm:m≤1000000000)(h0:0 < some_.length)(h1:some_.length≤1000000):W (jV k l some_) fun r=>r.1∈some_∧Lo r.2 (m+1):=by
 unfold jV;refine W.ck (by omega) (by omega) (W.bind (sq h hm (by omega)) fun r hr=>?_);have:=hr.2.1 (by omega);refine W.at_ hr.1 (by omega) fun x hx=>W.ret ⟨List.mem_of_getElem? hx,hr.2.2⟩
theorem cD{α:Type}{l:List α}{i:Nat}(h:i < l.length):aP l (i:Int)=some l[i]:=by
 rw [aP,if_pos (by omega)];exact List.getElem?_eq_getElem h
section
variable {α β γ ε σ T:Type}
theorem bs{a:α}{f:α→Option β}:(some a).bind f=f a:=by cases h:f a <;> simp [h]
theorem bv{n:Int}(h1: -9223372036854775808≤n)(h2:n≤9223372036854775807):K.ck n=some n:=by rw [K.ck,if_pos ⟨h1,h2⟩]
theorem bR{p:Prop}[Decidable p](h:p):cP p=some ():=by rw [cP,if_pos h]
theorem oQ{l:List α}{i:Int}(h0:0≤i)(h:i.toNat < l.length):aP l i=some l[i.toNat]:=by rw [aP,if_pos h0];exact List.getElem?_eq_getElem h
theorem oP{l:List α}{i:Int}{x:α}(h0:0≤i)(h:l[i.toNat]? =some x):aP l i=some x:=by rw [aP,if_pos h0];exact h
theorem kQ{a:α}{g:ε→Option β}{f:α→Option β}:K.bE (some (.ok a)) g f=f a:=by cases h:f a <;> simp [K.bE,h]
theorem qj{e:ε}{g:ε→Option β}{f:α→Option β}:K.bE (some (.error e)) g f=g e:=by cases h:g e <;> simp [K.bE,h]
theorem Dh{n:Nat}(h:n≤4294967296):bq n:=h
def Bo(g:σ→Nat→α→σ):Nat→List α→σ→σ
 |_,[],s=>s
 |j,x::l,s=>Bo g (j+1) l (g s j x)
theorem Bn(l:List α)(mk:σ→Int→T)(g:σ→Nat→α→σ)(P:Nat→σ→Prop){f:Nat→T→Option β}(fin:σ→Option β)
 (step:∀n s (j:Nat) (h:j < l.length),P j s→f (n+1) (mk s j)=f n (mk (g s j l[j]) ((j:Int)+1))∧P (j+1) (g s j l[j]))
 (stop:∀n s,P l.length s→f (n+1) (mk s l.length)=fin s) {s0:σ} {n:Nat} (hn:l.length < n) (h0:P 0 s0):f n (mk s0 0)=fin (Bo g 0 l s0)∧P l.length (Bo g 0 l s0):=by
 have key:∀(m:List α) (pre:List α) (n:Nat) (s:σ),l=pre++m→m.length < n→P pre.length s→f n (mk s pre.length)=fin (Bo g pre.length m s)∧P l.length (Bo g pre.length m s):=by
  intro m
  induction m with
  |nil=>
   intro pre n s e hn hp;obtain⟨n,rfl⟩:∃n',n=n'+1:=⟨n - 1,by omega⟩;have:l.length=pre.length:=by rw [e];simp
   rw [←this] at hp⊢;exact⟨stop n s hp,hp⟩
  |cons x m ih=>
   intro pre n s e hn hp;simp only [List.length_cons] at hn;obtain⟨n,rfl⟩:∃n',n=n'+1:=⟨n - 1,by omega⟩;have hl:pre.length < l.length:=by rw [e];simp
   have hx:l[pre.length]=x:=by simp [e]
   obtain⟨h1,h2⟩:=step n s pre.length hl hp;rw [hx] at h1 h2;have:=ih (pre++[x]) n (g s pre.length x) (by rw [e];simp) (by omega) (by rw [List.length_append];exact h2);rw [List.length_append] at this;simp only [List.length_cons,List.length_nil,Nat.zero_add] at this;rw [h1];exact this
 have:=key l [] n s0 rfl hn h0
 exact this
def bL(g:σ→Nat→α→Except ε σ):Nat→List α→σ→Except ε σ
 |_,[],s=>.ok s
 |j,x::l,s=>match g s j x with
  | .error e=>.error e
  | .ok s'=>bL g (j+1) l s'
theorem yi(l:List α)(mk:σ→Int→T)(g:σ→Nat→α→Except ε σ)(P:Nat→σ→Prop){f:Nat→T→Option β}(fin:Except ε σ→Option β)
 (step:∀n s (j:Nat) (h:j < l.length),P j s→(∃e,g s j l[j]= .error e∧f (n+1) (mk s j)=fin (.error e))∨(∃s',g s j l[j]= .ok s'∧f (n+1) (mk s j)=f n (mk s' ((j:Int)+1))∧P (j+1) s'))
 (stop:∀n s,P l.length s→f (n+1) (mk s l.length)=fin (.ok s)) {s0:σ} {n:Nat} (hn:l.length < n) (h0:P 0 s0):f n (mk s0 0)=fin (bL g 0 l s0):=by
 have key:∀(m:List α) (pre:List α) (n:Nat) (s:σ),l=pre++m→m.length < n→P pre.length s→f n (mk s pre.length)=fin (bL g pre.length m s):=by
  intro m
  induction m with
  |nil=>
   intro pre n s e hn hp;obtain⟨n,rfl⟩:∃n',n=n'+1:=⟨n - 1,by omega⟩;have:l.length=pre.length:=by rw [e];simp
   rw [←this] at hp⊢;exact stop n s hp
  |cons x m ih=>
   intro pre n s e hn hp;simp only [List.length_cons] at hn;obtain⟨n,rfl⟩:∃n',n=n'+1:=⟨n - 1,by omega⟩;have hl:pre.length < l.length:=by rw [e];simp
   have hx:l[pre.length]=x:=by simp [e]
   rcases step n s pre.length hl hp with⟨e',h1,h2⟩ |⟨s',h1,h2,h3⟩
   ·rw [hx] at h1;rw [h2,bL,h1]
   ·rw [hx] at h1;have:=ih (pre++[x]) n s' (by rw [e];simp) (by omega) (by rw [List.length_append];exact h3);rw [List.length_append] at this;simp only [List.length_cons,List.length_nil,Nat.zero_add] at this;rw [h2,bL,h1];exact this
 exact key l [] n s0 rfl hn h0
end
section
variable {α β ε σ T:Type}
theorem nT{a b:α}:(if¬(true=true) then a else b)=b:=rfl
theorem nF{a b:α}:(if¬(false=true) then a else b)=a:=rfl
theorem iT{a b:α}:(if true=true then a else b)=a:=rfl
theorem iF{a b:α}:(if false=true then a else b)=b:=rfl
theorem rA(l:List α)(mk:σ→Int→T)(g:σ→Nat→α→Except ε σ)(P:Nat→σ→Prop){f:Nat→T→Option β}(fin:Except ε σ→Option β)
 (step:∀n s (j:Nat) (h:j < l.length),P j s→(f (n+1) (mk s j)=match g s j l[j] with | .error e=>fin (.error e) | .ok s'=>f n (mk s' ((j:Int)+1)))∧∀s',g s j l[j]= .ok s'→P (j+1) s')
 (stop:∀n s,P l.length s→f (n+1) (mk s l.length)=fin (.ok s)) {s0:σ} {n:Nat} (hn:l.length < n) (h0:P 0 s0):f n (mk s0 0)=fin (bL g 0 l s0):=
 yi l mk g P fin (fun n s j h hp=>by
  obtain⟨h1,h2⟩:=step n s j h hp
  cases e:g s j l[j] with
  |error e'=>left;rw [e] at h1;exact⟨e',rfl,h1⟩
  |ok s'=>right;rw [e] at h1;exact⟨s',rfl,h1,h2 s' e⟩) stop hn h0
end
theorem wF{α:Type}(p:α→Bool):∀(l:List α) (j:Nat),bL (fun(_:Unit) j x=>if p x then Except.error (j:Int) else .ok ()) j l ()=match l.findIdx? p with |some i=>.error ((i+j:Nat):Int) |none=>.ok ()
 |[],j=>by simp [bL]
 |x::l,j=>by
  rw [bL,List.findIdx?_cons]
  by_cases h:p x=true
  ·
   simp [h]
  ·
   simp only [h,if_false,Bool.false_eq_true]
   rw [wF p l (j+1)]
   cases l.findIdx? p with
   |none=>rfl
   |some i=>simp only [Option.map_some];congr 2;omega
theorem Aq{k:Nat}{a b:List Int}(h:a.length < k)(hk:a.length≤1000000):dH k a b=some (decide (a=b)):=by
 unfold dH;by_cases hl:a.length=b.length
 ·rw [if_neg (by simp [hl])]
  have key:=yi (f:=dP k a b) a (fun(_:Unit) j=>j) (fun _ j x=>if x=b[j]?.getD 0 then .ok () else Except.error false) (fun _ _=>True) (fun r=>some r)
   (fun n s j hj _=>by
    have hjb:j < b.length:=by omega
    have hb:b[j]?.getD 0=b[j]:=by simp [List.getElem?_eq_getElem hjb]
    have hck:ck ((j:Int)+1)=some ((j:Int)+1):=bv (by omega) (by omega);rw [hb];simp only [dP,Int.ofNat_lt,hj,if_true,cD hj,cD hjb,bs];by_cases e:a[j]=b[j] <;> simp [e,hck])
   (fun n s _=>by simp [dP]) (n:=k) (s0:=()) h trivial
  rw [show dP k a b k 0=_ from key]
  have:∀(a:List Int) (j:Nat),a.length+j=b.length→bL (fun(_:Unit) j x=>if x=b[j]?.getD 0 then .ok () else Except.error false) j a ()=if a=b.drop j then .ok () else .error false:=by
   intro a
   induction a with
   |nil=>
    intro j hj;have:b.drop j=[]:=List.drop_eq_nil_of_le (by simp only [List.length_nil] at hj;omega);rw [this];simp [bL]
   |cons x a ih=>
    intro j hj;simp only [List.length_cons] at hj;have hjb:j < b.length:=by omega
    have hd:b.drop j=b[j]::b.drop (j+1):=List.drop_eq_getElem_cons hjb;have hb:b[j]?.getD 0=b[j]:=by simp [List.getElem?_eq_getElem hjb]
    rw [bL,hb,hd];by_cases e:x=b[j]
    ·have h2:(x::a=b[j]::b.drop (j+1))=(a=b.drop (j+1)):=propext ⟨fun h=>(List.cons.inj h).2,fun h=>by rw [h,e]⟩;rw [if_pos e];simp only [h2];exact ih (j+1) (by omega)
    ·have h2:¬(x::a=b[j]::b.drop (j+1)):=fun h=>e (List.cons.inj h).1;rw [if_neg e];simp only [h2,if_false]
  rw [this a 0 (by omega),List.drop_zero];by_cases e:a=b
  ·rw [if_pos e,kQ,decide_eq_true e]
  ·rw [if_neg e,qj,decide_eq_false e]
 ·rw [if_pos (by omega),decide_eq_false (fun e=>hl (by rw [e]))]
def mP(s:Int):Prop:=0≤s∧s < 256
def fo(s:Int)(i:Nat):Prop:=s.toNat.testBit i=true
instance (s:Int) (i:Nat):Decidable (fo s i):=by unfold fo;infer_instance
theorem yB{x:Nat}(h:x < 256):IntKind.u8.wrap (x:Int)=x:=by
 have e:IntKind.u8.wrap (x:Int)=(x:Int) % 256:=by simp [IntKind.wrap,IntKind.signed,IntKind.bits]
 rw [e];omega
theorem pR{s:Int}(h:mP s):∃n:Nat,n < 256∧s=n:=⟨s.toNat,by have:=h.1;have:=h.2;omega,by have:=h.1;omega⟩
theorem Di{n:Nat}(h:n < 256):(BitVec.ofInt IntKind.u8.bits (n:Int)).toNat=n:=by
 show(BitVec.ofInt 8 (n:Int)).toNat=n;rw [BitVec.ofInt_natCast,BitVec.toNat_ofNat];exact Nat.mod_eq_of_lt h
theorem IG{n m:Nat}(hn:n < 256)(hm:m < 256):n |||m < 256:=Nat.or_lt_two_pow (n:=8) hn hm
theorem Ls{n m:Nat}(hn:n < 256):n &&& m < 256:=Nat.lt_of_le_of_lt Nat.and_le_left hn
theorem zi{a b:Int}(ha:mP a)(hb:mP b):mP (EJ .u8 a b)∧∀i,fo (EJ .u8 a b) i↔fo a i∨fo b i:=by
 obtain⟨n,hn,rfl⟩:=pR ha;obtain⟨m,hm,rfl⟩:=pR hb
 have e:EJ .u8 (n:Int) (m:Int)=((n |||m:Nat):Int):=by
  unfold EJ;rw [BitVec.toNat_or,Di hn,Di hm];exact yB (IG hn hm)
 rw [e];refine⟨⟨by omega,by have:=IG hn hm;omega⟩,fun i=>?_⟩;simp [fo,Nat.testBit_or]
theorem yS{x:Int}(h0:0≤x)(h8:x < 8):mP (np .u8 1 x)∧∀i:Nat,fo (np .u8 1 x) i↔(i:Int)=x:=by
 obtain⟨n,rfl⟩:=Int.eq_ofNat_of_zero_le h0;have hn:n < 8:=by omega
 have e:np .u8 1 (n:Int)=((2 ^ n:Nat):Int):=by
  unfold np
  have h1:min (Int.toNat (n:Int)) IntKind.u8.bits=n:=by
   show min n 8=n;omega
  rw [h1,Int.one_mul];have h2:2 ^ n < 256:=Nat.pow_lt_pow_right (by decide) hn;have h3:((2:Int) ^ n)=((2 ^ n:Nat):Int):=by simp
  rw [h3];exact yB h2
 rw [e];have h9:2 ^ n < 256:=Nat.pow_lt_pow_right (by decide) hn;refine⟨⟨Int.natCast_nonneg _,Int.ofNat_lt.2 h9⟩,fun i=>?_⟩;simp only [fo,Int.toNat_natCast,Nat.testBit_two_pow,decide_eq_true_eq];omega
theorem zk{k:Nat}{s:Int}(hs:mP s){i:Nat}(hi:i < 8):d6 k s (i:Int)=some (decide (fo s i)):=by
 obtain⟨n,hn,rfl⟩:=pR hs;unfold d6;rw [cP,if_pos (by omega)];show some _=some _;congr 1
 have e1:iI .u8 (n:Int) (i:Int)=((n >>> i:Nat):Int):=by
  unfold iI
  have h1:min (Int.toNat (i:Int)) IntKind.u8.bits=i:=by
   show min i 8=i;omega
  have h3:((2:Int) ^ i)=((2 ^ i:Nat):Int):=by simp
  rw [h1,h3,Int.fdiv_eq_ediv_of_nonneg _ (Int.natCast_nonneg _),Nat.shiftRight_eq_div_pow];rfl
 have hlt:n >>> i < 256:=Nat.lt_of_le_of_lt (by rw [Nat.shiftRight_eq_div_pow];exact Nat.div_le_self _ _) hn
 have e2:xu .u8 ((n >>> i:Nat):Int) 1=(((n >>> i) &&& 1:Nat):Int):=by
  unfold xu;have h1:(BitVec.ofInt IntKind.u8.bits 1).toNat=1:=rfl;rw [BitVec.toNat_and,Di hlt,h1];exact yB (Ls hlt)
 rw [e1,e2]
 have e3:(((n >>> i) &&& 1:Nat):Int)=1↔fo (n:Int) i:=by
  rw [fo,Int.toNat_natCast,Nat.testBit];have h5:(n >>> i) &&& 1=1 &&& (n >>> i):=Nat.and_comm _ _;rw [h5];have h4:1 &&& (n >>> i) < 2:=Nat.lt_of_le_of_lt Nat.and_le_left (by decide);simp only [bne_iff_ne,ne_eq];omega
 exact decide_eq_decide.2 e3
abbrev aU:=Int×(List (Int×(List Int)))×(List Int)
def om(t:aU)(d n:Int):Bool:=match t.2.1[n.toNat]? with
 |some x=>decide (d∈x.2)
 |none=>false
def G1(w:Int→Bool)(l:List Int):List Int:=l.filter (fun n=> !w n)++l.filter w
def dq(w:Int→Bool):Bool→List Int→List Int
 |_,[]=>[]
 |u,n::l=>if w n then dq w true l else if u then n::dq w u l else dq w u l
theorem qP{w:Int→Bool}{n:Int}:∀{l:List Int} {u:Bool},n∈dq w u l↔w n=false∧∃p s,l=p++n::s∧(u=true∨∃m∈p,w m=true)
 |[],u=>by simp [dq]
 |m::l,u=>by
  have cut:∀(u':Bool),(u'=true↔u=true∨w m=true)→((∃p s,m::l=p++n::s∧(u=true∨∃x∈p,w x=true))↔(m=n∧u=true)∨∃p s,l=p++n::s∧(u'=true∨∃x∈p,w x=true)):=fun u' hu=>by
   constructor
   ·
    rintro⟨p,s,e,h⟩
    cases p with
    |nil=>
     obtain⟨rfl,rfl⟩:=List.cons.inj e
     rcases h with h |⟨x,hx,_⟩
     ·
      exact .inl ⟨rfl,h⟩
     ·
      cases hx
    |cons y p=>
     obtain⟨rfl,rfl⟩:=List.cons.inj e
     refine .inr ⟨p,s,rfl,?_⟩
     rcases h with h |⟨x,hx,hw⟩
     ·
      exact .inl (hu.2 (.inl h))
     ·
      rcases List.mem_cons.1 hx with rfl |hx
      ·
       exact .inl (hu.2 (.inr hw))
      ·
       exact .inr ⟨x,hx,hw⟩
   ·
    rintro(⟨rfl,h⟩ |⟨p,s,rfl,h⟩)
    ·
     exact⟨[],l,rfl,.inl h⟩
    ·
     refine⟨m::p,s,rfl,?_⟩
     rcases h with h |⟨x,hx,hw⟩
     ·
      rcases hu.1 h with h |h
      ·
       exact .inl h
      ·
       exact .inr ⟨m,by simp,h⟩
     ·
      exact .inr ⟨x,by simp [hx],hw⟩
  rw [dq]
  cases hm:w m with
  |true=>
   rw [if_pos rfl,qP,cut true (by simp [hm])]
   constructor
   ·
    rintro⟨h,h'⟩;exact⟨h,.inr h'⟩
   ·
    rintro⟨h,⟨rfl,_⟩ |h'⟩
    ·
     rw [hm] at h;cases h
    ·
     exact⟨h,h'⟩
  |false=>
   rw [if_neg (by simp)]
   have hc:=cut u (by simp [hm])
   cases u with
   |true=>
    rw [if_pos rfl,List.mem_cons,qP,hc]
    constructor
    ·
     rintro(rfl |⟨h,h'⟩)
     ·
      exact⟨hm,.inl ⟨rfl,rfl⟩⟩
     ·
      exact⟨h,.inr h'⟩
    ·
     rintro⟨h,⟨rfl,_⟩ |h'⟩
     ·
      exact .inl rfl
     ·
      exact .inr ⟨h,h'⟩
   |false=>
    rw [if_neg (by simp),qP,hc]
    simp
theorem mA{w:Int→Bool}{l:List Int}:(G1 w l).Perm l:=by
 unfold G1;exact List.perm_append_comm.trans (List.filter_append_perm w l)
theorem jj{w:Int→Bool}{l:List Int}{u:Bool}{n:Int}(h:n∈dq w u l):n∈l:=by
 obtain⟨_,p,s,rfl,_⟩:=qP.1 h;simp
theorem nG{k:Nat}{n a b:Int}:eK k n a b=some (decide (a≤n∧n≤b)):=by
 unfold eK;by_cases h:a≤n <;> simp [h]
theorem qQ{k:Nat}{n a b:Int}:iQ k n a b=some (decide (a≤n∧n≤b)):=by
 unfold iQ;by_cases h:a≤n <;> simp [h]
def vd(days:Int)(l:List Int)(j:Nat)(x:Int):Except Int Unit:=
 if¬(0≤x∧x≤days - 1) then .error 1 else if 0 < j∧x≤l[j - 1]?.getD 0 then .error 5 else .ok ()
def kj(days:Int)(x:Int×(List Int)):Except Int Unit:=
 if¬(1≤x.1∧x.1≤3) then .error 1 else bL (fun _ j y=>vd days x.2 j y) 0 x.2 ()
def lG(n:Int):Except Int Unit:=if 0≤n∧n≤9 then .ok () else .error 1
def ES{α:Type}:Except Int α→Int
 | .error e=>e
 | .ok _=>0
def jY(t:aU):Int:=
 if¬(1≤t.1∧t.1≤6) then 1 else if 5 < t.2.1.length then 6 else
  match bL (fun _ _ x=>kj t.1 x) 0 t.2.1 () with
  | .error e=>e
  | .ok _=>if t.2.2.length < 1 then 7 else if 3 < t.2.2.length then 6 else ES (bL (fun _ _ n=>lG n) 0 t.2.2 ())
structure fG(k:Nat)(t:aU):Prop where
 k1:k≤1000000
 things:t.2.1.length < k
 worn:∀x∈t.2.1,x.2.length < k
 trunks:t.2.2.length < k
section
variable {k:Nat}{t:aU}
theorem HK{l:List Int}{j:Nat}(h:j < l.length)(h0:0 < j):aP l ((j:Int) - 1)=some (l[j - 1]?.getD 0):=by
 have e:((j:Int) - 1).toNat=j - 1:=by omega
 rw [aP,if_pos (by omega),e,List.getElem?_eq_getElem (by omega)];rfl
theorem Jx{x:Int×(List Int)}(hk:k≤1000000)(hx:x.2.length < k)(hd:1≤t.1∧t.1≤6):di k t x k 0=some (bL (fun _ j y=>vd t.1 x.2 j y) 0 x.2 ()):=
 rA (f:=di k t x) x.2 (fun(_:Unit) j=>j) (fun _ j y=>vd t.1 x.2 j y) (fun _ _=>True) (fun r=>some r)
  (fun n s j h _=>⟨by
   rw [di,if_pos (Int.ofNat_lt.2 h),cD h,bs,bv (by omega) (by omega),bs,nG,bs]
   unfold vd
   by_cases c1:0≤x.2[j]∧x.2[j]≤t.1 - 1
   ·
    rw [decide_eq_true c1,nT,if_neg (not_not_intro c1)]
    by_cases c2:0 < j
    ·
     rw [if_pos (show(0:Int) < (j:Int) by omega),bv (by omega) (by omega),bs,HK h c2,bs,bs]
     by_cases c3:x.2[j]≤x.2[j - 1]?.getD 0
     ·
      rw [decide_eq_true c3,iT,if_pos (show 0 < j∧x.2[j]≤x.2[j - 1]?.getD 0 from⟨c2,c3⟩)]
     ·
      rw [decide_eq_false c3,iF,if_neg (show¬(0 < j∧x.2[j]≤x.2[j - 1]?.getD 0) from fun h=>c3 h.2),bv (by omega) (by omega),bs]
    ·
     rw [if_neg (show¬(0:Int) < (j:Int) by omega),bs,iF,if_neg (show¬(0 < j∧x.2[j]≤x.2[j - 1]?.getD 0) from fun h=>c2 h.1),bv (by omega) (by omega),bs]
   ·
    rw [decide_eq_false c1,nF,if_pos (show¬(0≤x.2[j]∧x.2[j]≤t.1 - 1) from c1)],fun _ _=>trivial⟩)
  (fun n s _=>by rw [di,if_neg (by omega)]) (s0:=()) (n:=k) hx trivial
theorem Jy{x:Int×(List Int)}(hk:k≤1000000)(hx:x.2.length < k)(hd:1≤t.1∧t.1≤6):fV k t x k 0=some (bL (fun _ j y=>vd t.1 x.2 j y) 0 x.2 ()):=
 rA (f:=fV k t x) x.2 (fun(_:Unit) j=>j) (fun _ j y=>vd t.1 x.2 j y) (fun _ _=>True) (fun r=>some r)
  (fun n s j h _=>⟨by
   rw [fV,if_pos (Int.ofNat_lt.2 h),cD h,bs,bv (by omega) (by omega),bs,qQ,bs]
   unfold vd
   by_cases c1:0≤x.2[j]∧x.2[j]≤t.1 - 1
   ·
    rw [decide_eq_true c1,nT,if_neg (not_not_intro c1)]
    by_cases c2:0 < j
    ·
     rw [if_pos (show(0:Int) < (j:Int) by omega),bs,bv (by omega) (by omega),bs,HK h c2,bs,bs]
     by_cases c3:x.2[j]≤x.2[j - 1]?.getD 0
     ·
      rw [decide_eq_true c3,iT,if_pos (show 0 < j∧x.2[j]≤x.2[j - 1]?.getD 0 from⟨c2,c3⟩)]
     ·
      rw [decide_eq_false c3,iF,if_neg (show¬(0 < j∧x.2[j]≤x.2[j - 1]?.getD 0) from fun h=>c3 h.2),bv (by omega) (by omega),bs]
    ·
     rw [if_neg (show¬(0:Int) < (j:Int) by omega),bs,iF,if_neg (show¬(0 < j∧x.2[j]≤x.2[j - 1]?.getD 0) from fun h=>c2 h.1),bv (by omega) (by omega),bs]
   ·
    rw [decide_eq_false c1,nF,if_pos (show¬(0≤x.2[j]∧x.2[j]≤t.1 - 1) from c1)],fun _ _=>trivial⟩)
  (fun n s _=>by rw [fV,if_neg (by omega)]) (s0:=()) (n:=k) hx trivial
theorem Hq{x:Int×(List Int)}(hk:k≤1000000)(hx:x.2.length < k)(hd:1≤t.1∧t.1≤6):iM k t x=some (ES (kj t.1 x)):=by
 unfold iM kj;rw [nG,bs,Jx hk hx hd];by_cases c:1≤x.1∧x.1≤3
 ·rw [decide_eq_true c,nT,if_neg (not_not_intro c)];cases bL (fun _ j y=>vd t.1 x.2 j y) 0 x.2 () with
  |error e=>rw [qj];rfl
  |ok u=>rw [kQ];rfl
 ·rw [decide_eq_false c,nF,if_pos (show¬(1≤x.1∧x.1≤3) from c)];rfl
theorem lr{α σ:Type}{g:σ→Nat→α→Except Int σ}(hg:∀s j x,g s j x≠.error 0):∀(l:List α) (j:Nat) (s:σ),bL g j l s≠.error 0
 |[],j,s=>by simp [bL]
 |x::l,j,s=>by
  rw [bL]
  cases h:g s j x with
  |error e=>intro h';rw [Except.error.inj h'] at h;exact hg _ _ _ h
  |ok s'=>exact lr hg l (j+1) s'
theorem Bf{d:Int}{x:Int×(List Int)}:kj d x≠.error 0:=by
 unfold kj;split
 ·simp
 ·refine lr (fun s j y=>?_) _ _ _;unfold vd;split
  ·simp
  ·split <;> simp
theorem Gg(h:fG k t)(hd:1≤t.1∧t.1≤6):fQ k t k 0=some (bL (fun _ _ x=>kj t.1 x) 0 t.2.1 ()):=
 rA (f:=fQ k t) t.2.1 (fun(_:Unit) j=>j) (fun _ _ x=>kj t.1 x) (fun _ _=>True) (fun r=>some r)
  (fun n s j hj _=>⟨by
   rw [fQ,if_pos (Int.ofNat_lt.2 hj),cD hj,bs,Hq h.k1 (h.worn _ (List.getElem_mem hj)) hd,bs]
   have h0:=Bf (d:=t.1) (x:=t.2.1[j])
   have h1:=h.things
   have h2:=h.k1
   cases e:kj t.1 t.2.1[j] with
   |error e'=>rw [if_pos (show¬ES (Except.error e':Except Int Unit)=0 from fun h=>h0 (by rw [e];exact congrArg _ h))];rfl
   |ok u=>rw [if_neg (show¬¬ES (Except.ok u:Except Int Unit)=0 from fun h=>h rfl),bv (by omega) (by omega),bs],fun _ _=>trivial⟩)
  (fun n s _=>by rw [fQ,if_neg (by omega)]) (s0:=()) (n:=k) h.things trivial
theorem Gh(h:fG k t)(hd:1≤t.1∧t.1≤6):fW k t k 0=some (bL (fun _ _ x=>kj t.1 x) 0 t.2.1 ()):=
 rA (f:=fW k t) t.2.1 (fun(_:Unit) j=>j) (fun _ _ x=>kj t.1 x) (fun _ _=>True) (fun r=>some r)
  (fun n s j hj _=>⟨by
   rw [fW,if_pos (Int.ofNat_lt.2 hj),cD hj,bs,qQ,bs,bs,Jy h.k1 (h.worn _ (List.getElem_mem hj)) hd]
   have h1:=h.things
   have h2:=h.k1
   unfold kj
   by_cases c:1≤t.2.1[j].1∧t.2.1[j].1≤3
   ·
    rw [decide_eq_true c,nT,if_neg (not_not_intro c)]
    cases bL (fun _ j' y=>vd t.1 t.2.1[j].2 j' y) 0 t.2.1[j].2 () with
    |error e=>rw [qj]
    |ok u=>rw [kQ,bv (by omega) (by omega),bs]
   ·
    rw [decide_eq_false c,nF,if_pos (show¬(1≤t.2.1[j].1∧t.2.1[j].1≤3) from c),qj],fun _ _=>trivial⟩)
  (fun n s _=>by rw [fW,if_neg (by omega)]) (s0:=()) (n:=k) h.things trivial
theorem FI(h:fG k t):fP k t k 0=some (bL (fun _ _ n=>lG n) 0 t.2.2 ()):=
 rA (f:=fP k t) t.2.2 (fun(_:Unit) j=>j) (fun _ _ n=>lG n) (fun _ _=>True) (fun r=>some r)
  (fun n s j hj _=>⟨by
   rw [fP,if_pos (Int.ofNat_lt.2 hj),cD hj,bs,nG,bs]
   have h1:=h.trunks
   have h2:=h.k1
   unfold lG
   by_cases c:0≤t.2.2[j]∧t.2.2[j]≤9
   ·
    rw [decide_eq_true c,nT,if_pos c,bv (by omega) (by omega),bs]
   ·
    rw [decide_eq_false c,nF,if_neg c],fun _ _=>trivial⟩)
  (fun n s _=>by rw [fP,if_neg (by omega)]) (s0:=()) (n:=k) h.trunks trivial
theorem FK(h:fG k t):fU k t k 0=some (bL (fun _ _ n=>lG n) 0 t.2.2 ()):=
 rA (f:=fU k t) t.2.2 (fun(_:Unit) j=>j) (fun _ _ n=>lG n) (fun _ _=>True) (fun r=>some r)
  (fun n s j hj _=>⟨by
   rw [fU,if_pos (Int.ofNat_lt.2 hj),cD hj,bs,qQ,bs]
   have h1:=h.trunks
   have h2:=h.k1
   unfold lG
   by_cases c:0≤t.2.2[j]∧t.2.2[j]≤9
   ·
    rw [decide_eq_true c,nT,if_pos c,bv (by omega) (by omega),bs]
   ·
    rw [decide_eq_false c,nF,if_neg c],fun _ _=>trivial⟩)
  (fun n s _=>by rw [fU,if_neg (by omega)]) (s0:=()) (n:=k) h.trunks trivial
theorem uv(h:fG k t):kz k t=some (jY t):=by
 unfold kz jY;rw [nG,bs];by_cases c:1≤t.1∧t.1≤6
 ·rw [decide_eq_true c,nT,if_neg (not_not_intro c),Gg h c,FI h];by_cases c1:5 < t.2.1.length
  ·rw [if_pos (show(5:Int) < (t.2.1.length:Int) by omega),if_pos c1]
  ·rw [if_neg (show¬(5:Int) < (t.2.1.length:Int) by omega),if_neg c1];cases bL (fun _ _ x=>kj t.1 x) 0 t.2.1 () with
   |error e=>rw [qj]
   |ok u=>
    rw [kQ];by_cases c2:t.2.2.length < 1
    ·rw [if_pos (by omega)];simp only [c2,if_true]
    ·rw [if_neg (by omega)];by_cases c3:3 < t.2.2.length
     ·rw [if_pos (by omega)];simp only [c2,c3,if_true,if_false]
     ·rw [if_neg (by omega)];simp only [c2,c3,if_false];cases bL (fun _ _ n=>lG n) 0 t.2.2 () with
      |error e=>rw [qj];rfl
      |ok u=>rw [kQ];rfl
 ·rw [decide_eq_false c,nF,if_pos (show¬(1≤t.1∧t.1≤6) from c)]
theorem yl(h:fG k t):nQ k t=some (jY t):=by
 unfold nQ jY;rw [qQ,bs];by_cases c:1≤t.1∧t.1≤6
 ·rw [decide_eq_true c,nT,if_neg (not_not_intro c),Gh h c,FK h];by_cases c1:5 < t.2.1.length
  ·rw [if_pos (show(5:Int) < (t.2.1.length:Int) by omega),if_pos c1]
  ·rw [if_neg (show¬(5:Int) < (t.2.1.length:Int) by omega),if_neg c1];cases bL (fun _ _ x=>kj t.1 x) 0 t.2.1 () with
   |error e=>rw [qj]
   |ok u=>
    rw [kQ];by_cases c2:t.2.2.length < 1
    ·rw [if_pos (by omega)];simp only [c2,if_true]
    ·rw [if_neg (by omega)];by_cases c3:3 < t.2.2.length
     ·rw [if_pos (by omega)];simp only [c2,c3,if_true,if_false]
     ·rw [if_neg (by omega)];simp only [c2,c3,if_false];cases bL (fun _ _ n=>lG n) 0 t.2.2 () with
      |error e=>rw [qj];rfl
      |ok u=>rw [kQ];rfl
 ·rw [decide_eq_false c,nF,if_pos (show¬(1≤t.1∧t.1≤6) from c)]
end
theorem uj{α:Type}{f:α→Except Int Unit}:∀{l:List α} {j:Nat},bL (fun(_:Unit) _ x=>f x) j l ()= .ok ()→∀x∈l,f x= .ok ()
 |[],_,_,_,h=>by cases h
 |y::l,j,h,x,hx=>by
  rw [bL] at h
  cases e:f y with
  |error e'=>rw [e] at h;cases h
  |ok u=>
   rw [e] at h
   rcases List.mem_cons.1 hx with rfl |hx
   ·
    exact e
   ·
    exact uj h x hx
structure ji(t:aU):Prop where
 days:1≤t.1∧t.1≤6
 things:t.2.1.length≤5
 sizes:∀x∈t.2.1,1≤x.1∧x.1≤3
 trunks:1≤t.2.2.length∧t.2.2.length≤3
 rooms:∀n∈t.2.2,0≤n∧n≤9
theorem s8{t:aU}(h:jY t=0):ji t:=by
 unfold jY at h;by_cases c:1≤t.1∧t.1≤6
 ·rw [if_neg (not_not_intro c)] at h;by_cases c1:5 < t.2.1.length
  ·rw [if_pos c1] at h;cases h
  ·rw [if_neg c1] at h;have h0:bL (fun(_:Unit) _ x=>kj t.1 x) 0 t.2.1 ()≠.error 0:=lr (fun _ _ _=>Bf) _ _ _;cases e:bL (fun(_:Unit) _ x=>kj t.1 x) 0 t.2.1 () with
   |error e'=>rw [e] at h h0;exact absurd (congrArg _ h) h0
   |ok u=>
    rw [e] at h;have hi:=uj e;by_cases c2:t.2.2.length < 1
    ·simp only [c2,if_true] at h;cases h
    ·by_cases c3:3 < t.2.2.length
     ·simp only [c2,c3,if_true,if_false] at h;cases h
     ·simp only [c2,c3,if_false] at h;refine⟨c,by omega,fun x hx=>?_,by omega,?_⟩
      ·have:=hi x hx;unfold kj at this;by_cases c4:1≤x.1∧x.1≤3
       ·exact c4
       ·rw [if_pos c4] at this;cases this
      ·have h1:bL (fun(_:Unit) _ n=>lG n) 0 t.2.2 ()≠.error 0:=lr (fun _ _ n=>by unfold lG;split <;> simp) _ _ _;cases e2:bL (fun(_:Unit) _ n=>lG n) 0 t.2.2 () with
       |error e'=>rw [e2] at h h1;exact absurd (congrArg _ h) h1
       |ok u=>
        intro n hn
        have:=uj e2 n hn;unfold lG at this;by_cases c5:0≤n∧n≤9
        ·exact c5
        ·rw [if_neg c5] at this;cases this
 ·rw [if_pos c] at h;cases h
def nR(n:Nat)(met:List Int)(x:Int):Except Int (List Int):=if¬(0≤x∧x≤(n:Int) - 1) then .error 3 else if x∈met then .error 4 else .ok (met++[x])
def eS(t:aU)(x:Int):Int:=match t.2.1[x.toNat]? with |some y=>y.1 |none=>0
def cK(t:aU):List Int→Int
 |[]=>0
 |x::l=>eS t x+cK t l
def iK(t:aU)(met:List Int)(i:Nat)(l:List Int):Except Int (List Int):=
 match bL (fun m _ x=>nR t.2.1.length m x) 0 l met with
 | .error e=>.error e
 | .ok m=>if t.2.2[i]?.getD 0 < cK t l then .error 12 else .ok m
def chkV(t:aU)(p:List (List Int)):Int:=
 if p.length < t.2.2.length then 7 else if t.2.2.length < p.length then 6 else
  match bL (iK t) 0 p [] with
  | .error e=>e
  | .ok m=>if m.length < t.2.1.length then 7 else 0
def qi(t:aU)(p:List (List Int)):Int:=if¬(jY t=0) then jY t else chkV t p
structure uS(n:Nat)(m:List Int):Prop where
 nd:m.Nodup
 rng:∀x∈m,0≤x∧x < (n:Int)
theorem uS.put{n:Nat}{m m':List Int}{x:Int}(h:uS n m)(e:nR n m x= .ok m'):m'=m++[x]∧uS n m'∧0≤x∧x < (n:Int):=by
 unfold nR at e;by_cases c:0≤x∧x≤(n:Int) - 1
 ·rw [if_neg (not_not_intro c)] at e;by_cases c1:x∈m
  ·rw [if_pos c1] at e;cases e
  ·rw [if_neg c1] at e;cases e;refine⟨rfl,⟨?_,fun y hy=>?_⟩,c.1,by omega⟩
   ·rw [List.nodup_append];exact⟨h.nd,by simp,fun a ha b hb=>by rw [List.mem_singleton] at hb;subst hb;exact fun e=>c1 (e▸ha)⟩
   ·rcases List.mem_append.1 hy with hy |hy
    ·exact h.rng y hy
    ·rw [List.mem_singleton] at hy;omega
 ·rw [if_pos c] at e;cases e
theorem uS.puts{n:Nat}:∀{l:List Int} {j:Nat} {m m':List Int},uS n m→bL (fun m _ x=>nR n m x) j l m= .ok m'→m'=m++l∧uS n m'∧∀x∈l,0≤x∧x < (n:Int)
 |[],_,m,m',h,e=>by simp only [bL] at e;cases e;exact⟨by simp,h,by simp⟩
 |x::l,j,m,m',h,e=>by
  rw [bL] at e
  cases e1:nR n m x with
  |error e'=>rw [e1] at e;cases e
  |ok m1=>
   rw [e1] at e
   obtain⟨rfl,h1,h2⟩:=h.put e1
   obtain⟨rfl,h3,h4⟩:=uS.puts h1 e
   refine⟨by simp,h3,fun y hy=>?_⟩
   rcases List.mem_cons.1 hy with rfl |hy
   ·
    exact h2
   ·
    exact h4 y hy
theorem t4:∀(n:Nat) (l:List Int),l.Nodup→(∀x∈l,0≤x∧x < (n:Int))→l.length≤n
 |0,l,_,h=>by
  cases l with
  |nil=>simp
  |cons x l=>have:=h x (by simp);omega
 |n+1,l,hn,h=>by
  have h1:=t4 n (l.erase (n:Int)) (hn.erase _) (fun x hx=>by
   have h2:=(List.Nodup.mem_erase_iff hn).1 hx
   have:=h x h2.2
   have:=h2.1
   omega)
  have:l.length≤(l.erase (n:Int)).length+1:=by rw [List.length_erase];split <;> omega
  omega
theorem uS.len{n:Nat}{m:List Int}(h:uS n m):m.length≤n:=t4 n m h.nd h.rng
theorem uS.full{n:Nat}{m:List Int}(h:uS n m):¬m.length < n↔∀i:Nat,i < n→(i:Int)∈m:=by
 constructor
 ·intro hl i hi;by_cases c:(i:Int)∈m
  ·exact c
  ·have:=t4 n ((i:Int)::m) (List.nodup_cons.2 ⟨c,h.nd⟩) (fun x hx=>by
    rcases List.mem_cons.1 hx with rfl |hx
    ·omega
    ·exact h.rng x hx)
   simp only [List.length_cons] at this;omega
 ·intro ha hl
  have h1:((List.range n).map fun(i:Nat)=>(i:Int)).length≤m.length:=by
   have:∀(k:Nat) (q:List Int),(∀i:Nat,i < k→(i:Int)∈q)→k≤q.length:=by
    intro k
    induction k with
    |zero=>intros;omega
    |succ k ih=>
     intro q hq;have hk:=hq k (by omega);have h2:=ih (q.erase (k:Int)) (fun i hi=>(List.mem_erase_of_ne (by omega)).2 (hq i (by omega)));rw [List.length_erase,if_pos (by simpa using hk)] at h2;have:=List.length_pos_of_mem hk;omega
   have:=this n m ha;simpa using this
  simp at h1;omega
def il(m:List Int):Int:=m.foldl (fun s x=>EJ .u8 s (np .u8 1 x)) 0
theorem DF{m:List Int}{x:Int}:il (m++[x])=EJ .u8 (il m) (np .u8 1 x):=by
 unfold il;rw [List.foldl_append];rfl
theorem DG{m:List Int}(h:∀x∈m,0≤x∧x < 8):∀(s:Int),mP s→mP (m.foldl (fun s x=>EJ .u8 s (np .u8 1 x)) s)∧∀i:Nat,fo (m.foldl (fun s x=>EJ .u8 s (np .u8 1 x)) s) i↔fo s i∨(i:Int)∈m:=by
 induction m with
 |nil=>intro s hs;exact⟨hs,fun i=>by simp⟩
 |cons x m ih=>
  intro s hs;have hx:=h x (by simp);obtain⟨o1,o2⟩:=yS hx.1 hx.2;obtain⟨p1,p2⟩:=zi hs o1;obtain⟨q1,q2⟩:=ih (fun y hy=>h y (by simp [hy])) _ p1;refine⟨q1,fun i=>?_⟩;rw [List.foldl_cons,q2,p2,o2,List.mem_cons,or_assoc]
theorem pS{m:List Int}(h:∀x∈m,0≤x∧x < 8):mP (il m)∧∀i:Nat,fo (il m) i↔(i:Int)∈m:=by
 obtain⟨a,b⟩:=DG h 0 ⟨by decide,by decide⟩;exact⟨a,fun i=>by rw [il,b];simp [fo]⟩
theorem A6{a b:Int}(ha:mP a)(hb:mP b)(h:∀i:Nat,fo a i↔fo b i):a=b:=by
 obtain⟨n,hn,rfl⟩:=pR ha;obtain⟨m,hm,rfl⟩:=pR hb;congr 1;refine Nat.eq_of_testBit_eq fun i=>?_;have:=h i;simp only [fo,Int.toNat_natCast] at this;exact Bool.eq_iff_iff.2 this
theorem LQ:∀n:Nat,n≤5→mP (IntKind.u8.wrap ((np .u8 1 (n:Int)) - 1))∧∀i:Nat,fo (IntKind.u8.wrap ((np .u8 1 (n:Int)) - 1)) i↔i < n:=by
 have h1:∀n:Nat,n≤5→IntKind.u8.wrap ((np .u8 1 (n:Int)) - 1)=((2 ^ n - 1:Nat):Int):=by decide
 intro n hn
 rw [h1 n hn];have h2:2 ^ n≤32:=Nat.pow_le_pow_right (by decide) hn;refine⟨⟨by omega,by omega⟩,fun i=>?_⟩;simp only [fo,Int.toNat_natCast,Nat.testBit_two_pow_sub_one,decide_eq_true_eq]
theorem Bm{n:Nat}{m:List Int}(hn:n≤5)(h:uS n m):il m=IntKind.u8.wrap ((np .u8 1 (n:Int)) - 1)↔¬m.length < n:=by
 have h8:∀x∈m,0≤x∧x < 8:=fun x hx=>by have:=h.rng x hx;omega
 obtain⟨a,b⟩:=pS h8;obtain⟨c,d⟩:=LQ n hn;rw [h.full];constructor
 ·intro e i hi;rw [←b,e,d];exact hi
 ·intro hi;refine A6 a c fun i=>?_;rw [b,d];refine⟨fun hm=>?_,hi i⟩;have:=h.rng _ hm;omega
section
variable {k:Nat}{t:aU}
theorem DJ{k:Nat}{l:List Int}{x:Int}(hk:l.length < k)(hk1:k≤1000000):oJ k l x=some (decide (x∈l)):=by
 unfold oJ
 have:=rA (f:=iR k l x) l (fun(_:Unit) j=>j) (fun _ _ y=>if y=x then Except.error true else .ok ()) (fun _ _=>True) (fun r=>some r)
  (fun n s j h _=>⟨by
   rw [iR,if_pos (Int.ofNat_lt.2 h),cD h,bs];by_cases c:l[j]=x
   ·rw [if_pos c,if_pos c]
   ·rw [if_neg c,if_neg c,bv (by omega) (by omega),bs],fun _ _=>trivial⟩)
  (fun n s _=>by rw [iR,if_neg (by omega)]) (s0:=()) (n:=k) hk trivial
 rw [show iR k l x k 0=_ from this]
 have key:∀(l:List Int) (j:Nat),bL (fun(_:Unit) _ y=>if y=x then Except.error true else .ok ()) j l ()=if x∈l then .error true else .ok ():=by
  intro l
  induction l with
  |nil=>intro j;simp [bL]
  |cons y l ih=>
   intro j;rw [bL];by_cases c:y=x
   ·rw [if_pos c,if_pos (by simp [c])]
   ·rw [if_neg c];show bL _ (j+1) l ()=_;rw [ih];have:x∈y::l↔x∈l:=by simp [List.mem_cons,Ne.symm c]
    simp only [this]
 rw [key];by_cases c:x∈l
 ·rw [if_pos c,qj,decide_eq_true c]
 ·rw [if_neg c,kQ,decide_eq_false c]
theorem Aj{x:Int}(h0:0≤x)(h:x < (t.2.1.length:Int)):∃y,aP t.2.1 x=some y∧y∈t.2.1∧eS t x=y.1:=by
 have hx:x.toNat < t.2.1.length:=by omega
 refine⟨t.2.1[x.toNat],oQ h0 hx,List.getElem_mem hx,?_⟩;rw [eS,List.getElem?_eq_getElem hx]
theorem rO(g:ji t){x:Int}:0≤eS t x∧eS t x≤3:=by
 unfold eS;cases h:t.2.1[x.toNat]? with
 |none=>simp
 |some y=>have:=g.sizes y (List.mem_of_getElem? h);simp only;omega
theorem lV(g:ji t):∀{l:List Int},0≤cK t l∧cK t l≤3 * (l.length:Int)
 |[]=>by simp [cK]
 |x::l=>by have:=rO g (x:=x);have:=lV g (l:=l);simp only [cK,List.length_cons];omega
theorem qE{l l':List Int}:cK t (l++l')=cK t l+cK t l':=by
 induction l with
 |nil=>simp [cK]
 |cons x l ih=>simp only [List.cons_append,cK,ih];omega
theorem Eo(g:ji t)(hk1:k≤1000000){l:List Int}(hl:l.length < k)(hx:∀x∈l,0≤x∧x < (t.2.1.length:Int)):nK k t l=some (cK t l):=by
 unfold nK
 have:=Bn (f:=gY k t l) l (fun(s:Int) j=>(s,j)) (fun s _ x=>s+eS t x) (fun j s=>s=cK t (l.take j)) (fun s=>some s)
  (fun n s j h hp=>by
   have hm:=hx _ (List.getElem_mem h);obtain⟨y,h1,h2,h3⟩:=Aj hm.1 hm.2;have hs:=lV g (l:=l.take j);have ho:=rO g (x:=l[j]);rw [List.length_take] at hs;refine⟨?_,?_⟩
   ·rw [gY,if_pos (Int.ofNat_lt.2 h)];dsimp only;rw [cD h,bs,h1,bs,←h3,bv (by omega) (by omega),bs,bv (by omega) (by omega),bs]
   ·rw [List.take_add_one,List.getElem?_eq_getElem h,hp,Option.toList_some,qE];simp [cK])
  (fun n s _=>by rw [gY,if_neg (by omega)]) (s0:=0) (n:=k) hl (by simp [cK])
 obtain⟨h1,h2⟩:=this;rw [show gY k t l k (0,0)=_ from h1,bs,h2,List.take_length]
def tI(e:Int):Value:=.iface 139 (.agg #[.int .i64 e])
def Va(e:Int):Value:=if e=0 then .nilIface else tI e
theorem HV{e:Int}(h:¬e=0):Va e=tI e:=if_neg h
theorem KZ(g:ji t)(hk1:k≤1000000){l m:List Int}(hl:l.length < k)(hm:uS t.2.1.length m):
 eR k t l k (il m,0)=match bL (fun m _ x=>nR t.2.1.length m x) 0 l m with | .error e=>some (.error (tI e)) | .ok m'=>some (.ok (il m')):=
 rA (f:=eR k t l) l (fun m j=>(il m,j)) (fun m _ x=>nR t.2.1.length m x) (fun _ m=>uS t.2.1.length m) (fun r=>match r with | .error e=>some (.error (tI e)) | .ok m'=>some (.ok (il m')))
  (fun n m j h hm=>⟨by
   have h5:=g.things
   rw [eR,if_pos (Int.ofNat_lt.2 h)]
   dsimp only
   rw [cD h,bs,bv (by omega) (by omega),bs,nG,bs]
   unfold nR
   by_cases c:0≤l[j]∧l[j]≤(t.2.1.length:Int) - 1
   ·
    rw [decide_eq_true c,nT,if_neg (not_not_intro c)]
    obtain⟨i,hi⟩:=Int.eq_ofNat_of_zero_le c.1
    have h8:∀x∈m,0≤x∧x < 8:=fun x hx=>by have:=hm.rng x hx;omega
    obtain⟨a,b⟩:=pS h8
    rw [hi,zk a (by omega),bs]
    have hb:=b i
    by_cases c1:(i:Int)∈m
    ·
     rw [decide_eq_true (hb.2 c1),iT,if_pos c1];rfl
    ·
     rw [decide_eq_false (fun h=>c1 (hb.1 h)),iF,if_neg c1]
     unfold dZ
     rw [bR (by omega),bs,bs,bv (by omega) (by omega),bs]
     show _=eR k t l n (il (m++[(i:Int)]),(j:Int)+1)
     rw [DF]
   ·
    rw [decide_eq_false c,nF,if_pos (show¬(0≤l[j]∧l[j]≤(t.2.1.length:Int) - 1) from c)];rfl,fun m' e=>(hm.put e).2.1⟩)
  (fun n m _=>by rw [eR,if_neg (by omega)]) (s0:=m) (n:=k) hl hm
theorem CJ(g:ji t)(hk1:k≤1000000){p:List (List Int)}(hp:p.length=t.2.2.length)(hpk:p.length < k)(hl:∀l∈p,l.length < k):
 fO k t p k (0,0)=match bL (iK t) 0 p [] with | .error e=>some (.error (tI e)) | .ok m'=>some (.ok (il m')):=
 rA (f:=fO k t p) p (fun m j=>(il m,j)) (iK t) (fun _ m=>uS t.2.1.length m) (fun r=>match r with | .error e=>some (.error (tI e)) | .ok m'=>some (.ok (il m')))
  (fun n m j h hm=>by
   refine⟨?_,fun m' e=>?_⟩
   ·
    rw [fO,if_pos (Int.ofNat_lt.2 h)]
    dsimp only
    rw [cD h,bs,KZ g hk1 (hl _ (List.getElem_mem h)) hm]
    unfold iK
    cases e:bL (fun m _ x=>nR t.2.1.length m x) 0 p[j] m with
    |error e'=>dsimp only;rw [qj,qj]
    |ok m'=>
     obtain⟨_,_,h3⟩:=hm.puts e
     have hj:j < t.2.2.length:=by omega
     dsimp only
     rw [kQ,Eo g hk1 (hl _ (List.getElem_mem h)) h3,bs,cD hj,bs]
     have e2:t.2.2[j]?.getD 0=t.2.2[j]:=by rw [List.getElem?_eq_getElem hj];rfl
     rw [e2]
     by_cases c:t.2.2[j] < cK t p[j]
     ·
      rw [if_pos c,if_pos c,qj];rfl
     ·
      rw [if_neg c,if_neg c,kQ,bv (by omega) (by omega),bs]
   ·
    unfold iK at e
    cases e1:bL (fun m _ x=>nR t.2.1.length m x) 0 p[j] m with
    |error e'=>rw [e1] at e;cases e
    |ok m1=>
     rw [e1] at e
     dsimp only at e
     split at e
     ·
      cases e
     ·
      cases e;exact(hm.puts e1).2.1)
  (fun n m _=>by rw [fO,if_neg (by omega)]) (s0:=[]) (n:=k) hpk ⟨by simp,by simp⟩
theorem EG{p:List (List Int)}{m':List Int}:∀{j:Nat} {m:List Int},uS t.2.1.length m→bL (iK t) j p m= .ok m'→m'=m++p.flatten∧uS t.2.1.length m'∧∀i (h:i < p.length),(∀x∈p[i],0≤x∧x < (t.2.1.length:Int))∧cK t p[i]≤t.2.2[j+i]?.getD 0:=by
 induction p with
 |nil=>intro j m hm e;simp only [bL] at e;cases e;exact⟨by simp,hm,fun i h=>by simp at h⟩
 |cons l p ih=>
  intro j m hm e;rw [bL] at e;cases e1:iK t m j l with
  |error e'=>rw [e1] at e;cases e
  |ok m1=>
   rw [e1] at e;unfold iK at e1;cases e2:bL (fun m _ x=>nR t.2.1.length m x) 0 l m with
   |error e'=>rw [e2] at e1;cases e1
   |ok m2=>
    rw [e2] at e1;dsimp only at e1;split at e1
    ·cases e1
    ·rename_i hs;cases e1;obtain⟨rfl,h3,h4⟩:=hm.puts e2;obtain⟨h5,h6,h7⟩:=ih h3 e;refine⟨by rw [h5];simp,h6,fun i hi=>?_⟩;cases i with
     |zero=>exact⟨h4,by simp only [List.getElem_cons_zero,Nat.add_zero];omega⟩
     |succ i=>
      have:=h7 i (by simpa using hi);have e3:j+1+i=j+(i+1):=by omega
      rw [e3] at this;exact this
theorem Fq(g:ji t)(hk1:k≤1000000){p:List (List Int)}(hpk:3 < k)(hl:∀l∈p,l.length < k):
 lU k t p=some (Va (chkV t p)):=by
 unfold lU chkV
 by_cases c1:p.length < t.2.2.length
 ·
  rw [if_pos (show(p.length:Int) < (t.2.2.length:Int) by omega),if_pos c1];rfl
 ·
  rw [if_neg (show¬(p.length:Int) < (t.2.2.length:Int) by omega),if_neg c1];by_cases c2:t.2.2.length < p.length
  ·rw [if_pos (show(t.2.2.length:Int) < (p.length:Int) by omega),if_pos c2];rfl
  ·rw [if_neg (show¬(t.2.2.length:Int) < (p.length:Int) by omega),if_neg c2,CJ g hk1 (by omega) (by have:=g.trunks;omega) hl]
   have hne:bL (iK t) 0 p []≠.error 0:=lr (fun m j l=>by
    unfold iK;have:=lr (g:=fun m _ x=>nR t.2.1.length m x) (fun m _ x=>by unfold nR;split;(· simp);(· split <;> simp)) l 0 m;cases e:bL (fun m _ x=>nR t.2.1.length m x) 0 l m with
    |error e'=>intro h;rw [e] at this;exact this h
    |ok m'=>dsimp only;split <;> simp) _ _ _
   cases e:bL (iK t) 0 p [] with
   |error e'=>
    rw [e] at hne;have h0:¬e'=0:=fun h=>hne (by rw [h]);dsimp only;rw [qj,HV h0]
   |ok m=>
    obtain⟨_,h3,_⟩:=EG (t:=t) ⟨by simp,by simp⟩ e;dsimp only;rw [kQ,bR (by omega),bs];have:=Bm g.things h3;by_cases c3:m.length < t.2.1.length
    ·rw [if_pos (show¬il m=_ from fun h=>this.1 h c3),if_pos c3];rfl
    ·rw [if_neg (show¬¬il m=_ from fun h=>h (this.2 c3)),if_neg c3];rfl
theorem D4(h:fG k t)(hpk:3 < k){p:List (List Int)}(hl:∀l∈p,l.length < k):cY k t p=some (qi t p):=by
 unfold cY qi;rw [uv h,bs];by_cases c:jY t=0
 ·have g:=s8 c;rw [if_neg (not_not_intro c),if_neg (not_not_intro c),Fq g h.k1 hpk hl,bs];by_cases c1:chkV t p=0
  ·rw [c1];rfl
  ·rw [HV c1];rfl
 ·rw [if_pos c,if_pos c]
end
section
variable {k:Nat}{t:aU}
structure dU(t:aU)(p:List (List Int)):Prop where
 g:ji t
 len:p.length=t.2.2.length
 nd:p.flatten.Nodup
 rng:∀x∈p.flatten,0≤x∧x < (t.2.1.length:Int)
 all:∀i:Nat,i < t.2.1.length→(i:Int)∈p.flatten
 room:∀i (h:i < p.length),cK t p[i]≤t.2.2[i]?.getD 0
theorem Bh{p:List (List Int)}(h:qi t p=0):dU t p:=by
 unfold qi at h;by_cases c:jY t=0
 ·rw [if_neg (not_not_intro c)] at h;have g:=s8 c;unfold chkV at h;by_cases c1:p.length < t.2.2.length
  ·rw [if_pos c1] at h;cases h
  ·rw [if_neg c1] at h;by_cases c2:t.2.2.length < p.length
   ·rw [if_pos c2] at h;cases h
   ·rw [if_neg c2] at h;cases e:bL (iK t) 0 p [] with
    |error e'=>
     exfalso;rw [e] at h
     have hne:bL (iK t) 0 p []≠.error 0:=lr (fun m j l=>by
      unfold iK;have:=lr (g:=fun m _ x=>nR t.2.1.length m x) (fun m _ x=>by unfold nR;split;(· simp);(· split <;> simp)) l 0 m;cases e:bL (fun m _ x=>nR t.2.1.length m x) 0 l m with
      |error e'=>intro h;rw [e] at this;exact this h
      |ok m'=>dsimp only;split <;> simp) _ _ _
     rw [e] at hne;exact hne (congrArg _ h)
    |ok m=>
     rw [e] at h;obtain⟨h3,h4,h5⟩:=EG (t:=t) ⟨by simp,by simp⟩ e;rw [List.nil_append] at h3;subst h3;by_cases c3:p.flatten.length < t.2.1.length
     ·simp only [c3,if_true] at h;cases h
     ·exact⟨g,by omega,h4.nd,h4.rng,h4.full.1 c3,fun i hi=>by have:=(h5 i hi).2;rw [Nat.zero_add] at this;exact this⟩
 ·rw [if_pos c] at h;exact absurd h c
end
theorem Lo.mono{l:bW}{m n:Int}(h:Lo l m)(hn:m≤n):Lo l n:=⟨h.1,Int.le_trans h.2 hn⟩
theorem zP{α:Type}{l:List α}{x:α}{n:Nat}(h:l.length≤n)(hn:n≤1000000):bq (List.length l+List.length [x]):=by
 show List.length l+List.length [x]≤4294967296;simp only [List.length_cons,List.length_nil];omega
structure BV(t:aU)(things trunks:Int):Prop where
 days:1≤t.1∧t.1≤4
 things:(t.2.1.length:Int)≤things
 item:∀x∈t.2.1,1≤x.1∧x.1≤3∧x.2.length≤4∧(∀d∈x.2,0≤d∧d < t.1)∧x.2.Pairwise (· < ·)
 trunks:1≤t.2.2.length∧(t.2.2.length:Int)≤trunks
 rooms:∀n∈t.2.2,0≤n∧n≤9
theorem zj{a b:Int}(ha:0≤a)(hb:0≤b):0≤kl a b∧kl a b≤a:=by
 unfold kl;split <;> omega
section
variable {k:Nat}
theorem KC(hk:50≤k){r2:Int×bW}(hd:1≤r2.1∧r2.1≤4){l:bW}{m:Int}(hl:Lo l m)(hm:0≤m∧m≤1000):
 W (fa k r2 k (l.1,l.2.1,l.2.2,[],0)) fun r=>Lo (r.1,r.2.1,r.2.2.1) (m+4)∧r.2.2.2.length≤4∧(∀d∈r.2.2.2,0≤d∧d < r2.1)∧r.2.2.2.Pairwise (· < ·):=by
 refine W.loop (f:=fa k r2) (fun q y=>∃j:Nat,y.2.2.2.2=(j:Int)∧(j:Int)≤r2.1∧q=r2.1.toNat - j∧Lo (y.1,y.2.1,y.2.2.1) (m+j)∧y.2.2.2.1.length≤j∧(∀d∈y.2.2.2.1,0≤d∧d < (j:Int))∧y.2.2.2.1.Pairwise (· < ·)) ?_ r2.1.toNat k _ (by omega)
  ⟨0,rfl,by omega,by omega,by simpa using hl,by simp,by simp,by simp⟩
 rintro aS q ⟨a,b,c,o,y⟩ ⟨j,hj,hle,hq,hlo,hlen,hr,hpw⟩ ih
 simp only at hj hlo hlen hr hpw
 subst hj
 unfold fa
 dsimp only
 refine W.ite (fun hlt=>?_) (fun hge=>W.ret ⟨hlo.mono (by omega),by show o.length≤4;omega,fun d hd'=>by have:=hr d hd';omega,hpw⟩)
 obtain⟨r,er,hr'⟩:=Ew (k:=k) (a:=2) hlo (by omega) (by decide) (by decide)
 rw [er,bs]
 cases hb:r.1 with
 |true=>
  rw [iT,bR (zP hlen (by omega)),bs,bs,bv (by omega) (by omega),bs]
  exact ih (q - 1) _ (by omega) ⟨j+1,by show(j:Int)+1=((j+1:Nat):Int);omega,by omega,by omega,hr'.mono (by omega),by simp only [List.length_append,List.length_cons,List.length_nil];omega,fun d hd'=>by
   rcases List.mem_append.1 hd' with h |h
   ·have:=hr d h;omega
   ·rw [List.mem_singleton] at h;omega,by
   refine List.pairwise_append.2 ⟨hpw,by simp,fun a ha b hb=>?_⟩;rw [List.mem_singleton] at hb;have:=hr a ha;omega⟩
 |false=>
  rw [iF,bs,bv (by omega) (by omega),bs];exact ih (q - 1) _ (by omega) ⟨j+1,by show(j:Int)+1=((j+1:Nat):Int);omega,by omega,by omega,hr'.mono (by omega),by simp only;omega,fun d hd'=>by have:=hr d hd';omega,hpw⟩
theorem Fz(hk:50≤k){r2:Int×bW}(hd:1≤r2.1∧r2.1≤4){l:bW}{m:Int}(hl:Lo l m)(hm:0≤m∧m≤100){n:Nat}(hn:n≤8):
 W (fe k r2 k (l.1,l.2.1,l.2.2,[],0,(n:Int))) fun r=>Lo (r.1,r.2.1,r.2.2.1) (m+50)∧r.2.2.2.1.length=n∧(∀x∈r.2.2.2.1,1≤x.1∧x.1≤3∧x.2.length≤4∧(∀d∈x.2,0≤d∧d < r2.1)∧x.2.Pairwise (· < ·))∧0≤r.2.2.2.2∧r.2.2.2.2≤30:=by
 refine W.loop (f:=fe k r2) (fun q y=>∃j:Nat,y.2.2.2.2.2=(n:Int) - (j:Int)∧j≤n∧q=n - j∧Lo (y.1,y.2.1,y.2.2.1) (m+5 * j)∧y.2.2.2.1.length=j∧(∀x∈y.2.2.2.1,1≤x.1∧x.1≤3∧x.2.length≤4∧(∀d∈x.2,0≤d∧d < r2.1)∧x.2.Pairwise (· < ·))∧0≤y.2.2.2.2.1∧y.2.2.2.2.1≤3 * j) ?_ n k _ (by omega)
  ⟨0,by simp,by omega,by omega,by simpa using hl,rfl,by simp,by simp,by simp⟩
 rintro aS q ⟨a,b,c,o,s,y⟩ ⟨j,hj,hle,hq,hlo,hlen,hx,hs0,hs1⟩ ih
 simp only at hj hlo hlen hx hs0 hs1
 subst hj
 unfold fe
 dsimp only
 refine W.ite (fun hlt=>?_) (fun hge=>W.ret ⟨hlo.mono (by omega),by show o.length=n;omega,hx,hs0,by show s≤30;omega⟩)
 obtain⟨r,er,hm1,hr⟩:=ND (k:=k) (some_:=[1,1,1,2,3]) hlo (by omega) (by decide) (by decide)
 have hr3:1≤r.1∧r.1≤3:=by simp only [List.mem_cons,List.not_mem_nil,or_false] at hm1;omega
 rw [er,bs]
 obtain⟨w,ew,hw1,hw2,hw3,hw4⟩:=KC hk hd (l:=r.2) hr (by omega)
 rw [show fa k r2 k (r.2.1,r.2.2.1,r.2.2.2,[],0)=some w from ew,bs,bR (zP (n:=8) (by omega) (by omega)),bs,bv (by omega) (by omega),bs,bs,bv (by omega) (by omega),bs]
 refine ih (q - 1) _ (by omega) ⟨j+1,by show(n:Int) - (j:Int) - 1=(n:Int) - ((j+1:Nat):Int);omega,by omega,by omega,hw1.mono (by omega),by simp only [List.length_append,List.length_cons,List.length_nil];omega,fun x hx'=>?_,by show 0≤s+r.1;omega,by show s+r.1≤3 * ((j+1:Nat):Int);omega⟩
 rcases List.mem_append.1 hx' with h |h
 ·
  exact hx x h
 ·
  rw [List.mem_singleton] at h;subst h;exact⟨hr3.1,hr3.2,hw2,hw3,hw4⟩
theorem Fv(hk:50≤k){x4:(List Int)×Int×Int×(List gq)×Int}(hs:0≤x4.2.2.2.2∧x4.2.2.2.2≤30){l:bW}{m:Int}(hl:Lo l m)(hm:0≤m∧m≤200){n:Nat}(hn:n≤8):
 W (eZ k x4 k (l.1,l.2.1,l.2.2,[],(n:Int))) fun r=>Lo (r.1,r.2.1,r.2.2.1) (m+10)∧r.2.2.2.length=n∧(∀x∈r.2.2.2,0≤x∧x≤9):=by
 refine W.loop (f:=eZ k x4) (fun q y=>∃j:Nat,y.2.2.2.2=(n:Int) - (j:Int)∧j≤n∧q=n - j∧Lo (y.1,y.2.1,y.2.2.1) (m+j)∧y.2.2.2.1.length=j∧(∀x∈y.2.2.2.1,0≤x∧x≤9)) ?_ n k _ (by omega)
  ⟨0,by simp,by omega,by omega,by simpa using hl,rfl,by simp⟩
 rintro aS q ⟨a,b,c,o,y⟩ ⟨j,hj,hle,hq,hlo,hlen,hx⟩ ih
 simp only at hj hlo hlen hx
 subst hj
 unfold eZ
 dsimp only
 refine W.ite (fun hlt=>?_) (fun hge=>W.ret ⟨hlo.mono (by omega),by show o.length=n;omega,hx⟩)
 rw [bv (by omega) (by omega),bs]
 obtain⟨r,er,hm1,hr⟩:=ND (k:=k) (some_:=[1,2,3,kl 9 x4.2.2.2.2,kl 9 (x4.2.2.2.2+1)]) hlo (by omega) (by simp) (by simp)
 have i1:=zj (a:=9) (b:=x4.2.2.2.2) (by decide) hs.1
 have i2:=zj (a:=9) (b:=x4.2.2.2.2+1) (by decide) (by omega)
 have hr3:0≤r.1∧r.1≤9:=by simp only [List.mem_cons,List.not_mem_nil,or_false] at hm1;omega
 rw [er,bs,bR (zP (n:=8) (by omega) (by omega)),bs,bv (by omega) (by omega),bs]
 refine ih (q - 1) _ (by omega) ⟨j+1,by show(n:Int) - (j:Int) - 1=(n:Int) - ((j+1:Nat):Int);omega,by omega,by omega,hr.mono (by omega),by simp only [List.length_append,List.length_cons,List.length_nil];omega,fun x hx'=>?_⟩
 rcases List.mem_append.1 hx' with h |h
 ·
  exact hx x h
 ·
  rw [List.mem_singleton] at h;subst h;exact hr3
theorem KP(hk:50≤k){l:bW}{m:Int}(hl:Lo l m)(hm:0≤m∧m≤50){a b:Nat}(ha:a≤8)(hb:1≤b∧b≤8):
 W (kJ k l (a:Int) (b:Int)) fun r=>BV r.1 a b∧Lo r.2 (m+100):=by
 unfold kJ
 obtain⟨r,er,h1,h2,h3⟩:=IW (k:=k) (a:=1) (b:=4) hl (by omega) (by decide) (by decide) (by decide)
 rw [show fg k (l.1,l.2.1,l.2.2) 1 4=some r from er,bs]
 obtain⟨r6,e6,h61,h62,h63⟩:=IW (k:=k) (a:=0) (b:=(a:Int)) h3 (by omega) (by decide) (by omega) (by omega)
 rw [show fg k (r.2.1,r.2.2.1,r.2.2.2) 0 (a:Int)=some r6 from e6,bs]
 obtain⟨n,hn⟩:=Int.eq_ofNat_of_zero_le h61
 obtain⟨x4,e4,hl4,hlen4,hit,hs0,hs1⟩:=Fz hk (r2:=r) ⟨h1,h2⟩ h63 (by omega) (n:=n) (by omega)
 rw [show fe k r k (r6.2.1,r6.2.2.1,r6.2.2.2,[],0,r6.1)=some x4 by rw [hn];exact e4,bs]
 obtain⟨r31,e31,h311,h312,h313⟩:=IW (k:=k) (a:=1) (b:=(b:Int)) hl4 (by omega) (by decide) (by omega) (by omega)
 rw [show fg k (x4.1,x4.2.1,x4.2.2.1) 1 (b:Int)=some r31 from e31,bs]
 obtain⟨n3,hn3⟩:=Int.eq_ofNat_of_zero_le (show 0≤r31.1 by omega)
 obtain⟨x29,e29,hl29,hlen29,hroom⟩:=Fv hk (x4:=x4) ⟨hs0,hs1⟩ h313 (by omega) (n:=n3) (by omega)
 rw [show eZ k x4 k (r31.2.1,r31.2.2.1,r31.2.2.2,[],r31.1)=some x29 by rw [hn3];exact e29,bs]
 obtain⟨r42,e42,h42⟩:=Ew (k:=k) (a:=2) hl29 (by omega) (by decide) (by decide)
 rw [show gh k (x29.1,x29.2.1,x29.2.2.1) 2=some r42 from e42,bs]
 cases hb:r42.1 with
 |true=>
  have i1:=zj (a:=9) (b:=x4.2.2.2.2) (by decide) hs0;rw [iT,show aP x29.2.2.2 0=some (x29.2.2.2[0]'(by omega)) from cD (i:=0) (by omega),bs,bs];refine W.ret ⟨⟨⟨h1,h2⟩,by show(x4.2.2.2.1.length:Int)≤_;omega,hit,by simp only [List.length_set];omega,fun y hy=>?_⟩,h42.mono (by omega)⟩;rcases List.mem_or_eq_of_mem_set hy with h |h
  ·exact hroom y h
  ·omega
 |false=>
  rw [iF,bs];exact W.ret ⟨⟨⟨h1,h2⟩,by show(x4.2.2.2.1.length:Int)≤_;omega,hit,by simp only;omega,hroom⟩,h42.mono (by omega)⟩
theorem qT{α:Type}{g:Nat→α→Except Int Unit}:∀(l:List α) (i:Nat),(∀(j:Nat) (h:j < l.length),g (i+j) l[j]= .ok ())→bL (fun(_:Unit) j x=>g j x) i l ()= .ok ()
 |[],_,_=>rfl
 |x::l,i,h=>by
  have h0:g i x= .ok ():=h 0 (by simp)
  rw [bL,h0]
  exact qT l (i+1) fun j hj=>by
   have:=h (j+1) (by simp;omega)
   rw [show i+1+j=i+(j+1) by omega]
   exact this
theorem BV.chk{t:aU}{a b:Int}(h:BV t a b)(ha:a≤5)(hb:b≤3):jY t=0:=by
 have h1:=h.days;have h2:=h.things;have h3:=h.trunks;unfold jY
 rw [if_neg (not_not_intro (show 1≤t.1∧t.1≤6 by omega)),if_neg (show¬5 < t.2.1.length by omega),qT (g:=fun _ x=>kj t.1 x) t.2.1 0 (fun j hj=>by
  obtain⟨a1,a2,_,a4,a5⟩:=h.item _ (List.getElem_mem hj);show kj t.1 t.2.1[j]= .ok ();unfold kj;rw [if_neg (not_not_intro ⟨a1,a2⟩)];refine qT (g:=fun i y=>vd t.1 t.2.1[j].2 i y) _ 0 (fun i hi=>?_);have hd:=a4 _ (List.getElem_mem hi);rw [Nat.zero_add];unfold vd;rw [if_neg (not_not_intro (show 0≤t.2.1[j].2[i]∧t.2.1[j].2[i]≤t.1 - 1 by omega)),if_neg];rintro⟨h0,hle⟩;have:=List.pairwise_iff_getElem.1 a5 (i - 1) i (by omega) hi (by omega);rw [List.getElem?_eq_getElem (show i - 1 < t.2.1[j].2.length by omega),Option.getD_some] at hle;omega)]
 simp only [show¬t.2.2.length < 1 by omega,show¬3 < t.2.2.length by omega,if_false]
 rw [qT (g:=fun _ n=>lG n) t.2.2 0 (fun j hj=>by
  have:=h.rooms _ (List.getElem_mem hj);show lG t.2.2[j]= .ok ();unfold lG;rw [if_pos this])]
 rfl
end
section
variable {k:Nat}
theorem IB(hk:50≤k){l:bW}{m:Int}{n:Nat}(hl:Lo l m)(hm:0≤m∧m≤1000)(hn:n≤8):W (gQ k l (n:Int)) fun r=>Lo r.2 (m+10)∧r.1.length=n∧∀x∈r.1,0≤x∧x < (n:Int):=by
 unfold gQ;refine W.bind (R:=fun r=>Lo (r.2.1,r.2.2.1,r.2.2.2) (m+10)∧r.1.length=n∧∀x∈r.1,0≤x∧x < (n:Int)) ?_ fun r h=>W.ret h
 refine W.loop (f:=eG k (n:Int)) (fun q y=>∃j:Nat,y.2.2.2.2=(j:Int)∧j≤n∧q=n - j∧Lo (y.1,y.2.1,y.2.2.1) (m+j)∧y.2.2.2.1.length=j∧∀x∈y.2.2.2.1,0≤x∧x < (n:Int)) ?_ n k _ (by omega)
  ⟨0,rfl,by omega,by omega,by simpa using hl,rfl,by simp⟩
 rintro aS q ⟨nums,d,s,o,y⟩ ⟨j,hj,hle,hq,hlo,hlen,hx⟩ ih;simp only at hj hlo hlen hx;subst hj;unfold eG;dsimp only;refine W.ite (fun hlt=>?_) (fun hge=>W.ret ⟨hlo.mono (by omega),by show o.length=n;omega,hx⟩);obtain⟨r5,e5,a5,b5,c5⟩:=sq (k:=k) (n:=(j:Int)) hlo (by omega) (by omega);have b5:=b5 (by omega);have ho:(o++[(j:Int)]).length=j+1:=by simp [hlen]
 have hr5:r5.1.toNat < (o++[(j:Int)]).length:=by omega
 have hmem:∀x∈o++[(j:Int)],0≤x∧x < (n:Int):=fun x hx'=>by
  rcases List.mem_append.1 hx' with h |h
  ·exact hx x h
  ·simp only [List.mem_singleton] at h;omega
 rw [e5,bs,bR (zP (n:=8) (by omega) (by omega)),bs,oQ a5 hr5,bs,cD (by omega),bs];have hgs:aP (List.set (o++[(j:Int)]) (Int.toNat (j:Int)) (o++[(j:Int)])[r5.1.toNat]) r5.1=some ((List.set (o++[(j:Int)]) (Int.toNat (j:Int)) (o++[(j:Int)])[r5.1.toNat])[r5.1.toNat]'(by rw [List.length_set];exact hr5)):=oQ a5 (by rw [List.length_set];exact hr5);rw [hgs,bs,bv (by omega) (by omega),bs];refine ih (q - 1) (_,_,_,_,(j:Int)+1) (by omega) ⟨j+1,by show(j:Int)+1=((j+1:Nat):Int);omega,by omega,by omega,c5.mono (by omega),by simp [hlen],fun x hx'=>?_⟩;rcases List.mem_or_eq_of_mem_set hx' with h |h
 ·rcases List.mem_or_eq_of_mem_set h with h |h
  ·exact hmem x h
  ·subst h;exact hmem _ (List.getElem_mem hr5)
 ·subst h;omega
theorem KB{a b:Int}(ha:0≤a∧a≤1000000)(hb:0 < b∧b≤1000000):W (pT k a b) fun r=>0≤r∧r < b:=by
 unfold pT;have e1:Int.tmod a b=a % b:=Int.tmod_eq_emod_of_nonneg ha.1;have h1:=Int.emod_nonneg a (show b≠0 by omega);have h2:=Int.emod_lt_of_pos a hb.1;rw [bR (show b≠0 by omega),bs,e1,bv (by omega) (by omega),bs,bs];have e2:Int.tmod (a % b+b) b=(a % b+b) % b:=Int.tmod_eq_emod_of_nonneg (by omega);rw [e2];exact W.ret ⟨Int.emod_nonneg _ (by omega),Int.emod_lt_of_pos _ hb.1⟩
structure Pk(N i:Nat)(room:List Int)(out:List (List Int)):Prop where
 rl:room.length=N
 ol:out.length=N
 rr:∀x∈room, -3 * (i:Int)≤x∧x≤9
 oo:∀l∈out,l.length≤i
theorem Pk.next{N i:Nat}{room:List Int}{out:List (List Int)}(h:Pk N i room out):Pk N (i+1) room out:=
 ⟨h.rl,h.ol,fun x hx=>by have:=h.rr x hx;omega,fun l hl=>by have:=h.oo l hl;omega⟩
theorem HM(hk:50≤k){t:aU}{a b:Int}(ht:BV t a b){r7:(List Int)×bW}(h7:∀x∈r7.1,0≤x∧x < (t.2.1.length:Int))
 {y:(List Int)×Int×Int×(List Int)×Int×(List (List Int))} {i N:Nat} (hi:y.2.2.2.2.1=(i:Int)) (hil:i < r7.1.length) (hi8:i≤8) (hN:N≤8) (hp:Pk N i y.2.2.2.1 y.2.2.2.2.2)
 {r15:Int×bW} {m:Int} (h15:0≤r15.1∧r15.1≤100) (hlo:Lo r15.2 m):
 W (dz k t r7 y r15 k (0,y.2.2.2.2.2)) fun r=>Lo (r.1,r.2.1,r.2.2.1) m∧Pk N (i+1) r.2.2.2.1 r.2.2.2.2:=by
 refine W.loop (f:=dz k t r7 y r15) (fun q z=>∃j:Nat,z.1=(j:Int)∧j≤N∧q=N - j∧z.2=y.2.2.2.2.2) ?_ N k _ (by omega) ⟨0,rfl,by omega,by omega,rfl⟩
 rintro aS q ⟨z,o⟩ ⟨j,hj,hle,hq,ho⟩ ih
 simp only at hj ho
 subst hj ho
 have hrl:=hp.rl
 have hol:=hp.ol
 unfold dz
 dsimp only
 refine W.ite (fun hlt=>?_) (fun hge=>W.ret ⟨hlo,hp.next⟩)
 rw [bv (by omega) (by omega),bs]
 obtain⟨r19,e19,h190,h191⟩:=KB (k:=k) (a:=r15.1+(j:Int)) (b:=(y.2.2.2.1.length:Int)) (by omega) (by omega)
 have hw:r19.toNat < y.2.2.2.1.length:=by omega
 have hx:=h7 _ (List.getElem_mem hil)
 have hx2:(r7.1[i]).toNat < t.2.1.length:=by omega
 have hsz:=ht.item _ (List.getElem_mem hx2)
 have hrr:=hp.rr _ (List.getElem_mem hw)
 rw [e19,bs,oQ h190 hw,bs,hi,cD hil,bs,oQ hx.1 hx2,bs]
 have put:W ((aP y.2.2.2.2.2 r19).bind fun x26=>(some r7.1[i]).bind fun x27=>(cP (bq (List.length x26+List.length [x27]))).bind fun _=>
  (some y.2.2.2.1[r19.toNat]).bind fun x30=>(some r7.1[i]).bind fun x31=>(aP t.2.1 x31).bind fun x32=>(ck (x30 - x32.1)).bind fun x33=>
  (some y.2.2.2.1[r19.toNat]).bind fun x35=>some (r15.2.1,r15.2.2.1,r15.2.2.2,List.set y.2.2.2.1 (Int.toNat r19) x33,List.set y.2.2.2.2.2 (Int.toNat r19) (x26++[x27])))
  fun r=>Lo (r.1,r.2.1,r.2.2.1) m∧Pk N (i+1) r.2.2.2.1 r.2.2.2.2:=by
  have hw2:r19.toNat < y.2.2.2.2.2.length:=by omega
  have hoo:=hp.oo _ (List.getElem_mem hw2);rw [oQ h190 hw2,bs,bs,bR (zP (n:=8) (by omega) (by omega)),bs,bs,bs,oQ hx.1 hx2,bs,bv (by omega) (by omega),bs,bs];refine W.ret ⟨hlo,⟨by simp only [List.length_set];exact hrl,by simp only [List.length_set];exact hol,fun x hx=>?_,fun l hl=>?_⟩⟩
  ·rcases List.mem_or_eq_of_mem_set hx with h |h
   ·have:=hp.rr x h;omega
   ·omega
  ·rcases List.mem_or_eq_of_mem_set hl with h |h
   ·have:=hp.oo l h;omega
   ·subst h;simp only [List.length_append,List.length_cons,List.length_nil];omega
 refine W.iteB (fun c=>?_) (fun c=>?_)
 ·
  rw [bs,iT];exact put
 ·
  rw [bv (by omega) (by omega),bs,bs];dsimp only;by_cases c1:(j:Int)=(y.2.2.2.1.length:Int) - 1
  ·rw [decide_eq_true c1,iT];exact put
  ·rw [decide_eq_false c1,iF,bv (by omega) (by omega),bs];exact ih (q - 1) _ (by omega) ⟨j+1,by show(j:Int)+1=((j+1:Nat):Int);omega,by omega,by omega,rfl⟩
theorem vY(hk:50≤k){t:aU}{a b:Nat}(ht:BV t a b)(ha:a≤8)(hb:b≤8){l:bW}{m:Int}(hl:Lo l m)(hm:0≤m∧m≤500):
 W (ff k l t) fun r=>r.1.length=t.2.2.length∧(∀x∈r.1,x.length≤8)∧Lo r.2 (m+20):=by
 have h1:=ht.things
 have h2:=ht.trunks
 unfold ff
 rw [bR (by exact⟨by omega,Dh (by omega)⟩),bs,bR (Dh (by simp only [List.length_nil];omega)),bs]
 obtain⟨r7,e7,hlo7,hlen7,hr7⟩:=IB hk hl (by omega) (n:=t.2.1.length) (by omega)
 rw [show gQ k (l.1,l.2.1,l.2.2) (t.2.1.length:Int)=some r7 from e7,bs]
 refine W.bind (R:=fun r=>Lo (r.1,r.2.1,r.2.2.1) (m+20)∧r.2.2.2.length=t.2.2.length∧∀x∈r.2.2.2,x.length≤8) ?_ fun r h=>W.ret ⟨h.2.1,h.2.2,h.1⟩
 refine W.loop (f:=fk k t r7) (fun q y=>∃j:Nat,y.2.2.2.2.1=(j:Int)∧j≤r7.1.length∧q=r7.1.length - j∧Lo (y.1,y.2.1,y.2.2.1) (m+10+j)∧Pk t.2.2.length j y.2.2.2.1 y.2.2.2.2.2) ?_ r7.1.length k _ (by omega)
  ⟨0,rfl,by omega,by omega,by simpa using hlo7,⟨by simp,by simp,fun x hx=>by have:=ht.rooms x (by simpa using hx);omega,fun l hl=>by simp at hl;simp [hl.2]⟩⟩
 rintro aS q ⟨nums,d,s,room,y,o⟩ ⟨j,hj,hle,hq,hlo,hp⟩ ih
 simp only at hj hlo hp
 subst hj
 have hrl:=hp.rl
 unfold fk
 dsimp only
 refine W.ite (fun hlt=>?_) (fun hge=>W.ret ⟨hlo.mono (by omega),hp.ol,fun x hx=>by have:=hp.oo x hx;omega⟩)
 rw [bv (by omega) (by omega),bs]
 obtain⟨r15,e15,a15,b15,c15⟩:=sq (k:=k) (n:=(room.length:Int) - 1) hlo (by omega) (by omega)
 have b15:=b15 (by omega)
 rw [e15,bs]
 obtain⟨r,er,h3,h4⟩:=HM hk ht (r7:=r7) hr7 (y:=(nums,d,s,room,(j:Int),o)) (i:=j) (N:=t.2.2.length) rfl (by omega) (by omega) (by omega) hp (r15:=r15) ⟨a15,by omega⟩ c15
 rw [show dz k t r7 (nums,d,s,room,(j:Int),o) r15 k (0,o)=some r from er,bs,bv (by omega) (by omega),bs]
 exact ih (q - 1) _ (by omega) ⟨j+1,by show(j:Int)+1=((j+1:Nat):Int);omega,by omega,by omega,h3.mono (by omega),h4⟩
structure Fe(t:aU)(p:List (List Int))(a:Int):Prop where
 kit:BV t a 3
 len:p.length=t.2.2.length
 short:∀l∈p,l.length≤8
theorem Fe.small{t:aU}{p:List (List Int)}{a:Nat}(h:Fe t p a)(hk:50≤k)(hk1:k≤1000000)(ha:a≤8):fG k t:=
 ⟨hk1,by have:=h.kit.things;omega,fun x hx=>by have:=h.kit.item x hx;omega,by have:=h.kit.trunks;omega⟩
end
def IX(l:List Int)(x:Int):Int:=match l.findIdx? (fun y=>decide (y=x)) with
 |some i=>(i:Int)
 |none=> -1
theorem LD{l:List Int}{x:Int}:0≤IX l x↔x∈l:=by
 unfold IX;cases h:l.findIdx? (fun y=>decide (y=x)) with
 |none=>
  rw [List.findIdx?_eq_none_iff] at h;constructor
  ·intro h0;simp only at h0;omega
  ·intro hx;have:=h x hx;simp at this
 |some i=>
  rw [List.findIdx?_eq_some_iff_getElem] at h;obtain⟨hi,h1,_⟩:=h;have:l[i]=x:=by simpa using h1
  exact⟨fun _=>this▸List.getElem_mem hi,fun _=>by simp only;omega⟩
section
variable {k:Nat}
theorem Jj{l:List Int}{x:Int}:K.bE (some (bL (fun(_:Unit) j y=>if decide (y=x) then Except.error (j:Int) else .ok ()) 0 l ())) some (fun _=>some (-1))=some (IX l x):=by
 rw [wF];unfold IX;cases l.findIdx? (fun y=>decide (y=x)) with
 |none=>exact kQ
 |some i=>exact qj
theorem IV{l:List Int}{x:Int}(hk:l.length < k)(hk1:k≤1000000):jA k l x=some (IX l x):=by
 unfold jA
 have:=rA (f:=dw k l x) l (fun(_:Unit) j=>j) (fun _ j y=>if decide (y=x) then Except.error (j:Int) else .ok ()) (fun _ _=>True) (fun r=>some r)
  (fun n s j h _=>⟨by
   rw [dw,if_pos (Int.ofNat_lt.2 h),cD h,bs];by_cases c:l[j]=x
   ·rw [if_pos c.symm,decide_eq_true c,iT]
   ·rw [if_neg (fun h=>c h.symm),decide_eq_false c,iF,bv (by omega) (by omega),bs],fun _ _=>trivial⟩)
  (fun n s _=>by rw [dw,if_neg (by omega)]) (s0:=()) (n:=k) hk trivial
 rw [show dw k l x k 0=_ from this];exact Jj
theorem Bz{l:List Int}{x:Int}(hk:l.length < k)(hk1:k≤1000000):gG k l x=some (decide (x∈l)):=by
 unfold gG;rw [IV hk hk1,bs];congr 1;exact decide_eq_decide.2 LD
def kF(l:List Int):List Int:=[l[0]?.getD (-1),l[1]?.getD (-1),l[2]?.getD (-1),l[3]?.getD (-1),l[4]?.getD (-1)]
def dS(p:List (List Int)):List (List Int):=[kF (p[0]?.getD []),kF (p[1]?.getD []),kF (p[2]?.getD [])]
theorem xR{p ld:List (List Int)}{row:List Int}{i j n:Nat}{y:List (List Int)}(hi:i < 3)(hj:j < 5)(hr:ld[i]? =some row)(hl:row.length=5):
 cU k p (y,(i:Int)) (n+1) (ld,(j:Int))=cU k p (y,(i:Int)) n (ld.set i (row.set j ((p[i]?.getD [])[j]?.getD (-1))),((j+1:Nat):Int)):=by
 have hil:i < ld.length:=by
  rcases Nat.lt_or_ge i ld.length with h |h
  ·exact h
  ·rw [List.getElem?_eq_none h] at hr;cases hr
 have hg:aP ld (i:Int)=some row:=oP (by omega) hr
 rw [cU]
 dsimp only
 rw [if_pos (show(j:Int) < 5 by omega),bR (by omega),bs,hg,bs,bR (by omega),bs]
 have ei:Int.toNat (i:Int)=i:=rfl
 have ej:Int.toNat (j:Int)=j:=rfl
 rw [ei,ej]
 by_cases c:i < p.length
 ·
  have ep:p[i]?.getD []=p[i]:=by rw [List.getElem?_eq_getElem c];rfl
  rw [if_pos (show(i:Int) < (p.length:Int) by omega),cD c,bs,bs,ep];by_cases c1:j < p[i].length
  ·have e2:p[i][j]?.getD (-1)=p[i][j]:=by rw [List.getElem?_eq_getElem c1];rfl
   rw [decide_eq_true (show(j:Int) < (p[i].length:Int) by omega),iT,bs,cD c1,bs,bs]
   have hg2:aP (ld.set i (row.set j (-1))) (i:Int)=some (row.set j (-1)):=oP (by omega) (by
    show(ld.set i (row.set j (-1)))[i]? =_;rw [List.getElem?_set_self hil])
   rw [hg2,bs,bs,bs,bv (by omega) (by omega),bs,List.set_set,List.set_set,e2];rfl
  ·have e2:p[i][j]?.getD (-1)= -1:=by rw [List.getElem?_eq_none (by omega)];rfl
   rw [decide_eq_false (show¬(j:Int) < (p[i].length:Int) by omega),iF,bs,bv (by omega) (by omega),bs,e2];rfl
 ·
  have ep:p[i]?.getD []=[]:=by rw [List.getElem?_eq_none (by omega)];rfl
  rw [if_neg (show¬(i:Int) < (p.length:Int) by omega),bs,iF,bs,bv (by omega) (by omega),bs,ep];rfl
theorem IK(hk:50≤k){p ld:List (List Int)}{row:List Int}{i:Nat}{y:List (List Int)}(hi:i < 3)(hr:ld[i]? =some row)(hl:row.length=5):
 cU k p (y,(i:Int)) k (ld,0)=some (ld.set i (kF (p[i]?.getD []))):=by
 obtain⟨n,rfl⟩:∃n,k=n+6:=⟨k - 6,by omega⟩
 have hil:i < ld.length:=by
  rcases Nat.lt_or_ge i ld.length with h |h
  ·exact h
  ·rw [List.getElem?_eq_none h] at hr;cases hr
 match row,hl with
 |[a,b,c,d,e],_=>
  have st:∀(j m:Nat) (row':List Int),j < 5→row'.length=5→cU (n+6) p (y,(i:Int)) (m+1) (ld.set i row',(j:Int))=cU (n+6) p (y,(i:Int)) m (ld.set i (row'.set j ((p[i]?.getD [])[j]?.getD (-1))),((j+1:Nat):Int)):=fun j m row' hj hl'=>by
   rw [xR hi hj (List.getElem?_set_self hil) hl',List.set_set]
  have h0:=xR (k:=n+6) (p:=p) (y:=y) (n:=n+5) (j:=0) hi (by omega) hr rfl;rw [show((0:Nat):Int)=0 from rfl] at h0;rw [h0,st 1 _ _ (by omega) (by simp),st 2 _ _ (by omega) (by simp),st 3 _ _ (by omega) (by simp),st 4 _ _ (by omega) (by simp),cU];dsimp only;rw [if_neg (show¬(((4+1:Nat):Int) < 5) by omega)];rfl
theorem wq(hk:50≤k){p:List (List Int)}:dN k p=some (dS p):=by
 unfold dN;obtain⟨n,e⟩:∃n,k=n+4:=⟨k - 4,by omega⟩
 have st:∀(i m:Nat) (ld:List (List Int)) (row:List Int),i < 3→ld[i]? =some row→row.length=5→dj k p (m+1) (ld,(i:Int))=dj k p m (ld.set i (kF (p[i]?.getD [])),((i+1:Nat):Int)):=fun i m ld row hi hr hl=>by
  rw [dj];dsimp only;rw [if_pos (show(i:Int) < 3 by omega),IK hk hi hr hl,bs,bv (by omega) (by omega),bs];rfl
 have h0:=st 0 (n+3) [[0,0,0,0,0],[0,0,0,0,0],[0,0,0,0,0]] _ (by omega) rfl rfl;rw [show((0:Nat):Int)=0 from rfl] at h0;have e2:dj k p k ([[0,0,0,0,0],[0,0,0,0,0],[0,0,0,0,0]],0)=dj k p (n+3+1) ([[0,0,0,0,0],[0,0,0,0,0],[0,0,0,0,0]],0):=by rw [←e]
 rw [e2,h0,st 1 _ _ _ (by omega) rfl rfl,st 2 _ _ _ (by omega) rfl rfl,dj];dsimp only;rw [if_neg (show¬(((2+1:Nat):Int) < 3) by omega),bs];rfl
def Nh(l:List Int):Prop:=l.length≤5∧∀x∈l,0≤x
theorem oK{l:List Int}(h:Nh l):(kF l).filter (fun x=>decide (0≤x))=l:=by
 obtain⟨h1,h2⟩:=h;match l,h1 with
 |[],_=>rfl
 |[a],_=>have:=h2 a (by simp);simp [kF,this]
 |[a,b],_=>have:=h2 a (by simp);have:=h2 b (by simp);simp [kF, *]
 |[a,b,c],_=>have:=h2 a (by simp);have:=h2 b (by simp);have:=h2 c (by simp);simp [kF, *]
 |[a,b,c,d],_=>have:=h2 a (by simp);have:=h2 b (by simp);have:=h2 c (by simp);have:=h2 d (by simp);simp [kF, *]
 |[a,b,c,d,e],_=>have:=h2 a (by simp);have:=h2 b (by simp);have:=h2 c (by simp);have:=h2 d (by simp);have:=h2 e (by simp);simp [kF, *]
theorem IN(hk:50≤k){row:List Int}(hr:row.length=5):cX k row k ([],0)=some (row.filter fun x=>decide (0≤x)):=by
 have:=Bn (f:=cX k row) row (fun(s:List Int) j=>(s,j)) (fun s _ x=>if 0≤x then s++[x] else s) (fun j s=>s.length≤j∧s=(row.take j).filter fun x=>decide (0≤x)) (fun s=>some s)
  (fun n s j h hp=>by
   have hl:=hp.1;refine⟨?_,?_,?_⟩
   ·rw [cX];dsimp only;rw [if_pos (show(j:Int) < 5 by omega),cD h,bs];by_cases c:0≤row[j]
    ·rw [if_pos c,bR (zP (n:=5) (by omega) (by omega)),bs,bs,bv (by omega) (by omega),bs,if_pos c]
    ·rw [if_neg c,bs,bv (by omega) (by omega),bs,if_neg c]
   ·split
    ·simp only [List.length_append,List.length_cons,List.length_nil];omega
    ·omega
   ·rw [List.take_add_one,List.getElem?_eq_getElem h,Option.toList_some,List.filter_append,←hp.2];by_cases c:0≤row[j]
    ·rw [if_pos c];simp [c]
    ·rw [if_neg c];simp [c])
  (fun n s _=>by rw [cX,if_neg (show¬((row.length:Int) < 5) by omega)]) (s0:=[]) (n:=k) (by omega) ⟨by simp,by simp⟩
 obtain⟨h1,h2,h3⟩:=this;rw [show cX k row k ([],0)=_ from h1,h3,List.take_of_length_le (Nat.le_refl _)]
theorem zf(hk:50≤k){p:List (List Int)}{i:Nat}(hi:i < 3)(hf:Nh (p[i]?.getD [])):d3 k (dS p) (i:Int)=some (p[i]?.getD []):=by
 unfold d3
 have hg:aP (dS p) (i:Int)=some (kF (p[i]?.getD [])):=oP (by omega) (by
  match i,hi with
  |0,_=>rfl
  |1,_=>rfl
  |2,_=>rfl)
 rw [bR (by omega),bs,hg,bs,IN hk rfl,bs,oK hf]
end
section
variable {k:Nat}
theorem Ed{t:aU}{d:Int}{n:Nat}:om t d (n:Int)=true↔∃h:n < t.2.1.length,d∈t.2.1[n].2:=by
 unfold om;rw [show((n:Int)).toNat=n from rfl];rcases Nat.lt_or_ge n t.2.1.length with h |h
 ·rw [List.getElem?_eq_getElem h];simp [h]
 ·rw [List.getElem?_eq_none h];simp [Nat.not_lt.2 h]
theorem G7(hk1:k≤1000000){t:aU}(hn:t.2.1.length≤8)(hnk:t.2.1.length < k)(hw:∀x∈t.2.1,x.2.length < k){d:Int}:W (iq k (t,()) d) fun m=>mP m∧∀i:Nat,fo m i↔om t d (i:Int)=true:=by
 unfold iq;refine W.bind (R:=fun m=>mP m∧∀i:Nat,fo m i↔om t d (i:Int)=true) ?_ fun r h=>W.ret h
 refine W.loop (f:=fh k (t,()) d) (fun q y=>∃j:Nat,y.2=(j:Int)∧j≤t.2.1.length∧q=t.2.1.length - j∧mP y.1∧∀i:Nat,fo y.1 i↔i < j∧om t d (i:Int)=true) ?_ t.2.1.length k (0,0) hnk
  ⟨0,rfl,by omega,by omega,⟨by decide,by decide⟩,fun i=>by simp [fo]⟩
 rintro aS q ⟨s,y⟩ ⟨j,hj,hle,hq,hm,hh⟩ ih;simp only at hj hm hh;subst hj;unfold fh;dsimp only;refine W.ite (fun hlt=>?_) (fun hge=>W.ret ⟨hm,fun i=>?_⟩)
 ·have hlt':j < t.2.1.length:=by omega
  rw [cD hlt',bs,Bz (hw _ (List.getElem_mem hlt')) hk1,bs];have hj:om t d (j:Int)=true↔d∈t.2.1[j].2:=by rw [Ed];exact⟨fun⟨_,h⟩=>h,fun h=>⟨hlt',h⟩⟩
  by_cases c:d∈t.2.1[j].2
  ·obtain⟨o1,o2⟩:=yS (x:=(j:Int)) (by omega) (by omega);obtain⟨p1,p2⟩:=zi hm o1;rw [decide_eq_true c,iT];unfold dZ;rw [bR (by omega),bs,bs,bs,bv (by omega) (by omega),bs];refine ih (q - 1) (_,(j:Int)+1) (by omega) ⟨j+1,by show(j:Int)+1=((j+1:Nat):Int);omega,by omega,by omega,p1,fun i=>?_⟩;rw [p2,hh,o2];constructor
   ·rintro(⟨a,b⟩ |h)
    ·exact⟨by omega,b⟩
    ·have:i=j:=by omega
     subst this;exact⟨by omega,hj.2 c⟩
   ·rintro⟨a,b⟩;by_cases e:i=j
    ·exact .inr (by omega)
    ·exact .inl ⟨by omega,b⟩
  ·rw [decide_eq_false c,iF,bs,bv (by omega) (by omega),bs];refine ih (q - 1) (_,(j:Int)+1) (by omega) ⟨j+1,by show(j:Int)+1=((j+1:Nat):Int);omega,by omega,by omega,hm,fun i=>?_⟩;rw [hh];constructor
   ·rintro⟨a,b⟩;exact⟨by omega,b⟩
   ·rintro⟨a,b⟩;have:i≠j:=fun e=>c (hj.1 (e▸b));exact⟨by omega,b⟩
 ·rw [hh];constructor
  ·exact fun h=>h.2
  ·intro h;obtain⟨h1,_⟩:=Ed.1 h;exact⟨by omega,h⟩
theorem K3{l:List Int}(hk:l.length < k)(hk1:k≤1000000):pC k l=some l:=by
 have key:∀(j n:Nat),j≤l.length→j < n→cJ k l (mY fun(y3:List Int) (p5:Int×Int)=>some ((p5.2::y3),true)) n ((j:Int) - 1,(l.drop j,false))=some (l,false):=by
  intro j
  induction j with
  |zero=>
   intro n _ hn
   obtain⟨n,rfl⟩:∃n',n=n'+1:=⟨n - 1,by omega⟩;rw [cJ];dsimp only;rw [if_neg (by omega),List.drop_zero]
  |succ j ih=>
   intro n hj hn
   obtain⟨n,rfl⟩:∃n',n=n'+1:=⟨n - 1,by omega⟩;have e1:((j+1:Nat):Int) - 1=(j:Int):=by omega
   rw [cJ,e1];dsimp only;rw [if_pos (show(0:Int)≤(j:Int) by omega),cD (by omega),bs];rw [show mY (fun(y3:List Int) (p5:Int×Int)=>some ((p5.2::y3),true)) (List.drop (j+1) l,false) ((j:Int),l[j])=some ((l[j]::List.drop (j+1) l,false),true) from rfl,bs];dsimp only;rw [nT,bv (by omega) (by omega),bs];have:=ih n (by omega) (by omega);rw [List.drop_eq_getElem_cons (show j < l.length by omega)] at this;exact this
 unfold pC ic;rw [bv (by omega) (by omega),bs];have:=key l.length k (by omega) hk;rw [List.drop_length] at this;rw [this,bs,iF]
theorem FU{m:Int}(hm:mP m){w:Int→Bool}(hw:∀i:Nat,i < 8→(fo m i↔w (i:Int)=true)):∀(l:List Int) (n:Nat) (lf:Int) (up stay:List Int),l.length < n→(∀x∈l,0≤x∧x < 8)→mP lf→up.length+stay.length+l.length≤1000→
 W (gZ k m n (lf,up,stay,l)) fun r=>r.2=(stay++l.filter (fun x=> !w x))++(up++l.filter w)∧mP r.1∧∀i:Nat,fo r.1 i↔fo lf i∨(i:Int)∈dq w (!up.isEmpty) l:=by
 intro l
 induction l with
 |nil=>
  intro n lf up stay hn _ hlf hlen
  obtain⟨n,rfl⟩:∃n',n=n'+1:=⟨n - 1,by omega⟩;rw [gZ];dsimp only;rw [show List.isEmpty ([]:List Int)=true from rfl,iT,bR (Dh (by simp only [List.length_nil] at hlen;omega)),bs];exact W.ret ⟨by simp,hlf,fun i=>by simp [dq]⟩
 |cons x l ih=>
  intro n lf up stay hn hx hlf hlen
  simp only [List.length_cons] at hn hlen;obtain⟨n,rfl⟩:∃n',n=n'+1:=⟨n - 1,by omega⟩;have hx0:=hx x (by simp);have hxl:∀y∈l,0≤y∧y < 8:=fun y hy=>hx y (by simp [hy]);obtain⟨xi,hxi⟩:=Int.eq_ofNat_of_zero_le hx0.1;subst hxi;have hhx:=hw xi (by omega);rw [gZ];dsimp only;rw [show List.isEmpty ((xi:Int)::l)=false from rfl,iF,show pA ((xi:Int)::l)=some ((xi:Int),l) from rfl,bs,zk hm (by omega),bs];by_cases c:w (xi:Int)=true
  ·rw [decide_eq_true (hhx.2 c),iT,bs,bR (zP (n:=1000) (by omega) (by omega)),bs,bs];refine(ih n lf (up++[(xi:Int)]) stay (by omega) hxl hlf (by simp only [List.length_append,List.length_cons,List.length_nil];omega)).mono fun r hr=>?_;obtain⟨h1,h2,h3⟩:=hr;refine⟨?_,h2,fun i=>?_⟩
   ·rw [h1];simp [c]
   ·rw [h3,dq,if_pos c,show(!(up++[(xi:Int)]).isEmpty)=true by cases up <;> rfl]
  ·have c':w (xi:Int)=false:=by simpa using c
   rw [decide_eq_false (fun h=>c (hhx.1 h)),iF];cases up with
   |nil=>
    rw [if_neg (show¬(0:Int) < (([]:List Int).length:Int) by simp),bs,bs,bR (zP (n:=1000) (by omega) (by omega)),bs,bs];refine(ih n lf [] (stay++[(xi:Int)]) (by omega) hxl hlf (by simp only [List.length_append,List.length_cons,List.length_nil] at hlen⊢;omega)).mono fun r hr=>?_;obtain⟨h1,h2,h3⟩:=hr;refine⟨?_,h2,fun i=>?_⟩
    ·rw [h1];simp [c']
    ·rw [h3,dq,if_neg c];simp
   |cons u up=>
    obtain⟨o1,o2⟩:=yS (x:=(xi:Int)) (by omega) (by omega);obtain⟨p1,p2⟩:=zi hlf o1;rw [if_pos (show(0:Int) < ((u::up).length:Int) by simp only [List.length_cons];omega),bs];unfold dZ;rw [bR (show(0:Int)≤(xi:Int) by omega),bs,bs,bs,bs,bR (zP (n:=1000) (by omega) (by omega)),bs,bs];refine(ih n _ (u::up) (stay++[(xi:Int)]) (by omega) hxl p1 (by simp only [List.length_append,List.length_cons,List.length_nil] at hlen⊢;omega)).mono fun r hr=>?_;obtain⟨h1,h2,h3⟩:=hr;refine⟨?_,h2,fun i=>?_⟩
    ·rw [h1];simp [c']
    ·rw [h3,p2,o2,dq,if_neg c];simp only [List.isEmpty_cons,Bool.not_false,if_true,List.mem_cons,or_assoc]
theorem K6(hk1:k≤1000000){m:Int}(hm:mP m){w:Int→Bool}(hw:∀i:Nat,i < 8→(fo m i↔w (i:Int)=true)){l:List Int}(hl:l.length < k)(hl9:l.length≤1000)(hx:∀x∈l,0≤x∧x < 8):
 W (nL k l m) fun r=>r.2=G1 w l∧mP r.1∧∀i:Nat,fo r.1 i↔(i:Int)∈dq w false l:=by
 unfold nL
 rw [K3 hl hk1,bs]
 refine(FU hm hw l k 0 [] [] hl hx ⟨by decide,by decide⟩ (by simp only [List.length_nil];omega)).mono fun r hr=>?_
 obtain⟨h1,h2,h3⟩:=hr
 refine⟨by rw [h1];simp [G1],h2,fun i=>?_⟩
 rw [h3];simp [fo]
structure J9(p:List (List Int)):Prop where
 len:p.length≤3
 fit:∀l∈p,l.length≤5∧∀x∈l,0≤x∧x < 8
theorem J9.at{p:List (List Int)}(h:J9 p)(i:Nat):(p[i]?.getD []).length≤5∧∀x∈p[i]?.getD [],0≤x∧x < 8:=by
 rcases Nat.lt_or_ge i p.length with hi |hi
 ·rw [List.getElem?_eq_getElem hi];exact h.fit _ (List.getElem_mem hi)
 ·rw [List.getElem?_eq_none hi];simp
theorem J9.fitL{p:List (List Int)}(h:J9 p)(i:Nat):Nh (p[i]?.getD []):=⟨(h.at i).1,fun x hx=>((h.at i).2 x hx).1⟩
theorem J9.next{p:List (List Int)}(h:J9 p){w:Int→Bool}:J9 (p.map (G1 w)):=
 ⟨by rw [List.length_map];exact h.len,fun l hl=>by
  obtain⟨q,hq,rfl⟩:=List.mem_map.1 hl
  have:=h.fit q hq
  exact⟨by rw [mA.length_eq];exact this.1,fun x hx=>this.2 x (mA.mem_iff.1 hx)⟩⟩
structure nz(k:Nat)(t:aU):Prop where
 k0:50≤k
 k1:k≤1000000
 things:t.2.1.length≤8
 worn:∀x∈t.2.1,x.2.length < k
theorem IM{t:aU}(hk0:50≤k){p:List (List Int)}(hp:J9 p)(hl:p.length=t.2.2.length):dF k (t,()) (dS p)=some p:=by
 have h3:=hp.len;unfold dF;rw [bR (by exact⟨by omega,show Int.toNat (t.2.2.length:Int)≤4294967296 by omega⟩),bs]
 have hb:=W.loop (f:=eD k (t,()) (dS p)) (Q:=fun r=>r=p) (fun q y=>∃j:Nat,y.2=(j:Int)∧j≤p.length∧q=p.length - j∧y.1=p.take j++List.replicate (p.length - j) []) (by
  rintro aS q ⟨o,y⟩ ⟨j,hj,hle,hq,ho⟩ ih;simp only at hj ho;subst hj;unfold eD;dsimp only;rw [List.length_replicate];refine W.ite (fun hlt=>?_) (fun hge=>W.ret ?_)
  ·have hj:j < p.length:=by omega
   have ho':j < o.length:=by rw [ho];simp only [List.length_append,List.length_take,List.length_replicate];omega
   rw [zf hk0 (by omega) (hp.fitL j),bs,cD ho',bs,bv (by omega) (by omega),bs];refine ih (q - 1) (_,(j:Int)+1) (by omega) ⟨j+1,by show(j:Int)+1=((j+1:Nat):Int);omega,by omega,by omega,?_⟩;show List.set o j (p[j]?.getD [])=_;have e1:p.length - j=p.length - (j+1)+1:=by omega
   rw [ho,List.set_append_right _ _ (by rw [List.length_take];omega),List.length_take,Nat.min_eq_left (by omega),Nat.sub_self,e1,List.replicate_succ,List.set_cons_zero,List.take_add_one,List.getElem?_eq_getElem hj];simp only [Option.toList_some,Option.getD_some,List.append_assoc,List.cons_append,List.nil_append]
  ·have:j=p.length:=by omega
   subst this;rw [ho];simp) p.length k (List.replicate (Int.toNat (t.2.2.length:Int)) [],0) (by omega) ⟨0,rfl,by omega,by omega,by simp [hl]⟩
 obtain⟨r,er,rfl⟩:=hb;rw [er,bs]
def zg(t:aU)(p:List (List Int))(d:Int):List Int:=((List.range t.2.1.length).filter fun(i:Nat)=>decide (∃l∈p,(i:Int)∈dq (om t d) false l)).map fun(i:Nat)=>(i:Int)
theorem dU.fit{t:aU}{p:List (List Int)}(h:dU t p):J9 p:=by
 have h5:=h.g.things;refine⟨by have:=h.len;have:=h.g.trunks;omega,fun l hl=>?_⟩;have hsub:∀x∈l,x∈p.flatten:=fun x hx=>List.mem_flatten.2 ⟨l,hl,hx⟩;have hnd:l.Nodup:=(List.pairwise_flatten.1 h.nd).1 l hl;have hr:∀x∈l,0≤x∧x < (t.2.1.length:Int):=fun x hx=>h.rng x (hsub x hx);have:=t4 _ l hnd hr;exact⟨by omega,fun x hx=>by have:=hr x hx;omega⟩
end
section
variable {k:Nat}
def qf(t:aU)(d:Int)(p:List (List Int)):List (List Int):=p.map (G1 (om t d))
def PE(t:aU)(p:List (List Int)):Nat→List (List Int)
 |0=>p
 |n+1=>qf t n (PE t p n)
theorem CX{t:aU}{l l':List Int}(h:l.Perm l'):cK t l=cK t l':=by
 induction h with
 |nil=>rfl
 |cons x _ ih=>simp only [cK,ih]
 |swap x y l=>simp only [cK];omega
 |trans _ _ h1 h2=>rw [h1,h2]
theorem GH{t:aU}{d:Int}{p:List (List Int)}:(qf t d p).flatten.Perm p.flatten:=by
 unfold qf
 induction p with
 |nil=>exact List.Perm.refl _
 |cons l p ih=>
  simp only [List.map_cons,List.flatten_cons];exact mA.append ih
theorem dU.next{t:aU}{d:Int}{p:List (List Int)}(h:dU t p):dU t (qf t d p):=by
 have hp:=GH (t:=t) (d:=d) (p:=p);refine⟨h.g,by unfold qf;rw [List.length_map];exact h.len,hp.nodup_iff.2 h.nd,fun x hx=>h.rng x (hp.mem_iff.1 hx),fun i hi=>hp.mem_iff.2 (h.all i hi),fun i hi=>?_⟩;have hi':i < p.length:=by unfold qf at hi;rwa [List.length_map] at hi
 have e:(qf t d p)[i]=G1 (om t d) p[i]:=by simp only [qf,List.getElem_map]
 rw [e,CX mA];exact h.room i hi'
theorem dU.aft{t:aU}{p:List (List Int)}(h:dU t p):∀n,dU t (PE t p n)
 |0=>h
 |n+1=>(h.aft n).next
theorem Ey{n:Nat}:∀{l:List Int} {j:Nat} {m:List Int},(m++l).Nodup→(∀x∈l,0≤x∧x < (n:Int))→bL (fun m _ x=>nR n m x) j l m= .ok (m++l)
 |[],j,m,_,_=>by simp [bL]
 |x::l,j,m,hn,hr=>by
  have hx:=hr x (by simp)
  have hnm:x∉m:=fun h=>by
   rw [List.nodup_append] at hn
   exact hn.2.2 x h x (by simp) rfl
  have e:nR n m x= .ok (m++[x]):=by
   unfold nR;rw [if_neg (not_not_intro (show 0≤x∧x≤(n:Int) - 1 by omega)),if_neg hnm]
  rw [bL,e];show bL _ (j+1) l (m++[x])=_;rw [Ey (by simpa using hn) (fun y hy=>hr y (by simp [hy]))];simp
theorem xz{t:aU}:∀{p:List (List Int)} {j:Nat} {m:List Int},(m++p.flatten).Nodup→(∀x∈p.flatten,0≤x∧x < (t.2.1.length:Int))→(∀i (h:i < p.length),cK t p[i]≤t.2.2[j+i]?.getD 0)→bL (iK t) j p m= .ok (m++p.flatten)
 |[],j,m,_,_,_=>by simp [bL]
 |l::p,j,m,hn,hr,hs=>by
  have h0:¬t.2.2[j]?.getD 0 < cK t l:=by have:=hs 0 (by simp);simp only [List.getElem_cons_zero,Nat.add_zero] at this;omega
  have e:iK t m j l= .ok (m++l):=by
   unfold iK;rw [Ey (by rw [List.flatten_cons,←List.append_assoc] at hn;exact(List.nodup_append.1 hn).1) (fun x hx=>hr x (by simp [hx]))];exact if_neg h0
  rw [bL,e];show bL _ (j+1) p (m++l)=_
  rw [xz (by simpa using hn) (fun x hx=>hr x (by rw [List.flatten_cons];exact List.mem_append_right _ hx)) (fun i hi=>by
   have:=hs (i+1) (by simp;omega);have e3:j+1+i=j+(i+1):=by omega
   rw [e3];exact this)]
  simp
theorem dU.chkV{t:aU}{p:List (List Int)}(h:dU t p):chkV t p=0:=by
 unfold Go.Proofs.YtddneonghpmidaaGreatDoor.chkV;have hl:=h.len;have e:=xz (t:=t) (j:=0) (m:=[]) (by simpa using h.nd) h.rng (fun i hi=>by rw [Nat.zero_add];exact h.room i hi);rw [if_neg (by omega),if_neg (by omega),e,List.nil_append];have hm:uS t.2.1.length p.flatten:=⟨h.nd,h.rng⟩;simp only [hm.full.2 h.all,if_false]
theorem dU.chk{t:aU}{p:List (List Int)}(h:dU t p)(ht:jY t=0):qi t p=0:=by
 unfold qi;rw [if_neg (not_not_intro ht)];exact h.chkV
theorem ET{t:aU}{p:List (List Int)}(h:qi t p=0):jY t=0:=by
 unfold qi at h;by_cases c:jY t=0
 ·exact c
 ·rw [if_pos c] at h;exact h
structure At(k:Nat)(t:aU)(p:List (List Int)):Prop where
 small:fG k t
 dayT:nz k t
 chk:qi t p=0
theorem At.good{t:aU}{p:List (List Int)}(h:At k t p):dU t p:=Bh h.chk
theorem At.aft{t:aU}{p:List (List Int)}(h:At k t p)(n:Nat):At k t (PE t p n):=⟨h.small,h.dayT,(h.good.aft n).chk (ET h.chk)⟩
theorem At.ok{t:aU}{p:List (List Int)}(h:At k t p):cY k t p=some 0:=by
 have:=h.dayT.k0;rw [D4 h.small (by omega) (fun l hl=>by have:=(h.good.fit.fit l hl).1;omega),h.chk]
theorem Fe.at{t:aU}{p:List (List Int)}{a:Nat}(h:Fe t p a)(hk:50≤k)(hk1:k≤1000000)(ha:a≤8)(c:qi t p=0):At k t p:=by
 have hs:=h.small hk hk1 ha;exact⟨hs,⟨hk,hk1,by have:=(Bh c).g.things;omega,hs.worn⟩,c⟩
theorem FQ{q:List (List Int)}(hn:q.flatten.Nodup){i i':Nat}(h:i < q.length)(h':i' < q.length){x:Int}(hx:x∈q[i])(hx':x∈q[i']):i=i':=by
 induction q generalizing i i' with
 |nil=>simp at h
 |cons l q ih=>
  rw [List.flatten_cons,List.nodup_append] at hn;cases i with
  |zero=>
   cases i' with
   |zero=>rfl
   |succ i'=>exact absurd rfl (hn.2.2 x hx x (List.mem_flatten.2 ⟨_,List.getElem_mem (by simpa using h'),by simpa using hx'⟩))
  |succ i=>
   cases i' with
   |zero=>exact absurd rfl (hn.2.2 x hx' x (List.mem_flatten.2 ⟨_,List.getElem_mem (by simpa using h),by simpa using hx⟩))
   |succ i'=>exact congrArg (· +1) (ih hn.2.1 (i:=i) (i':=i') (by simpa using h) (by simpa using h') (by simpa using hx) (by simpa using hx'))
end
section
variable {k:Nat}
theorem jd{w:Int→Bool}:∀{l:List Int} {u:Bool},l.Nodup→(dq w u l).Nodup
 |[],_,_=>by simp [dq]
 |n::l,u,h=>by
  obtain⟨h1,h2⟩:=List.nodup_cons.1 h
  rw [dq]
  split
  ·
   exact jd h2
  ·
   split
   ·
    exact List.nodup_cons.2 ⟨fun h'=>h1 (jj h'),jd h2⟩
   ·
    exact jd h2
theorem By{q:List Int}(hn:q.Nodup){N:Nat}(hr:∀x∈q,0≤x∧x < (N:Int)):((List.range N).filter fun(i:Nat)=>decide ((i:Int)∈q)).length=q.length:=by
 have h:(((List.range N).filter fun(i:Nat)=>decide ((i:Int)∈q)).map fun(i:Nat)=>(i:Int)).Perm q:=by
  rw [List.perm_iff_count];intro a
  have h1:(((List.range N).filter fun(i:Nat)=>decide ((i:Int)∈q)).map fun(i:Nat)=>(i:Int)).Nodup:=by
   refine List.Pairwise.map _ (fun a b hab=>?_) (List.nodup_range.filter _);omega
  rw [h1.count,hn.count]
  have:a∈(((List.range N).filter fun(i:Nat)=>decide ((i:Int)∈q)).map fun(i:Nat)=>(i:Int))↔a∈q:=by
   simp only [List.mem_map,List.mem_filter,List.mem_range,decide_eq_true_eq];constructor
   ·rintro⟨i,⟨_,h⟩,rfl⟩;exact h
   ·intro h;have:=hr a h;exact⟨a.toNat,⟨by omega,by rw [Int.toNat_of_nonneg this.1];exact h⟩,Int.toNat_of_nonneg this.1⟩
  simp only [this]
 have:=h.length_eq;rwa [List.length_map] at this
theorem Jd{s:Int}(hs:mP s){i:Nat}(hi:i < 8):yh s (i:Int)=decide (fo s i):=by
 have:=zk (k:=0) hs hi;unfold d6 at this;rw [bR (by omega),bs] at this;exact Option.some.inj this
theorem EO{s:Int}(hs:mP s):∀(n i:Nat),i+n≤8→rZ s n i=((List.range' i n).filter fun j=>decide (fo s j)).length
 |0,i,_=>by simp [rZ]
 |n+1,i,h=>by
  rw [rZ,Jd hs (by omega),EO hs n (i+1) (by omega),List.range'_succ,List.filter_cons]
  by_cases c:fo s i
  ·
   simp [c];omega
  ·
   simp [c]
def vP(t:aU):Nat→Int→List Int→Nat
 |0,_,_=>0
 |n+1,d,l=>(dq (om t d) false l).length+vP t n (d+1) (G1 (om t d) l)
theorem Je{t:aU}(h:nz k t):∀(n:Nat) (d:Int) (l:List Int),l.Nodup→(∀x∈l,0≤x∧x < (t.2.1.length:Int))→Rh k (t,()) n d l=some (vP t n d l)
 |0,d,l,_,_=>rfl
 |n+1,d,l,hn,hx=>by
  have hk0:=h.k0
  have h8:=h.things
  have hl:=t4 _ l hn hx
  obtain⟨m,em,hm,hmm⟩:=G7 h.k1 (t:=t) (d:=d) h8 (by omega) h.worn
  obtain⟨r,er,h1,h2,h3⟩:=K6 h.k1 (m:=m) hm (w:=om t d) (fun j _=>hmm j) (l:=l) (by omega) (by omega) (fun x hx'=>by have:=hx x hx';omega)
  rw [Rh,em,bs,er,bs,h1,Je h n (d+1) _ (mA.nodup_iff.2 hn) (fun x hx'=>hx x (mA.mem_iff.1 hx')),bs,vP]
  congr 2
  rw [EO h2 _ _ (by simpa using h8)]
  show(List.filter _ (List.range' 0 t.2.1.length)).length=_
  rw [←List.range_eq_range',←By (jd hn) (N:=t.2.1.length) (fun x hx'=>hx x (jj hx'))]
  congr 1
  exact List.filter_congr fun i _=>decide_eq_decide.2 (h3 i)
def ox(t:aU)(n:Nat)(d:Int)(p:List (List Int)):Nat:=(p.map (vP t n d)).sum
theorem tQ{t:aU}{n:Nat}{d:Int}{p:List (List Int)}:ox t (n+1) d p=(p.map fun l=>(dq (om t d) false l).length).sum+ox t n (d+1) (qf t d p):=by
 unfold ox qf
 induction p with
 |nil=>rfl
 |cons l p ih=>rw [List.map_cons,List.sum_cons,ih];simp only [List.map_cons,List.sum_cons,vP];omega
theorem Et{t:aU}:∀(n:Nat) (d:Int) (l:List Int),vP t n d l≤n * l.length
 |0,_,_=>by simp [vP]
 |n+1,d,l=>by
  have h1:=Et (t:=t) n (d+1) (G1 (om t d) l)
  have h2:∀(l:List Int) (u:Bool),(dq (om t d) u l).length≤l.length:=by
   intro l
   induction l with
   |nil=>intro u;simp [dq]
   |cons x l ih=>
    intro u;rw [dq];split
    ·have:=ih true;simp only [List.length_cons];omega
    ·split
     ·have:=ih u;simp only [List.length_cons];omega
     ·have:=ih u;simp only [List.length_cons];omega
  have h3:=h2 l false;rw [mA.length_eq] at h1;rw [vP,Nat.add_mul,Nat.one_mul];omega
theorem LR{t:aU}{p:List (List Int)}(h:At k t p){q:List (List Int)}(hq:dU t q){d:Int}(hd:0≤d∧d≤t.1):f9 k (t,()) (dS q) d=some ((ox t (t.1 - d).toNat d q:Nat):Int):=by
 have g:=hq.g;have f:=hq.fit;have h3:=g.trunks;have h5:=g.things;have h6:=g.days;have hlen:=hq.len
 have hrow:∀i:Nat,(q[i]?.getD []).Nodup∧∀x∈q[i]?.getD [],0≤x∧x < (t.2.1.length:Int):=fun i=>by
  rcases Nat.lt_or_ge i q.length with hi |hi
  ·rw [List.getElem?_eq_getElem hi,Option.getD_some];exact⟨(List.pairwise_flatten.1 hq.nd).1 _ (List.getElem_mem hi),fun x hx=>hq.rng x (List.mem_flatten.2 ⟨_,List.getElem_mem hi,hx⟩)⟩
  ·rw [List.getElem?_eq_none hi,Option.getD_none];exact⟨List.nodup_nil,fun x hx=>by cases hx⟩
 have hone:∀i:Nat,i < 3→pZ k (t,()) (dS q) (i:Int) d=some (vP t (t.1 - d).toNat d (q[i]?.getD [])):=fun i hi=>by
  unfold pZ;dsimp only;rw [if_pos (show t.1≤1000000∧t.2.1.length≤1000000∧0≤d by omega),zf h.dayT.k0 hi (f.fitL i),bs,Je h.dayT _ _ _ (hrow i).1 (hrow i).2]
 have hsum:∀n:Nat,n≤q.length→wC k (t,()) (dS q) d n=some (ox t (t.1 - d).toNat d (q.take n)):=by
  intro n
  induction n with
  |zero=>intro _;simp [wC,ox]
  |succ n ih=>
   intro hn;rw [wC,ih (by omega),bs,hone n (by omega),bs,List.take_add_one,List.getElem?_eq_getElem (show n < q.length by omega)];simp only [ox,Option.toList_some,Option.getD_some,List.map_append,List.map_cons,List.map_nil,List.sum_append,List.sum_cons,List.sum_nil,Nat.add_zero]
 have hb:ox t (t.1 - d).toNat d q≤1000:=by
  have hl5:∀l∈q,vP t (t.1 - d).toNat d l≤30:=fun l hl=>by
   have h1:=Et (t:=t) (t.1 - d).toNat d l;have h2:=(f.fit l hl).1;have h4:(t.1 - d).toNat≤6:=by omega
   have:=Nat.mul_le_mul h4 h2;omega
  have:∀(q:List (List Int)),(∀l∈q,vP t (t.1 - d).toNat d l≤30)→ox t (t.1 - d).toNat d q≤30 * q.length:=by
   intro q
   induction q with
   |nil=>intro _;simp [ox]
   |cons l q ih=>
    intro hq;have h1:=hq l (by simp);have h2:=ih fun l hl=>hq l (by simp [hl]);simp only [ox,List.map_cons,List.sum_cons,List.length_cons] at h2⊢;omega
  have:=this q hl5;have:=f.len;omega
 unfold f9;dsimp only;rw [if_pos (show t.2.2.length≤1000 by omega),←hlen,hsum q.length (Nat.le_refl _),List.take_of_length_le (Nat.le_refl _),bs,if_pos (show ox t (t.1 - d).toNat d q < 9223372036854775808 by omega)]
theorem Oy{q:List (List Int)}(f:J9 q):Kw (dS q):=by
 have hp:∀i,vO (kF (q[i]?.getD [])):=fun i=>by
  obtain⟨h1,h2⟩:=f.at i
  have g:∀j:Nat, -1≤(q[i]?.getD [])[j]?.getD (-1)∧(q[i]?.getD [])[j]?.getD (-1) < 8:=fun j=>by
   rcases Nat.lt_or_ge j (q[i]?.getD []).length with hj |hj
   ·have:=h2 _ (List.getElem_mem hj);rw [List.getElem?_eq_getElem hj,Option.getD_some];omega
   ·rw [List.getElem?_eq_none hj,Option.getD_none];omega
  refine⟨rfl,fun n hn=>?_⟩;simp only [kF,List.mem_cons,List.not_mem_nil,or_false] at hn;rcases hn with rfl |rfl |rfl |rfl |rfl
  ·exact g 0
  ·exact g 1
  ·exact g 2
  ·exact g 3
  ·exact g 4
 refine⟨rfl,fun r hr=>?_⟩;simp only [dS,List.mem_cons,List.not_mem_nil,or_false] at hr;rcases hr with rfl |rfl |rfl
 ·exact hp 0
 ·exact hp 1
 ·exact hp 2
theorem A8{t:aU}{q:List (List Int)}(hq:dU t q){d:Int}:(zg t q d).length=(q.map fun l=>(dq (om t d) false l).length).sum:=by
 have key:∀(q:List (List Int)),q.flatten.Nodup→(∀x∈q.flatten,0≤x∧x < (t.2.1.length:Int))→((List.range t.2.1.length).filter fun(i:Nat)=>decide (∃l∈q,(i:Int)∈dq (om t d) false l)).length=(q.map fun l=>(dq (om t d) false l).length).sum:=by
  intro q hn hr
  have e:(q.map fun l=>(dq (om t d) false l).length).sum=(q.map (dq (om t d) false)).flatten.length:=by
   rw [List.length_flatten,List.map_map];rfl
  have hsub:∀x∈(q.map (dq (om t d) false)).flatten,x∈q.flatten:=fun x hx=>by
   obtain⟨l',hl',hx⟩:=List.mem_flatten.1 hx;obtain⟨l,hl,rfl⟩:=List.mem_map.1 hl';exact List.mem_flatten.2 ⟨l,hl,jj hx⟩
  have hnd:(q.map (dq (om t d) false)).flatten.Nodup:=by
   rw [List.Nodup,List.pairwise_flatten] at hn⊢;refine⟨fun l' hl'=>?_,?_⟩
   ·obtain⟨l,hl,rfl⟩:=List.mem_map.1 hl';exact jd (hn.1 l hl)
   ·exact List.Pairwise.map _ (fun a b hab x hx y hy=>hab x (jj hx) y (jj hy)) hn.2
  rw [e,←By hnd (N:=t.2.1.length) (fun x hx=>hr x (hsub x hx))];congr 1;refine List.filter_congr fun i _=>decide_eq_decide.2 ?_;simp only [List.mem_flatten,List.mem_map];constructor
  ·rintro⟨l,hl,h⟩;exact⟨_,⟨l,hl,rfl⟩,h⟩
  ·rintro⟨_,⟨l,hl,rfl⟩,h⟩;exact⟨l,hl,h⟩
 unfold zg;rw [List.length_map];exact key q hq.nd hq.rng
def gW(o:List Int)(L:Nat→Bool):List Int:=o.mapIdx fun i v=>if L i then v+1 else v
theorem wR{o:List Int}{L:Nat→Bool}:(gW o L).length=o.length:=by unfold gW;rw [List.length_mapIdx]
theorem JM{o:List Int}{L:Nat→Bool}{i:Nat}(hi:i < o.length):(gW o L).set i (o[i]+1)=gW o (fun j=>L j || decide (j=i)):=by
 refine List.ext_getElem (by simp [gW]) fun j h1 h2=>?_;simp only [gW,List.length_set,List.length_mapIdx] at h1;rw [List.getElem_set];simp only [gW,List.getElem_mapIdx];by_cases e:i=j
 ·subst e;simp
 ·have:¬j=i:=fun h=>e h.symm;simp [e,this]
theorem JP{o:List Int}{L:Nat→Bool}{i:Nat}(hi:i < o.length)(hL:L i=false):aP (gW o L) (i:Int)=some o[i]:=by
 rw [cD (by rw [wR];exact hi)];simp [gW,hL]
theorem wS{o:List Int}{L L':Nat→Bool}(h:∀i,i < o.length→L i=L' i):gW o L=gW o L':=by
 refine List.ext_getElem (by simp [gW]) fun j h1 h2=>?_;simp only [gW,List.length_mapIdx] at h1;simp only [gW,List.getElem_mapIdx,h j h1]
theorem yt{o:List Int}:gW o (fun _=>false)=o:=by
 refine List.ext_getElem (by simp [gW]) fun j h1 h2=>?_;simp [gW]
def IP(t:aU)(q:List (List Int))(d:Int)(i:Nat):Bool:=decide (∃l∈q,(i:Int)∈dq (om t d) false l)
end
