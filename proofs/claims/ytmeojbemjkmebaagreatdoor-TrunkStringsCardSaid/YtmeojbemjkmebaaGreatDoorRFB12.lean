import Derived.Test.YtmeojbemjkmebaaGreatDoorRFB6
import Derived.Test.YtmeojbemjkmebaaGreatDoorRFB5
import Derived.Test.YtmeojbemjkmebaaGreatDoorRFB7
import Derived.Test.YtmeojbemjkmebaaGreatDoorRFF2
set_option linter.unusedSimpArgs false
set_option linter.unusedVariables false
namespace Go.Proofs.YtmeojbemjkmebaaGreatDoor
namespace K
open Go Go.ChangeShapes Go.WideShapes Go.ChangeAt Go.RowKit
@[reducible] def jQ:Ty→Bool
 | .int _=>true
 | .bool=>true
 | .str=>true
 | .pair a b=>jQ a && jQ b
 | .agg t=>jQ t
 | .arr _ t=>jQ t
 | .slice t=>jQ t && Nat.blt 0 t.cells
 |_=>false
def xc:Value→Bool
 | .iface _ _=>true
 |_=>false
theorem vc{α:Type}{R:α→List Value→Prop}(h:∀x cs,R x cs→∀v∈cs,xc v=false):∀{l:List α} {cs:List Value},cG R l cs→∀v∈cs,xc v=false
 |[],_,e=>by simp [cG] at e;simp [e]
 |_::_,_,⟨c1,c2,e,h1,h2⟩=>by
  subst e
  intro v hv
  rcases List.mem_append.1 hv with hv |hv
  ·
   exact h _ _ h1 v hv
  ·
   exact vc h h2 v hv
theorem OI{S:FS}{w:World}(t:Ty):∀{x:t.den} {cs:List Value},jQ t=true→rd S w t x cs→∀v∈cs,xc v=false:=by
 induction t with
 |int k=>intro x cs _ h v hv;simp only [rd] at h;subst h;simp at hv;subst hv;rfl
 |bool=>intro x cs _ h v hv;simp only [rd] at h;subst h;simp at hv;subst hv;rfl
 |str=>intro x cs _ h v hv;simp only [rd] at h;subst h;simp at hv;subst hv;rfl
 |pair a b iha ihb=>
  rintro x cs hp ⟨c1,c2,rfl,h1,h2⟩ v hv;simp [jQ] at hp;rcases List.mem_append.1 hv with hv |hv
  ·exact iha hp.1 h1 v hv
  ·exact ihb hp.2 h2 v hv
 |agg t ih=>intro x cs hp h;exact ih hp h
 |arr n t ih=>intro l cs hp h;exact vc (fun _ _ h=>ih hp h) h.2
 |slice t ih=>
  intro l cs hp h v hv;rcases h with⟨a,cap,rfl,_⟩ |⟨b,off,cap,c,T,fz,rfl,_⟩ <;> (simp at hv;subst hv;rfl)
 |_=>intro x cs hp;cases hp
theorem Je{S:FS}{w:World}{b0:Nat}{c0:Array Value}{T0:TypeId}{fz0:Nat×Nat}(h0:w.heap[b0]? =some (.cells c0 T0 fz0))(hc:∀v∈c0.toList,xc v=true)(t:Ty):
 ∀{x:t.den} {cs:List Value},jQ t=true→rd S w t x cs→rd (fun b=>S b∧b≠b0) w t x cs:=by
 induction t with
 |int k=>intro x cs _ h;exact h
 |bool=>intro x cs _ h;exact h
 |str=>intro x cs _ h;exact h
 |pair a b iha ihb=>
  rintro x cs hp ⟨c1,c2,rfl,h1,h2⟩;simp [jQ] at hp;exact⟨c1,c2,rfl,iha hp.1 h1,ihb hp.2 h2⟩
 |agg t ih=>intro x cs hp h;exact ih hp h
 |arr n t ih=>intro l cs hp h;exact⟨h.1,bF (fun _ _ h=>ih hp h) h.2⟩
 |slice t ih=>
  intro l cs hp h;have hp1:jQ t=true:=by simp [jQ] at hp;exact hp.1
  have hp2:0 < t.cells:=by simp [jQ] at hp;exact hp.2
  rcases h with h |⟨b,off,cap,c,T,fz,rfl,hle,hS,hb,hr⟩
  ·exact .inl h
  ·by_cases hl:l=[]
   ·subst hl;exact .inl ⟨_,cap,rfl,rfl⟩
   ·refine .inr ⟨b,off,cap,c,T,fz,rfl,hle,⟨hS,fun e=>?_⟩,hb,bF (fun _ _ h=>ih hp1 h) hr⟩;subst e;rw [h0] at hb;cases hb;have hlen:=fN (fun _ _ h=>aL t h) hr;have hno:=vc (fun _ _ h=>OI t hp1 h) hr;have hpos:0 < l.length:=List.length_pos_iff.2 hl;have:0 < ((c0.toList.drop off).take (l.length * t.cells)).length:=by rw [hlen];exact Nat.mul_pos hpos hp2
    obtain⟨v,hv⟩:=List.exists_mem_of_length_pos this;have h1:=hno v hv;have h2:=hc v (List.mem_of_mem_drop (List.mem_of_mem_take hv));rw [h1] at h2;cases h2
 |_=>intro x cs hp;cases hp
theorem xq{S:FS}{w:World}{b0:Nat}{c0:Array Value}{T0:TypeId}{fz0:Nat×Nat}(h0:w.heap[b0]? =some (.cells c0 T0 fz0))(hc:∀v∈c0.toList,xc v=true):
 ∀{ts:List (TypeId×Ty)} {uz:List A} {vs:List Value},(∀p∈ts,jQ p.2=true)→Lk ts uz→fU S w uz vs→fU (fun b=>S b∧b≠b0) w uz vs
 |[],uz,vs,_,hl,h=>by
  have hl:uz=[]:=hl
  subst hl
  exact h
 |p::ts,uz,vs,hp,hl,h=>by
  obtain⟨d,uz',rfl,hl'⟩:=hl
  obtain⟨v,vs',e,⟨cs,hr,hv⟩,h2⟩:=h
  exact⟨v,vs',e,⟨cs,Je h0 hc p.2 (hp p (by simp)) hr,hv⟩,xq h0 hc (fun q hq=>hp q (by simp [hq])) hl' h2⟩
section
variable {H:Type}{enc:TypeId×Value→H}{P:Program}
theorem AC{M:Md P}{f:Nat}{fn:Func}{B:TypeId}{s:ChangeSpec}{b0:Nat}{c0:Array Value}{T0:TypeId}{p0:Obj→Prop}(hp0:∀o,p0 o↔o= .cells c0 T0 (0,0))(hc0:∀v∈c0.toList,xc v=true)
 (ts:List (TypeId×Ty)) (hpl:∀p∈ts,jQ p.2=true) (hp:fn.params.toList=ts.map (·.1)) (hr:fn.resultTypes= #[B]) (hB:P.underlying B=some .bool)
 (hm:∀p∈ts,MT P p.2 (.inl p.1)) (laid:laidOutB P=true) (hT:∀T∈ts.map (·.1),P.readableRec T=true∧T < P.types.size)
 (hs:∀ds:List (DataW H),ds.length=ts.length→s.fn H ds={ results:=[.lit (.bool true)],args:=ds }) (hv:s.vars=[])
 (law:∀uz,Lk ts uz→cS M f uz [.inv b0 p0] (fun _:Unit=>(bz [.eq (.bool true)],[.inv b0 p0])))
 (W:World) (base:Nat) (args:Array Value) (ds gs:List (DataW H)) (before:List MemPlace) (hb0:W.heap[b0]? =some (.cells c0 T0 (0,0)))
 (hval:∀(j:Nat) t v,fn.params[j]? =some t→args[j]? =some v→Value.okWide P W .any base t v)
 (hW:DataW.Whole enc P fn.params.toList s.vars false W args.toList ds gs before):
 m6 M .normal f args (vw W) fun e W'=>∃v,e= .returned v∧∀v1,bY W' v1→s.post enc P fn false true false false W args v v1.toWorld:=by
 have hW':=hW
 obtain⟨p,q,hA,hV,rfl,_,_⟩:=hW
 rw [hv] at hV
 obtain⟨rfl,rfl⟩:=trodVars_none hV
 have hlt:∀x∈p,x.block < W.heap.size:=hA.lt
 have hlen:=za hA
 rw [hp,List.length_map] at hlen
 rw [hp] at hA
 obtain⟨uz,hL,h2⟩:=Dw (S:=fun b=>b < W.heap.size) (base:=base) hm (fun j t v h1 h2=>hval j t v (by rw [←hp] at h1;simpa using h1) (by simpa using h2)) hA hlt
 have h3:=xq hb0 hc0 hpl hL h2
 have hlt0:b0 < W.heap.size:=(Array.getElem?_eq_some_iff.1 hb0).1
 have hft:∀b,aE [D.inv b0 p0] b↔b=b0:=fun b=>by
  rw [dw];exact⟨fun h=>(Option.some.inj h).symm,fun h=>by rw [h];rfl⟩
 have hO:bb [.inv b0 p0] (fun b=>b < W.heap.size∧b≠b0) (vw W):=by
  refine⟨fun d hd=>?_,fun b hb=>?_,List.pairwise_singleton _ _,fun b _=>⟨fun h=>h,fun h=>h⟩,fun _ _ h=>h,fun _ h=>h.elim,fun _ h=>h.elim⟩
  ·simp at hd;subst hd;exact⟨_,hb0,(hp0 _).2 rfl⟩
  ·rw [hft] at hb;subst hb;exact⟨fun h=>h.2 rfl,hlt0⟩
 have:=law uz hL .normal (fun e=>nomatch e) (fun b=>b < W.heap.size∧b≠b0) (vw W) args.toList (fun _ h=>h.1) h3 hO
 rw [Array.toArray_toList] at this
 refine this.mono ?_
 rintro e' W' ⟨_,S',v,rfl,h1,h2,h4,_⟩
 obtain rfl:v= .bool true:=h2
 refine⟨_,rfl,fun v1 hrel=>?_⟩
 have h5:=h4.rely h1.dom hrel
 replace h1:=h1.trans (bT.rely (X:=aE [D.inv b0 p0]) h1.dom hrel) fun b hb=>.inl hb
 obtain⟨o1,k0,k0'⟩:=h5.holds _ (List.mem_singleton.2 rfl)
 rw [(hp0 _).1 k0'] at k0
 have h6:bT (aE []) (fun b=>b < W.heap.size∧b≠b0) (vw W) S' v1:=by
  refine⟨h1.sub,fun b hb=>(h1.new b hb).imp id (Or.imp id fun hx=>absurd hb (h5.own b hx).1),h1.dom,h1.size,fun b hb ha hx=>?_,h1.os,h1.tape,h1.output,h1.subA,h1.oldA,h1.Z⟩;by_cases e:b=b0
  ·subst e;exact k0.trans hb0.symm
  ·exact h1.keep b hb ha (fun h=>e ((hft b).1 h))
 obtain⟨k1,k2⟩:=Ee (may:=(· ∈p++[])) h6
 have hk:∀b,b < W.heap.size→v1.heap[b]? =W.heap[b]? :=fun b hb=>h6.keep b hb (fun hx=>hx) (fun hx=>fe hx)
 refine Gt (pa:=p) (pv:=[]) hW' (fun _ _ _=>?_) (fun sp hsp=>?_) (fun _ _=>?_) rfl k1 k2 (ok_one hr rfl (okWide_bool_mk hB _))
 ·
  rw [hr,List.append_nil,hs ds hlen];exact trodAll_mk1 (shut_bool hB _)
 ·
  rw [hp,List.append_nil,hs ds hlen];exact AI laid hk hT hA (fun x hx=>⟨hlt x hx,hsp x (by simpa using hx)⟩)
 ·
  rw [hv,List.append_nil,hs ds hlen];rfl
end
section
open Go.Conc
variable {H:Type}{enc:TypeId×Value→H}
theorem yf{a:Assume}{C:Checked}{os:Os}{f:FuncId}{fn:Func}{s:ChangeSpec}{conds:List PathCond}{apart fresh handsOn again:Bool}{X:World→Prop}
 (hX:∀(w w':World),w.heap=w'.heap→X w→X w') (own:ownKnob C.prog.godebug=none) (started:os.Started) (hfn:C.prog.funcs[f]? =some fn)
 (witness:∃(w:World) (tape:Tape) (i:Input),w.os=os∧(w.forCall tape i).Shaped C.prog∧i.vars=[]∧Input.okWide C.prog (w.forCall tape i) .any w.heap.size f i∧
  ((s.pre enc C.prog fn conds apart (w.forCall tape i).memory i.args∧X (w.forCall tape i).memory)∧sizedMet enc C.prog fn (OpenSpec.ofChange s) apart (w.forCall tape i).memory i.args)∧a.holds C.prog (lone (Frame.enter C.prog f i.args .normal) [] (w.forCall tape i)))
 (runs:∀(W:World) (base:Nat) (args:Array Value) (ds gs:List (DataW H)) (before:List MemPlace),W.ShapedOpen C.prog→
  (∀(j:Nat) t v,fn.params[j]? =some t→args[j]? =some v→Value.okWide C.prog W .any base t v)→
  DataW.Whole enc C.prog fn.params.toList s.vars apart W args.toList ds gs before→X W→
  a.holds C.prog (lone (Frame.enter C.prog f args .normal) [] W)→
  ∃M last o w' t',runNT C.prog (M+1) (solo (Conc.G (Frame.enter C.prog f args .normal) []) W) #[]=(.ended o w',t')∧runN C.prog M (solo (Conc.G (Frame.enter C.prog f args .normal) []) W)= .next last∧
   step C.prog last= .ended o w'∧Conc.Good C.prog (fun v W'=>s.post enc C.prog fn apart fresh handsOn again W args v W') last o w' t'):
 ReturnsInLeavingWide a C os f .any (fun w args=>(s.pre enc C.prog fn conds apart w args∧X w)∧sizedMet enc C.prog fn (OpenSpec.ofChange s) apart w args) (s.post enc C.prog fn apart fresh handsOn again):=by
 refine returnsInLeavingWide_of_good own started witness ?_
 intro w tape i _ hsh _ hok hpre hholds
 obtain⟨_,_,_,fn',hfn',_,_,_,_,hval⟩:=hok
 obtain rfl:fn'=fn:=Option.some.inj (hfn'.symm.trans hfn)
 obtain⟨⟨⟨ds,gs,before,hw,_⟩,hx⟩,_⟩:=hpre
 obtain⟨M,last,o,w',t',h1,h2,h3,h4⟩:=runs (w.forCall tape i) w.heap.size i.args ds gs before hsh hval (DataW.Whole.of_heap (w':=w.forCall tape i) (by rfl) hw) (hX _ _ (by rfl) hx) hholds
 exact⟨M,last,o,w',t',h1,h2,h3,h4.mono fun v hp=>ChangeSpec.post_blind hp⟩
end
end K
end Go.Proofs.YtmeojbemjkmebaaGreatDoor
namespace Go.Proofs.YtmeojbemjkmebaaGreatDoor
open K Go Go.Proofs
def W{α:Type}(x:Option α)(Q:α→Prop):Prop:=∃a,x=some a∧Q a
namespace W
variable {α β ε:Type}{Q:β→Prop}
theorem ret{a:β}(h:Q a):W (some a) Q:=⟨a,rfl,h⟩
theorem mono{x:Option β}{R:β→Prop}(h:W x R)(hq:∀a,R a→Q a):W x Q:=let ⟨a,e,r⟩:=h;⟨a,e,hq a r⟩
theorem bind{x:Option α}{f:α→Option β}{R:α→Prop}(h:W x R)(hf:∀a,R a→W (f a) Q):W (x.bind f) Q:=by
 obtain⟨a,rfl,r⟩:=h;exact hf a r
theorem ck{n:Int}{f:Int→Option β}(h1: -9223372036854775808≤n)(h2:n≤9223372036854775807)(hf:W (f n) Q):W ((K.ck n).bind f) Q:=by
 rw [K.ck,if_pos ⟨h1,h2⟩];exact hf
theorem chk{p:Prop}[Decidable p]{f:Unit→Option β}(h:p)(hf:W (f ()) Q):W ((cp p).bind f) Q:=by
 rw [cp,if_pos h];exact hf
theorem at_{l:List α}{i:Int}{f:α→Option β}(h0:0≤i)(h1:i < l.length)(hf:∀x,l[i.toNat]? =some x→W (f x) Q):W ((aX l i).bind f) Q:=by
 have:i.toNat < l.length:=by omega
 rw [aX,if_pos h0,List.getElem?_eq_getElem this];exact hf _ (List.getElem?_eq_getElem this)
theorem ite{p:Prop}[Decidable p]{a b:Option β}(h1:p→W a Q)(h2:¬p→W b Q):W (if p then a else b) Q:=by
 split
 ·exact h1 ‹_›
 ·exact h2 ‹_›
theorem iteB{p:Prop}[Decidable p]{a b:Option α}{f:α→Option β}(h1:p→W (a.bind f) Q)(h2:¬p→W (b.bind f) Q):W ((if p then a else b).bind f) Q:=by
 split
 ·exact h1 ‹_›
 ·exact h2 ‹_›
theorem bEE{x:Option (Except ε α)}{g:ε→Option β}{f:α→Option β}{R:Except ε α→Prop}(h:W x R)(hg:∀e,R (.error e)→W (g e) Q)(hf:∀a,R (.ok a)→W (f a) Q):W (K.bE x g f) Q:=by
 obtain⟨a,rfl,r⟩:=h;cases a with
 |error e=>exact hg e r
 |ok a=>exact hf a r
theorem loop{T:Type}{f:Nat→T→Option β}(I:Nat→T→Prop)(step:∀aU m y,I m y→(∀m' y',m' < m→I m' y'→W (f aU y') Q)→W (f (aU+1) y) Q):∀m aU y,m < aU→I m y→W (f aU y) Q:=by
 intro m
 induction m using Nat.strongRecOn with
 |_ m ih=>
  intro aU y hm hI;cases aU with
  |zero=>omega
  |succ aU=>exact step aU m y hI fun m' y' h hI'=>ih m' h aU y' (by omega) hI'
end W
theorem wrap_u64(n:Int):0≤IntKind.u64.wrap n∧IntKind.u64.wrap n < 18446744073709551616:=by
 have h1:=Int.emod_nonneg n (show(18446744073709551616:Int)≠0 by decide);have h2:=Int.emod_lt_of_pos n (show(0:Int) < 18446744073709551616 by decide)
 have e:IntKind.u64.wrap n=n % 18446744073709551616:=by
  simp [IntKind.wrap,IntKind.signed,IntKind.bits]
 rw [e];exact⟨h1,h2⟩
theorem yR{n:Int}(h0:0≤n)(h1:n < 18446744073709551616):IntKind.u64.wrap n=n:=by
 have e:IntKind.u64.wrap n=n % 18446744073709551616:=by
  simp [IntKind.wrap,IntKind.signed,IntKind.bits]
 rw [e];exact Int.emod_eq_of_lt h0 h1
def Lo(l:bR)(m:Int):Prop:=0≤l.2.1∧l.2.1≤m
theorem Jz{k:Nat}{l:bR}{m:Int}(h:Lo l m)(hm:m≤1000000000):W (jd k l) fun r=>0≤r.1∧r.1 < 72057594037927936∧Lo r.2 (m+1):=by
 obtain⟨h0,h1⟩:=h;unfold jd
 have fin:∀x:Int,W ((K.ck (l.2.1+1)).bind fun x4=>some (ik .u64 (qZ .u64 (IntKind.u64.wrap ((qZ .u64 x (ik .u64 x (29:Int))) * (2685821657736338717:Int))) (ik .u64 (IntKind.u64.wrap ((qZ .u64 x (ik .u64 x (29:Int))) * (2685821657736338717:Int))) (32:Int))) (8:Int),(l.1,x4,x)))
  fun r=>0≤r.1∧r.1 < 72057594037927936∧Lo r.2 (m+1):=fun x=>by
  refine W.ck (by omega) (by omega) (W.ret ?_)
  generalize IntKind.u64.wrap ((qZ .u64 x (ik .u64 x (29:Int))) * (2685821657736338717:Int))=y
  have hx:0≤qZ .u64 y (ik .u64 y 32)∧qZ .u64 y (ik .u64 y 32) < 18446744073709551616:=wrap_u64 _
  have e:ik .u64 (qZ .u64 y (ik .u64 y 32)) 8=(qZ .u64 y (ik .u64 y 32)) / 256:=by
   unfold ik;rw [Int.fdiv_eq_ediv_of_nonneg _ (by decide)];rfl
  refine⟨?_,?_,?_,?_⟩
  ·
   show 0≤ik .u64 (qZ .u64 y (ik .u64 y 32)) 8;rw [e];omega
  ·
   show ik .u64 (qZ .u64 y (ik .u64 y 32)) 8 < _;rw [e];omega
  ·
   show 0≤l.2.1+1;omega
  ·
   show l.2.1+1≤m+1;omega
 refine W.iteB (fun hlt=>?_) (fun _=>fin _);cases hg:aX l.1 l.2.1 with
 |some v=>exact fin _
 |none=>
  exfalso;have:l.2.1.toNat < l.1.length:=by omega
  rw [aX,if_pos h0,List.getElem?_eq_getElem this] at hg;cases hg
theorem ry{k:Nat}{l:bR}{m n:Int}(h:Lo l m)(hm:m≤1000000000)(hn:n≤1000000000):W (dP k l n) fun r=>0≤r.1∧(0≤n→r.1≤n)∧Lo r.2 (m+1):=by
 unfold dP;refine W.ite (fun h1=>W.ret ⟨Int.le_refl 0,fun h=>h,h.1,by show l.2.1≤m+1;have:=h.2;omega⟩) (fun h1=>?_);refine W.bind (Jz h hm) fun r hr=>?_;refine W.ck (by omega) (by omega) ?_;have e:IntKind.u64.wrap (n+1)=n+1:=yR (by omega) (by omega);refine W.chk (by rw [e];omega) ?_;rw [e];have h2:Int.tmod r.1 (n+1)=r.1 % (n+1):=Int.tmod_eq_emod_of_nonneg hr.1;have h3:=Int.emod_nonneg r.1 (show n+1≠0 by omega);have h4:=Int.emod_lt_of_pos r.1 (show 0 < n+1 by omega);rw [h2];refine W.ck (by omega) (by omega) (W.ret ⟨h3,fun _=>by show r.1 % (n+1)≤n;omega,hr.2.2⟩)
theorem HB{k:Nat}{l:bR}{m a b:Int}(h:Lo l m)(hm:m≤1000000000)(ha:0≤a)(hab:a≤b)(hb:b≤1000000):W (eT k l a b) fun r=>a≤r.1∧r.1≤b∧Lo r.2 (m+1):=by
 unfold eT;refine W.ck (by omega) (by omega) (W.bind (ry h hm (by omega)) fun r hr=>?_);have:=hr.2.1 (by omega);refine W.ck (by omega) (by omega) (W.ret ⟨by show a≤a+r.1;omega,by show a+r.1≤b;omega,hr.2.2⟩)
theorem CZ{k:Nat}{l:bR}{m a:Int}(h:Lo l m)(hm:m≤1000000000)(ha:0≤a)(hb:a≤1000000):W (fY k l a) fun r=>Lo r.2 (m+1):=by
 unfold fY;exact W.ck (by omega) (by omega) (W.bind (ry h hm (by omega)) fun r hr=>W.ret hr.2.2)
theorem Lm{k:Nat}{l:bR}{m:Int}{some_:List Int}(h:Lo l m)(hm:m≤1000000000)(h0:0 < some_.length)(h1:some_.length≤1000000):W (jD k l some_) fun r=>r.1∈some_∧Lo r.2 (m+1):=by
 unfold jD;refine W.ck (by omega) (by omega) (W.bind (ry h hm (by omega)) fun r hr=>?_);have:=hr.2.1 (by omega);refine W.at_ hr.1 (by omega) fun x hx=>W.ret ⟨List.mem_of_getElem? hx,hr.2.2⟩
theorem cz{α:Type}{l:List α}{i:Nat}(h:i < l.length):aX l (i:Int)=some l[i]:=by
 rw [aX,if_pos (by omega)];exact List.getElem?_eq_getElem h
section
variable {α β γ ε σ T:Type}
theorem bs{a:α}{f:α→Option β}:(some a).bind f=f a:=by cases h:f a <;> simp [h]
theorem bU{n:Int}(h1: -9223372036854775808≤n)(h2:n≤9223372036854775807):K.ck n=some n:=by rw [K.ck,if_pos ⟨h1,h2⟩]
theorem bX{p:Prop}[Decidable p](h:p):cp p=some ():=by rw [cp,if_pos h]
theorem oc{l:List α}{i:Int}(h0:0≤i)(h:i.toNat < l.length):aX l i=some l[i.toNat]:=by rw [aX,if_pos h0];exact List.getElem?_eq_getElem h
theorem HF{l:List α}{i:Int}{x:α}(h0:0≤i)(h:l[i.toNat]? =some x):aX l i=some x:=by rw [aX,if_pos h0];exact h
theorem mX{a:α}{g:ε→Option β}{f:α→Option β}:K.bE (some (.ok a)) g f=f a:=by cases h:f a <;> simp [K.bE,h]
theorem mY{e:ε}{g:ε→Option β}{f:α→Option β}:K.bE (some (.error e)) g f=g e:=by cases h:g e <;> simp [K.bE,h]
theorem C5{n:Nat}(h:n≤4294967296):bO n:=h
def Aq(g:σ→Nat→α→σ):Nat→List α→σ→σ
 |_,[],s=>s
 |j,x::l,s=>Aq g (j+1) l (g s j x)
theorem HT(l:List α)(mk:σ→Int→T)(g:σ→Nat→α→σ)(P:Nat→σ→Prop){f:Nat→T→Option β}(fin:σ→Option β)
 (step:∀n s (j:Nat) (h:j < l.length),P j s→f (n+1) (mk s j)=f n (mk (g s j l[j]) ((j:Int)+1))∧P (j+1) (g s j l[j]))
 (stop:∀n s,P l.length s→f (n+1) (mk s l.length)=fin s) {s0:σ} {n:Nat} (hn:l.length < n) (h0:P 0 s0):f n (mk s0 0)=fin (Aq g 0 l s0)∧P l.length (Aq g 0 l s0):=by
 have key:∀(m:List α) (pre:List α) (n:Nat) (s:σ),l=pre++m→m.length < n→P pre.length s→f n (mk s pre.length)=fin (Aq g pre.length m s)∧P l.length (Aq g pre.length m s):=by
  intro m
  induction m with
  |nil=>
   intro pre n s e hn hp;obtain⟨n,rfl⟩:∃n',n=n'+1:=⟨n - 1,by omega⟩;have:l.length=pre.length:=by rw [e];simp
   rw [←this] at hp⊢;exact⟨stop n s hp,hp⟩
  |cons x m ih=>
   intro pre n s e hn hp;simp only [List.length_cons] at hn;obtain⟨n,rfl⟩:∃n',n=n'+1:=⟨n - 1,by omega⟩;have hl:pre.length < l.length:=by rw [e];simp
   have hx:l[pre.length]=x:=by simp [e]
   obtain⟨h1,h2⟩:=step n s pre.length hl hp;rw [hx] at h1 h2;have:=ih (pre++[x]) n (g s pre.length x) (by rw [e];simp) (by omega) (by rw [List.length_append];exact h2);rw [List.length_append] at this;simp only [List.length_cons,List.length_nil,Nat.zero_add] at this;rw [h1];exact this
 have:=key l [] n s0 rfl hn h0
 exact this
def bq(g:σ→Nat→α→Except ε σ):Nat→List α→σ→Except ε σ
 |_,[],s=>.ok s
 |j,x::l,s=>match g s j x with
  | .error e=>.error e
  | .ok s'=>bq g (j+1) l s'
theorem xi(l:List α)(mk:σ→Int→T)(g:σ→Nat→α→Except ε σ)(P:Nat→σ→Prop){f:Nat→T→Option β}(fin:Except ε σ→Option β)
 (step:∀n s (j:Nat) (h:j < l.length),P j s→(∃e,g s j l[j]= .error e∧f (n+1) (mk s j)=fin (.error e))∨(∃s',g s j l[j]= .ok s'∧f (n+1) (mk s j)=f n (mk s' ((j:Int)+1))∧P (j+1) s'))
 (stop:∀n s,P l.length s→f (n+1) (mk s l.length)=fin (.ok s)) {s0:σ} {n:Nat} (hn:l.length < n) (h0:P 0 s0):f n (mk s0 0)=fin (bq g 0 l s0):=by
 have key:∀(m:List α) (pre:List α) (n:Nat) (s:σ),l=pre++m→m.length < n→P pre.length s→f n (mk s pre.length)=fin (bq g pre.length m s):=by
  intro m
  induction m with
  |nil=>
   intro pre n s e hn hp;obtain⟨n,rfl⟩:∃n',n=n'+1:=⟨n - 1,by omega⟩;have:l.length=pre.length:=by rw [e];simp
   rw [←this] at hp⊢;exact stop n s hp
  |cons x m ih=>
   intro pre n s e hn hp;simp only [List.length_cons] at hn;obtain⟨n,rfl⟩:∃n',n=n'+1:=⟨n - 1,by omega⟩;have hl:pre.length < l.length:=by rw [e];simp
   have hx:l[pre.length]=x:=by simp [e]
   rcases step n s pre.length hl hp with⟨e',h1,h2⟩ |⟨s',h1,h2,h3⟩
   ·rw [hx] at h1;rw [h2,bq,h1]
   ·rw [hx] at h1;have:=ih (pre++[x]) n s' (by rw [e];simp) (by omega) (by rw [List.length_append];exact h3);rw [List.length_append] at this;simp only [List.length_cons,List.length_nil,Nat.zero_add] at this;rw [h2,bq,h1];exact this
 exact key l [] n s0 rfl hn h0
end
section
variable {α β ε σ T:Type}
theorem nT{a b:α}:(if¬(true=true) then a else b)=b:=rfl
theorem nF{a b:α}:(if¬(false=true) then a else b)=a:=rfl
theorem iT{a b:α}:(if true=true then a else b)=a:=rfl
theorem iF{a b:α}:(if false=true then a else b)=b:=rfl
theorem pr(l:List α)(mk:σ→Int→T)(g:σ→Nat→α→Except ε σ)(P:Nat→σ→Prop){f:Nat→T→Option β}(fin:Except ε σ→Option β)
 (step:∀n s (j:Nat) (h:j < l.length),P j s→(f (n+1) (mk s j)=match g s j l[j] with | .error e=>fin (.error e) | .ok s'=>f n (mk s' ((j:Int)+1)))∧∀s',g s j l[j]= .ok s'→P (j+1) s')
 (stop:∀n s,P l.length s→f (n+1) (mk s l.length)=fin (.ok s)) {s0:σ} {n:Nat} (hn:l.length < n) (h0:P 0 s0):f n (mk s0 0)=fin (bq g 0 l s0):=
 xi l mk g P fin (fun n s j h hp=>by
  obtain⟨h1,h2⟩:=step n s j h hp
  cases e:g s j l[j] with
  |error e'=>left;rw [e] at h1;exact⟨e',rfl,h1⟩
  |ok s'=>right;rw [e] at h1;exact⟨s',rfl,h1,h2 s' e⟩) stop hn h0
end
theorem zl{k:Nat}{a b:List Int}(h:a.length < k)(hk:a.length≤1000000):fO k a b=some (decide (a=b)):=by
 unfold fO;by_cases hl:a.length=b.length
 ·rw [if_neg (by simp [hl])]
  have key:=xi (f:=dI k a b) a (fun(_:Unit) j=>j) (fun _ j x=>if x=b[j]?.getD 0 then .ok () else Except.error false) (fun _ _=>True) (fun r=>some r)
   (fun n s j hj _=>by
    have hjb:j < b.length:=by omega
    have hb:b[j]?.getD 0=b[j]:=by simp [List.getElem?_eq_getElem hjb]
    have hck:ck ((j:Int)+1)=some ((j:Int)+1):=bU (by omega) (by omega);rw [hb];simp only [dI,Int.ofNat_lt,hj,if_true,cz hj,cz hjb,bs];by_cases e:a[j]=b[j] <;> simp [e,hck])
   (fun n s _=>by simp [dI]) (n:=k) (s0:=()) h trivial
  rw [show dI k a b k 0=_ from key]
  have:∀(a:List Int) (j:Nat),a.length+j=b.length→bq (fun(_:Unit) j x=>if x=b[j]?.getD 0 then .ok () else Except.error false) j a ()=if a=b.drop j then .ok () else .error false:=by
   intro a
   induction a with
   |nil=>
    intro j hj;have:b.drop j=[]:=List.drop_eq_nil_of_le (by simp only [List.length_nil] at hj;omega);rw [this];simp [bq]
   |cons x a ih=>
    intro j hj;simp only [List.length_cons] at hj;have hjb:j < b.length:=by omega
    have hd:b.drop j=b[j]::b.drop (j+1):=List.drop_eq_getElem_cons hjb;have hb:b[j]?.getD 0=b[j]:=by simp [List.getElem?_eq_getElem hjb]
    rw [bq,hb,hd];by_cases e:x=b[j]
    ·have h2:(x::a=b[j]::b.drop (j+1))=(a=b.drop (j+1)):=propext ⟨fun h=>(List.cons.inj h).2,fun h=>by rw [h,e]⟩;rw [if_pos e];simp only [h2];exact ih (j+1) (by omega)
    ·have h2:¬(x::a=b[j]::b.drop (j+1)):=fun h=>e (List.cons.inj h).1;rw [if_neg e];simp only [h2,if_false]
  rw [this a 0 (by omega),List.drop_zero];by_cases e:a=b
  ·rw [if_pos e,mX,decide_eq_true e]
  ·rw [if_neg e,mY,decide_eq_false e]
 ·rw [if_pos (by omega),decide_eq_false (fun e=>hl (by rw [e]))]
def uq(s:Int):Prop:=0≤s∧s < 256
def f7(s:Int)(i:Nat):Prop:=s.toNat.testBit i=true
instance (s:Int) (i:Nat):Decidable (f7 s i):=by unfold f7;infer_instance
theorem xz{x:Nat}(h:x < 256):IntKind.u8.wrap (x:Int)=x:=by
 have e:IntKind.u8.wrap (x:Int)=(x:Int) % 256:=by simp [IntKind.wrap,IntKind.signed,IntKind.bits]
 rw [e];omega
theorem o6{s:Int}(h:uq s):∃n:Nat,n < 256∧s=n:=⟨s.toNat,by have:=h.1;have:=h.2;omega,by have:=h.1;omega⟩
theorem By{n:Nat}(h:n < 256):(BitVec.ofInt IntKind.u8.bits (n:Int)).toNat=n:=by
 show(BitVec.ofInt 8 (n:Int)).toNat=n;rw [BitVec.ofInt_natCast,BitVec.toNat_ofNat];exact Nat.mod_eq_of_lt h
theorem Ho{n m:Nat}(hn:n < 256)(hm:m < 256):n |||m < 256:=Nat.or_lt_two_pow (n:=8) hn hm
theorem JB{n m:Nat}(hn:n < 256):n &&& m < 256:=Nat.lt_of_le_of_lt Nat.and_le_left hn
theorem MF{a b:Int}(ha:uq a)(hb:uq b):uq (EQ .u8 a b)∧∀i,f7 (EQ .u8 a b) i↔f7 a i∨f7 b i:=by
 obtain⟨n,hn,rfl⟩:=o6 ha;obtain⟨m,hm,rfl⟩:=o6 hb
 have e:EQ .u8 (n:Int) (m:Int)=((n |||m:Nat):Int):=by
  unfold EQ;rw [BitVec.toNat_or,By hn,By hm];exact xz (Ho hn hm)
 rw [e];refine⟨⟨by omega,by have:=Ho hn hm;omega⟩,fun i=>?_⟩;simp [f7,Nat.testBit_or]
theorem L1{x:Int}(h0:0≤x)(h8:x < 8):uq (ny .u8 1 x)∧∀i:Nat,f7 (ny .u8 1 x) i↔(i:Int)=x:=by
 obtain⟨n,rfl⟩:=Int.eq_ofNat_of_zero_le h0;have hn:n < 8:=by omega
 have e:ny .u8 1 (n:Int)=((2 ^ n:Nat):Int):=by
  unfold ny
  have h1:min (Int.toNat (n:Int)) IntKind.u8.bits=n:=by
   show min n 8=n;omega
  rw [h1,Int.one_mul];have h2:2 ^ n < 256:=Nat.pow_lt_pow_right (by decide) hn;have h3:((2:Int) ^ n)=((2 ^ n:Nat):Int):=by simp
  rw [h3];exact xz h2
 rw [e];have h9:2 ^ n < 256:=Nat.pow_lt_pow_right (by decide) hn;refine⟨⟨Int.natCast_nonneg _,Int.ofNat_lt.2 h9⟩,fun i=>?_⟩;simp only [f7,Int.toNat_natCast,Nat.testBit_two_pow,decide_eq_true_eq];omega
theorem MH{k:Nat}{s:Int}(hs:uq s){i:Nat}(hi:i < 8):eM k s (i:Int)=some (decide (f7 s i)):=by
 obtain⟨n,hn,rfl⟩:=o6 hs;unfold eM;rw [cp,if_pos (by omega)];show some _=some _;congr 1
 have e1:ik .u8 (n:Int) (i:Int)=((n >>> i:Nat):Int):=by
  unfold ik
  have h1:min (Int.toNat (i:Int)) IntKind.u8.bits=i:=by
   show min i 8=i;omega
  have h3:((2:Int) ^ i)=((2 ^ i:Nat):Int):=by simp
  rw [h1,h3,Int.fdiv_eq_ediv_of_nonneg _ (Int.natCast_nonneg _),Nat.shiftRight_eq_div_pow];rfl
 have hlt:n >>> i < 256:=Nat.lt_of_le_of_lt (by rw [Nat.shiftRight_eq_div_pow];exact Nat.div_le_self _ _) hn
 have e2:wy .u8 ((n >>> i:Nat):Int) 1=(((n >>> i) &&& 1:Nat):Int):=by
  unfold wy;have h1:(BitVec.ofInt IntKind.u8.bits 1).toNat=1:=rfl;rw [BitVec.toNat_and,By hlt,h1];exact xz (JB hlt)
 rw [e1,e2]
 have e3:(((n >>> i) &&& 1:Nat):Int)=1↔f7 (n:Int) i:=by
  rw [f7,Int.toNat_natCast,Nat.testBit];have h5:(n >>> i) &&& 1=1 &&& (n >>> i):=Nat.and_comm _ _;rw [h5];have h4:1 &&& (n >>> i) < 2:=Nat.lt_of_le_of_lt Nat.and_le_left (by decide);simp only [bne_iff_ne,ne_eq];omega
 exact decide_eq_decide.2 e3
abbrev cF:=Int×(List (Int×(List Int)))×(List Int)
def Tf(t:cF)(d n:Int):Bool:=match t.2.1[n.toNat]? with
 |some x=>decide (d∈x.2)
 |none=>false
def OQ(w:Int→Bool)(l:List Int):List Int:=l.filter (fun n=> !w n)++l.filter w
theorem rY{w:Int→Bool}{l:List Int}:(OQ w l).Perm l:=by
 unfold OQ;exact List.perm_append_comm.trans (List.filter_append_perm w l)
theorem m8{k:Nat}{n a b:Int}:eB k n a b=some (decide (a≤n∧n≤b)):=by
 unfold eB;by_cases h:a≤n <;> simp [h]
theorem nB{k:Nat}{n a b:Int}:gR k n a b=some (decide (a≤n∧n≤b)):=by
 unfold gR;by_cases h:a≤n <;> simp [h]
def uo(days:Int)(l:List Int)(j:Nat)(x:Int):Except Int Unit:=
 if¬(0≤x∧x≤days - 1) then .error 1 else if 0 < j∧x≤l[j - 1]?.getD 0 then .error 5 else .ok ()
def jW(days:Int)(x:Int×(List Int)):Except Int Unit:=
 if¬(1≤x.1∧x.1≤3) then .error 1 else bq (fun _ j y=>uo days x.2 j y) 0 x.2 ()
def lm(n:Int):Except Int Unit:=if 0≤n∧n≤9 then .ok () else .error 1
def Dt{α:Type}:Except Int α→Int
 | .error e=>e
 | .ok _=>0
def j9(t:cF):Int:=
 if¬(1≤t.1∧t.1≤6) then 1 else if 5 < t.2.1.length then 6 else
  match bq (fun _ _ x=>jW t.1 x) 0 t.2.1 () with
  | .error e=>e
  | .ok _=>if t.2.2.length < 1 then 7 else if 3 < t.2.2.length then 6 else Dt (bq (fun _ _ n=>lm n) 0 t.2.2 ())
structure gw(k:Nat)(t:cF):Prop where
 k1:k≤1000000
 things:t.2.1.length < k
 worn:∀x∈t.2.1,x.2.length < k
 trunks:t.2.2.length < k
section
variable {k:Nat}{t:cF}
theorem Gs{l:List Int}{j:Nat}(h:j < l.length)(h0:0 < j):aX l ((j:Int) - 1)=some (l[j - 1]?.getD 0):=by
 have e:((j:Int) - 1).toNat=j - 1:=by omega
 rw [aX,if_pos (by omega),e,List.getElem?_eq_getElem (by omega)];rfl
theorem Ia{x:Int×(List Int)}(hk:k≤1000000)(hx:x.2.length < k)(hd:1≤t.1∧t.1≤6):cX k t x k 0=some (bq (fun _ j y=>uo t.1 x.2 j y) 0 x.2 ()):=
 pr (f:=cX k t x) x.2 (fun(_:Unit) j=>j) (fun _ j y=>uo t.1 x.2 j y) (fun _ _=>True) (fun r=>some r)
  (fun n s j h _=>⟨by
   rw [cX,if_pos (Int.ofNat_lt.2 h),cz h,bs,bU (by omega) (by omega),bs,m8,bs]
   unfold uo
   by_cases c1:0≤x.2[j]∧x.2[j]≤t.1 - 1
   ·
    rw [decide_eq_true c1,nT,if_neg (not_not_intro c1)]
    by_cases c2:0 < j
    ·
     rw [if_pos (show(0:Int) < (j:Int) by omega),bU (by omega) (by omega),bs,Gs h c2,bs,bs]
     by_cases c3:x.2[j]≤x.2[j - 1]?.getD 0
     ·
      rw [decide_eq_true c3,iT,if_pos (show 0 < j∧x.2[j]≤x.2[j - 1]?.getD 0 from⟨c2,c3⟩)]
     ·
      rw [decide_eq_false c3,iF,if_neg (show¬(0 < j∧x.2[j]≤x.2[j - 1]?.getD 0) from fun h=>c3 h.2),bU (by omega) (by omega),bs]
    ·
     rw [if_neg (show¬(0:Int) < (j:Int) by omega),bs,iF,if_neg (show¬(0 < j∧x.2[j]≤x.2[j - 1]?.getD 0) from fun h=>c2 h.1),bU (by omega) (by omega),bs]
   ·
    rw [decide_eq_false c1,nF,if_pos (show¬(0≤x.2[j]∧x.2[j]≤t.1 - 1) from c1)],fun _ _=>trivial⟩)
  (fun n s _=>by rw [cX,if_neg (by omega)]) (s0:=()) (n:=k) hx trivial
theorem Ib{x:Int×(List Int)}(hk:k≤1000000)(hx:x.2.length < k)(hd:1≤t.1∧t.1≤6):fL k t x k 0=some (bq (fun _ j y=>uo t.1 x.2 j y) 0 x.2 ()):=
 pr (f:=fL k t x) x.2 (fun(_:Unit) j=>j) (fun _ j y=>uo t.1 x.2 j y) (fun _ _=>True) (fun r=>some r)
  (fun n s j h _=>⟨by
   rw [fL,if_pos (Int.ofNat_lt.2 h),cz h,bs,bU (by omega) (by omega),bs,nB,bs]
   unfold uo
   by_cases c1:0≤x.2[j]∧x.2[j]≤t.1 - 1
   ·
    rw [decide_eq_true c1,nT,if_neg (not_not_intro c1)]
    by_cases c2:0 < j
    ·
     rw [if_pos (show(0:Int) < (j:Int) by omega),bs,bU (by omega) (by omega),bs,Gs h c2,bs,bs]
     by_cases c3:x.2[j]≤x.2[j - 1]?.getD 0
     ·
      rw [decide_eq_true c3,iT,if_pos (show 0 < j∧x.2[j]≤x.2[j - 1]?.getD 0 from⟨c2,c3⟩)]
     ·
      rw [decide_eq_false c3,iF,if_neg (show¬(0 < j∧x.2[j]≤x.2[j - 1]?.getD 0) from fun h=>c3 h.2),bU (by omega) (by omega),bs]
    ·
     rw [if_neg (show¬(0:Int) < (j:Int) by omega),bs,iF,if_neg (show¬(0 < j∧x.2[j]≤x.2[j - 1]?.getD 0) from fun h=>c2 h.1),bU (by omega) (by omega),bs]
   ·
    rw [decide_eq_false c1,nF,if_pos (show¬(0≤x.2[j]∧x.2[j]≤t.1 - 1) from c1)],fun _ _=>trivial⟩)
  (fun n s _=>by rw [fL,if_neg (by omega)]) (s0:=()) (n:=k) hx trivial
theorem FZ{x:Int×(List Int)}(hk:k≤1000000)(hx:x.2.length < k)(hd:1≤t.1∧t.1≤6):iq k t x=some (Dt (jW t.1 x)):=by
 unfold iq jW;rw [m8,bs,Ia hk hx hd];by_cases c:1≤x.1∧x.1≤3
 ·rw [decide_eq_true c,nT,if_neg (not_not_intro c)];cases bq (fun _ j y=>uo t.1 x.2 j y) 0 x.2 () with
  |error e=>rw [mY];rfl
  |ok u=>rw [mX];rfl
 ·rw [decide_eq_false c,nF,if_pos (show¬(1≤x.1∧x.1≤3) from c)];rfl
theorem kU{α σ:Type}{g:σ→Nat→α→Except Int σ}(hg:∀s j x,g s j x≠.error 0):∀(l:List α) (j:Nat) (s:σ),bq g j l s≠.error 0
 |[],j,s=>by simp [bq]
 |x::l,j,s=>by
  rw [bq]
  cases h:g s j x with
  |error e=>intro h';rw [Except.error.inj h'] at h;exact hg _ _ _ h
  |ok s'=>exact kU hg l (j+1) s'
theorem Ai{d:Int}{x:Int×(List Int)}:jW d x≠.error 0:=by
 unfold jW;split
 ·simp
 ·refine kU (fun s j y=>?_) _ _ _;unfold uo;split
  ·simp
  ·split <;> simp
theorem EO(h:gw k t)(hd:1≤t.1∧t.1≤6):fD k t k 0=some (bq (fun _ _ x=>jW t.1 x) 0 t.2.1 ()):=
 pr (f:=fD k t) t.2.1 (fun(_:Unit) j=>j) (fun _ _ x=>jW t.1 x) (fun _ _=>True) (fun r=>some r)
  (fun n s j hj _=>⟨by
   rw [fD,if_pos (Int.ofNat_lt.2 hj),cz hj,bs,FZ h.k1 (h.worn _ (List.getElem_mem hj)) hd,bs]
   have h0:=Ai (d:=t.1) (x:=t.2.1[j])
   have h1:=h.things
   have h2:=h.k1
   cases e:jW t.1 t.2.1[j] with
   |error e'=>rw [if_pos (show¬Dt (Except.error e':Except Int Unit)=0 from fun h=>h0 (by rw [e];exact congrArg _ h))];rfl
   |ok u=>rw [if_neg (show¬¬Dt (Except.ok u:Except Int Unit)=0 from fun h=>h rfl),bU (by omega) (by omega),bs],fun _ _=>trivial⟩)
  (fun n s _=>by rw [fD,if_neg (by omega)]) (s0:=()) (n:=k) h.things trivial
theorem EP(h:gw k t)(hd:1≤t.1∧t.1≤6):fM k t k 0=some (bq (fun _ _ x=>jW t.1 x) 0 t.2.1 ()):=
 pr (f:=fM k t) t.2.1 (fun(_:Unit) j=>j) (fun _ _ x=>jW t.1 x) (fun _ _=>True) (fun r=>some r)
  (fun n s j hj _=>⟨by
   rw [fM,if_pos (Int.ofNat_lt.2 hj),cz hj,bs,nB,bs,bs,Ib h.k1 (h.worn _ (List.getElem_mem hj)) hd]
   have h1:=h.things
   have h2:=h.k1
   unfold jW
   by_cases c:1≤t.2.1[j].1∧t.2.1[j].1≤3
   ·
    rw [decide_eq_true c,nT,if_neg (not_not_intro c)]
    cases bq (fun _ j' y=>uo t.1 t.2.1[j].2 j' y) 0 t.2.1[j].2 () with
    |error e=>rw [mY]
    |ok u=>rw [mX,bU (by omega) (by omega),bs]
   ·
    rw [decide_eq_false c,nF,if_pos (show¬(1≤t.2.1[j].1∧t.2.1[j].1≤3) from c),mY],fun _ _=>trivial⟩)
  (fun n s _=>by rw [fM,if_neg (by omega)]) (s0:=()) (n:=k) h.things trivial
theorem Ek(h:gw k t):fC k t k 0=some (bq (fun _ _ n=>lm n) 0 t.2.2 ()):=
 pr (f:=fC k t) t.2.2 (fun(_:Unit) j=>j) (fun _ _ n=>lm n) (fun _ _=>True) (fun r=>some r)
  (fun n s j hj _=>⟨by
   rw [fC,if_pos (Int.ofNat_lt.2 hj),cz hj,bs,m8,bs]
   have h1:=h.trunks
   have h2:=h.k1
   unfold lm
   by_cases c:0≤t.2.2[j]∧t.2.2[j]≤9
   ·
    rw [decide_eq_true c,nT,if_pos c,bU (by omega) (by omega),bs]
   ·
    rw [decide_eq_false c,nF,if_neg c],fun _ _=>trivial⟩)
  (fun n s _=>by rw [fC,if_neg (by omega)]) (s0:=()) (n:=k) h.trunks trivial
theorem Em(h:gw k t):fK k t k 0=some (bq (fun _ _ n=>lm n) 0 t.2.2 ()):=
 pr (f:=fK k t) t.2.2 (fun(_:Unit) j=>j) (fun _ _ n=>lm n) (fun _ _=>True) (fun r=>some r)
  (fun n s j hj _=>⟨by
   rw [fK,if_pos (Int.ofNat_lt.2 hj),cz hj,bs,nB,bs]
   have h1:=h.trunks
   have h2:=h.k1
   unfold lm
   by_cases c:0≤t.2.2[j]∧t.2.2[j]≤9
   ·
    rw [decide_eq_true c,nT,if_pos c,bU (by omega) (by omega),bs]
   ·
    rw [decide_eq_false c,nF,if_neg c],fun _ _=>trivial⟩)
  (fun n s _=>by rw [fK,if_neg (by omega)]) (s0:=()) (n:=k) h.trunks trivial
theorem tJ(h:gw k t):kg k t=some (j9 t):=by
 unfold kg j9;rw [m8,bs];by_cases c:1≤t.1∧t.1≤6
 ·rw [decide_eq_true c,nT,if_neg (not_not_intro c),EO h c,Ek h];by_cases c1:5 < t.2.1.length
  ·rw [if_pos (show(5:Int) < (t.2.1.length:Int) by omega),if_pos c1]
  ·rw [if_neg (show¬(5:Int) < (t.2.1.length:Int) by omega),if_neg c1];cases bq (fun _ _ x=>jW t.1 x) 0 t.2.1 () with
   |error e=>rw [mY]
   |ok u=>
    rw [mX];by_cases c2:t.2.2.length < 1
    ·rw [if_pos (by omega)];simp only [c2,if_true]
    ·rw [if_neg (by omega)];by_cases c3:3 < t.2.2.length
     ·rw [if_pos (by omega)];simp only [c2,c3,if_true,if_false]
     ·rw [if_neg (by omega)];simp only [c2,c3,if_false];cases bq (fun _ _ n=>lm n) 0 t.2.2 () with
      |error e=>rw [mY];rfl
      |ok u=>rw [mX];rfl
 ·rw [decide_eq_false c,nF,if_pos (show¬(1≤t.1∧t.1≤6) from c)]
theorem tK(h:gw k t):lD k t=some (j9 t):=by
 unfold lD j9;rw [nB,bs];by_cases c:1≤t.1∧t.1≤6
 ·rw [decide_eq_true c,nT,if_neg (not_not_intro c),EP h c,Em h];by_cases c1:5 < t.2.1.length
  ·rw [if_pos (show(5:Int) < (t.2.1.length:Int) by omega),if_pos c1]
  ·rw [if_neg (show¬(5:Int) < (t.2.1.length:Int) by omega),if_neg c1];cases bq (fun _ _ x=>jW t.1 x) 0 t.2.1 () with
   |error e=>rw [mY]
   |ok u=>
    rw [mX];by_cases c2:t.2.2.length < 1
    ·rw [if_pos (by omega)];simp only [c2,if_true]
    ·rw [if_neg (by omega)];by_cases c3:3 < t.2.2.length
     ·rw [if_pos (by omega)];simp only [c2,c3,if_true,if_false]
     ·rw [if_neg (by omega)];simp only [c2,c3,if_false];cases bq (fun _ _ n=>lm n) 0 t.2.2 () with
      |error e=>rw [mY];rfl
      |ok u=>rw [mX];rfl
 ·rw [decide_eq_false c,nF,if_pos (show¬(1≤t.1∧t.1≤6) from c)]
end
theorem tB{α:Type}{f:α→Except Int Unit}:∀{l:List α} {j:Nat},bq (fun(_:Unit) _ x=>f x) j l ()= .ok ()→∀x∈l,f x= .ok ()
 |[],_,_,_,h=>by cases h
 |y::l,j,h,x,hx=>by
  rw [bq] at h
  cases e:f y with
  |error e'=>rw [e] at h;cases h
  |ok u=>
   rw [e] at h
   rcases List.mem_cons.1 hx with rfl |hx
   ·
    exact e
   ·
    exact tB h x hx
structure qE(t:cF):Prop where
 days:1≤t.1∧t.1≤6
 things:t.2.1.length≤5
 sizes:∀x∈t.2.1,1≤x.1∧x.1≤3
 trunks:1≤t.2.2.length∧t.2.2.length≤3
 rooms:∀n∈t.2.2,0≤n∧n≤9
theorem ux{t:cF}(h:j9 t=0):qE t:=by
 unfold j9 at h;by_cases c:1≤t.1∧t.1≤6
 ·rw [if_neg (not_not_intro c)] at h;by_cases c1:5 < t.2.1.length
  ·rw [if_pos c1] at h;cases h
  ·rw [if_neg c1] at h;have h0:bq (fun(_:Unit) _ x=>jW t.1 x) 0 t.2.1 ()≠.error 0:=kU (fun _ _ _=>Ai) _ _ _;cases e:bq (fun(_:Unit) _ x=>jW t.1 x) 0 t.2.1 () with
   |error e'=>rw [e] at h h0;exact absurd (congrArg _ h) h0
   |ok u=>
    rw [e] at h;have hi:=tB e;by_cases c2:t.2.2.length < 1
    ·simp only [c2,if_true] at h;cases h
    ·by_cases c3:3 < t.2.2.length
     ·simp only [c2,c3,if_true,if_false] at h;cases h
     ·simp only [c2,c3,if_false] at h;refine⟨c,by omega,fun x hx=>?_,by omega,?_⟩
      ·have:=hi x hx;unfold jW at this;by_cases c4:1≤x.1∧x.1≤3
       ·exact c4
       ·rw [if_pos c4] at this;cases this
      ·have h1:bq (fun(_:Unit) _ n=>lm n) 0 t.2.2 ()≠.error 0:=kU (fun _ _ n=>by unfold lm;split <;> simp) _ _ _;cases e2:bq (fun(_:Unit) _ n=>lm n) 0 t.2.2 () with
       |error e'=>rw [e2] at h h1;exact absurd (congrArg _ h) h1
       |ok u=>
        intro n hn
        have:=tB e2 n hn;unfold lm at this;by_cases c5:0≤n∧n≤9
        ·exact c5
        ·rw [if_neg c5] at this;cases this
 ·rw [if_pos c] at h;cases h
def jr(n:Nat)(met:List Int)(x:Int):Except Int (List Int):=if¬(0≤x∧x≤(n:Int) - 1) then .error 3 else if x∈met then .error 4 else .ok (met++[x])
def lw(t:cF)(x:Int):Int:=match t.2.1[x.toNat]? with |some y=>y.1 |none=>0
def fF(t:cF):List Int→Int
 |[]=>0
 |x::l=>lw t x+fF t l
def fo(t:cF)(met:List Int)(i:Nat)(l:List Int):Except Int (List Int):=
 match bq (fun m _ x=>jr t.2.1.length m x) 0 l met with
 | .error e=>.error e
 | .ok m=>if t.2.2[i]?.getD 0 < fF t l then .error 12 else .ok m
def chkV(t:cF)(p:List (List Int)):Int:=
 if p.length < t.2.2.length then 7 else if t.2.2.length < p.length then 6 else
  match bq (fo t) 0 p [] with
  | .error e=>e
  | .ok m=>if m.length < t.2.1.length then 7 else 0
def jF(t:cF)(p:List (List Int)):Int:=if¬(j9 t=0) then j9 t else chkV t p
structure vX(n:Nat)(m:List Int):Prop where
 nd:m.Nodup
 rng:∀x∈m,0≤x∧x < (n:Int)
theorem vX.put{n:Nat}{m m':List Int}{x:Int}(h:vX n m)(e:jr n m x= .ok m'):m'=m++[x]∧vX n m'∧0≤x∧x < (n:Int):=by
 unfold jr at e;by_cases c:0≤x∧x≤(n:Int) - 1
 ·rw [if_neg (not_not_intro c)] at e;by_cases c1:x∈m
  ·rw [if_pos c1] at e;cases e
  ·rw [if_neg c1] at e;cases e;refine⟨rfl,⟨?_,fun y hy=>?_⟩,c.1,by omega⟩
   ·rw [List.nodup_append];exact⟨h.nd,by simp,fun a ha b hb=>by rw [List.mem_singleton] at hb;subst hb;exact fun e=>c1 (e▸ha)⟩
   ·rcases List.mem_append.1 hy with hy |hy
    ·exact h.rng y hy
    ·rw [List.mem_singleton] at hy;omega
 ·rw [if_pos c] at e;cases e
theorem vX.puts{n:Nat}:∀{l:List Int} {j:Nat} {m m':List Int},vX n m→bq (fun m _ x=>jr n m x) j l m= .ok m'→m'=m++l∧vX n m'∧∀x∈l,0≤x∧x < (n:Int)
 |[],_,m,m',h,e=>by simp only [bq] at e;cases e;exact⟨by simp,h,by simp⟩
 |x::l,j,m,m',h,e=>by
  rw [bq] at e
  cases e1:jr n m x with
  |error e'=>rw [e1] at e;cases e
  |ok m1=>
   rw [e1] at e
   obtain⟨rfl,h1,h2⟩:=h.put e1
   obtain⟨rfl,h3,h4⟩:=vX.puts h1 e
   refine⟨by simp,h3,fun y hy=>?_⟩
   rcases List.mem_cons.1 hy with rfl |hy
   ·
    exact h2
   ·
    exact h4 y hy
theorem xP:∀(n:Nat) (l:List Int),l.Nodup→(∀x∈l,0≤x∧x < (n:Int))→l.length≤n
 |0,l,_,h=>by
  cases l with
  |nil=>simp
  |cons x l=>have:=h x (by simp);omega
 |n+1,l,hn,h=>by
  have h1:=xP n (l.erase (n:Int)) (hn.erase _) (fun x hx=>by
   have h2:=(List.Nodup.mem_erase_iff hn).1 hx
   have:=h x h2.2
   have:=h2.1
   omega)
  have:l.length≤(l.erase (n:Int)).length+1:=by rw [List.length_erase];split <;> omega
  omega
theorem vX.len{n:Nat}{m:List Int}(h:vX n m):m.length≤n:=xP n m h.nd h.rng
theorem vX.full{n:Nat}{m:List Int}(h:vX n m):¬m.length < n↔∀i:Nat,i < n→(i:Int)∈m:=by
 constructor
 ·intro hl i hi;by_cases c:(i:Int)∈m
  ·exact c
  ·have:=xP n ((i:Int)::m) (List.nodup_cons.2 ⟨c,h.nd⟩) (fun x hx=>by
    rcases List.mem_cons.1 hx with rfl |hx
    ·omega
    ·exact h.rng x hx)
   simp only [List.length_cons] at this;omega
 ·intro ha hl
  have h1:((List.range n).map fun(i:Nat)=>(i:Int)).length≤m.length:=by
   have:∀(k:Nat) (q:List Int),(∀i:Nat,i < k→(i:Int)∈q)→k≤q.length:=by
    intro k
    induction k with
    |zero=>intros;omega
    |succ k ih=>
     intro q hq;have hk:=hq k (by omega);have h2:=ih (q.erase (k:Int)) (fun i hi=>(List.mem_erase_of_ne (by omega)).2 (hq i (by omega)));rw [List.length_erase,if_pos (by simpa using hk)] at h2;have:=List.length_pos_of_mem hk;omega
   have:=this n m ha;simpa using this
  simp at h1;omega
def kP(m:List Int):Int:=m.foldl (fun s x=>EQ .u8 s (ny .u8 1 x)) 0
theorem BR{m:List Int}{x:Int}:kP (m++[x])=EQ .u8 (kP m) (ny .u8 1 x):=by
 unfold kP;rw [List.foldl_append];rfl
theorem BS{m:List Int}(h:∀x∈m,0≤x∧x < 8):∀(s:Int),uq s→uq (m.foldl (fun s x=>EQ .u8 s (ny .u8 1 x)) s)∧∀i:Nat,f7 (m.foldl (fun s x=>EQ .u8 s (ny .u8 1 x)) s) i↔f7 s i∨(i:Int)∈m:=by
 induction m with
 |nil=>intro s hs;exact⟨hs,fun i=>by simp⟩
 |cons x m ih=>
  intro s hs;have hx:=h x (by simp);obtain⟨o1,o2⟩:=L1 hx.1 hx.2;obtain⟨p1,p2⟩:=MF hs o1;obtain⟨q1,q2⟩:=ih (fun y hy=>h y (by simp [hy])) _ p1;refine⟨q1,fun i=>?_⟩;rw [List.foldl_cons,q2,p2,o2,List.mem_cons,or_assoc]
theorem Aa{m:List Int}(h:∀x∈m,0≤x∧x < 8):uq (kP m)∧∀i:Nat,f7 (kP m) i↔(i:Int)∈m:=by
 obtain⟨a,b⟩:=BS h 0 ⟨by decide,by decide⟩;exact⟨a,fun i=>by rw [kP,b];simp [f7]⟩
theorem Hl{a b:Int}(ha:uq a)(hb:uq b)(h:∀i:Nat,f7 a i↔f7 b i):a=b:=by
 obtain⟨n,hn,rfl⟩:=o6 ha;obtain⟨m,hm,rfl⟩:=o6 hb;congr 1;refine Nat.eq_of_testBit_eq fun i=>?_;have:=h i;simp only [f7,Int.toNat_natCast] at this;exact Bool.eq_iff_iff.2 this
theorem JZ:∀n:Nat,n≤5→uq (IntKind.u8.wrap ((ny .u8 1 (n:Int)) - 1))∧∀i:Nat,f7 (IntKind.u8.wrap ((ny .u8 1 (n:Int)) - 1)) i↔i < n:=by
 have h1:∀n:Nat,n≤5→IntKind.u8.wrap ((ny .u8 1 (n:Int)) - 1)=((2 ^ n - 1:Nat):Int):=by decide
 intro n hn
 rw [h1 n hn];have h2:2 ^ n≤32:=Nat.pow_le_pow_right (by decide) hn;refine⟨⟨by omega,by omega⟩,fun i=>?_⟩;simp only [f7,Int.toNat_natCast,Nat.testBit_two_pow_sub_one,decide_eq_true_eq]
theorem HJ{n:Nat}{m:List Int}(hn:n≤5)(h:vX n m):kP m=IntKind.u8.wrap ((ny .u8 1 (n:Int)) - 1)↔¬m.length < n:=by
 have h8:∀x∈m,0≤x∧x < 8:=fun x hx=>by have:=h.rng x hx;omega
 obtain⟨a,b⟩:=Aa h8;obtain⟨c,d⟩:=JZ n hn;rw [h.full];constructor
 ·intro e i hi;rw [←b,e,d];exact hi
 ·intro hi;refine Hl a c fun i=>?_;rw [b,d];refine⟨fun hm=>?_,hi i⟩;have:=h.rng _ hm;omega
section
variable {k:Nat}{t:cF}
theorem MI{k:Nat}{l:List Int}{x:Int}(hk:l.length < k)(hk1:k≤1000000):rP k l x=some (decide (x∈l)):=by
 unfold rP
 have:=pr (f:=iC k l x) l (fun(_:Unit) j=>j) (fun _ _ y=>if y=x then Except.error true else .ok ()) (fun _ _=>True) (fun r=>some r)
  (fun n s j h _=>⟨by
   rw [iC,if_pos (Int.ofNat_lt.2 h),cz h,bs];by_cases c:l[j]=x
   ·rw [if_pos c,if_pos c]
   ·rw [if_neg c,if_neg c,bU (by omega) (by omega),bs],fun _ _=>trivial⟩)
  (fun n s _=>by rw [iC,if_neg (by omega)]) (s0:=()) (n:=k) hk trivial
 rw [show iC k l x k 0=_ from this]
 have key:∀(l:List Int) (j:Nat),bq (fun(_:Unit) _ y=>if y=x then Except.error true else .ok ()) j l ()=if x∈l then .error true else .ok ():=by
  intro l
  induction l with
  |nil=>intro j;simp [bq]
  |cons y l ih=>
   intro j;rw [bq];by_cases c:y=x
   ·rw [if_pos c,if_pos (by simp [c])]
   ·rw [if_neg c];show bq _ (j+1) l ()=_;rw [ih];have:x∈y::l↔x∈l:=by simp [List.mem_cons,Ne.symm c]
    simp only [this]
 rw [key];by_cases c:x∈l
 ·rw [if_pos c,mY,decide_eq_true c]
 ·rw [if_neg c,mX,decide_eq_false c]
theorem zf{x:Int}(h0:0≤x)(h:x < (t.2.1.length:Int)):∃y,aX t.2.1 x=some y∧y∈t.2.1∧lw t x=y.1:=by
 have hx:x.toNat < t.2.1.length:=by omega
 refine⟨t.2.1[x.toNat],oc h0 hx,List.getElem_mem hx,?_⟩;rw [lw,List.getElem?_eq_getElem hx]
theorem qP(g:qE t){x:Int}:0≤lw t x∧lw t x≤3:=by
 unfold lw;cases h:t.2.1[x.toNat]? with
 |none=>simp
 |some y=>have:=g.sizes y (List.mem_of_getElem? h);simp only;omega
theorem wI(g:qE t):∀{l:List Int},0≤fF t l∧fF t l≤3 * (l.length:Int)
 |[]=>by simp [fF]
 |x::l=>by have:=qP g (x:=x);have:=wI g (l:=l);simp only [fF,List.length_cons];omega
theorem Eg{l l':List Int}:fF t (l++l')=fF t l+fF t l':=by
 induction l with
 |nil=>simp [fF]
 |cons x l ih=>simp only [List.cons_append,fF,ih];omega
theorem I7(g:qE t)(hk1:k≤1000000){l:List Int}(hl:l.length < k)(hx:∀x∈l,0≤x∧x < (t.2.1.length:Int)):nc k t l=some (fF t l):=by
 unfold nc
 have:=HT (f:=gB k t l) l (fun(s:Int) j=>(s,j)) (fun s _ x=>s+lw t x) (fun j s=>s=fF t (l.take j)) (fun s=>some s)
  (fun n s j h hp=>by
   have hm:=hx _ (List.getElem_mem h);obtain⟨y,h1,h2,h3⟩:=zf hm.1 hm.2;have hs:=wI g (l:=l.take j);have ho:=qP g (x:=l[j]);rw [List.length_take] at hs;refine⟨?_,?_⟩
   ·rw [gB,if_pos (Int.ofNat_lt.2 h)];dsimp only;rw [cz h,bs,h1,bs,←h3,bU (by omega) (by omega),bs,bU (by omega) (by omega),bs]
   ·rw [List.take_add_one,List.getElem?_eq_getElem h,hp,Option.toList_some,Eg];simp [fF])
  (fun n s _=>by rw [gB,if_neg (by omega)]) (s0:=0) (n:=k) hl (by simp [fF])
 obtain⟨h1,h2⟩:=this;rw [show gB k t l k (0,0)=_ from h1,bs,h2,List.take_length]
def sR(e:Int):Value:=.iface 140 (.agg #[.int .i64 e])
def To(e:Int):Value:=if e=0 then .nilIface else sR e
theorem GF{e:Int}(h:¬e=0):To e=sR e:=if_neg h
theorem Jg(g:qE t)(hk1:k≤1000000){l m:List Int}(hl:l.length < k)(hm:vX t.2.1.length m):
 eG k t l k (kP m,0)=match bq (fun m _ x=>jr t.2.1.length m x) 0 l m with | .error e=>some (.error (sR e)) | .ok m'=>some (.ok (kP m')):=
 pr (f:=eG k t l) l (fun m j=>(kP m,j)) (fun m _ x=>jr t.2.1.length m x) (fun _ m=>vX t.2.1.length m) (fun r=>match r with | .error e=>some (.error (sR e)) | .ok m'=>some (.ok (kP m')))
  (fun n m j h hm=>⟨by
   have h5:=g.things
   rw [eG,if_pos (Int.ofNat_lt.2 h)]
   dsimp only
   rw [cz h,bs,bU (by omega) (by omega),bs,m8,bs]
   unfold jr
   by_cases c:0≤l[j]∧l[j]≤(t.2.1.length:Int) - 1
   ·
    rw [decide_eq_true c,nT,if_neg (not_not_intro c)]
    obtain⟨i,hi⟩:=Int.eq_ofNat_of_zero_le c.1
    have h8:∀x∈m,0≤x∧x < 8:=fun x hx=>by have:=hm.rng x hx;omega
    obtain⟨a,b⟩:=Aa h8
    rw [hi,MH a (by omega),bs]
    have hb:=b i
    by_cases c1:(i:Int)∈m
    ·
     rw [decide_eq_true (hb.2 c1),iT,if_pos c1];rfl
    ·
     rw [decide_eq_false (fun h=>c1 (hb.1 h)),iF,if_neg c1]
     unfold gI
     rw [bX (by omega),bs,bs,bU (by omega) (by omega),bs]
     show _=eG k t l n (kP (m++[(i:Int)]),(j:Int)+1)
     rw [BR]
   ·
    rw [decide_eq_false c,nF,if_pos (show¬(0≤l[j]∧l[j]≤(t.2.1.length:Int) - 1) from c)];rfl,fun m' e=>(hm.put e).2.1⟩)
  (fun n m _=>by rw [eG,if_neg (by omega)]) (s0:=m) (n:=k) hl hm
theorem A5(g:qE t)(hk1:k≤1000000){p:List (List Int)}(hp:p.length=t.2.2.length)(hpk:p.length < k)(hl:∀l∈p,l.length < k):
 fy k t p k (0,0)=match bq (fo t) 0 p [] with | .error e=>some (.error (sR e)) | .ok m'=>some (.ok (kP m')):=
 pr (f:=fy k t p) p (fun m j=>(kP m,j)) (fo t) (fun _ m=>vX t.2.1.length m) (fun r=>match r with | .error e=>some (.error (sR e)) | .ok m'=>some (.ok (kP m')))
  (fun n m j h hm=>by
   refine⟨?_,fun m' e=>?_⟩
   ·
    rw [fy,if_pos (Int.ofNat_lt.2 h)]
    dsimp only
    rw [cz h,bs,Jg g hk1 (hl _ (List.getElem_mem h)) hm]
    unfold fo
    cases e:bq (fun m _ x=>jr t.2.1.length m x) 0 p[j] m with
    |error e'=>dsimp only;rw [mY,mY]
    |ok m'=>
     obtain⟨_,_,h3⟩:=hm.puts e
     have hj:j < t.2.2.length:=by omega
     dsimp only
     rw [mX,I7 g hk1 (hl _ (List.getElem_mem h)) h3,bs,cz hj,bs]
     have e2:t.2.2[j]?.getD 0=t.2.2[j]:=by rw [List.getElem?_eq_getElem hj];rfl
     rw [e2]
     by_cases c:t.2.2[j] < fF t p[j]
     ·
      rw [if_pos c,if_pos c,mY];rfl
     ·
      rw [if_neg c,if_neg c,mX,bU (by omega) (by omega),bs]
   ·
    unfold fo at e
    cases e1:bq (fun m _ x=>jr t.2.1.length m x) 0 p[j] m with
    |error e'=>rw [e1] at e;cases e
    |ok m1=>
     rw [e1] at e
     dsimp only at e
     split at e
     ·
      cases e
     ·
      cases e;exact(hm.puts e1).2.1)
  (fun n m _=>by rw [fy,if_neg (by omega)]) (s0:=[]) (n:=k) hpk ⟨by simp,by simp⟩
theorem Db{p:List (List Int)}{m':List Int}:∀{j:Nat} {m:List Int},vX t.2.1.length m→bq (fo t) j p m= .ok m'→m'=m++p.flatten∧vX t.2.1.length m'∧∀i (h:i < p.length),(∀x∈p[i],0≤x∧x < (t.2.1.length:Int))∧fF t p[i]≤t.2.2[j+i]?.getD 0:=by
 induction p with
 |nil=>intro j m hm e;simp only [bq] at e;cases e;exact⟨by simp,hm,fun i h=>by simp at h⟩
 |cons l p ih=>
  intro j m hm e;rw [bq] at e;cases e1:fo t m j l with
  |error e'=>rw [e1] at e;cases e
  |ok m1=>
   rw [e1] at e;unfold fo at e1;cases e2:bq (fun m _ x=>jr t.2.1.length m x) 0 l m with
   |error e'=>rw [e2] at e1;cases e1
   |ok m2=>
    rw [e2] at e1;dsimp only at e1;split at e1
    ·cases e1
    ·rename_i hs;cases e1;obtain⟨rfl,h3,h4⟩:=hm.puts e2;obtain⟨h5,h6,h7⟩:=ih h3 e;refine⟨by rw [h5];simp,h6,fun i hi=>?_⟩;cases i with
     |zero=>exact⟨h4,by simp only [List.getElem_cons_zero,Nat.add_zero];omega⟩
     |succ i=>
      have:=h7 i (by simpa using hi);have e3:j+1+i=j+(i+1):=by omega
      rw [e3] at this;exact this
theorem D6(g:qE t)(hk1:k≤1000000){p:List (List Int)}(hpk:3 < k)(hl:∀l∈p,l.length < k):
 lA k t p=some (To (chkV t p)):=by
 unfold lA chkV
 by_cases c1:p.length < t.2.2.length
 ·
  rw [if_pos (show(p.length:Int) < (t.2.2.length:Int) by omega),if_pos c1];rfl
 ·
  rw [if_neg (show¬(p.length:Int) < (t.2.2.length:Int) by omega),if_neg c1];by_cases c2:t.2.2.length < p.length
  ·rw [if_pos (show(t.2.2.length:Int) < (p.length:Int) by omega),if_pos c2];rfl
  ·rw [if_neg (show¬(t.2.2.length:Int) < (p.length:Int) by omega),if_neg c2,A5 g hk1 (by omega) (by have:=g.trunks;omega) hl]
   have hne:bq (fo t) 0 p []≠.error 0:=kU (fun m j l=>by
    unfold fo;have:=kU (g:=fun m _ x=>jr t.2.1.length m x) (fun m _ x=>by unfold jr;split;(· simp);(· split <;> simp)) l 0 m;cases e:bq (fun m _ x=>jr t.2.1.length m x) 0 l m with
    |error e'=>intro h;rw [e] at this;exact this h
    |ok m'=>dsimp only;split <;> simp) _ _ _
   cases e:bq (fo t) 0 p [] with
   |error e'=>
    rw [e] at hne;have h0:¬e'=0:=fun h=>hne (by rw [h]);dsimp only;rw [mY,GF h0]
   |ok m=>
    obtain⟨_,h3,_⟩:=Db (t:=t) ⟨by simp,by simp⟩ e;dsimp only;rw [mX,bX (by omega),bs];have:=HJ g.things h3;by_cases c3:m.length < t.2.1.length
    ·rw [if_pos (show¬kP m=_ from fun h=>this.1 h c3),if_pos c3];rfl
    ·rw [if_neg (show¬¬kP m=_ from fun h=>h (this.2 c3)),if_neg c3];rfl
theorem rc(h:gw k t)(hpk:3 < k){p:List (List Int)}(hl:∀l∈p,l.length < k):cC k t p=some (jF t p):=by
 unfold cC jF;rw [tJ h,bs];by_cases c:j9 t=0
 ·have g:=ux c;rw [if_neg (not_not_intro c),if_neg (not_not_intro c),D6 g h.k1 hpk hl,bs];by_cases c1:chkV t p=0
  ·rw [c1];rfl
  ·rw [GF c1];rfl
 ·rw [if_pos c,if_pos c]
end
section
variable {k:Nat}{t:cF}
theorem BV{x:Int}(h:t.2.1.length≤1000000):kN k t x=some (decide (0≤x∧x≤(t.2.1.length:Int) - 1)):=by
 unfold kN;rw [bU (by omega) (by omega),bs,nB,bs]
def zu(t:cF)(s:List Int×Int)(x:Int):Except Int (List Int×Int):=match jr t.2.1.length s.1 x with
 | .error e=>.error e
 | .ok m=>.ok (m,s.2+lw t x)
theorem zt:∀(l:List Int) (j:Nat) (m:List Int) (s:Int),bq (fun s _ x=>zu t s x) j l (m,s)=match bq (fun m _ x=>jr t.2.1.length m x) j l m with | .error e=>.error e | .ok m'=>.ok (m',s+fF t l)
 |[],j,m,s=>by simp [bq,fF]
 |x::l,j,m,s=>by
  rw [bq,bq]
  have e:zu t (m,s) x=match jr t.2.1.length m x with | .error e=>.error e | .ok m'=>.ok (m',s+lw t x):=rfl
  rw [e]
  cases jr t.2.1.length m x with
  |error e'=>rfl
  |ok m1=>
   dsimp only
   rw [zt l (j+1) m1 _]
   cases bq (fun m _ x=>jr t.2.1.length m x) (j+1) l m1 with
   |error e'=>rfl
   |ok m2=>simp only [fF,Int.add_assoc]
theorem Jh(g:qE t)(hk:50≤k)(hk1:k≤1000000){p:List (List Int)}{i:Nat}(hi:i < p.length)(hl:p[i].length < k){m:List Int}(hm:vX t.2.1.length m):
 ct k t p (m,(i:Int)) k (m,0,0)=match bq (fun m _ x=>jr t.2.1.length m x) 0 p[i] m with | .error e=>some (.error e) | .ok m'=>some (.ok (m',fF t p[i])):=by
 have key:=pr (f:=ct k t p (m,(i:Int))) p[i] (fun(s:List Int×Int) j=>(s.1,s.2,j)) (fun s _ x=>zu t s x)
  (fun j s=>vX t.2.1.length s.1∧0≤s.2∧s.2≤3 * (j:Int)) (fun r=>match r with | .error e=>some (.error e) | .ok s=>some (.ok s))
  (fun n s j h hs=>by
   obtain⟨hm',hs0,hs1⟩:=hs;have hlen:=hm'.len;have h5:=g.things;have ho:=qP g (x:=p[i][j]);refine⟨?_,fun s' e=>?_⟩
   ·rw [ct];dsimp only;rw [cz hi,bs,if_pos (Int.ofNat_lt.2 h),bs,cz h,bs,BV (by omega),bs];unfold zu jr;by_cases c:0≤p[i][j]∧p[i][j]≤(t.2.1.length:Int) - 1
    ·rw [decide_eq_true c,nT,if_neg (not_not_intro c),bs,cz h,bs,MI (by omega) hk1,bs];by_cases c1:p[i][j]∈s.1
     ·rw [decide_eq_true c1,iT,if_pos c1]
     ·obtain⟨y,h1,h2,h3⟩:=zf (t:=t) (x:=p[i][j]) c.1 (by omega);rw [decide_eq_false c1,iF,if_neg c1,bs,cz h,bs,bX (C5 (by simp only [List.length_cons,List.length_nil];omega)),bs,bs,cz h,bs,h1,bs,←h3,bU (by omega) (by omega),bs,bU (by omega) (by omega),bs]
    ·rw [decide_eq_false c,nF,if_pos (show¬(0≤p[i][j]∧p[i][j]≤(t.2.1.length:Int) - 1) from c)]
   ·unfold zu at e;cases e1:jr t.2.1.length s.1 p[i][j] with
    |error e'=>rw [e1] at e;cases e
    |ok m1=>
     rw [e1] at e;cases e;exact⟨(hm'.put e1).2.1,by simp only;omega,by simp only;omega⟩)
  (fun n s _=>by
   rw [ct];dsimp only;rw [cz hi,bs,if_neg (by omega)]) (s0:=(m,0)) (n:=k) hl ⟨hm,by simp,by simp⟩
 rw [show ct k t p (m,(i:Int)) k (m,0,0)=_ from key,zt]
 cases bq (fun m _ x=>jr t.2.1.length m x) 0 p[i] m with
 |error e=>rfl
 |ok m'=>simp only [Int.zero_add]
theorem A6(g:qE t)(hk:50≤k)(hk1:k≤1000000){p:List (List Int)}(hp:p.length=t.2.2.length)(hl:∀l∈p,l.length < k):
 cD k t p k ([],0)=some (bq (fo t) 0 p []):=
 pr (f:=cD k t p) p (fun m j=>(m,j)) (fo t) (fun _ m=>vX t.2.1.length m) (fun r=>some r)
  (fun n m j h hm=>by
   have h3:=g.trunks
   refine⟨?_,fun m' e=>?_⟩
   ·
    rw [cD,if_pos (Int.ofNat_lt.2 h)]
    dsimp only
    rw [Jh g hk hk1 h (hl _ (List.getElem_mem h)) hm]
    unfold fo
    cases e:bq (fun m _ x=>jr t.2.1.length m x) 0 p[j] m with
    |error e'=>dsimp only;rw [mY,mY]
    |ok m'=>
     have hj:j < t.2.2.length:=by omega
     dsimp only
     rw [mX]
     dsimp only
     rw [cz hj,bs]
     have e2:t.2.2[j]?.getD 0=t.2.2[j]:=by rw [List.getElem?_eq_getElem hj];rfl
     rw [e2]
     by_cases c:t.2.2[j] < fF t p[j]
     ·
      rw [if_pos c,if_pos c,mY]
     ·
      rw [if_neg c,if_neg c,mX,bU (by omega) (by omega),bs]
   ·
    unfold fo at e
    cases e1:bq (fun m _ x=>jr t.2.1.length m x) 0 p[j] m with
    |error e'=>rw [e1] at e;cases e
    |ok m1=>
     rw [e1] at e
     dsimp only at e
     split at e
     ·
      cases e
     ·
      cases e;exact(hm.puts e1).2.1)
  (fun n m _=>by rw [cD,if_neg (by omega)]) (s0:=[]) (n:=k) (by have:=g.trunks;omega) ⟨by simp,by simp⟩
theorem rf(h:gw k t)(hk:50≤k){p:List (List Int)}(hl:∀l∈p,l.length < k):dM k t p=some (jF t p):=by
 unfold dM jF;rw [tK h,bs];by_cases c:j9 t=0
 ·have g:=ux c;rw [if_neg (not_not_intro c),if_neg (not_not_intro c)];unfold chkV;by_cases c1:p.length < t.2.2.length
  ·rw [if_pos (show(p.length:Int) < (t.2.2.length:Int) by omega),if_pos c1]
  ·rw [if_neg (show¬(p.length:Int) < (t.2.2.length:Int) by omega),if_neg c1];by_cases c2:t.2.2.length < p.length
   ·rw [if_pos (show(t.2.2.length:Int) < (p.length:Int) by omega),if_pos c2]
   ·rw [if_neg (show¬(t.2.2.length:Int) < (p.length:Int) by omega),if_neg c2,A6 g hk h.k1 (by omega) hl];cases bq (fo t) 0 p [] with
    |error e=>rw [mY]
    |ok m=>
     rw [mX];by_cases c3:m.length < t.2.1.length
     ·rw [if_pos (show(m.length:Int) < (t.2.1.length:Int) by omega)];simp only [c3,if_true]
     ·rw [if_neg (show¬(m.length:Int) < (t.2.1.length:Int) by omega)];simp only [c3,if_false]
 ·rw [if_pos c,if_pos c]
structure mL(t:cF)(p:List (List Int)):Prop where
 g:qE t
 len:p.length=t.2.2.length
 nd:p.flatten.Nodup
 rng:∀x∈p.flatten,0≤x∧x < (t.2.1.length:Int)
 all:∀i:Nat,i < t.2.1.length→(i:Int)∈p.flatten
 room:∀i (h:i < p.length),fF t p[i]≤t.2.2[i]?.getD 0
theorem Ak{p:List (List Int)}(h:jF t p=0):mL t p:=by
 unfold jF at h;by_cases c:j9 t=0
 ·rw [if_neg (not_not_intro c)] at h;have g:=ux c;unfold chkV at h;by_cases c1:p.length < t.2.2.length
  ·rw [if_pos c1] at h;cases h
  ·rw [if_neg c1] at h;by_cases c2:t.2.2.length < p.length
   ·rw [if_pos c2] at h;cases h
   ·rw [if_neg c2] at h;cases e:bq (fo t) 0 p [] with
    |error e'=>
     exfalso;rw [e] at h
     have hne:bq (fo t) 0 p []≠.error 0:=kU (fun m j l=>by
      unfold fo;have:=kU (g:=fun m _ x=>jr t.2.1.length m x) (fun m _ x=>by unfold jr;split;(· simp);(· split <;> simp)) l 0 m;cases e:bq (fun m _ x=>jr t.2.1.length m x) 0 l m with
      |error e'=>intro h;rw [e] at this;exact this h
      |ok m'=>dsimp only;split <;> simp) _ _ _
     rw [e] at hne;exact hne (congrArg _ h)
    |ok m=>
     rw [e] at h;obtain⟨h3,h4,h5⟩:=Db (t:=t) ⟨by simp,by simp⟩ e;rw [List.nil_append] at h3;subst h3;by_cases c3:p.flatten.length < t.2.1.length
     ·simp only [c3,if_true] at h;cases h
     ·exact⟨g,by omega,h4.nd,h4.rng,h4.full.1 c3,fun i hi=>by have:=(h5 i hi).2;rw [Nat.zero_add] at this;exact this⟩
 ·rw [if_pos c] at h;exact absurd h c
end
theorem Lo.mono{l:bR}{m n:Int}(h:Lo l m)(hn:m≤n):Lo l n:=⟨h.1,Int.le_trans h.2 hn⟩
theorem L6{α:Type}{l:List α}{x:α}{n:Nat}(h:l.length≤n)(hn:n≤1000000):bO (List.length l+List.length [x]):=by
 show List.length l+List.length [x]≤4294967296;simp only [List.length_cons,List.length_nil];omega
structure AQ(t:cF)(things trunks:Int):Prop where
 days:1≤t.1∧t.1≤4
 things:(t.2.1.length:Int)≤things
 item:∀x∈t.2.1,1≤x.1∧x.1≤3∧x.2.length≤4∧(∀d∈x.2,0≤d∧d < t.1)∧x.2.Pairwise (· < ·)
 trunks:1≤t.2.2.length∧(t.2.2.length:Int)≤trunks
 rooms:∀n∈t.2.2,0≤n∧n≤9
theorem yh{a b:Int}(ha:0≤a)(hb:0≤b):0≤jX a b∧jX a b≤a:=by
 unfold jX;split <;> omega
section
variable {k:Nat}
theorem IU(hk:50≤k){r2:Int×bR}(hd:1≤r2.1∧r2.1≤4){l:bR}{m:Int}(hl:Lo l m)(hm:0≤m∧m≤1000):
 W (eQ k r2 k (l.1,l.2.1,l.2.2,[],0)) fun r=>Lo (r.1,r.2.1,r.2.2.1) (m+4)∧r.2.2.2.length≤4∧(∀d∈r.2.2.2,0≤d∧d < r2.1)∧r.2.2.2.Pairwise (· < ·):=by
 refine W.loop (f:=eQ k r2) (fun q y=>∃j:Nat,y.2.2.2.2=(j:Int)∧(j:Int)≤r2.1∧q=r2.1.toNat - j∧Lo (y.1,y.2.1,y.2.2.1) (m+j)∧y.2.2.2.1.length≤j∧(∀d∈y.2.2.2.1,0≤d∧d < (j:Int))∧y.2.2.2.1.Pairwise (· < ·)) ?_ r2.1.toNat k _ (by omega)
  ⟨0,rfl,by omega,by omega,by simpa using hl,by simp,by simp,by simp⟩
 rintro aU q ⟨a,b,c,o,y⟩ ⟨j,hj,hle,hq,hlo,hlen,hr,hpw⟩ ih
 simp only at hj hlo hlen hr hpw
 subst hj
 unfold eQ
 dsimp only
 refine W.ite (fun hlt=>?_) (fun hge=>W.ret ⟨hlo.mono (by omega),by show o.length≤4;omega,fun d hd'=>by have:=hr d hd';omega,hpw⟩)
 obtain⟨r,er,hr'⟩:=CZ (k:=k) (a:=2) hlo (by omega) (by decide) (by decide)
 rw [er,bs]
 cases hb:r.1 with
 |true=>
  rw [iT,bX (L6 hlen (by omega)),bs,bs,bU (by omega) (by omega),bs]
  exact ih (q - 1) _ (by omega) ⟨j+1,by show(j:Int)+1=((j+1:Nat):Int);omega,by omega,by omega,hr'.mono (by omega),by simp only [List.length_append,List.length_cons,List.length_nil];omega,fun d hd'=>by
   rcases List.mem_append.1 hd' with h |h
   ·have:=hr d h;omega
   ·rw [List.mem_singleton] at h;omega,by
   refine List.pairwise_append.2 ⟨hpw,by simp,fun a ha b hb=>?_⟩;rw [List.mem_singleton] at hb;have:=hr a ha;omega⟩
 |false=>
  rw [iF,bs,bU (by omega) (by omega),bs];exact ih (q - 1) _ (by omega) ⟨j+1,by show(j:Int)+1=((j+1:Nat):Int);omega,by omega,by omega,hr'.mono (by omega),by simp only;omega,fun d hd'=>by have:=hr d hd';omega,hpw⟩
theorem Ec(hk:50≤k){r2:Int×bR}(hd:1≤r2.1∧r2.1≤4){l:bR}{m:Int}(hl:Lo l m)(hm:0≤m∧m≤100){n:Nat}(hn:n≤8):
 W (eR k r2 k (l.1,l.2.1,l.2.2,[],0,(n:Int))) fun r=>Lo (r.1,r.2.1,r.2.2.1) (m+50)∧r.2.2.2.1.length=n∧(∀x∈r.2.2.2.1,1≤x.1∧x.1≤3∧x.2.length≤4∧(∀d∈x.2,0≤d∧d < r2.1)∧x.2.Pairwise (· < ·))∧0≤r.2.2.2.2∧r.2.2.2.2≤30:=by
 refine W.loop (f:=eR k r2) (fun q y=>∃j:Nat,y.2.2.2.2.2=(n:Int) - (j:Int)∧j≤n∧q=n - j∧Lo (y.1,y.2.1,y.2.2.1) (m+5 * j)∧y.2.2.2.1.length=j∧(∀x∈y.2.2.2.1,1≤x.1∧x.1≤3∧x.2.length≤4∧(∀d∈x.2,0≤d∧d < r2.1)∧x.2.Pairwise (· < ·))∧0≤y.2.2.2.2.1∧y.2.2.2.2.1≤3 * j) ?_ n k _ (by omega)
  ⟨0,by simp,by omega,by omega,by simpa using hl,rfl,by simp,by simp,by simp⟩
 rintro aU q ⟨a,b,c,o,s,y⟩ ⟨j,hj,hle,hq,hlo,hlen,hx,hs0,hs1⟩ ih
 simp only at hj hlo hlen hx hs0 hs1
 subst hj
 unfold eR
 dsimp only
 refine W.ite (fun hlt=>?_) (fun hge=>W.ret ⟨hlo.mono (by omega),by show o.length=n;omega,hx,hs0,by show s≤30;omega⟩)
 obtain⟨r,er,hm1,hr⟩:=Lm (k:=k) (some_:=[1,1,1,2,3]) hlo (by omega) (by decide) (by decide)
 have hr3:1≤r.1∧r.1≤3:=by simp only [List.mem_cons,List.not_mem_nil,or_false] at hm1;omega
 rw [er,bs]
 obtain⟨w,ew,hw1,hw2,hw3,hw4⟩:=IU hk hd (l:=r.2) hr (by omega)
 rw [show eQ k r2 k (r.2.1,r.2.2.1,r.2.2.2,[],0)=some w from ew,bs,bX (L6 (n:=8) (by omega) (by omega)),bs,bU (by omega) (by omega),bs,bs,bU (by omega) (by omega),bs]
 refine ih (q - 1) _ (by omega) ⟨j+1,by show(n:Int) - (j:Int) - 1=(n:Int) - ((j+1:Nat):Int);omega,by omega,by omega,hw1.mono (by omega),by simp only [List.length_append,List.length_cons,List.length_nil];omega,fun x hx'=>?_,by show 0≤s+r.1;omega,by show s+r.1≤3 * ((j+1:Nat):Int);omega⟩
 rcases List.mem_append.1 hx' with h |h
 ·
  exact hx x h
 ·
  rw [List.mem_singleton] at h;subst h;exact⟨hr3.1,hr3.2,hw2,hw3,hw4⟩
theorem Eb(hk:50≤k){x4:(List Int)×Int×Int×(List gu)×Int}(hs:0≤x4.2.2.2.2∧x4.2.2.2.2≤30){l:bR}{m:Int}(hl:Lo l m)(hm:0≤m∧m≤200){n:Nat}(hn:n≤8):
 W (eP k x4 k (l.1,l.2.1,l.2.2,[],(n:Int))) fun r=>Lo (r.1,r.2.1,r.2.2.1) (m+10)∧r.2.2.2.length=n∧(∀x∈r.2.2.2,0≤x∧x≤9):=by
 refine W.loop (f:=eP k x4) (fun q y=>∃j:Nat,y.2.2.2.2=(n:Int) - (j:Int)∧j≤n∧q=n - j∧Lo (y.1,y.2.1,y.2.2.1) (m+j)∧y.2.2.2.1.length=j∧(∀x∈y.2.2.2.1,0≤x∧x≤9)) ?_ n k _ (by omega)
  ⟨0,by simp,by omega,by omega,by simpa using hl,rfl,by simp⟩
 rintro aU q ⟨a,b,c,o,y⟩ ⟨j,hj,hle,hq,hlo,hlen,hx⟩ ih
 simp only at hj hlo hlen hx
 subst hj
 unfold eP
 dsimp only
 refine W.ite (fun hlt=>?_) (fun hge=>W.ret ⟨hlo.mono (by omega),by show o.length=n;omega,hx⟩)
 rw [bU (by omega) (by omega),bs]
 obtain⟨r,er,hm1,hr⟩:=Lm (k:=k) (some_:=[1,2,3,jX 9 x4.2.2.2.2,jX 9 (x4.2.2.2.2+1)]) hlo (by omega) (by simp) (by simp)
 have i1:=yh (a:=9) (b:=x4.2.2.2.2) (by decide) hs.1
 have i2:=yh (a:=9) (b:=x4.2.2.2.2+1) (by decide) (by omega)
 have hr3:0≤r.1∧r.1≤9:=by simp only [List.mem_cons,List.not_mem_nil,or_false] at hm1;omega
 rw [er,bs,bX (L6 (n:=8) (by omega) (by omega)),bs,bU (by omega) (by omega),bs]
 refine ih (q - 1) _ (by omega) ⟨j+1,by show(n:Int) - (j:Int) - 1=(n:Int) - ((j+1:Nat):Int);omega,by omega,by omega,hr.mono (by omega),by simp only [List.length_append,List.length_cons,List.length_nil];omega,fun x hx'=>?_⟩
 rcases List.mem_append.1 hx' with h |h
 ·
  exact hx x h
 ·
  rw [List.mem_singleton] at h;subst h;exact hr3
theorem I5(hk:50≤k){l:bR}{m:Int}(hl:Lo l m)(hm:0≤m∧m≤50){a b:Nat}(ha:a≤8)(hb:1≤b∧b≤8):
 W (kw k l (a:Int) (b:Int)) fun r=>AQ r.1 a b∧Lo r.2 (m+100):=by
 unfold kw
 obtain⟨r,er,h1,h2,h3⟩:=HB (k:=k) (a:=1) (b:=4) hl (by omega) (by decide) (by decide) (by decide)
 rw [show eT k (l.1,l.2.1,l.2.2) 1 4=some r from er,bs]
 obtain⟨r6,e6,h61,h62,h63⟩:=HB (k:=k) (a:=0) (b:=(a:Int)) h3 (by omega) (by decide) (by omega) (by omega)
 rw [show eT k (r.2.1,r.2.2.1,r.2.2.2) 0 (a:Int)=some r6 from e6,bs]
 obtain⟨n,hn⟩:=Int.eq_ofNat_of_zero_le h61
 obtain⟨x4,e4,hl4,hlen4,hit,hs0,hs1⟩:=Ec hk (r2:=r) ⟨h1,h2⟩ h63 (by omega) (n:=n) (by omega)
 rw [show eR k r k (r6.2.1,r6.2.2.1,r6.2.2.2,[],0,r6.1)=some x4 by rw [hn];exact e4,bs]
 obtain⟨r31,e31,h311,h312,h313⟩:=HB (k:=k) (a:=1) (b:=(b:Int)) hl4 (by omega) (by decide) (by omega) (by omega)
 rw [show eT k (x4.1,x4.2.1,x4.2.2.1) 1 (b:Int)=some r31 from e31,bs]
 obtain⟨n3,hn3⟩:=Int.eq_ofNat_of_zero_le (show 0≤r31.1 by omega)
 obtain⟨x29,e29,hl29,hlen29,hroom⟩:=Eb hk (x4:=x4) ⟨hs0,hs1⟩ h313 (by omega) (n:=n3) (by omega)
 rw [show eP k x4 k (r31.2.1,r31.2.2.1,r31.2.2.2,[],r31.1)=some x29 by rw [hn3];exact e29,bs]
 obtain⟨r42,e42,h42⟩:=CZ (k:=k) (a:=2) hl29 (by omega) (by decide) (by decide)
 rw [show fY k (x29.1,x29.2.1,x29.2.2.1) 2=some r42 from e42,bs]
 cases hb:r42.1 with
 |true=>
  have i1:=yh (a:=9) (b:=x4.2.2.2.2) (by decide) hs0;rw [iT,show aX x29.2.2.2 0=some (x29.2.2.2[0]'(by omega)) from cz (i:=0) (by omega),bs,bs];refine W.ret ⟨⟨⟨h1,h2⟩,by show(x4.2.2.2.1.length:Int)≤_;omega,hit,by simp only [List.length_set];omega,fun y hy=>?_⟩,h42.mono (by omega)⟩;rcases List.mem_or_eq_of_mem_set hy with h |h
  ·exact hroom y h
  ·omega
 |false=>
  rw [iF,bs];exact W.ret ⟨⟨⟨h1,h2⟩,by show(x4.2.2.2.1.length:Int)≤_;omega,hit,by simp only;omega,hroom⟩,h42.mono (by omega)⟩
theorem pY{α:Type}{g:Nat→α→Except Int Unit}:∀(l:List α) (i:Nat),(∀(j:Nat) (h:j < l.length),g (i+j) l[j]= .ok ())→bq (fun(_:Unit) j x=>g j x) i l ()= .ok ()
 |[],_,_=>rfl
 |x::l,i,h=>by
  have h0:g i x= .ok ():=h 0 (by simp)
  rw [bq,h0]
  exact pY l (i+1) fun j hj=>by
   have:=h (j+1) (by simp;omega)
   rw [show i+1+j=i+(j+1) by omega]
   exact this
theorem AQ.chk{t:cF}{a b:Int}(h:AQ t a b)(ha:a≤5)(hb:b≤3):j9 t=0:=by
 have h1:=h.days;have h2:=h.things;have h3:=h.trunks;unfold j9
 rw [if_neg (not_not_intro (show 1≤t.1∧t.1≤6 by omega)),if_neg (show¬5 < t.2.1.length by omega),pY (g:=fun _ x=>jW t.1 x) t.2.1 0 (fun j hj=>by
  obtain⟨a1,a2,_,a4,a5⟩:=h.item _ (List.getElem_mem hj);show jW t.1 t.2.1[j]= .ok ();unfold jW;rw [if_neg (not_not_intro ⟨a1,a2⟩)];refine pY (g:=fun i y=>uo t.1 t.2.1[j].2 i y) _ 0 (fun i hi=>?_);have hd:=a4 _ (List.getElem_mem hi);rw [Nat.zero_add];unfold uo;rw [if_neg (not_not_intro (show 0≤t.2.1[j].2[i]∧t.2.1[j].2[i]≤t.1 - 1 by omega)),if_neg];rintro⟨h0,hle⟩;have:=List.pairwise_iff_getElem.1 a5 (i - 1) i (by omega) hi (by omega);rw [List.getElem?_eq_getElem (show i - 1 < t.2.1[j].2.length by omega),Option.getD_some] at hle;omega)]
 simp only [show¬t.2.2.length < 1 by omega,show¬3 < t.2.2.length by omega,if_false]
 rw [pY (g:=fun _ n=>lm n) t.2.2 0 (fun j hj=>by
  have:=h.rooms _ (List.getElem_mem hj);show lm t.2.2[j]= .ok ();unfold lm;rw [if_pos this])]
 rfl
end
section
variable {k:Nat}
theorem Hk(hk:50≤k){l:bR}{m:Int}{n:Nat}(hl:Lo l m)(hm:0≤m∧m≤1000)(hn:n≤8):W (gq k l (n:Int)) fun r=>Lo r.2 (m+10)∧r.1.length=n∧∀x∈r.1,0≤x∧x < (n:Int):=by
 unfold gq;refine W.bind (R:=fun r=>Lo (r.2.1,r.2.2.1,r.2.2.2) (m+10)∧r.1.length=n∧∀x∈r.1,0≤x∧x < (n:Int)) ?_ fun r h=>W.ret h
 refine W.loop (f:=ek k (n:Int)) (fun q y=>∃j:Nat,y.2.2.2.2=(j:Int)∧j≤n∧q=n - j∧Lo (y.1,y.2.1,y.2.2.1) (m+j)∧y.2.2.2.1.length=j∧∀x∈y.2.2.2.1,0≤x∧x < (n:Int)) ?_ n k _ (by omega)
  ⟨0,rfl,by omega,by omega,by simpa using hl,rfl,by simp⟩
 rintro aU q ⟨nums,d,s,o,y⟩ ⟨j,hj,hle,hq,hlo,hlen,hx⟩ ih;simp only at hj hlo hlen hx;subst hj;unfold ek;dsimp only;refine W.ite (fun hlt=>?_) (fun hge=>W.ret ⟨hlo.mono (by omega),by show o.length=n;omega,hx⟩);obtain⟨r5,e5,a5,b5,c5⟩:=ry (k:=k) (n:=(j:Int)) hlo (by omega) (by omega);have b5:=b5 (by omega);have ho:(o++[(j:Int)]).length=j+1:=by simp [hlen]
 have hr5:r5.1.toNat < (o++[(j:Int)]).length:=by omega
 have hmem:∀x∈o++[(j:Int)],0≤x∧x < (n:Int):=fun x hx'=>by
  rcases List.mem_append.1 hx' with h |h
  ·exact hx x h
  ·simp only [List.mem_singleton] at h;omega
 rw [e5,bs,bX (L6 (n:=8) (by omega) (by omega)),bs,oc a5 hr5,bs,cz (by omega),bs];have hgs:aX (List.set (o++[(j:Int)]) (Int.toNat (j:Int)) (o++[(j:Int)])[r5.1.toNat]) r5.1=some ((List.set (o++[(j:Int)]) (Int.toNat (j:Int)) (o++[(j:Int)])[r5.1.toNat])[r5.1.toNat]'(by rw [List.length_set];exact hr5)):=oc a5 (by rw [List.length_set];exact hr5);rw [hgs,bs,bU (by omega) (by omega),bs];refine ih (q - 1) (_,_,_,_,(j:Int)+1) (by omega) ⟨j+1,by show(j:Int)+1=((j+1:Nat):Int);omega,by omega,by omega,c5.mono (by omega),by simp [hlen],fun x hx'=>?_⟩;rcases List.mem_or_eq_of_mem_set hx' with h |h
 ·rcases List.mem_or_eq_of_mem_set h with h |h
  ·exact hmem x h
  ·subst h;exact hmem _ (List.getElem_mem hr5)
 ·subst h;omega
theorem IT{a b:Int}(ha:0≤a∧a≤1000000)(hb:0 < b∧b≤1000000):W (jU k a b) fun r=>0≤r∧r < b:=by
 unfold jU;have e1:Int.tmod a b=a % b:=Int.tmod_eq_emod_of_nonneg ha.1;have h1:=Int.emod_nonneg a (show b≠0 by omega);have h2:=Int.emod_lt_of_pos a hb.1;rw [bX (show b≠0 by omega),bs,e1,bU (by omega) (by omega),bs,bs];have e2:Int.tmod (a % b+b) b=(a % b+b) % b:=Int.tmod_eq_emod_of_nonneg (by omega);rw [e2];exact W.ret ⟨Int.emod_nonneg _ (by omega),Int.emod_lt_of_pos _ hb.1⟩
structure Pk(N i:Nat)(room:List Int)(out:List (List Int)):Prop where
 rl:room.length=N
 ol:out.length=N
 rr:∀x∈room, -3 * (i:Int)≤x∧x≤9
 oo:∀l∈out,l.length≤i
theorem Pk.next{N i:Nat}{room:List Int}{out:List (List Int)}(h:Pk N i room out):Pk N (i+1) room out:=
 ⟨h.rl,h.ol,fun x hx=>by have:=h.rr x hx;omega,fun l hl=>by have:=h.oo l hl;omega⟩
theorem Gu(hk:50≤k){t:cF}{a b:Int}(ht:AQ t a b){r7:(List Int)×bR}(h7:∀x∈r7.1,0≤x∧x < (t.2.1.length:Int))
 {y:(List Int)×Int×Int×(List Int)×Int×(List (List Int))} {i N:Nat} (hi:y.2.2.2.2.1=(i:Int)) (hil:i < r7.1.length) (hi8:i≤8) (hN:N≤8) (hp:Pk N i y.2.2.2.1 y.2.2.2.2.2)
 {r15:Int×bR} {m:Int} (h15:0≤r15.1∧r15.1≤100) (hlo:Lo r15.2 m):
 W (dt k t r7 y r15 k (0,y.2.2.2.2.2)) fun r=>Lo (r.1,r.2.1,r.2.2.1) m∧Pk N (i+1) r.2.2.2.1 r.2.2.2.2:=by
 refine W.loop (f:=dt k t r7 y r15) (fun q z=>∃j:Nat,z.1=(j:Int)∧j≤N∧q=N - j∧z.2=y.2.2.2.2.2) ?_ N k _ (by omega) ⟨0,rfl,by omega,by omega,rfl⟩
 rintro aU q ⟨z,o⟩ ⟨j,hj,hle,hq,ho⟩ ih
 simp only at hj ho
 subst hj ho
 have hrl:=hp.rl
 have hol:=hp.ol
 unfold dt
 dsimp only
 refine W.ite (fun hlt=>?_) (fun hge=>W.ret ⟨hlo,hp.next⟩)
 rw [bU (by omega) (by omega),bs]
 obtain⟨r19,e19,h190,h191⟩:=IT (k:=k) (a:=r15.1+(j:Int)) (b:=(y.2.2.2.1.length:Int)) (by omega) (by omega)
 have hw:r19.toNat < y.2.2.2.1.length:=by omega
 have hx:=h7 _ (List.getElem_mem hil)
 have hx2:(r7.1[i]).toNat < t.2.1.length:=by omega
 have hsz:=ht.item _ (List.getElem_mem hx2)
 have hrr:=hp.rr _ (List.getElem_mem hw)
 rw [e19,bs,oc h190 hw,bs,hi,cz hil,bs,oc hx.1 hx2,bs]
 have put:W ((aX y.2.2.2.2.2 r19).bind fun x26=>(some r7.1[i]).bind fun x27=>(cp (bO (List.length x26+List.length [x27]))).bind fun _=>
  (some y.2.2.2.1[r19.toNat]).bind fun x30=>(some r7.1[i]).bind fun x31=>(aX t.2.1 x31).bind fun x32=>(ck (x30 - x32.1)).bind fun x33=>
  (some y.2.2.2.1[r19.toNat]).bind fun x35=>some (r15.2.1,r15.2.2.1,r15.2.2.2,List.set y.2.2.2.1 (Int.toNat r19) x33,List.set y.2.2.2.2.2 (Int.toNat r19) (x26++[x27])))
  fun r=>Lo (r.1,r.2.1,r.2.2.1) m∧Pk N (i+1) r.2.2.2.1 r.2.2.2.2:=by
  have hw2:r19.toNat < y.2.2.2.2.2.length:=by omega
  have hoo:=hp.oo _ (List.getElem_mem hw2);rw [oc h190 hw2,bs,bs,bX (L6 (n:=8) (by omega) (by omega)),bs,bs,bs,oc hx.1 hx2,bs,bU (by omega) (by omega),bs,bs];refine W.ret ⟨hlo,⟨by simp only [List.length_set];exact hrl,by simp only [List.length_set];exact hol,fun x hx=>?_,fun l hl=>?_⟩⟩
  ·rcases List.mem_or_eq_of_mem_set hx with h |h
   ·have:=hp.rr x h;omega
   ·omega
  ·rcases List.mem_or_eq_of_mem_set hl with h |h
   ·have:=hp.oo l h;omega
   ·subst h;simp only [List.length_append,List.length_cons,List.length_nil];omega
 refine W.iteB (fun c=>?_) (fun c=>?_)
 ·
  rw [bs,iT];exact put
 ·
  rw [bU (by omega) (by omega),bs,bs];dsimp only;by_cases c1:(j:Int)=(y.2.2.2.1.length:Int) - 1
  ·rw [decide_eq_true c1,iT];exact put
  ·rw [decide_eq_false c1,iF,bU (by omega) (by omega),bs];exact ih (q - 1) _ (by omega) ⟨j+1,by show(j:Int)+1=((j+1:Nat):Int);omega,by omega,by omega,rfl⟩
theorem vg(hk:50≤k){t:cF}{a b:Nat}(ht:AQ t a b)(ha:a≤8)(hb:b≤8){l:bR}{m:Int}(hl:Lo l m)(hm:0≤m∧m≤500):
 W (eS k l t) fun r=>r.1.length=t.2.2.length∧(∀x∈r.1,x.length≤8)∧Lo r.2 (m+20):=by
 have h1:=ht.things
 have h2:=ht.trunks
 unfold eS
 rw [bX (by exact⟨by omega,C5 (by omega)⟩),bs,bX (C5 (by simp only [List.length_nil];omega)),bs]
 obtain⟨r7,e7,hlo7,hlen7,hr7⟩:=Hk hk hl (by omega) (n:=t.2.1.length) (by omega)
 rw [show gq k (l.1,l.2.1,l.2.2) (t.2.1.length:Int)=some r7 from e7,bs]
 refine W.bind (R:=fun r=>Lo (r.1,r.2.1,r.2.2.1) (m+20)∧r.2.2.2.length=t.2.2.length∧∀x∈r.2.2.2,x.length≤8) ?_ fun r h=>W.ret ⟨h.2.1,h.2.2,h.1⟩
 refine W.loop (f:=eW k t r7) (fun q y=>∃j:Nat,y.2.2.2.2.1=(j:Int)∧j≤r7.1.length∧q=r7.1.length - j∧Lo (y.1,y.2.1,y.2.2.1) (m+10+j)∧Pk t.2.2.length j y.2.2.2.1 y.2.2.2.2.2) ?_ r7.1.length k _ (by omega)
  ⟨0,rfl,by omega,by omega,by simpa using hlo7,⟨by simp,by simp,fun x hx=>by have:=ht.rooms x (by simpa using hx);omega,fun l hl=>by simp at hl;simp [hl.2]⟩⟩
 rintro aU q ⟨nums,d,s,room,y,o⟩ ⟨j,hj,hle,hq,hlo,hp⟩ ih
 simp only at hj hlo hp
 subst hj
 have hrl:=hp.rl
 unfold eW
 dsimp only
 refine W.ite (fun hlt=>?_) (fun hge=>W.ret ⟨hlo.mono (by omega),hp.ol,fun x hx=>by have:=hp.oo x hx;omega⟩)
 rw [bU (by omega) (by omega),bs]
 obtain⟨r15,e15,a15,b15,c15⟩:=ry (k:=k) (n:=(room.length:Int) - 1) hlo (by omega) (by omega)
 have b15:=b15 (by omega)
 rw [e15,bs]
 obtain⟨r,er,h3,h4⟩:=Gu hk ht (r7:=r7) hr7 (y:=(nums,d,s,room,(j:Int),o)) (i:=j) (N:=t.2.2.length) rfl (by omega) (by omega) (by omega) hp (r15:=r15) ⟨a15,by omega⟩ c15
 rw [show dt k t r7 (nums,d,s,room,(j:Int),o) r15 k (0,o)=some r from er,bs,bU (by omega) (by omega),bs]
 exact ih (q - 1) _ (by omega) ⟨j+1,by show(j:Int)+1=((j+1:Nat):Int);omega,by omega,by omega,h3.mono (by omega),h4⟩
structure DU(t:cF)(p:List (List Int))(a:Int):Prop where
 kit:AQ t a 3
 len:p.length=t.2.2.length
 short:∀l∈p,l.length≤8
theorem DU.small{t:cF}{p:List (List Int)}{a:Nat}(h:DU t p a)(hk:50≤k)(hk1:k≤1000000)(ha:a≤8):gw k t:=
 ⟨hk1,by have:=h.kit.things;omega,fun x hx=>by have:=h.kit.item x hx;omega,by have:=h.kit.trunks;omega⟩
end
section
variable {k:Nat}
end
section
variable {k:Nat}
structure Oe(p:List (List Int)):Prop where
 len:p.length≤3
 fit:∀l∈p,l.length≤5∧∀x∈l,0≤x∧x < 8
theorem Oe.at{p:List (List Int)}(h:Oe p)(i:Nat):(p[i]?.getD []).length≤5∧∀x∈p[i]?.getD [],0≤x∧x < 8:=by
 rcases Nat.lt_or_ge i p.length with hi |hi
 ·rw [List.getElem?_eq_getElem hi];exact h.fit _ (List.getElem_mem hi)
 ·rw [List.getElem?_eq_none hi];simp
theorem Oe.next{p:List (List Int)}(h:Oe p){w:Int→Bool}:Oe (p.map (OQ w)):=
 ⟨by rw [List.length_map];exact h.len,fun l hl=>by
  obtain⟨q,hq,rfl⟩:=List.mem_map.1 hl
  have:=h.fit q hq
  exact⟨by rw [rY.length_eq];exact this.1,fun x hx=>this.2 x (rY.mem_iff.1 hx)⟩⟩
structure QL(k:Nat)(t:cF):Prop where
 k0:50≤k
 k1:k≤1000000
 things:t.2.1.length≤8
 worn:∀x∈t.2.1,x.2.length < k
theorem mL.fit{t:cF}{p:List (List Int)}(h:mL t p):Oe p:=by
 have h5:=h.g.things;refine⟨by have:=h.len;have:=h.g.trunks;omega,fun l hl=>?_⟩;have hsub:∀x∈l,x∈p.flatten:=fun x hx=>List.mem_flatten.2 ⟨l,hl,hx⟩;have hnd:l.Nodup:=(List.pairwise_flatten.1 h.nd).1 l hl;have hr:∀x∈l,0≤x∧x < (t.2.1.length:Int):=fun x hx=>h.rng x (hsub x hx);have:=xP _ l hnd hr;exact⟨by omega,fun x hx=>by have:=hr x hx;omega⟩
end
section
variable {k:Nat}
def Aw(t:cF)(d:Int)(p:List (List Int)):List (List Int):=p.map (OQ (Tf t d))
def NL(t:cF)(p:List (List Int)):Nat→List (List Int)
 |0=>p
 |n+1=>Aw t n (NL t p n)
theorem Bh{t:cF}{l l':List Int}(h:l.Perm l'):fF t l=fF t l':=by
 induction h with
 |nil=>rfl
 |cons x _ ih=>simp only [fF,ih]
 |swap x y l=>simp only [fF];omega
 |trans _ _ h1 h2=>rw [h1,h2]
theorem E4{t:cF}{d:Int}{p:List (List Int)}:(Aw t d p).flatten.Perm p.flatten:=by
 unfold Aw
 induction p with
 |nil=>exact List.Perm.refl _
 |cons l p ih=>
  simp only [List.map_cons,List.flatten_cons];exact rY.append ih
theorem mL.next{t:cF}{d:Int}{p:List (List Int)}(h:mL t p):mL t (Aw t d p):=by
 have hp:=E4 (t:=t) (d:=d) (p:=p);refine⟨h.g,by unfold Aw;rw [List.length_map];exact h.len,hp.nodup_iff.2 h.nd,fun x hx=>h.rng x (hp.mem_iff.1 hx),fun i hi=>hp.mem_iff.2 (h.all i hi),fun i hi=>?_⟩;have hi':i < p.length:=by unfold Aw at hi;rwa [List.length_map] at hi
 have e:(Aw t d p)[i]=OQ (Tf t d) p[i]:=by simp only [Aw,List.getElem_map]
 rw [e,Bh rY];exact h.room i hi'
theorem mL.aft{t:cF}{p:List (List Int)}(h:mL t p):∀n,mL t (NL t p n)
 |0=>h
 |n+1=>(h.aft n).next
theorem C0{n:Nat}:∀{l:List Int} {j:Nat} {m:List Int},(m++l).Nodup→(∀x∈l,0≤x∧x < (n:Int))→bq (fun m _ x=>jr n m x) j l m= .ok (m++l)
 |[],j,m,_,_=>by simp [bq]
 |x::l,j,m,hn,hr=>by
  have hx:=hr x (by simp)
  have hnm:x∉m:=fun h=>by
   rw [List.nodup_append] at hn
   exact hn.2.2 x h x (by simp) rfl
  have e:jr n m x= .ok (m++[x]):=by
   unfold jr;rw [if_neg (not_not_intro (show 0≤x∧x≤(n:Int) - 1 by omega)),if_neg hnm]
  rw [bq,e];show bq _ (j+1) l (m++[x])=_;rw [C0 (by simpa using hn) (fun y hy=>hr y (by simp [hy]))];simp
theorem wB{t:cF}:∀{p:List (List Int)} {j:Nat} {m:List Int},(m++p.flatten).Nodup→(∀x∈p.flatten,0≤x∧x < (t.2.1.length:Int))→(∀i (h:i < p.length),fF t p[i]≤t.2.2[j+i]?.getD 0)→bq (fo t) j p m= .ok (m++p.flatten)
 |[],j,m,_,_,_=>by simp [bq]
 |l::p,j,m,hn,hr,hs=>by
  have h0:¬t.2.2[j]?.getD 0 < fF t l:=by have:=hs 0 (by simp);simp only [List.getElem_cons_zero,Nat.add_zero] at this;omega
  have e:fo t m j l= .ok (m++l):=by
   unfold fo;rw [C0 (by rw [List.flatten_cons,←List.append_assoc] at hn;exact(List.nodup_append.1 hn).1) (fun x hx=>hr x (by simp [hx]))];exact if_neg h0
  rw [bq,e];show bq _ (j+1) p (m++l)=_
  rw [wB (by simpa using hn) (fun x hx=>hr x (by rw [List.flatten_cons];exact List.mem_append_right _ hx)) (fun i hi=>by
   have:=hs (i+1) (by simp;omega);have e3:j+1+i=j+(i+1):=by omega
   rw [e3];exact this)]
  simp
theorem mL.chkV{t:cF}{p:List (List Int)}(h:mL t p):chkV t p=0:=by
 unfold Go.Proofs.YtmeojbemjkmebaaGreatDoor.chkV;have hl:=h.len;have e:=wB (t:=t) (j:=0) (m:=[]) (by simpa using h.nd) h.rng (fun i hi=>by rw [Nat.zero_add];exact h.room i hi);rw [if_neg (by omega),if_neg (by omega),e,List.nil_append];have hm:vX t.2.1.length p.flatten:=⟨h.nd,h.rng⟩;simp only [hm.full.2 h.all,if_false]
theorem mL.chk{t:cF}{p:List (List Int)}(h:mL t p)(ht:j9 t=0):jF t p=0:=by
 unfold jF;rw [if_neg (not_not_intro ht)];exact h.chkV
theorem yu{t:cF}{p:List (List Int)}(h:jF t p=0):j9 t=0:=by
 unfold jF at h;by_cases c:j9 t=0
 ·exact c
 ·rw [if_pos c] at h;exact h
structure At(k:Nat)(t:cF)(p:List (List Int)):Prop where
 small:gw k t
 dayT:QL k t
 chk:jF t p=0
theorem At.good{t:cF}{p:List (List Int)}(h:At k t p):mL t p:=Ak h.chk
theorem At.aft{t:cF}{p:List (List Int)}(h:At k t p)(n:Nat):At k t (NL t p n):=⟨h.small,h.dayT,(h.good.aft n).chk (yu h.chk)⟩
theorem At.ok{t:cF}{p:List (List Int)}(h:At k t p):cC k t p=some 0:=by
 have:=h.dayT.k0;rw [rc h.small (by omega) (fun l hl=>by have:=(h.good.fit.fit l hl).1;omega),h.chk]
theorem At.okR{t:cF}{p:List (List Int)}(h:At k t p):dM k t p=some 0:=by
 have:=h.dayT.k0;rw [rf h.small h.dayT.k0 (fun l hl=>by have:=(h.good.fit.fit l hl).1;omega),h.chk]
theorem DU.at{t:cF}{p:List (List Int)}{a:Nat}(h:DU t p a)(hk:50≤k)(hk1:k≤1000000)(ha:a≤8)(c:jF t p=0):At k t p:=by
 have hs:=h.small hk hk1 ha;exact⟨hs,⟨hk,hk1,by have:=(Ak c).g.things;omega,hs.worn⟩,c⟩
end
section
variable {k:Nat}
end
section
variable {k:Nat}
end
structure mf(k:Nat)(t:cF)(p:List (List Int)):Prop where
 k0:50≤k
 hs:gw k t
 hp:p.length < k
 hl:∀l∈p,l.length < k
section
variable {k:Nat}{t:cF}{p:List (List Int)}
theorem mf.dayT(h:mf k t p)(c:j9 t=0):QL k t:=⟨h.k0,h.hs.k1,by have:=(ux c).things;omega,h.hs.worn⟩
theorem mf.at(h:mf k t p)(c:jF t p=0):At k t p:=⟨h.hs,h.dayT (yu c),c⟩
def rh(k:Nat)(q:List (List Int)):Prop:=q.length < k∧∀l∈q,l.length < k
theorem rh.nil(hk:50≤k):rh k []:=⟨by show 0 < k;omega,fun _ h=>by cases h⟩
end
section
variable {k:Nat}{t:cF}{p:List (List Int)}
theorem mJ{l:List Int}(h:l.length≤1000000):fP k l=some l:=by
 unfold fP;rw [bX (C5 (by simp only [List.length_nil];omega)),bs];rfl
theorem AA(h:gw k t):jV k t=some t:=by
 have hk1:=h.k1;have h1:=h.things;have h2:=h.trunks;unfold jV;rw [mJ (by omega),bs]
 have hb:=W.loop (f:=fw k t) (Q:=fun o=>o=t.2.1) (fun m y=>∃j:Nat,y.2=(j:Int)∧j≤t.2.1.length∧m=t.2.1.length - j∧y.1=t.2.1.take j) (by
  rintro aU m ⟨o,y⟩ ⟨j,hj,hle,hm,ho⟩ ih;simp only at hj ho;subst hj ho;unfold fw;dsimp only;refine W.ite (fun hlt=>?_) (fun hge=>W.ret ?_)
  ·have hj:j < t.2.1.length:=by omega
   rw [cz hj,bs,bs,mJ (by have:=h.worn _ (List.getElem_mem hj);omega),bs,bX (C5 (by simp only [List.length_take,List.length_cons,List.length_nil];omega)),bs,bU (by omega) (by omega),bs];refine ih (m - 1) (_,(j:Int)+1) (by omega) ⟨j+1,by show(j:Int)+1=((j+1:Nat):Int);omega,by omega,by omega,?_⟩;rw [List.take_add_one,List.getElem?_eq_getElem hj];rfl
  ·rw [List.take_of_length_le (by omega)]) t.2.1.length k ([],0) h1 ⟨0,rfl,by omega,by omega,by simp⟩
 obtain⟨o,eo,rfl⟩:=hb;rw [eo,bs]
theorem yt(h:rh k p)(hk1:k≤1000000):je k p=some p:=by
 have h1:=h.1;unfold je
 have hb:=W.loop (f:=eX k p) (Q:=fun o=>o=p) (fun q y=>∃j:Nat,y.2=(j:Int)∧j≤p.length∧q=p.length - j∧y.1=p.take j) (by
  rintro aU q ⟨o,y⟩ ⟨j,hj,hle,hq,ho⟩ ih;simp only at hj ho;subst hj ho;unfold eX;dsimp only;refine W.ite (fun hlt=>?_) (fun hge=>W.ret ?_)
  ·have hj:j < p.length:=by omega
   rw [cz hj,bs,mJ (by have:=h.2 _ (List.getElem_mem hj);omega),bs,bX (C5 (by simp only [List.length_take,List.length_cons,List.length_nil];omega)),bs,bU (by omega) (by omega),bs];refine ih (q - 1) (_,(j:Int)+1) (by omega) ⟨j+1,by show(j:Int)+1=((j+1:Nat):Int);omega,by omega,by omega,?_⟩;rw [List.take_add_one,List.getElem?_eq_getElem hj];rfl
  ·rw [List.take_of_length_le (by omega)]) p.length k ([],0) h.1 ⟨0,rfl,by omega,by omega,by simp⟩
 obtain⟨o,eo,rfl⟩:=hb;rw [eo,bs]
theorem zk{l:List Int}(h:l.length < k)(hk1:k≤1000000):fO k l l=some true:=by rw [zl h (by omega)];simp
theorem xJ(h:rh k p)(hk1:k≤1000000):fX k p p=some true:=by
 unfold fX;rw [if_neg (by simp)];have h1:=h.1
 have hb:=W.loop (f:=eV k p p) (Q:=fun o=>o= .ok ()) (fun q y=>∃j:Nat,y=(j:Int)∧j≤p.length∧q=p.length - j) (by
  rintro aU q y ⟨j,hj,hle,hq⟩ ih;subst hj;unfold eV;refine W.ite (fun hlt=>?_) (fun hge=>W.ret rfl);have hj:j < p.length:=by omega
  rw [cz hj,bs,bs,zk (h.2 _ (List.getElem_mem hj)) hk1,bs,nT,bU (by omega) (by omega),bs];exact ih (q - 1) _ (by omega) ⟨j+1,by omega,by omega,by omega⟩) p.length k 0 h.1 ⟨0,rfl,by omega,by omega⟩
 obtain⟨o,eo,rfl⟩:=hb;rw [eo,mX]
structure IA(t:cF):Prop where
 things:t.2.1.length≤20
 trunks:t.2.2.length≤20
 worn:∀x∈t.2.1,x.2.length≤20
 few:¬(t.2.1.length=5∧t.2.2.length=3)
theorem IA.small(h:IA t)(hk:50≤k)(hk1:k≤1000000):gw k t:=⟨hk1,by have:=h.things;omega,fun x hx=>by have:=h.worn x hx;omega,by have:=h.trunks;omega⟩
theorem I1(hk:50≤k):W (pe k t) fun b=>b=false→IA t:=by
 unfold pe;by_cases c1:(20:Int) < (t.2.1.length:Int)
 ·rw [if_pos c1,bs,iT];exact W.ret fun h=>by cases h
 ·rw [if_neg c1,bs];by_cases c2:(20:Int) < (t.2.2.length:Int)
  ·rw [decide_eq_true c2,iT];exact W.ret fun h=>by cases h
  ·rw [decide_eq_false c2,iF]
   have hb:=W.loop (f:=jB k t) (Q:=fun o=>o= .error true∨(o= .ok ()∧∀x∈t.2.1,x.2.length≤20)) (fun q y=>∃j:Nat,y=(j:Int)∧j≤t.2.1.length∧q=t.2.1.length - j∧∀i (h:i < t.2.1.length),i < j→(t.2.1[i]).2.length≤20) (by
    rintro aU q y ⟨j,hj,hle,hq,ha⟩ ih;subst hj;unfold jB;refine W.ite (fun hlt=>?_) (fun hge=>W.ret (.inr ⟨rfl,fun x hx=>?_⟩))
    ·have hj:j < t.2.1.length:=by omega
     rw [cz hj,bs];refine W.ite (fun hc=>W.ret (.inl rfl)) (fun hc=>?_);rw [bU (by omega) (by omega),bs];refine ih (q - 1) _ (by omega) ⟨j+1,by omega,by omega,by omega,fun i hi hij=>?_⟩;by_cases e:i=j
     ·subst e;omega
     ·exact ha i hi (by omega)
    ·obtain⟨i,hi,rfl⟩:=List.getElem_of_mem hx;exact ha i hi (by omega)) t.2.1.length k 0 (show t.2.1.length < k by omega) ⟨0,rfl,by omega,by omega,fun i _ h=>by omega⟩
   refine W.bEE hb (fun e he=>?_) (fun u hu=>?_)
   ·rcases he with he |he
    ·cases he;exact W.ret fun h=>by cases h
    ·cases he.1
   ·rcases hu with hu |hu
    ·cases hu
    ·by_cases c3:(t.2.1.length:Int)=5
     ·rw [if_pos c3,bs];exact W.ret fun h=>⟨by omega,by omega,hu.2,fun hh=>of_decide_eq_false h (by omega)⟩
     ·rw [if_neg c3,bs];exact W.ret fun h=>⟨by omega,by omega,hu.2,fun hh=>by omega⟩
theorem IY(hk:50≤k):W (o7 k p) fun b=>b=false→p.length≤20∧∀l∈p,l.length≤20:=by
 unfold o7
 have hb:=W.loop (f:=jA k p) (Q:=fun o=>o= .error true∨(o= .ok ()∧(p.length≤20→∀x∈p,x.length≤20))) (fun q y=>∃j:Nat,y=(j:Int)∧j≤p.length∧j≤20∧q=20 - j∧∀i (h:i < p.length),i < j→(p[i]).length≤20) (by
  rintro aU q y ⟨j,hj,hle,h20,hq,ha⟩ ih;subst hj;unfold jA;by_cases c1:(j:Int) < (p.length:Int)
  ·rw [if_pos c1,bs];by_cases c2:(j:Int) < 20
   ·have hj:j < p.length:=by omega
    rw [decide_eq_true c2,iT,cz hj,bs];refine W.ite (fun hc=>W.ret (.inl rfl)) (fun hc=>?_);rw [bU (by omega) (by omega),bs];refine ih (q - 1) _ (by omega) ⟨j+1,by omega,by omega,by omega,by omega,fun i hi hij=>?_⟩;by_cases e:i=j
    ·subst e;omega
    ·exact ha i hi (by omega)
   ·rw [decide_eq_false c2,iF];refine W.ret (.inr ⟨rfl,fun h=>by omega⟩)
  ·rw [if_neg c1,bs,iF];refine W.ret (.inr ⟨rfl,fun _ x hx=>?_⟩);obtain⟨i,hi,rfl⟩:=List.getElem_of_mem hx;exact ha i hi (by omega)) 20 k 0 (by omega) ⟨0,rfl,by omega,by omega,by omega,fun i _ h=>by omega⟩
 refine W.bEE hb (fun e he=>?_) (fun u hu=>?_)
 ·rcases he with he |he
  ·cases he;exact W.ret fun h=>by cases h
  ·cases he.1
 ·rcases hu with hu |hu
  ·cases hu
  ·exact W.ret fun h=>⟨by have:=of_decide_eq_false h;omega,hu.2 (by have:=of_decide_eq_false h;omega)⟩
structure Ob(k:Nat)(ts:List cF)(ps:List (List (List Int))):Prop where
 l1:ts.length=4
 l2:ps.length=4
 at_:∀j:Nat,j < 4→∃t p,aX ts (j:Int)=some t∧aX ps (j:Int)=some p∧mf k t p
theorem Ob.of{a b c d:cF}{p q r s:List (List Int)}(h0:mf k a p)(h1:mf k b q)(h2:mf k c r)(h3:mf k d s):Ob k [a,b,c,d] [p,q,r,s]:=
 ⟨rfl,rfl,fun j hj=>by
  match j,hj with
  |0,_=>exact⟨_,_,rfl,rfl,h0⟩
  |1,_=>exact⟨_,_,rfl,rfl,h1⟩
  |2,_=>exact⟨_,_,rfl,rfl,h2⟩
  |3,_=>exact⟨_,_,rfl,rfl,h3⟩⟩
theorem AQ.small{a b:Int}(h:AQ t a b)(ha:a≤8)(hb:b≤8)(hk:50≤k)(hk1:k≤1000000):gw k t:=
 ⟨hk1,by have:=h.things;omega,fun x hx=>by have:=(h.item x hx).2.2.1;omega,by have:=h.trunks;omega⟩
theorem mf.of(hk:50≤k)(hs:gw k t)(hp:p.length≤20)(hl:∀l∈p,l.length≤20):mf k t p:=⟨hk,hs,by omega,fun l h=>by have:=hl l h;omega⟩
theorem Bj(hk:50≤k)(hk1:k≤1000000){x:gu}(ht:gw k t)(hp:p.length≤20)(hl:∀l∈p,l.length≤20)(hx:x.2.length≤20){l:bR}{m:Int}(hlo:Lo l m)(hm:0≤m∧m≤10):
 W (kR k t x p l) fun r=>Ob k r.1 r.2.1∧Lo r.2.2 (m+200):=by
 unfold kR
 obtain⟨r3,e3,hT,hl3⟩:=I5 hk hlo (by omega) (a:=4) (b:=3) (by omega) (by omega)
 have hT3:=hT.things
 have hTt:=hT.trunks
 have hs3:=hT.small (k:=k) (by omega) (by omega) hk hk1
 rw [show kw k (l.1,l.2.1,l.2.2) (4:Int) 3=some r3 from e3,bs,AA hs3,bs,mJ (by omega),bs,bX (L6 (n:=100) (by omega) (by omega)),bs]
 obtain⟨r12,e12,h1,h2,h3⟩:=vg hk hT (by omega) (by omega) hl3 (by omega)
 rw [show eS k (r3.2.1,r3.2.2.1,r3.2.2.2) r3.1=some r12 from e12,bs]
 obtain⟨r13,e13,g1,g2,g3⟩:=vg hk hT (by omega) (by omega) h3 (by omega)
 rw [show eS k (r12.2.1,r12.2.2.1,r12.2.2.2) r3.1=some r13 from e13,bs,bU (by omega) (by omega),bs]
 have hsO:∀T:List Int,T.length=r3.1.2.2.length→gw k (r3.1.1,r3.1.2.1++[(x.1,x.2)],T):=fun T hT'=>⟨hk1,by show(r3.1.2.1++[(x.1,x.2)]).length < k;rw [List.length_append];simp only [List.length_cons,List.length_nil];omega,fun y hy=>by
  rcases List.mem_append.1 hy with hy |hy
  ·exact hs3.worn y hy
  ·rw [List.mem_singleton] at hy;subst hy;show x.2.length < k;omega,by show T.length < k;omega⟩
 have s0:mf k t p:=.of hk ht hp hl
 have s1:mf k r3.1 r12.1:=.of hk hs3 (by omega) (fun l h=>by have:=h2 l h;omega)
 have s2:mf k r3.1 p:=.of hk hs3 hp hl
 by_cases c:(r3.1.2.2.length:Int) < 3
 ·
  have hi:((r3.1.2.2.length:Int) - 1).toNat=r3.1.2.2.length - 1:=by omega
  have hr:r3.1.2.2.length - 1 < r3.1.2.2.length:=by omega
  have hroom:=hT.rooms _ (List.getElem_mem hr);have hg:aX r3.1.2.2 ((r3.1.2.2.length:Int) - 1)=some r3.1.2.2[r3.1.2.2.length - 1]:=HF (by omega) (by rw [hi];exact List.getElem?_eq_getElem hr);have hr':r3.1.2.2.length - 1 < r13.1.length:=by omega
  have hg':aX r13.1 ((r3.1.2.2.length:Int) - 1)=some r13.1[r3.1.2.2.length - 1]:=HF (by omega) (by rw [hi];exact List.getElem?_eq_getElem hr');have hb:=g2 _ (List.getElem_mem hr');rw [if_pos c,hg,bs,bU (by omega) (by omega),bs,bs,show aX [p,r12.1,p,r13.1] (3:Int)=some r13.1 from rfl,bs,yt ⟨by omega,fun l h=>by have:=g2 l h;omega⟩ hk1,bs,bs,hg',bs,bX (L6 (n:=100) (by omega) (by omega)),bs,bs,hi];refine W.ret ⟨Ob.of s0 s1 s2 (.of hk (hsO _ (by rw [List.length_set])) (by rw [List.length_set];omega) (fun l hl=>?_)),g3.mono (by omega)⟩;rcases List.mem_or_eq_of_mem_set hl with h |h
  ·have:=g2 l h;omega
  ·rw [h,List.length_append];simp only [List.length_cons,List.length_nil];omega
 ·
  rw [if_neg c,bs];exact W.ret ⟨Ob.of s0 s1 s2 (.of hk (hsO _ rfl) (by omega) (fun l h=>by have:=g2 l h;omega)),g3.mono (by omega)⟩
theorem TN{a:List Int}:Lo (a,0,1) 0:=⟨Int.le_refl 0,Int.le_refl 0⟩
theorem TP{α:Type}(a b c d:α){j:Nat}(h:j < 4):∃x,aX [a,b,c,d] (j:Int)=some x:=⟨_,cz (by exact h)⟩
end
section
variable {k:Nat}
end
end Go.Proofs.YtmeojbemjkmebaaGreatDoor
set_option linter.unusedVariables false
namespace Go.Proofs.YtmeojbemjkmebaaGreatDoor
open K Go Go.Proofs
def dL(l:List Int):List Int:=l.map fun x=>97+x
def uc:List (List Int)→List Int
 |[]=>[]
 |l::ls=>dL l++ls.flatMap fun m=>47::dL m
theorem FH{p:List (List Int)}{l m:List Int}:uc ((p++[l])++[m])=uc (p++[l])++47::dL m:=by
 cases p with
 |nil=>simp [uc]
 |cons a p=>simp [uc]
theorem wW{l:List Int}{x:Int}:dL (l++[x])=dL l++[97+x]:=by simp [dL]
def CY:List Int→List (List Int)→List Int→Except Int (List (List Int))
 |[],p,m=>.ok (p++[m])
 |b::bs,p,m=>if b=47 then CY bs (p++[m]) [] else if 97≤b∧b≤122 then CY bs p (m++[b - 97]) else .error 2
theorem va:∀{bs:List Int} {p:List (List Int)} {m:List Int} {o:List (List Int)},CY bs p m= .ok o→o.length≤p.length+1+bs.length∧∀l∈o,l∈p∨l.length≤m.length+bs.length
 |[],p,m,o,h=>by
  have:p++[m]=o:=Except.ok.inj h
  subst this
  refine⟨by simp,fun l hl=>?_⟩
  rcases List.mem_append.1 hl with hl |hl
  ·
   exact .inl hl
  ·
   rw [List.mem_singleton] at hl;subst hl;exact .inr (by simp)
 |b::bs,p,m,o,h=>by
  rw [CY] at h
  split at h
  ·
   obtain⟨h1,h2⟩:=va h
   simp only [List.length_append,List.length_cons,List.length_nil] at h1 h2⊢
   refine⟨by omega,fun l hl=>?_⟩
   rcases h2 l hl with h3 |h3
   ·
    rcases List.mem_append.1 h3 with h4 |h4
    ·
     exact .inl h4
    ·
     rw [List.mem_singleton] at h4;subst h4;exact .inr (by omega)
   ·
    exact .inr (by omega)
  ·
   split at h
   ·
    obtain⟨h1,h2⟩:=va h
    simp only [List.length_append,List.length_cons,List.length_nil] at h1 h2⊢
    refine⟨by omega,fun l hl=>?_⟩
    rcases h2 l hl with h3 |h3
    ·
     exact .inl h3
    ·
     exact .inr (by omega)
   ·
    cases h
theorem wC{l:List Int}(h:∀x∈l,0≤x∧x < 256):jN (di l)=l:=by
 unfold jN di Lib.bytesOf;simp only [List.map_map];refine(List.map_congr_left fun x hx=>?_).trans (List.map_id l);have:=h x hx;simp only [Function.comp_apply,id];rw [UInt8.toNat_ofNat_of_lt' (by show x.toNat < 256;omega)];omega
theorem jx{l:List Int}:(di l).size=l.length:=by
 show(Lib.bytesOf l).toArray.size=_;simp [Lib.bytesOf]
theorem CS{s:ByteArray}{p:Nat}(h:p < s.size):(jN s).drop p=((s.get! p).toNat:Int)::(jN s).drop (p+1):=by
 have hl:p < (jN s).length:=by rw [iu];exact h
 rw [List.drop_eq_getElem_cons hl];congr 1;have hd:p < s.data.size:=h
 have e:s.get! p=s.data[p]:=by
  show s.data[p]! =_;rw [getElem!_pos s.data p hd]
 simp only [jN,List.getElem_map,Array.getElem_toList,e]
theorem Ci{s:ByteArray}{p:Nat}(h:128≤(s.get! p).toNat):128≤(Utf8.decode s p).1:=by
 unfold Utf8.decode;simp only [Nat.add_zero];rw [if_neg (by omega)];have hr:128≤Utf8.runeError:=by decide
 split
 ·split
  ·assumption
  ·exact hr
 ·split
  ·split
   ·rename_i h1;simp only [Bool.and_eq_true,decide_eq_true_eq] at h1;show 128≤_;omega
   ·exact hr
  ·split
   ·split
    ·rename_i h1;simp only [Bool.and_eq_true,decide_eq_true_eq] at h1;show 128≤_;omega
    ·exact hr
   ·exact hr
theorem yr{s:ByteArray}{p:Nat}(h:(s.get! p).toNat < 128):Utf8.decode s p=((s.get! p).toNat,1):=by
 unfold Utf8.decode;simp only [Nat.add_zero];rw [if_pos h]
theorem uG{n:Int}(h1: -2147483648≤n)(h2:n < 2147483648):IntKind.i32.wrap n=n:=by
 have e:IntKind.i32.wrap n=if n % 4294967296≥2147483648 then n % 4294967296 - 4294967296 else n % 4294967296:=by
  simp [IntKind.wrap,IntKind.signed,IntKind.bits]
 rw [e];split <;> omega
section
variable {k:Nat}
theorem Di{p:List (List Int)}{m:List Int}:aX (p++[m]) ((((p++[m]).length:Nat):Int) - 1)=some m:=by
 rw [show(((p++[m]).length:Nat):Int) - 1=((p.length:Nat):Int) by simp];rw [cz (by simp)];simp
theorem Af{p:List (List Int)}{m m':List Int}:List.set (p++[m]) (Int.toNat ((((p++[m]).length:Nat):Int) - 1)) m'=p++[m']:=by
 rw [show Int.toNat ((((p++[m]).length:Nat):Int) - 1)=p.length by simp];rw [List.set_append_right _ _ (Nat.le_refl _),Nat.sub_self];rfl
theorem te{s:ByteArray}(hs:s.size≤20):∀(n q:Nat) (p:List (List Int)) (m:List Int),q≤s.size→s.size - q < n→p.length≤q→m.length≤q→
 ir k (.string s) n (q,p++[m])=match CY ((jN s).drop q) p m with | .error e=>some (.error ([],e)) | .ok o=>some (.ok (s.size,o))
 |0,q,p,m,_,h,_,_=>by omega
 |n+1,q,p,m,hq,h,hp,hm=>by
  unfold ir
  rw [show dq (Value.string s)=s from rfl]
  dsimp only
  by_cases c:q < s.size
  ·
   rw [if_pos c,CS c,CY]
   by_cases c1:(s.get! q).toNat < 128
   ·
    rw [yr c1]
    dsimp only
    by_cases c2:((s.get! q).toNat:Int)=47
    ·
     rw [if_pos c2,if_pos c2,bX (C5 (by simp only [List.length_append,List.length_cons,List.length_nil];omega)),bs]
     exact te hs n (q+1) (p++[m]) [] (by omega) (by omega) (by simp;omega) (by simp)
    ·
     rw [if_neg c2,if_neg c2]
     by_cases c3:(97:Int)≤((s.get! q).toNat:Int)
     ·
      rw [if_pos c3,bs]
      by_cases c4:((s.get! q).toNat:Int)≤122
      ·
       have hw:IntKind.i32.wrap (((s.get! q).toNat:Int) - 97)=((s.get! q).toNat:Int) - 97:=uG (by omega) (by omega)
       rw [if_pos (decide_eq_true c4),if_pos ⟨c3,c4⟩,bU (by simp only [List.length_append,List.length_cons,List.length_nil];omega) (by simp only [List.length_append,List.length_cons,List.length_nil];omega),bs,Di,bs,hw,bU (by omega) (by omega),bs,bX (C5 (by simp only [List.length_cons,List.length_nil];omega)),bs,Af]
       exact te hs n (q+1) p (m++[((s.get! q).toNat:Int) - 97]) (by omega) (by omega) (by omega) (by simp;omega)
      ·
       rw [if_neg (by simpa using c4),if_neg (by omega)]
     ·
      rw [if_neg c3,bs,iF,if_neg (by omega)]
   ·
    have hb:=Ci (s:=s) (p:=q) (by omega)
    have d1:¬((Utf8.decode s q).1:Int)=47:=by omega
    have d2:¬((s.get! q).toNat:Int)=47:=by omega
    have d3:(97:Int)≤((Utf8.decode s q).1:Int):=by omega
    have d4:¬((Utf8.decode s q).1:Int)≤122:=by omega
    have d5:¬(97≤((s.get! q).toNat:Int)∧((s.get! q).toNat:Int)≤122):=by omega
    rw [if_neg d1,if_neg d2,if_pos d3,bs,decide_eq_false d4,iF,if_neg d5]
  ·
   have:q=s.size:=by omega
   subst this
   rw [if_neg c,List.drop_eq_nil_of_le (by rw [iu];exact Nat.le_refl _),CY]
def zo(t:cF)(s:ByteArray):List (List Int)×Int:=
 if 20 < s.size then([],10) else match CY (jN s) [] [] with
  | .error e=>([],e)
  | .ok o=>if jF t o=0 then(o,0) else([],jF t o)
theorem KY{t:cF}{a:Nat}(hs:gw k t)(hT:j9 t=0)(hk:50≤k)(hk1:k≤1000000)(s:ByteArray):lP k t (.string s)=some (zo t s):=by
 unfold lP zo;rw [tJ hs,bs,hT,if_neg (not_not_intro rfl),bX (show bW (.string s)=true from rfl),bs,show dq (Value.string s)=s from rfl];by_cases c:20 < s.size
 ·rw [if_pos (by omega),if_pos c]
 ·rw [if_neg (by omega),if_neg c];have h:=te (k:=k) (s:=s) (by omega) k 0 [] [] (by omega) (by omega) (by simp) (by simp);rw [List.nil_append,List.drop_zero] at h;rw [h,bs];cases e:CY (jN s) [] [] with
  |error x=>rw [mY]
  |ok o=>
   dsimp only;obtain⟨h1,h2⟩:=va e;rw [iu] at h1 h2
   have hl:∀l∈o,l.length < k:=fun l hl=>by
    rcases h2 l hl with h3 |h3
    ·cases h3
    ·simp only [List.length_nil] at h3;omega
   rw [mX,rc hs (by omega) hl,bs];by_cases c:jF t o=0
   ·rw [if_neg (not_not_intro c),if_pos c]
   ·rw [if_pos c,if_neg c]
theorem Jc{x:Int}(h:0≤x∧x≤25):jJ x=97+x:=by
 unfold jJ;rw [uG (n:=x) (by omega) (by omega),uG (by omega) (by omega)]
theorem D3{xs:List Int}(hx:∀x∈xs,0≤x∧x≤25)(hl:xs.length≤20)(hk:50≤k):gJ xs k (0,[])=some (dL xs):=by
 have hb:=W.loop (f:=gJ xs) (Q:=fun o=>o=dL xs) (fun q y=>∃j:Nat,y.1=(j:Int)∧j≤xs.length∧q=xs.length - j∧y.2=dL (xs.take j)) (by
  rintro aU q ⟨y,o⟩ ⟨j,hj,hle,hq,ho⟩ ih;simp only at hj ho;subst hj ho;unfold gJ;dsimp only;refine W.ite (fun hlt=>?_) (fun hge=>W.ret ?_)
  ·have hj:j < xs.length:=by omega
   have hr:=Jc (hx _ (List.getElem_mem hj));have hxj:=hx _ (List.getElem_mem hj);rw [cz hj,bs,hr,if_pos ⟨by omega,by omega,by show(dL (xs.take j)).length+1≤_;unfold dL;rw [List.length_map,List.length_take];omega⟩,bU (by omega) (by omega),bs];refine ih (q - 1) ((j:Int)+1,_) (by omega) ⟨j+1,by show(j:Int)+1=((j+1:Nat):Int);omega,by omega,by omega,?_⟩;rw [List.take_add_one,List.getElem?_eq_getElem hj];exact wW.symm
  ·rw [List.take_of_length_le (by omega)]) xs.length k (0,[]) (by omega) ⟨0,rfl,by omega,by omega,rfl⟩
 obtain⟨o,eo,h⟩:=hb;rw [eo,h]
theorem AY{p:List (List Int)}(hx:∀l∈p,(∀x∈l,0≤x∧x≤25)∧l.length≤20)(hl:p.length≤20)(hk:50≤k):fB k p k (0,[])=some (p.map fun l=>di (dL l)):=by
 have hb:=W.loop (f:=fB k p) (Q:=fun o=>o=p.map fun l=>di (dL l)) (fun q y=>∃j:Nat,y.1=(j:Int)∧j≤p.length∧q=p.length - j∧y.2=(p.take j).map fun l=>di (dL l)) (by
  rintro aU q ⟨y,o⟩ ⟨j,hj,hle,hq,ho⟩ ih;simp only at hj ho;subst hj ho;unfold fB;dsimp only;refine W.ite (fun hlt=>?_) (fun hge=>W.ret ?_)
  ·have hj:j < p.length:=by omega
   have hxj:=hx _ (List.getElem_mem hj);rw [cz hj,bs,D3 hxj.1 hxj.2 hk,bs,if_pos (by show((p.take j).map _).length+1≤_;rw [List.length_map,List.length_take];omega),bU (by omega) (by omega),bs];refine ih (q - 1) ((j:Int)+1,_) (by omega) ⟨j+1,by show(j:Int)+1=((j+1:Nat):Int);omega,by omega,by omega,?_⟩;rw [List.take_add_one,List.getElem?_eq_getElem hj,List.map_append];rfl
  ·rw [List.take_of_length_le (by omega)]) p.length k (0,[]) (by omega) ⟨0,rfl,by omega,by omega,rfl⟩
 obtain⟨o,eo,h⟩:=hb;rw [eo,h]
theorem Hz{ss:List ByteArray}(hs:∀s∈ss,s.size≤20)(hl:ss.length≤20)(hk:50≤k){n0:Int}(h0:0≤n0∧n0≤100):W (jq ss k (0,n0)) fun n=>n0≤n∧n≤n0+400:=by
 refine W.loop (f:=jq ss) (fun q y=>∃j:Nat,y.1=(j:Int)∧j≤ss.length∧q=ss.length - j∧n0≤y.2∧y.2≤n0+20 * (j:Int)) ?_ ss.length k (0,n0) (by omega) ⟨0,rfl,by omega,by omega,by omega,by omega⟩;rintro aU q ⟨y,z⟩ ⟨j,hj,hle,hq,h1,h2⟩ ih;simp only at hj h1 h2;subst hj;unfold jq;dsimp only;refine W.ite (fun hlt=>?_) (fun hge=>W.ret ⟨h1,by show z≤_;omega⟩);have hj:j < ss.length:=by omega
 have hsj:=hs _ (List.getElem_mem hj);rw [cz hj,bs,bU (by omega) (by omega),bs,if_neg (by omega),bU (by omega) (by omega),bs,bU (by omega) (by omega),bs];exact ih (q - 1) ((j:Int)+1,_) (by omega) ⟨j+1,by show(j:Int)+1=((j+1:Nat):Int);omega,by omega,by omega,by show n0≤z+_;omega,by show z+_≤_;omega⟩
theorem BU{ls:List (List Int)}(hx:∀l∈ls,(∀x∈l,0≤x∧x≤25)∧l.length≤20)(hl:ls.length≤20)(hk:50≤k){b0:List Int}(h0:b0.length≤100):
 iy (ls.map fun l=>di (dL l)) ⟨#[47]⟩ k (0,b0)=some (b0++ls.flatMap fun m=>47::dL m):=by
 have hb:=W.loop (f:=iy (ls.map fun l=>di (dL l)) ⟨#[47]⟩) (Q:=fun o=>o=b0++ls.flatMap fun m=>47::dL m) (fun q y=>∃j:Nat,y.1=(j:Int)∧j≤ls.length∧q=ls.length - j∧y.2=b0++(ls.take j).flatMap (fun m=>47::dL m)∧y.2.length≤100+21 * j) (by
  rintro aU q ⟨y,o⟩ ⟨j,hj,hle,hq,ho,hlen⟩ ih;simp only at hj ho hlen;subst hj;unfold iy;dsimp only;rw [List.length_map];refine W.ite (fun hlt=>?_) (fun hge=>W.ret ?_)
  ·have hj:j < ls.length:=by omega
   have hxj:=hx _ (List.getElem_mem hj)
   have hg:aX (ls.map fun l=>di (dL l)) (j:Int)=some (di (dL ls[j])):=by
    rw [cz (by rw [List.length_map];exact hj),List.getElem_map]
   have hc:jN (⟨#[47]⟩:ByteArray)=[47]:=rfl;have hll:(dL ls[j]).length≤20:=by unfold dL;rw [List.length_map];exact hxj.2
   have hb:jN (di (dL ls[j]))=dL ls[j]:=wC fun x hx'=>by
    obtain⟨y,hy,rfl⟩:=List.mem_map.1 hx';have:=hxj.1 y hy;omega
   rw [hg,bs,hc,hb,jx,if_pos ⟨C5 (by show o.length+1≤_;omega),C5 (by rw [List.length_append];simp only [List.length_cons,List.length_nil];omega)⟩,bU (by omega) (by omega),bs];refine ih (q - 1) ((j:Int)+1,_) (by omega) ⟨j+1,by show(j:Int)+1=((j+1:Nat):Int);omega,by omega,by omega,?_,by simp only [List.length_append,List.length_cons,List.length_nil];omega⟩;simp only [ho];rw [List.take_add_one,List.getElem?_eq_getElem hj,List.flatMap_append];simp
  ·rw [ho,List.take_of_length_le (by omega)]) ls.length k (0,b0) (by omega) ⟨0,rfl,by omega,by omega,by simp,by simpa using h0⟩
 obtain⟨o,eo,h⟩:=hb
 rw [eo,h]
theorem Iq{t:cF}{p:List (List Int)}(h:At k t p):jv k t p=some (.string (di (uc p)),0):=by
 have hk:=h.dayT.k0;have hg:=h.good;have h5:=hg.g.things;have h3:=hg.g.trunks;have hlen:=hg.len;have hx:∀l∈p,(∀x∈l,0≤x∧x≤25)∧l.length≤20:=fun l hl=>⟨fun x hx=>by have:=hg.rng x (List.mem_flatten.2 ⟨l,hl,hx⟩);omega,by have:=(hg.fit.fit l hl).1;omega⟩;unfold jv;rw [h.ok,bs,if_neg (not_not_intro rfl),AY hx (by omega) hk,bs]
 have hsz:∀s∈p.map (fun l=>di (dL l)),s.size≤20:=fun s hs=>by
  obtain⟨l,hl,rfl⟩:=List.mem_map.1 hs;rw [jx];unfold dL;rw [List.length_map];exact(hx l hl).2
 match p,hlen,hx,hsz with
 |[],hlen,_,_=>simp at hlen;omega
 |[l],hlen,hx,hsz=>
  unfold pM;rw [if_pos ⟨rfl,by show 1≤_;decide⟩,if_neg (by simp),if_pos (by simp)];show((some (di (dL l))).bind _:Option _)=_;rw [bs];simp [uc]
 |l::m::ls,hlen,hx,hsz=>
  have hp:(l::m::ls).length≤3:=by omega
  simp only [List.length_cons] at hp;unfold pM;obtain⟨n,en,n1,n2⟩:=Hz (k:=k) (ss:=(l::m::ls).map fun l=>di (dL l)) hsz (by rw [List.length_map];simp only [List.length_cons];omega) hk (n0:=(((l::m::ls).map fun l=>di (dL l)).length:Int) - 1) (by rw [List.length_map];simp only [List.length_cons];omega);have hll:(dL l).length≤20:=by unfold dL;rw [List.length_map];exact(hx l (by simp)).2
  have hb:jN (di (dL l))=dL l:=wC fun x hx'=>by
   obtain⟨y,hy,rfl⟩:=List.mem_map.1 hx';have:=(hx l (by simp)).1 y hy;omega
  have hd:((l::m::ls).map fun l=>di (dL l)).drop 1=(m::ls).map fun l=>di (dL l):=rfl;have hlm:(((l::m::ls).map fun l=>di (dL l)).length:Int)=((ls.length+2:Nat):Int):=by rw [List.length_map];rfl
  rw [if_pos ⟨rfl,C5 (by rw [List.length_map];simp only [List.length_cons];omega)⟩,if_neg (by rw [hlm];omega),if_neg (by rw [hlm];omega),en,bs,if_pos (by rw [hlm] at n1 n2;omega)];show((((some (di (dL l))).bind _:Option _)).bind _:Option _)=_;rw [bs,if_pos (C5 (by rw [jx];omega)),hd,hb,BU (fun l' hl'=>hx l' (List.mem_cons_of_mem _ hl')) (by simp only [List.length_cons];omega) hk (by omega),bs,if_neg (by simp),bs];rfl
end
end Go.Proofs.YtmeojbemjkmebaaGreatDoor
