import Derived.Test.YtcnpijmfgfnpiaaGreatDoorXKB5
import Derived.Test.YtcnpijmfgfnpiaaGreatDoorXKB7
set_option linter.unusedSimpArgs false
set_option linter.unusedVariables false
namespace Go.Proofs.YtcnpijmfgfnpiaaGreatDoor
namespace K
open Go Go.ChangeShapes Go.WideShapes Go.ChangeAt Go.RowKit
@[reducible] def ig:Ty→Bool
 | .int _=>true
 | .bool=>true
 | .str=>true
 | .pair a b=>ig a && ig b
 | .agg t=>ig t
 | .arr _ t=>ig t
 | .slice t=>ig t && Nat.blt 0 t.cells
 |_=>false
def tQ:Value→Bool
 | .iface _ _=>true
 |_=>false
theorem rY{α:Type}{R:α→List Value→Prop}(h:∀x cs,R x cs→∀v∈cs,tQ v=false):∀{l:List α} {cs:List Value},cF R l cs→∀v∈cs,tQ v=false
 |[],_,e=>by simp [cF] at e;simp [e]
 |_::_,_,⟨c1,c2,e,h1,h2⟩=>by
  subst e
  intro v hv
  rcases List.mem_append.1 hv with hv |hv
  ·
   exact h _ _ h1 v hv
  ·
   exact rY h h2 v hv
theorem IK{S:FS}{w:World}(t:Ty):∀{x:t.den} {cs:List Value},ig t=true→rd S w t x cs→∀v∈cs,tQ v=false:=by
 induction t with
 |int k=>intro x cs _ h v hv;simp only [rd] at h;subst h;simp at hv;subst hv;rfl
 |bool=>intro x cs _ h v hv;simp only [rd] at h;subst h;simp at hv;subst hv;rfl
 |str=>intro x cs _ h v hv;simp only [rd] at h;subst h;simp at hv;subst hv;rfl
 |pair a b iha ihb=>
  rintro x cs hp ⟨c1,c2,rfl,h1,h2⟩ v hv;simp [ig] at hp;rcases List.mem_append.1 hv with hv |hv
  ·exact iha hp.1 h1 v hv
  ·exact ihb hp.2 h2 v hv
 |agg t ih=>intro x cs hp h;exact ih hp h
 |arr n t ih=>intro l cs hp h;exact rY (fun _ _ h=>ih hp h) h.2
 |slice t ih=>
  intro l cs hp h v hv;rcases h with⟨a,cap,rfl,_⟩ |⟨b,off,cap,c,T,fz,rfl,_⟩ <;> (simp at hv;subst hv;rfl)
 |_=>intro x cs hp;cases hp
theorem Ek{S:FS}{w:World}{b0:Nat}{c0:Array Value}{T0:TypeId}{fz0:Nat×Nat}(h0:w.heap[b0]? =some (.cells c0 T0 fz0))(hc:∀v∈c0.toList,tQ v=true)(t:Ty):
 ∀{x:t.den} {cs:List Value},ig t=true→rd S w t x cs→rd (fun b=>S b∧b≠b0) w t x cs:=by
 induction t with
 |int k=>intro x cs _ h;exact h
 |bool=>intro x cs _ h;exact h
 |str=>intro x cs _ h;exact h
 |pair a b iha ihb=>
  rintro x cs hp ⟨c1,c2,rfl,h1,h2⟩;simp [ig] at hp;exact⟨c1,c2,rfl,iha hp.1 h1,ihb hp.2 h2⟩
 |agg t ih=>intro x cs hp h;exact ih hp h
 |arr n t ih=>intro l cs hp h;exact⟨h.1,bv (fun _ _ h=>ih hp h) h.2⟩
 |slice t ih=>
  intro l cs hp h;have hp1:ig t=true:=by simp [ig] at hp;exact hp.1
  have hp2:0 < t.cells:=by simp [ig] at hp;exact hp.2
  rcases h with h |⟨b,off,cap,c,T,fz,rfl,hle,hS,hb,hr⟩
  ·exact .inl h
  ·by_cases hl:l=[]
   ·subst hl;exact .inl ⟨_,cap,rfl,rfl⟩
   ·refine .inr ⟨b,off,cap,c,T,fz,rfl,hle,⟨hS,fun e=>?_⟩,hb,bv (fun _ _ h=>ih hp1 h) hr⟩;subst e;rw [h0] at hb;cases hb;have hlen:=fp (fun _ _ h=>aG t h) hr;have hno:=rY (fun _ _ h=>IK t hp1 h) hr;have hpos:0 < l.length:=List.length_pos_iff.2 hl;have:0 < ((c0.toList.drop off).take (l.length * t.cells)).length:=by rw [hlen];exact Nat.mul_pos hpos hp2
    obtain⟨v,hv⟩:=List.exists_mem_of_length_pos this;have h1:=hno v hv;have h2:=hc v (List.mem_of_mem_drop (List.mem_of_mem_take hv));rw [h1] at h2;cases h2
 |_=>intro x cs hp;cases hp
theorem t9{S:FS}{w:World}{b0:Nat}{c0:Array Value}{T0:TypeId}{fz0:Nat×Nat}(h0:w.heap[b0]? =some (.cells c0 T0 fz0))(hc:∀v∈c0.toList,tQ v=true):
 ∀{ts:List (TypeId×Ty)} {uz:List A} {vs:List Value},(∀p∈ts,ig p.2=true)→Lk ts uz→eJ S w uz vs→eJ (fun b=>S b∧b≠b0) w uz vs
 |[],uz,vs,_,hl,h=>by
  have hl:uz=[]:=hl
  subst hl
  exact h
 |p::ts,uz,vs,hp,hl,h=>by
  obtain⟨d,uz',rfl,hl'⟩:=hl
  obtain⟨v,vs',e,⟨cs,hr,hv⟩,h2⟩:=h
  exact⟨v,vs',e,⟨cs,Ek h0 hc p.2 (hp p (by simp)) hr,hv⟩,t9 h0 hc (fun q hq=>hp q (by simp [hq])) hl' h2⟩
section
variable {H:Type}{enc:TypeId×Value→H}{P:Program}
theorem wX{M:Md P}{f:Nat}{fn:Func}{B:TypeId}{s:ChangeSpec}{b0:Nat}{c0:Array Value}{T0:TypeId}{p0:Obj→Prop}(hp0:∀o,p0 o↔o= .cells c0 T0 (0,0))(hc0:∀v∈c0.toList,tQ v=true)
 (ts:List (TypeId×Ty)) (hpl:∀p∈ts,ig p.2=true) (hp:fn.params.toList=ts.map (·.1)) (hr:fn.resultTypes= #[B]) (hB:P.underlying B=some .bool)
 (hm:∀p∈ts,MT P p.2 (.inl p.1)) (laid:laidOutB P=true) (hT:∀T∈ts.map (·.1),P.readableRec T=true∧T < P.types.size)
 (hs:∀ds:List (DataW H),ds.length=ts.length→s.fn H ds={ results:=[.lit (.bool true)],args:=ds }) (hv:s.vars=[])
 (law:∀uz,Lk ts uz→cH M f uz [.inv b0 p0] (fun _:Unit=>(bG [.eq (.bool true)],[.inv b0 p0])))
 (W:World) (base:Nat) (args:Array Value) (ds gs:List (DataW H)) (before:List MemPlace) (hb0:W.heap[b0]? =some (.cells c0 T0 (0,0)))
 (hval:∀(j:Nat) t v,fn.params[j]? =some t→args[j]? =some v→Value.okWide P W .any base t v)
 (hW:DataW.Whole enc P fn.params.toList s.vars false W args.toList ds gs before):
 lm M .normal f args (vw W) fun e W'=>∃v,e= .returned v∧∀v1,bN W' v1→s.post enc P fn false true false false W args v v1.toWorld:=by
 have hW':=hW
 obtain⟨p,q,hA,hV,rfl,_,_⟩:=hW
 rw [hv] at hV
 obtain⟨rfl,rfl⟩:=trodVars_none hV
 have hlt:∀x∈p,x.block < W.heap.size:=hA.lt
 have hlen:=vH hA
 rw [hp,List.length_map] at hlen
 rw [hp] at hA
 obtain⟨uz,hL,h2⟩:=zj (S:=fun b=>b < W.heap.size) (base:=base) hm (fun j t v h1 h2=>hval j t v (by rw [←hp] at h1;simpa using h1) (by simpa using h2)) hA hlt
 have h3:=t9 hb0 hc0 hpl hL h2
 have hlt0:b0 < W.heap.size:=(Array.getElem?_eq_some_iff.1 hb0).1
 have hft:∀b,aw [D.inv b0 p0] b↔b=b0:=fun b=>by
  rw [cO];exact⟨fun h=>(Option.some.inj h).symm,fun h=>by rw [h];rfl⟩
 have hO:aS [.inv b0 p0] (fun b=>b < W.heap.size∧b≠b0) (vw W):=by
  refine⟨fun d hd=>?_,fun b hb=>?_,List.pairwise_singleton _ _,fun b _=>⟨fun h=>h,fun h=>h⟩,fun _ _ h=>h,fun _ h=>h.elim,fun _ h=>h.elim⟩
  ·simp at hd;subst hd;exact⟨_,hb0,(hp0 _).2 rfl⟩
  ·rw [hft] at hb;subst hb;exact⟨fun h=>h.2 rfl,hlt0⟩
 have:=law uz hL .normal (fun e=>nomatch e) (fun b=>b < W.heap.size∧b≠b0) (vw W) args.toList (fun _ h=>h.1) h3 hO
 rw [Array.toArray_toList] at this
 refine this.mono ?_
 rintro e' W' ⟨_,S',v,rfl,h1,h2,h4,_⟩
 obtain rfl:v= .bool true:=h2
 refine⟨_,rfl,fun v1 hrel=>?_⟩
 have h5:=h4.rely h1.dom hrel
 replace h1:=h1.trans (bJ.rely (X:=aw [D.inv b0 p0]) h1.dom hrel) fun b hb=>.inl hb
 obtain⟨o1,k0,k0'⟩:=h5.holds _ (List.mem_singleton.2 rfl)
 rw [(hp0 _).1 k0'] at k0
 have h6:bJ (aw []) (fun b=>b < W.heap.size∧b≠b0) (vw W) S' v1:=by
  refine⟨h1.sub,fun b hb=>(h1.new b hb).imp id (Or.imp id fun hx=>absurd hb (h5.own b hx).1),h1.dom,h1.size,fun b hb ha hx=>?_,h1.os,h1.tape,h1.output,h1.subA,h1.oldA,h1.Z⟩;by_cases e:b=b0
  ·subst e;exact k0.trans hb0.symm
  ·exact h1.keep b hb ha (fun h=>e ((hft b).1 h))
 obtain⟨k1,k2⟩:=zG (may:=(· ∈p++[])) h6
 have hk:∀b,b < W.heap.size→v1.heap[b]? =W.heap[b]? :=fun b hb=>h6.keep b hb (fun hx=>hx) (fun hx=>dU hx)
 refine Bj (pa:=p) (pv:=[]) hW' (fun _ _ _=>?_) (fun sp hsp=>?_) (fun _ _=>?_) rfl k1 k2 (ok_one hr rfl (okWide_bool_mk hB _))
 ·
  rw [hr,List.append_nil,hs ds hlen];exact trodAll_mk1 (shut_bool hB _)
 ·
  rw [hp,List.append_nil,hs ds hlen];exact xc laid hk hT hA (fun x hx=>⟨hlt x hx,hsp x (by simpa using hx)⟩)
 ·
  rw [hv,List.append_nil,hs ds hlen];rfl
end
section
open Go.Conc
variable {H:Type}{enc:TypeId×Value→H}
theorem uI{a:Assume}{C:Checked}{os:Os}{f:FuncId}{fn:Func}{s:ChangeSpec}{conds:List PathCond}{apart fresh handsOn again:Bool}{X:World→Prop}
 (hX:∀(w w':World),w.heap=w'.heap→X w→X w') (own:ownKnob C.prog.godebug=none) (started:os.Started) (hfn:C.prog.funcs[f]? =some fn)
 (witness:∃(w:World) (tape:Tape) (i:Input),w.os=os∧(w.forCall tape i).Shaped C.prog∧i.vars=[]∧Input.okWide C.prog (w.forCall tape i) .any w.heap.size f i∧
  ((s.pre enc C.prog fn conds apart (w.forCall tape i).memory i.args∧X (w.forCall tape i).memory)∧sizedMet enc C.prog fn (OpenSpec.ofChange s) apart (w.forCall tape i).memory i.args)∧a.holds C.prog (lone (Frame.enter C.prog f i.args .normal) [] (w.forCall tape i)))
 (runs:∀(W:World) (base:Nat) (args:Array Value) (ds gs:List (DataW H)) (before:List MemPlace),W.ShapedOpen C.prog→
  (∀(j:Nat) t v,fn.params[j]? =some t→args[j]? =some v→Value.okWide C.prog W .any base t v)→
  DataW.Whole enc C.prog fn.params.toList s.vars apart W args.toList ds gs before→X W→
  a.holds C.prog (lone (Frame.enter C.prog f args .normal) [] W)→
  ∃M last o w' t',runNT C.prog (M+1) (solo (Conc.G (Frame.enter C.prog f args .normal) []) W) #[]=(.ended o w',t')∧runN C.prog M (solo (Conc.G (Frame.enter C.prog f args .normal) []) W)= .next last∧
   step C.prog last= .ended o w'∧Conc.Good C.prog (fun v W'=>s.post enc C.prog fn apart fresh handsOn again W args v W') last o w' t'):
 ReturnsInLeavingWide a C os f .any (fun w args=>(s.pre enc C.prog fn conds apart w args∧X w)∧sizedMet enc C.prog fn (OpenSpec.ofChange s) apart w args) (s.post enc C.prog fn apart fresh handsOn again):=by
 refine returnsInLeavingWide_of_good own started witness ?_
 intro w tape i _ hsh _ hok hpre hholds
 obtain⟨_,_,_,fn',hfn',_,_,_,_,hval⟩:=hok
 obtain rfl:fn'=fn:=Option.some.inj (hfn'.symm.trans hfn)
 obtain⟨⟨⟨ds,gs,before,hw,_⟩,hx⟩,_⟩:=hpre
 obtain⟨M,last,o,w',t',h1,h2,h3,h4⟩:=runs (w.forCall tape i) w.heap.size i.args ds gs before hsh hval (DataW.Whole.of_heap (w':=w.forCall tape i) (by rfl) hw) (hX _ _ (by rfl) hx) hholds
 exact⟨M,last,o,w',t',h1,h2,h3,h4.mono fun v hp=>ChangeSpec.post_blind hp⟩
end
end K
end Go.Proofs.YtcnpijmfgfnpiaaGreatDoor
