import Derived.Test.YtddneonghpmidaaGreatDoorSBB5
import Derived.Laws.Strings
import Derived.Laws.Strings2
import Derived.Laws.Strings3
import Derived.Laws.DeepStrings4
import Derived.Laws.RangeString
import Derived.Laws.BytesString
set_option linter.unusedSimpArgs false
set_option linter.unusedVariables false
namespace Go.Proofs.YtddneonghpmidaaGreatDoor
namespace K
open Go
section
variable {P:Program}{M:Md P}{o:Oper}{Δ:List D}{X:Type}{R:X→A×List D}
theorem SL{L:List D}{N N':List (Operand×A)}(h:bG M o N' Δ R)(hN:∀S w a,(∀d∈L,d.holds S w∧∀b,d.foot=some b→S b)→bz S w a N→bz S w a N')
 (hf:∀x,(R x).1.flat=true∧∀d∈(R x).2,d.flat=true):bG M o N (L++Δ) (fun x=>((R x).1,L++(R x).2)):=by
 refine⟨h.1,fun ro S w a next Q hd hNN hO k=>?_⟩
 have hap:=List.pairwise_append.1 hO.apart
 have hK:ip S w w:=fun _ _=>rfl
 have hmL:∀d∈L,d∈L++Δ:=fun d hd=>List.mem_append.2 (.inl hd)
 have hmΔ:∀d∈Δ,d∈L++Δ:=fun d hd=>List.mem_append.2 (.inr hd)
 have hfL:∀b,aE L b→aE (L++Δ) b:=fun b ⟨d,hd,e⟩=>⟨d,hmL d hd,e⟩
 have hfΔ:∀b,aE Δ b→aE (L++Δ) b:=fun b ⟨d,hd,e⟩=>⟨d,hmΔ d hd,e⟩
 have hnb:∀b,aE L b→¬aE Δ b:=fun b ⟨d,hd,e⟩ ⟨d',hd',e'⟩=>hap.2.2 d hd d' hd' b e e'
 have hmono:∀x,S x→S x∨aE L x:=fun _ h=>.inl h
 have hNN':∀{N:List (Operand×A)},bz S w a N→bz (fun x=>S x∨aE L x) w a N:=by
  intro N
  induction N with
  |nil=>exact fun h=>h
  |cons p N ih=>obtain⟨x,r⟩:=p;exact fun h=>⟨A.mono hmono hK r h.1,ih h.2⟩
 have hd':∀x,(S x∨aE L x)→x < w.heap.size:=fun x hx=>hx.elim (hd x) (fun e=>(hO.own x (hfL x e)).2)
 have hlent:∀d∈L,d.holds (fun x=>S x∨aE L x) w∧∀b,d.foot=some b→(S b∨aE L b):=fun d hd=>⟨cm hmono hK d (fun _ _=>rfl) (hO.holds d (hmL d hd)),fun b e=>.inr ⟨d,hd,e⟩⟩
 have hOΔ':bf Δ (fun x=>S x∨aE L x) w:=hO.re ⟨fun e he=>cm hmono hK e (fun _ _=>rfl) (hO.holds e (hmΔ e he)),fun x hx=>⟨fun h=>h.elim (hO.own x (hfΔ x hx)).1 (fun e=>hnb x e hx),(hO.own x (hfΔ x hx)).2⟩,hap.2.1⟩ hfΔ fun x (hx:S x∨aE L x)=>hx.imp id (hfL x)
 refine h.2 ro _ w a next Q hd' (hN _ w a hlent (hNN' hNN)) hOΔ' fun x S' w' v' h1 h2 h3 h4=>?_
 obtain⟨f1,f2⟩:=hf x
 have hbk:∀b,aE L b→w'.heap[b]? =w.heap[b]? :=fun b hb=>h1.keep b (hO.own b (hfL b hb)).2 (hO.far b (hfL b hb)).1 (hnb b hb)
 have hSb:∀y,S y→¬aE L y:=fun y hy e=>(hO.own y (hfL y e)).1 hy
 have hKw:ip S w w':=fun y hy=>h1.keep y (hd y hy) (hO.sees y hy) (fun hx=>(hO.own y (hfΔ y hx)).1 hy)
 refine k x (fun y=>S' y∧¬aE L y) w' v' ⟨fun y hy=>⟨h1.sub y (.inl hy),hSb y hy⟩,fun y hy=>?_,fun y hy=>h1.dom y hy.1,h1.size,fun y hy ha hx=>h1.keep y hy ha (fun hh=>hx (hfΔ y hh)),h1.os,h1.tape,h1.output,h1.subA,h1.oldA,h1.Z⟩ ((qA _ f1).1 h2) ⟨fun d hd=>?_,fun y ⟨d,hd,e⟩=>?_,List.pairwise_append.2 ⟨hap.1,h3.apart,fun d hd d' hd' y e e'=>?_⟩,fun y ⟨d,hd,e⟩=>?_,fun y hy=>h3.sees y hy.1,h3.domA,h3.domZ⟩ fun y ⟨d,hd,e⟩=>?_
 ·
  rcases h1.new y hy.1 with(hh |hh) |hh |hh
  ·exact .inl hh
  ·exact absurd hh hy.2
  ·exact .inr (.inl hh)
  ·exact .inr (.inr (hfΔ y hh))
 ·
  rcases List.mem_append.1 hd with hd |hd
  ·exact cm (fun y hy=>⟨h1.sub y (.inl hy),hSb y hy⟩) hKw d (fun b e=>hbk b ⟨d,hd,e⟩) (hO.holds d (hmL d hd))
  ·exact o4 d (f2 d hd) (h3.holds d hd)
 ·
  rcases List.mem_append.1 hd with hd |hd
  ·have hy:aE L y:=⟨d,hd,e⟩;exact⟨fun h=>h.2 hy,Nat.lt_of_lt_of_le (hO.own y (hfL y hy)).2 h1.size⟩
  ·have:=h3.own y ⟨d,hd,e⟩;exact⟨fun h=>this.1 h.1,this.2⟩
 ·
  have hy:aE L y:=⟨d,hd,e⟩;rcases h4 y ⟨d',hd',e'⟩ with hh |hh
  ·exact hnb y hy hh
  ·have:=(hO.own y (hfL y hy)).2;omega
 ·
  rcases List.mem_append.1 hd with hd |hd
  ·have hy:aE L y:=⟨d,hd,e⟩;have hfar:=hO.far y (hfL y hy);exact⟨fun ha=>(h1.oldA y ha).elim hfar.1 fun h2=>by have:=(hO.own y (hfL y hy)).2;omega,by rw [h1.Z];exact hfar.2⟩
  ·exact h3.far y ⟨d,hd,e⟩
 ·
  rcases List.mem_append.1 hd with hd |hd
  ·exact .inl (hfL y ⟨d,hd,e⟩)
  ·exact(h4 y ⟨d,hd,e⟩).imp (hfΔ y) id
theorem E9{c:Cx}{C:Code}{Q:Exit→Act→VW→Prop}{Γ Γ1:Ga}{L Δ:List D}{Z:Type}(G:Z→Ga)(E:Z→List D)
 (hΓ:∀(S:FS) (w:World) (a:Act),(∀d∈L,d.holds S w∧∀b,d.foot=some b→S b)→(∀s r,lk Γ s=some r→r.holds S w (a.tmps.getD s undef))→∀s r,lk Γ1 s=some r→r.holds S w (a.tmps.getD s undef))
 (hf:∀z,(∀s r,lk (G z) s=some r→r.flat=true)∧∀d∈E z,d.flat=true)
 (h:∀S w,JC ⟨c.P,c.N,S,w,aE Δ,c.rd,c.dfs,c.M⟩ C (fun e a v=>e= .normal∧∃z,St ⟨c.P,c.N,S,w,aE Δ,c.rd,c.dfs,c.M⟩ (G z) (E z) a v) Γ1 Δ)
 (k:∀z,JN c (Q .normal) (G z) (L++E z)):JC c C Q Γ (L++Δ):=by
 intro a w st
 obtain⟨q1,q2,S,q3,q4,hO,q6⟩:=st
 have hd:∀b,S b→b < w.heap.size:=q3.dom
 have hap:=List.pairwise_append.1 hO.apart
 have hK:ip S w w:=fun _ _=>rfl
 have hmL:∀d∈L,d∈L++Δ:=fun d hd=>List.mem_append.2 (.inl hd)
 have hmΔ:∀d∈Δ,d∈L++Δ:=fun d hd=>List.mem_append.2 (.inr hd)
 have hfL:∀b,aE L b→aE (L++Δ) b:=fun b ⟨d,hd,e⟩=>⟨d,hmL d hd,e⟩
 have hfΔ:∀b,aE Δ b→aE (L++Δ) b:=fun b ⟨d,hd,e⟩=>⟨d,hmΔ d hd,e⟩
 have hnb:∀b,aE L b→¬aE Δ b:=fun b ⟨d,hd,e⟩ ⟨d',hd',e'⟩=>hap.2.2 d hd d' hd' b e e'
 have hmono:∀x,S x→S x∨aE L x:=fun _ h=>.inl h
 have hd':∀x,(S x∨aE L x)→x < w.heap.size:=fun x hx=>hx.elim (hd x) (fun e=>(hO.own x (hfL x e)).2)
 have hlent:∀d∈L,d.holds (fun x=>S x∨aE L x) w∧∀b,d.foot=some b→(S b∨aE L b):=fun d hd=>⟨cm hmono hK d (fun _ _=>rfl) (hO.holds d (hmL d hd)),fun b e=>.inr ⟨d,hd,e⟩⟩
 have hOΔ':bf Δ (fun x=>S x∨aE L x) w:=hO.re ⟨fun e he=>cm hmono hK e (fun _ _=>rfl) (hO.holds e (hmΔ e he)),fun x hx=>⟨fun h=>h.elim (hO.own x (hfΔ x hx)).1 (fun e=>hnb x e hx),(hO.own x (hfΔ x hx)).2⟩,hap.2.1⟩ hfΔ fun x (hx:S x∨aE L x)=>hx.imp id (hfL x)
 refine mQ (fun e a' v' q=>?_) (h (fun x=>S x∨aE L x) w a w ⟨q1,q2,_,bV.refl hd',fun b hb=>.inl hb,hOΔ',hΓ _ _ a hlent fun s r hl=>A.mono hmono hK r (q6 s r hl)⟩)
 obtain⟨rfl,z,g1,g2,S',h1,h4,h3,g6⟩:=q
 obtain⟨f1,f2⟩:=hf z
 have hbk:∀b,aE L b→v'.heap[b]? =w.heap[b]? :=fun b hb=>h1.keep b (hO.own b (hfL b hb)).2 (hO.far b (hfL b hb)).1 (hnb b hb)
 have hSb:∀y,S y→¬aE L y:=fun y hy e=>(hO.own y (hfL y e)).1 hy
 have hKw:ip S w v':=fun y hy=>h1.keep y (hd y hy) (hO.sees y hy) (fun hx=>(hO.own y (hfΔ y hx)).1 hy)
 have hst:bV (aE (L++Δ)) S w (fun y=>S' y∧¬aE L y) v':=by
  refine⟨fun y hy=>⟨h1.sub y (.inl hy),hSb y hy⟩,fun y hy=>?_,fun y hy=>h1.dom y hy.1,h1.size,fun y hy ha hx=>h1.keep y hy ha (fun hh=>hx (hfΔ y hh)),h1.os,h1.tape,h1.output,h1.subA,h1.oldA,h1.Z⟩;rcases h1.new y hy.1 with(hh |hh) |hh |hh
  ·exact .inl hh
  ·exact absurd hh hy.2
  ·exact .inr (.inl hh)
  ·exact .inr (.inr (hfΔ y hh))
 refine k z a' v' ⟨g1,g2,_,q3.trans hst (fun b hb=>q4 b hb),fun y ⟨d,hd,e⟩=>?_,⟨fun d hd=>?_,fun y ⟨d,hd,e⟩=>?_,List.pairwise_append.2 ⟨hap.1,h3.apart,fun d hd d' hd' y e e'=>?_⟩,fun y ⟨d,hd,e⟩=>?_,fun y hy=>h3.sees y hy.1,h3.domA,h3.domZ⟩,fun s r hl=>(qA _ (f1 s r hl)).1 (g6 s r hl)⟩
 ·
  rcases List.mem_append.1 hd with hd |hd
  ·exact q4 y (hfL y ⟨d,hd,e⟩)
  ·rcases h4 y ⟨d,hd,e⟩ with hh |hh
   ·exact q4 y (hfΔ y hh)
   ·exact .inr (Nat.le_trans q3.size hh)
 ·
  rcases List.mem_append.1 hd with hd |hd
  ·exact cm (fun y hy=>⟨h1.sub y (.inl hy),hSb y hy⟩) hKw d (fun b e=>hbk b ⟨d,hd,e⟩) (hO.holds d (hmL d hd))
  ·exact o4 d (f2 d hd) (h3.holds d hd)
 ·
  rcases List.mem_append.1 hd with hd |hd
  ·have hy:aE L y:=⟨d,hd,e⟩;exact⟨fun h=>h.2 hy,Nat.lt_of_lt_of_le (hO.own y (hfL y hy)).2 h1.size⟩
  ·have:=h3.own y ⟨d,hd,e⟩;exact⟨fun h=>this.1 h.1,this.2⟩
 ·
  have hy:aE L y:=⟨d,hd,e⟩;rcases h4 y ⟨d',hd',e'⟩ with hh |hh
  ·exact hnb y hy hh
  ·exact Nat.lt_irrefl _ (Nat.lt_of_lt_of_le (hO.own y (hfL y hy)).2 hh)
 ·
  rcases List.mem_append.1 hd with hd |hd
  ·have hy:aE L y:=⟨d,hd,e⟩;have hfar:=hO.far y (hfL y hy);exact⟨fun ha=>(h1.oldA y ha).elim hfar.1 fun h2=>Nat.lt_irrefl _ (Nat.lt_of_lt_of_le (hO.own y (hfL y hy)).2 h2),by rw [h1.Z];exact hfar.2⟩
  ·exact h3.far y ⟨d,hd,e⟩
theorem Ox{S:FS}{w:World}{T:TypeId}{z:Value×(Nat→Value)}{ls:List (List Int)}(h:∀d∈fD T z ls,d.holds S w∧∀b,d.foot=some b→S b):(A.rep (.slice (.slice (.int .i64))) ls).holds S w z.1:=by
 have h1:=(h _ (List.mem_cons_self ..));have h2:∀d∈kY z.2 0 ls,d.holds S w∧∀b,d.foot=some b→S b:=fun d hd=>h d (List.mem_cons_of_mem _ hd);rcases h1.1 with⟨e,hl⟩ |⟨b,cap,cc,e,q1,q1',q2,q3,q4⟩
 ·have hn:ls=[]:=by
   have:=congrArg List.length hl;rw [g9] at this;exact List.eq_nil_of_length_eq_zero this
  subst hn;exact⟨_,.inl ⟨none,0,rfl,rfl⟩,e⟩
 ·rw [g9] at e q1 q4;refine⟨_,.inr ⟨b,0,cap,cc,T,(0,0),rfl,q1,h1.2 b (by rw [D.foot,e];rfl),q2,?_⟩,e⟩;rw [List.drop_zero];exact Ef (S:=S) (fun _ h=>h) h2 q4
end
section
variable {c:Cx}{Γ:Ga}{pre:List D}{T:TypeId}{z:Value×(Nat→Value)}{ls:List (List Int)}
theorem E2:SE c Γ (pre++fD T z ls) Γ (.sl z.1 T .val (eB z.2 0 ls)::(pre++kY z.2 0 ls)):=fE List.perm_middle
theorem GP:SE c Γ (.sl z.1 T .val (eB z.2 0 ls)::(pre++kY z.2 0 ls)) Γ (pre++fD T z ls):=fE List.perm_middle.symm
end
def O8(g:Nat)(vs:List Value):Deferred:={ target:=.fn (.func g) #[],args:=vs.toArray }
theorem I4{P:Program}{cs:List Frame}{w:World}{fr:Frame}{g:Nat}{vs:List Value}{ds:List Deferred}(hen:ae P g)(hm:fr.mode= .returning)(hd:fr.defers=O8 g vs::ds):
 ∃es,(∀e∈es,e∈(#[]:Array Event))∧∀main,stepG P main (Gr fr cs) w= .go (Gr (Frame.enter P g vs.toArray .deferred) ({ fr with defers:=ds }::cs)) w es:=by
 refine⟨seen P fr.fn #[],fun e he=>Conc.mem_seen he,fun main=>?_⟩
 have hi:invoke (.fn (.func g) #[]) vs.toArray=callFunc g vs.toArray:=by simp [invoke]
 simp only [stepG,hm,unwind,hd,O8,callDeferred,hi,sb hen,GStep.after,Array.append_empty];rfl
section
variable {P:Program}{M:Md P}{N:Nat}{S:FS}{w0:VW}{X:Nat→Prop}{ops:Array Oper}{o:Oper}{l:List Oper}{Q:Exit→Act→VW→Prop}{Γ:Ga}{Δ Δ1 F:List D}{g:Nat}{vs:List Value}{as:List A}{fn:Func}{R:Ending→VW→Prop}{Y:Type}{R1:Y→A×List D}
theorem yx{cl:Call}{ts:Array TypeId}(xs:List Operand)(hg:o.guard=none)(hd:o.dst=none)(ho:o.op= .defer cl)(hcl:cl={ callee:=.value (.func g),args:=xs.toArray,argTypes:=ts })(hlen:xs.length=vs.length)(hh:fo Γ (xs.zip (vs.map .eq)))
 (h:JO ⟨P,N,S,w0,X,none,[O8 g vs],M⟩ ops l Q Γ Δ):JO ⟨P,N,S,w0,X,none,[],M⟩ ops (o::l) Q Γ Δ:=by
 intro a w hst
 have hw:Region.wanted o (yielded ops a.tmps)=true:=aA hg _
 refine nE fun K hK=>?_
 rw [if_pos hw]
 intro v1 hr
 obtain⟨h1,h2,S',h3,h4,h5,h6⟩:=hst.rely hr
 have e0:a.eval (.func g)= .func (.func g) #[] #[]:=rfl
 have e1:xs.map a.eval=vs:=i9 hlen (ik (c:=⟨P,N,S,w0,X,none,[],M⟩) h6 hh)
 have hex:(o.semAt none a.eval)=pure (.defer (O8 g vs)):=by
  rw [Oper.semAt_none];subst e1;simp [execOp,ho,hcl,resolve,Deferred.ofValue,e0,O8]
 show Sg P v1 (o.semAt none a.eval)∧G0 M v1 o a K Q ((o.semAt none a.eval).run P v1)
 rw [hex]
 refine⟨iJ.refl v1,hK _ _ (h _ _ ⟨?_,by rw [hd];simpa [Act.put] using h2,S',h3,h4,h5,fun s r hl=>by rw [hd];simpa [Act.put] using h6 s r hl⟩)⟩
 have h1:a.defers=[]:=h1
 rw [hd]
 simp [Act.put,h1]
theorem E7(hE:ae P g)(hc:dD M g as Δ1 R1)(hv:∀S w,gr S w as vs)(h:∀x,JN ⟨P,N,S,w0,X,none,[],M⟩ (cN P fn R .ret) Γ ((R1 x).2++F)):
 JN ⟨P,N,S,w0,X,none,[O8 g vs],M⟩ (uw M fn R .ret) Γ (Δ1++F):=by
 intro a w st T hT fr cs hfn hmo hdf htm hk
 have bc:=M.bc T hT
 have h1:a.defers=[O8 g vs]:=st.1
 refine bc.step _ _ _ fun v1 hr=>?_
 obtain⟨es,q1,q2⟩:=I4 (P:=P) (cs:=cs) (w:=v1.toWorld) hE hmo (hdf.trans h1)
 refine⟨_,_,v1.toWorld,es,q2,(iJ.refl v1).sub q1,?_⟩
 obtain⟨_,h2,S1,h3,h4,h5,h6⟩:=st.rely hr
 have hO1:bf Δ1 S1 v1:=bf.part (F:=F) h5
 refine hc .deferred (fun e=>nomatch e) S1 v1 vs h3.dom (hv _ _) hO1 T hT ({ fr with defers:=[] }::cs) fun e v' fr' hR hfn' hkd hlv=>?_
 obtain⟨x,S',u,rfl,g1,g2,g3,g4⟩:=hR
 obtain⟨l1,l2,fn',l3,l4⟩:=hlv
 refine bc.step _ _ _ fun v2 hr2=>?_
 obtain⟨r1,r2⟩:=l4 v2 hr2
 refine⟨_,_,v2.toWorld,_,Bj (fr:=fr') (c:={ fr with defers:=[] }) l1 l2 hkd l3 r1 (.inl hmo),r2.sub (fun e he=>Conc.mem_seen he),?_⟩
 refine bc.rely _ _ _ _ hr2 (hk v' (h x _ _ ⟨rfl,h2,S',h3.trans g1 (fun y hy=>h4 y (by obtain⟨d,hd,e⟩:=hy;exact⟨d,List.mem_append.2 (.inl hd),e⟩)),?_,h5.frame h3.dom g1 g3 g4,fun s r hl=>?_⟩))
 ·
  rintro y ⟨d,hd,e⟩;rcases List.mem_append.1 hd with hd |hd
  ·rcases g4 y ⟨d,hd,e⟩ with⟨d',hd',e'⟩ |hh
   ·exact h4 y ⟨d',List.mem_append.2 (.inl hd'),e'⟩
   ·exact .inr (Nat.le_trans h3.size hh)
  ·exact h4 y ⟨d,List.mem_append.2 (.inr hd),e⟩
 ·
  have hK:ip S1 v1 v':=fun y hy=>g1.keep y (h3.dom y hy) (h5.sees y hy) fun hf=>(hO1.own y hf).1 hy;exact A.mono g1.sub hK r (h6 s r hl)
end
def NL:Value→Bool
 | .string _=>true
 |_=>false
def Jm(v:Value)(c:ByteArray):Bool:=match v with
 | .string s=>s.toList == c.toList
 |_=>false
theorem Ic{P:Program}{M:Md P}{o:Oper}{x y:Operand}{T T':TypeId}{v:Value}{c:ByteArray}(ho:o.op= .binOp .eql T x y T')(hv:NL v=true):
 bG M o [(x,.eq v),(y,.eq (.string c))] [] (fun _:Unit=>(.eq (.bool (Jm v c)),[])):=by
 cases v with
 |string s=>exact i8 ho fun w=>by simp [eqGuard,binOp,Op.stringOp,Jm]
 |_=>cases hv
end K
end Go.Proofs.YtddneonghpmidaaGreatDoor
set_option linter.unusedVariables false
namespace Go.Proofs.YtddneonghpmidaaGreatDoor
namespace K
open Go
end K
end Go.Proofs.YtddneonghpmidaaGreatDoor
set_option linter.unusedVariables false
namespace Go.Proofs.YtddneonghpmidaaGreatDoor
namespace K
open Go
section
variable {c:Cx}{Γ:Ga}{u:Ty}{v:Value}{T:TypeId}{F:List D}
theorem GN{l:List (Ty.slice u).den}:SE c Γ (.sl v T (.slice u) l::F) Γ (.sl v T (.alt (.slice u)) (List.map Sum.inl l)::F):=fun a w h=>
 h.swap (d:=.sl v T (.slice u) l) (d':=.sl v T (.alt (.slice u)) (List.map Sum.inl l)) (fun _=>Iff.rfl) fun S hs=>by
  rcases hs with⟨h1,rfl⟩ |⟨b,cap,cc,rfl,q1,q1',q2,q3,q4⟩
  ·
   exact .inl ⟨h1,rfl⟩
  ·
   refine .inr ⟨b,cap,cc,by rw [List.length_map],by rw [List.length_map];exact q1,q1',q2,q3,?_⟩
   rw [List.length_map]
   exact Aw (f:=Sum.inl) (R':=rd S w (.alt (.slice u))) (fun x cs hx=>⟨hx,aM (.slice u) hx⟩) q4
theorem GO{nm:Value}{Tu:TypeId}{d:List u.den}{l:List (Ty.slice u).den}{i:Nat}:
 SE c Γ (.sl nm Tu u d:: .sl v T (.alt (.slice u)) (List.set (List.map Sum.inl l) i (.inr nm))::F) Γ (.sl v T (.slice u) (List.set l i d)::F):=fun a w h=>by
 obtain⟨h1,h2,S,h3,h4,h5,h6,h7⟩:=ta h
 obtain⟨xs,e1,e2⟩:=h7
 have e3:xs=[nm]:=by
  have l1:=aM (.slice u) e1;match xs,l1 with
  |[x],_=>simp [mk] at e2;rw [e2]
 subst e3
 have hd:(D.sl v T (.slice u) (List.set l i d)).holds S w:=by
  rcases h5.holds _ (List.mem_cons_self ..) with⟨g1,g2⟩ |⟨b,cap,cc,rfl,q1,q1',q2,q3,q4⟩
  ·refine .inl ⟨g1,?_⟩;cases l with
   |nil=>rfl
   |cons x l=>cases i <;> cases g2
  ·have hlen:(List.set (List.map (Sum.inl (β:=Value)) l) i (.inr nm)).length=(List.set l i d).length:=by simp
   refine .inr ⟨b,cap,cc,by rw [hlen],by rw [←hlen];exact q1,q1',q2,q3,?_⟩;rw [hlen] at q4;refine Ax (R:=rd S w (.slice u)) (R':=rd S w (.alt (.slice u))) (f:=Sum.inl) (fun x cs hx=>hx.1) (fun cs hx=>?_) q4;obtain⟨rfl,_⟩:=hx;exact e1
 have hp:=List.pairwise_cons.1 h5.apart
 refine⟨h1,h2,S,h3,fun x ⟨e,he,hb⟩=>?_,h5.re ⟨fun e he=>?_,fun x ⟨e,he,hb⟩=>?_,List.pairwise_cons.2 ⟨fun e he=>hp.1 e he,hp.2⟩⟩ (fun x ⟨e,he,hb⟩=>by
  rcases List.mem_cons.1 he with rfl |he
  ·exact⟨_,List.mem_cons_self ..,hb⟩
  ·exact⟨e,List.mem_cons_of_mem _ he,hb⟩) (fun _ h=>.inl h),h6⟩
 ·
  rcases List.mem_cons.1 he with rfl |he
  ·exact h4 x ⟨_,List.mem_cons_self ..,hb⟩
  ·exact h4 x ⟨e,List.mem_cons_of_mem _ he,hb⟩
 ·
  rcases List.mem_cons.1 he with rfl |he
  ·exact hd
  ·exact h5.holds e (List.mem_cons_of_mem _ he)
 ·
  rcases List.mem_cons.1 he with rfl |he
  ·exact h5.own x ⟨_,List.mem_cons_self ..,hb⟩
  ·exact h5.own x ⟨e,List.mem_cons_of_mem _ he,hb⟩
theorem J3{c:Cx}{ops:Array Oper}{l:List Oper}{Q:Exit→Act→VW→Prop}{Γ:Ga}{pre:List D}{T:TypeId}{z:Value×(Nat→Value)}{ls:List (List Int)}
 (h:bB z.1=true→JO c ops l Q Γ (pre++fD T z ls)):JO c ops l Q Γ (pre++fD T z ls):=by
 refine co (fE (Δ':=.sl z.1 T .val (eB z.2 0 ls)::(pre++kY z.2 0 ls)) List.perm_middle) ?_
 refine fA fun hv=>?_
 have hp:(D.sl z.1 T .val (eB z.2 0 ls)::(pre++kY z.2 0 ls)).Perm (pre++fD T z ls):=List.perm_middle.symm
 exact co (fE hp) (h hv)
theorem M8{P:Program}{M:Md P}{o:Oper}{N:List (Operand×A)}{Δ Δ':List D}{r r':A}(h:bG M o N Δ (fun _:Unit=>(r,Δ')))(hr:∀S w v,r.holds S w v→r'.holds S w v):bG M o N Δ (fun _:Unit=>(r',Δ')):=
 ⟨h.1,fun ro S w a next Q hd hn hO k=>h.2 ro S w a next Q hd hn hO fun x S' v' u h1 h2 h3 h4=>k x S' v' u h1 (hr _ _ _ h2) h3 h4⟩
theorem wi{P:Program}{M:Md P}{o:Oper}{x:Operand}{T:TypeId}{v nm:Value}{TE:TypeId}{u:Ty}{l:List (Ty.alt (.slice u)).den}{k i:Nat}(ho:o.op= .load T x)(ht:dM P T 1 false)
 (hk:k=i * (Ty.slice u).cells) (hl:l[i]? =some (.inr nm)):bG M o [(x,.eq (rD v k))] [.sl v TE (.alt (.slice u)) l] (fun _:Unit=>(.eq nm,[.sl v TE (.alt (.slice u)) l])):=
 M8 (dV (t:=.alt (.slice u)) (off:=0) (z:=Sum.inr nm) (u:=.alt (.slice u)) ho ht (fun _=>rfl) hk hl rfl) fun S w a h=>by
  obtain⟨xs,e1,e2⟩:=h
  obtain⟨rfl,_⟩:=e1
  exact(by simpa [mk] using e2:a=nm)
theorem s9{α β:Type}{l:List α}{i:Int}{x:α}(e:aP l i=some x)(nm:β):aP (List.set (List.map Sum.inl l) (Int.toNat i) (.inr nm)) i=some (.inr nm):=by
 obtain⟨h1,h2,h3⟩:=cz e;simp_all [aP]
end
end K
end Go.Proofs.YtddneonghpmidaaGreatDoor
set_option linter.unusedVariables false
namespace Go.Proofs.YtddneonghpmidaaGreatDoor
namespace K
open Go
section
variable {c:Cx}{P:Program}{M:Md P}{o:Oper}{N N':List (Operand×A)}{Δ:List D}{T1 T2:TypeId}{t1 t2:Ty}{l1:List t1.den}{l2:List t2.den}{d:Int}{S:FS}{w:World}{v a b:Value}
end
end K
end Go.Proofs.YtddneonghpmidaaGreatDoor
set_option linter.unusedVariables false
namespace Go.Proofs.YtddneonghpmidaaGreatDoor
namespace K
open Go
@[reducible] def Vh{α β:Type}(x:α×β):α×(β ⊕ Value):=(x.1,.inl x.2)
section
variable {c:Cx}{Γ:Ga}{u r:Ty}{v:Value}{T:TypeId}{F:List D}
end
end K
end Go.Proofs.YtddneonghpmidaaGreatDoor
set_option linter.unusedVariables false
set_option linter.unusedSimpArgs false
namespace Go.Proofs.YtddneonghpmidaaGreatDoor
namespace K
open Go
section
variable {P:Program}{M:Md P}{o:Oper}{x y z:Operand}{T T':TypeId}{v u:Value}
end
end K
