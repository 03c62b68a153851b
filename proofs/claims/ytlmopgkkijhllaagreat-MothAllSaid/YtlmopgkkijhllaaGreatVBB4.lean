import Derived.Test.YtlmopgkkijhllaaGreatVBB3
import Derived.ScopeJumps
import Derived.RangeFuncRecord
import Derived.DeepKeys5
import Derived.Conc.Holds
import Derived.ChangeSame
import Derived.ChangeSlices
import Derived.JoinedOf
import Derived.JoinedAt
import Derived.RowKit3
import Derived.SizedLaws
set_option linter.unusedVariables false
set_option linter.unusedSimpArgs false
namespace Go.Proofs.YtlmopgkkijhllaaGreat
namespace K
open Go
section
variable {c:Cx}{full:List Oper}{Q:Exit→Act→VW→Prop}{Γ0 Γ Γt:Ga}{Δ Δr Δt F:List D}{acc:List DE}{l:List Oper}{id:Nat}{must:List Bool}{T:List Nat}{vs:List Value}{k:Nat}
def Fl(Δ Δr:List D):List DE→List Bool→Prop
 |[],_=>True
 |e::es,ms=>((ms.headD false=true∧(e.b=true→e.r= .any))∨(e.b=false∧(∀v,e.E v=[])∧(e.u=none∨∃k d,e.u=some (k,false)∧Δ[k]? =some d∧d∈Δr)))∧Fl Δ Δr es ms.tail
theorem Fl.nth:∀{acc:List DE} {must:List Bool} {i:Nat} {e:DE},Fl Δ Δr acc must→acc[i]? =some e→must.getD i false=false→e.b=false∧(∀v,e.E v=[])∧(e.u=none∨∃k d,e.u=some (k,false)∧Δ[k]? =some d∧d∈Δr)
 |[],_,_,_,_,h,_=>by simp at h
 |x::acc,must,0,e,h,he,hm=>by
  simp at he
  subst he
  rcases h.1 with h1 |h1
  ·
   cases must <;> simp at h1 hm
   rw [h1.1] at hm;cases hm
  ·
   exact h1
 |x::acc,must,i+1,e,h,he,hm=>by
  refine Fl.nth (acc:=acc) (must:=must.tail) (i:=i) h.2 (by simpa using he) ?_
  cases must with
  |nil=>simp
  |cons m ms=>simpa using hm
def B0(full:List Oper)(es:List DE)(must:List Bool)(T:List Nat):Bool:=
 let M:=kH [] full
 (es.zipIdx.all fun(e,i)=>sT M es i e) && (full.zipIdx.all fun(o,i)=>(fq o).all (· < i)) &&
 ((List.range full.length).all fun j=>j < es.length || (List.range j).all fun i=>i < es.length || (M.getD j 0).testBit i) &&
 (es.zipIdx.all fun(_,i)=> !must.getD i false || (M.getD es.length 0).testBit i) &&
 (es.zipIdx.all fun(e,i)=>must.getD i false || (fE e.N).all fun s=>es.zipIdx.all fun(e',j)=>e'.d != s || (M.getD i 0).testBit j) &&
 (es.zipIdx.all fun(e,i)=> !T.contains e.d && (must.getD i false || (fE e.N).all fun s=> !T.contains s)) && decide (es.length < full.length)
@[reducible] def rB(e:DE)(v:Value):A:=if e.b then .eq v else e.r
@[reducible] def GB:List DE→List Value→Ga
 |e::es,v::vs=>(e.d,rB e v)::GB es vs
 |_,_=>[]
theorem Dk{s:Nat}{r:A}:∀{acc:List DE} {vs:List Value},vs.length=acc.length→lk (GB acc vs++Γt) s=some r→
 (∃(j:Nat) (e:DE),acc[j]? =some e∧e.d=s∧r=rB e (vs.getD j undef))∨((∀(j:Nat) (e:DE),acc[j]? =some e→e.d≠s)∧lk Γt s=some r)
 |[],[],_,h=>.inr ⟨fun j e h=>by simp at h,h⟩
 |e::es,v::vs,hl,h=>by
  simp only [GB,List.cons_append,lk] at h
  split at h
  ·
   rename_i hd
   exact .inl ⟨0,e,rfl,hd,(Option.some.inj h).symm⟩
  ·
   rename_i hd
   rcases Dk (acc:=es) (vs:=vs) (by simpa using hl) h with⟨j,e',h1,h2,h3⟩ |⟨h1,h2⟩
   ·
    exact .inl ⟨j+1,e',by simpa using h1,h2,by simpa using h3⟩
   ·
    refine .inr ⟨fun j e' h3=>?_,h2⟩
    cases j with
    |zero=>simp at h3;subst h3;exact hd
    |succ j=>exact h1 j e' (by simpa using h3)
 |[],_::_,hl,_=>by simp at hl
 |_::_,[],hl,_=>by simp at hl
structure TI(c:Cx)(full:List Oper)(Γ0:Ga)(acc:List DE)(must:List Bool)(T:List Nat)(vs:List Value)(Δr:List D)(k:Nat)(Γt:Ga)(Δt:List D)(L:Array Bool)(a:Act)(w:VW):Prop where
 size:L.size=full.length
 tail:∀j,acc.length≤j→lst L j=decide (j < acc.length+k)
 must:∀j,must.getD j false=true→j < acc.length→lst L j=true
 closed:∀j o,full[j]? =some o→lst L j=true→∀i∈fq o,lst L i=true
 defers:a.defers=c.dfs
 tmps:a.tmps.size=c.N
 keep:∀s,T.contains s=false→lk Γt s=lk Γ0 s
 ex:∃S:FS,bp c.X c.S0 c.w0 S w∧(∀b,ap (Δr++Δt) b→c.X b∨c.w0.heap.size≤b)∧aQ (Δr++Δt) S w∧
  (∀s r,lk Γt s=some r→(∀(j:Nat) (e:DE),acc[j]? =some e→e.d≠s)→r.holds S w (a.tmps.getD s undef))∧
  (∀(j:Nat) (e:DE),acc[j]? =some e→lst L j=true→(rB e (vs.getD j undef)).holds S w (a.tmps.getD e.d undef))
theorem ly(h:B0 full acc must T=true):
 (∀(i:Nat) (e:DE),acc[i]? =some e→sT (kH [] full) acc i e=true)∧(∀(j:Nat) (o:Oper),full[j]? =some o→∀i∈fq o,i < j)∧
 (∀j,acc.length≤j→j < full.length→∀i,acc.length≤i→i < j→((kH [] full).getD j 0).testBit i=true)∧
 (∀i,i < acc.length→must.getD i false=true→((kH [] full).getD acc.length 0).testBit i=true)∧
 (∀(i:Nat) (e:DE),acc[i]? =some e→must.getD i false=false→∀s∈fE e.N,∀(j:Nat) (e':DE),acc[j]? =some e'→e'.d=s→((kH [] full).getD i 0).testBit j=true)∧
 (∀(i:Nat) (e:DE),acc[i]? =some e→T.contains e.d=false∧(must.getD i false=false→∀s∈fE e.N,T.contains s=false))∧acc.length < full.length:=by
 unfold B0 at h
 simp only [Bool.and_eq_true,decide_eq_true_eq] at h
 obtain⟨⟨⟨⟨⟨⟨h1,h2⟩,h3⟩,h4⟩,h5⟩,h6⟩,h7⟩:=h
 refine⟨fun i e he=>dS h1 he,fun j o ho i hi=>?_,fun j hj hjl i hi hij=>?_,fun i hi hm=>?_,fun i e he hm s hs j e' he' hd=>?_,fun i e he=>?_,h7⟩
 ·
  have:=dS h2 ho;rw [List.all_eq_true] at this;simpa using this i hi
 ·
  rw [List.all_eq_true] at h3;have:=h3 j (List.mem_range.2 hjl);simp only [Bool.or_eq_true,decide_eq_true_eq] at this;rcases this with h |h
  ·omega
  ·rw [List.all_eq_true] at h;have:=h i (List.mem_range.2 hij);simp only [Bool.or_eq_true,decide_eq_true_eq] at this;rcases this with h |h
   ·omega
   ·exact h
 ·
  have:=dS h4 (List.getElem?_eq_getElem hi);simp only [hm,Bool.not_true,Bool.false_or] at this;exact this
 ·
  have:=dS h5 he;simp only [hm,Bool.false_or] at this;rw [List.all_eq_true] at this;have:=dS (this s hs) he';simpa [hd] using this
 ·
  have:=dS h6 he;simp only [Bool.and_eq_true,Bool.not_eq_true'] at this;refine⟨this.1,fun hm s hs=>?_⟩;have h8:=this.2;simp only [hm,Bool.false_or] at h8;rw [List.all_eq_true] at h8;simpa using h8 s hs
theorem Fl.any:∀{acc:List DE} {must:List Bool} {i:Nat} {e:DE},Fl Δ Δr acc must→acc[i]? =some e→e.b=true→e.r= .any
 |[],_,_,_,_,h,_=>by simp at h
 |x::acc,must,0,e,h,he,hb=>by
  simp at he
  subst he
  rcases h.1 with h1 |h1
  ·
   exact h1.2 hb
  ·
   rw [h1.1] at hb;cases hb
 |x::acc,must,i+1,e,h,he,hb=>Fl.any (acc:=acc) (must:=must.tail) (i:=i) h.2 (by simpa using he) hb
theorem Lu(hlt:∀(j:Nat) (o:Oper),full[j]? =some o→∀i∈fq o,i < j):∀(n m:Nat) (o:Oper),m≤n→full[m]? =some o→∀q,((kH [] full).getD m 0).testBit q=true→q < m:=by
 intro n
 induction n with
 |zero=>
  intro m o hm ho q hq;have:m=0:=by omega
  subst this;obtain⟨M',g1,g2,g3⟩:=rD (M:=[]) ho;simp only [List.length_nil,Nat.zero_add] at g3;rw [List.getD_eq_getElem?_getD,g3,Option.getD_some] at hq;obtain⟨p,hp,_⟩:=jW hq;have:=hlt 0 o ho p hp;omega
 |succ n ih=>
  intro m o hm ho q hq;obtain⟨M',g1,g2,g3⟩:=rD (M:=[]) ho;simp only [List.length_nil,Nat.zero_add] at g1 g3;rw [List.getD_eq_getElem?_getD,g3,Option.getD_some] at hq;obtain⟨p,hp,hq⟩:=jW hq;have hpm:=hlt m o ho p hp;rcases hq with rfl |hq
  ·exact hpm
  ·have hml:m < full.length:=by
    rcases Nat.lt_or_ge m full.length with h |h
    ·exact h
    ·simp [List.getElem?_eq_none h] at ho
   have:=ih p _ (by omega) (List.getElem?_eq_getElem (by omega:p < full.length)) q (by
    rw [List.getD_eq_getElem?_getD] at hq⊢;rw [g2 p (by omega)];exact hq)
   omega
theorem vg(hfull:full=acc.map (·.o)++l)(hDR:Ef c full.toArray Δ Γ0 acc)(hck:B0 full acc must T=true)(hfl:Fl Δ Δr acc must){L:Array Bool}{a:Act}{w:VW}(h:TI c full Γ0 acc must T vs Δr k Γt Δt L a w){i:Nat}
 (hi:i < acc.length) (hri:i∈Region.ready .any full.toArray L):nG c.M c.rd full.toArray Q i (fun a' w'=>TI c full Γ0 acc must T vs Δr k Γt Δt (L.setIfInBounds i true) a' w') a w:=by
 obtain⟨hc1,hlt,hc3,hc4,hc5,hc6,hc7⟩:=ly hck
 obtain⟨e,he⟩:∃e,acc[i]? =some e:=⟨_,List.getElem?_eq_getElem hi⟩
 obtain⟨hDV,hHas⟩:=Ef.nth acc hDR he
 have hone:=hc1 i e he
 simp only [sT] at hone
 have hother:∀(j:Nat) (e':DE),acc[j]? =some e'→j≠i→e'.d≠e.d:=fun j e' hj hne=>by
  have:=dS hone hj;simp only [Bool.or_eq_true,beq_iff_eq,hne,false_or,Bool.and_eq_true,bne_iff_ne,Bool.not_eq_true'] at this;exact this.1.1
 obtain⟨oi,hoi,hli,hpi⟩:=(cX h.size).1 hri
 have hoe:oi=e.o:=by
  rw [hfull,List.getElem?_append_left (by simpa using hi)] at hoi;simp [he] at hoi;exact hoi.symm
 subst hoe
 have hiL:i < L.size:=by rw [h.size,hfull];simp;omega
 have hahead:=rF h.closed hlt i i e.o (Nat.le_refl _) hoi hpi
 have hmf:must.getD i false=false:=by
  cases hm:must.getD i false with
  |false=>rfl
  |true=>have:=h.must i hm hi;rw [hli] at this;cases this
 obtain⟨f1,f2,f3⟩:=hfl.nth he hmf
 obtain⟨S,h3,h4,h5,h6,h7⟩:=h.ex
 have hsetL:∀j,j≠i→lst (L.setIfInBounds i true) j=lst L j:=fun j hj=>by rw [cI hiL,if_neg (Ne.symm hj)]
 have hsetI:lst (L.setIfInBounds i true) i=true:=by rw [cI hiL,if_pos rfl]
 have hrB:∀(j:Nat) (e':DE),acc[j]? =some e'→lst L j=true→e'.b=false→e'.r.holds S w (a.tmps.getD e'.d undef):=fun j e' hj hl hb=>by
  have:=h7 j e' hj hl;simpa [rB,hb] using this
 have hneeds:bC S w a e.N:=eB hHas fun s r hs hl=>by
  rcases tP hl with⟨j,e',hj,hd,hr⟩ |⟨h8,h9⟩
  ·have hji:j < i:=by
    rcases Nat.lt_or_ge j i with hh |hh
    ·exact hh
    ·rw [List.getElem?_eq_none (by simp;omega)] at hj;cases hj
   rw [List.getElem?_take_of_lt hji] at hj;have hlj:=hahead j (hc5 i e he hmf s hs j e' hj hd);subst hr hd;cases hb:e'.b with
   |false=>exact hrB j e' hj hlj hb
   |true=>
    rw [hfl.any hj hb];trivial
  ·refine h6 s r ?_ fun j e' hj hd=>?_
   ·rw [h.keep s ((hc6 i e he).2 hmf s hs)];exact h8
   ·have hb:=hc5 i e he hmf s hs j e' hj hd;have hji:=Lu hlt i i _ (Nat.le_refl _) hoi j hb;exact h9 j e' (by rw [List.getElem?_take_of_lt hji];exact hj) hd
 obtain⟨rest,hp1,hk1⟩:∃rest,(Δr++Δt).Perm (lF Δ e.u++rest)∧iI Δ e.u=lF Δ e.u:=by
  rcases f3 with hu |⟨kk,d,hu,hkd,hd⟩
  ·rw [hu];exact⟨_,List.Perm.refl _,rfl⟩
  ·rw [hu];obtain⟨q,hq⟩:=List.getElem?_of_mem (List.mem_append_left Δt hd);exact⟨_,by simp only [lF,hkd];exact gk q d hq,by simp [lF,iI,hkd]⟩
 have hown:=h5.perm hp1
 have hownU:aQ (lF Δ e.u) S w:=hown.part
 have hgo:=hDV.run S w a (fun a' w'=>TI c full Γ0 acc must T vs Δr k Γt Δt (L.setIfInBounds i true) a' w') Q h3.dom hneeds hownU fun S' w' v hs hr ho hf=>by
  have hdl:e.d < a.tmps.size:=by rw [h.tmps];exact hDV.lt
  have hput:∀s,(a.put (some e.d) v).tmps.getD s undef=if e.d=s then v else a.tmps.getD s undef:=fun s=>lu hdl;have hin:∀b,ap (lF Δ e.u) b→ap (Δr++Δt) b:=fun b ⟨d,hd,hb⟩=>⟨d,hp1.mem_iff.2 (List.mem_append.2 (.inl hd)),hb⟩;have hK:fW S w w':=fun b hb=>hs.keep b (h3.dom b hb) (h5.sees b hb) (fun hx=>(h5.own b (hin b hx)).1 hb);rw [f2 v,List.append_nil,hk1] at ho;have hfr:=hown.frame h3.dom hs ho (fun b hb=>.inl hb);refine⟨by simpa using h.size,fun j hj=>by rw [hsetL j (by omega)];exact h.tail j hj,fun j hj hjl=>?_,fun j o hj hlj kk hkk=>?_,h.defers,by simpa [Act.put] using h.tmps,h.keep,S',h3.trans hs fun b hb=>h4 b (hin b hb),h4,hfr.perm hp1.symm,fun s r hl hno=>?_,fun j e' hj hlj=>?_⟩
  ·rw [cI hiL];split
   ·rfl
   ·exact h.must j hj hjl
  ·rw [cI hiL];split
   ·rfl
   ·rw [cI hiL] at hlj;split at hlj
    ·rename_i hij;subst hij;have:o=e.o:=by rw [hoi] at hj;cases hj;rfl
     subst this;exact hpi kk hkk
    ·exact h.closed j o hj hlj kk hkk
  ·rw [hput,if_neg (hno i e he)];exact A.mono hs.sub hK r (h6 s r hl hno)
  ·rw [hput];by_cases hji:j=i
   ·subst hji;have:e'=e:=by rw [he] at hj;cases hj;rfl
    subst this;rw [if_pos rfl];simpa [rB,f1] using hr
   ·rw [if_neg (Ne.symm (hother j e' hj hji))];exact A.mono hs.sub hK _ (h7 j e' hj (by rw [hsetL j hji] at hlj;exact hlj))
 have hoi':full.toArray[i]? =some e.o:=by simpa using hoi
 unfold nG
 simp only [hoi']
 split
 ·
  rename_i hw;rw [if_pos hw] at hgo;exact hgo
 ·
  rename_i hw;rw [if_neg hw] at hgo;rw [hDV.dst];exact hgo
def JT(c:Cx)(full:List Oper)(Q:Exit→Act→VW→Prop)(Γ0:Ga)(Δ:List D)(acc:List DE)(must:List Bool)(T:List Nat)(vs:List Value)(Δr:List D)(k:Nat)(l:List Oper)(Γt:Ga)(Δt:List D):Prop:=
 full=acc.map (·.o)++full.drop acc.length→full.drop (acc.length+k)=l→Ef c full.toArray Δ Γ0 acc→B0 full acc must T=true→Fl Δ Δr acc must→vs.length=acc.length→
  ∀aF L a w,TI c full Γ0 acc must T vs Δr k Γt Δt L a w→cnt L acc.length+l.length≤aF→fQ c.M c.rd .any full.toArray Q aF L a w
theorem yr(h:JN c (Q .normal) (GB acc vs++Γt) (Δr++Δt)):JT c full Q Γ0 Δ acc must T vs Δr k [] Γt Δt:=by
 intro hfull hdr hDR hck hfl hvs aF;obtain⟨hc1,hlt,hc3,hc4,hc5,hc6,hc7⟩:=ly hck;have hlen:full.length≤acc.length+k:=by simpa using hdr
 have fin:∀L a w,TI c full Γ0 acc must T vs Δr k Γt Δt L a w→cnt L acc.length=0→Region.ready .any full.toArray L=[]∧Q .normal a w:=by
  intro L a w hI h0;have hall:=jV h0;constructor
  ·rw [List.eq_nil_iff_forall_not_mem];intro i hi;obtain⟨o,h3,h4,_⟩:=(cX hI.size).1 hi
   have hil:i < full.length:=by
    rcases Nat.lt_or_ge i full.length with h |h
    ·exact h
    ·simp [List.getElem?_eq_none h] at h3
   rcases Nat.lt_or_ge i acc.length with h |h
   ·rw [hall i h] at h4;cases h4
   ·rw [hI.tail i h] at h4;simp at h4;omega
  ·obtain⟨S,h3,h4,h5,h6,h7⟩:=hI.ex;refine h a w ⟨hI.defers,hI.tmps,S,h3,h4,h5,fun s r hl=>?_⟩;rcases Dk hvs hl with⟨j,e,hj,hd,hr⟩ |⟨h8,h9⟩
   ·have hjl:j < acc.length:=by
     rcases Nat.lt_or_ge j acc.length with h |h
     ·exact h
     ·simp [List.getElem?_eq_none h] at hj
    subst hd hr;exact h7 j e hj (hall j hjl)
   ·exact h6 s r h9 h8
 induction aF with
 |zero=>
  intro L a w hI hf;exact fin L a w hI (by omega)
 |succ n ih=>
  intro L a w hI hf;refine⟨fun hr=>?_,fun i hi=>?_⟩
  ·by_cases h0:cnt L acc.length=0
   ·exact(fin L a w hI h0).2
   ·obtain⟨j,hj1,hj2,hj3⟩:=pg h0;obtain⟨oj,hoj⟩:∃oj,full[j]? =some oj:=⟨_,List.getElem?_eq_getElem (by omega)⟩;have:j∈Region.ready .any full.toArray L:=(cX hI.size).2 ⟨oj,hoj,hj2,fun i hi=>hj3 i (hlt j oj hoj i hi)⟩;rw [hr] at this;cases this
  ·obtain⟨oi,hoi,hli,hpi⟩:=(cX hI.size).1 hi
   have hil:i < full.length:=by
    rcases Nat.lt_or_ge i full.length with h |h
    ·exact h
    ·simp [List.getElem?_eq_none h] at hoi
   have hia:i < acc.length:=by
    rcases Nat.lt_or_ge i acc.length with h |h
    ·exact h
    ·rw [hI.tail i h] at hli;simp at hli;omega
   refine kL (fun a' w' hI'=>ih _ a' w' hI' ?_) (vg hfull hDR hck hfl hI hia hi);have hiL:i < L.size:=by rw [hI.size];exact hil
   have:=pe (L:=L) (L':=L.setIfInBounds i true) (i:=i) (fun j hj=>by rw [cI hiL,if_neg (Ne.symm hj)]) hli (by rw [cI hiL,if_pos rfl]) hia;omega
def E5(full:List Oper)(acc:List DE)(i:Nat)(N:List (Operand×A)):Bool:=
 (fE N).all fun s=>acc.zipIdx.all fun(e',j)=>e'.d != s || ((kH [] full).getD i 0).testBit j
section
variable {o:Oper}{N:List (Operand×A)}{Δu:List D}{X:Type}{R:X→A×List D}{r:A}{d:Nat}
theorem D8(hg:o.guard=none)(ht:bo c.M o N Δu R)(hh:dO (GB acc vs++Γt) N)(hN:E5 full acc (acc.length+k) N=true)
 (G':X→Ga) (hG:∀x (a:Act) (v:Value) (S':FS) (w':World),a.tmps.size=c.N→(R x).1.holds S' w' v→(∀s r,lk Γt s=some r→(∀(j:Nat) (e:DE),acc[j]? =some e→e.d≠s)→r.holds S' w' (a.tmps.getD s undef))→
  (∀s r,lk (G' x) s=some r→(∀(j:Nat) (e:DE),acc[j]? =some e→e.d≠s)→r.holds S' w' ((a.put o.dst v).tmps.getD s undef)))
 (hK:∀x,(∀s,T.contains s=false→lk Γt s=lk Γ0 s)→∀s,T.contains s=false→lk (G' x) s=lk Γ0 s)
 (hD:∀(a:Act) (v:Value) (e:DE),a.tmps.size=c.N→e∈acc→T.contains e.d=false→(a.put o.dst v).tmps.getD e.d undef=a.tmps.getD e.d undef)
 (h:∀x,JT c full Q Γ0 Δ acc must T vs Δr (k+1) l (G' x) ((R x).2++F)):JT c full Q Γ0 Δ acc must T vs Δr k (o::l) Γt (Δu++F):=by
 intro hfull hdr hDR hck hfl hvs aF
 obtain⟨hc1,hlt,hc3,hc4,hc5,hc6,hc7⟩:=ly hck
 have hjl:acc.length+k < full.length:=by
  rcases Nat.lt_or_ge (acc.length+k) full.length with h |h
  ·exact h
  ·rw [List.drop_eq_nil_of_le h] at hdr;cases hdr
 have hdr0:=hdr
 rw [List.drop_eq_getElem_cons hjl] at hdr
 simp only [List.cons.injEq] at hdr
 obtain⟨hd1,hd2⟩:=hdr
 have ho:full[acc.length+k]? =some o:=by rw [List.getElem?_eq_getElem hjl,hd1]
 induction aF with
 |zero=>
  intro L a w hI hf;simp only [List.length_cons] at hf;omega
 |succ n ih=>
  intro L a w hI hf;simp only [List.length_cons] at hf
  have hne:Region.ready .any full.toArray L≠[]:=by
   by_cases h0:cnt L acc.length=0
   ·have hall:=jV h0
    have hrj:acc.length+k∈Region.ready .any full.toArray L:=(cX hI.size).2 ⟨o,ho,by rw [hI.tail _ (by omega)];simp,fun i hi=>by
     have:=hlt _ o ho i hi;rcases Nat.lt_or_ge i acc.length with h |h
     ·exact hall i h
     ·rw [hI.tail i h];simpa using this⟩
    intro hr;rw [hr] at hrj;cases hrj
   ·obtain⟨j,hj1,hj2,hj3⟩:=pg h0;obtain⟨oj,hoj⟩:∃oj,full[j]? =some oj:=⟨_,List.getElem?_eq_getElem (by omega)⟩;have:j∈Region.ready .any full.toArray L:=(cX hI.size).2 ⟨oj,hoj,hj2,fun i hi=>hj3 i (hlt j oj hoj i hi)⟩;intro hr;rw [hr] at this;cases this
  refine⟨fun hr=>absurd hr hne,fun i hi=>?_⟩;obtain⟨oi,hoi,hli,hpi⟩:=(cX hI.size).1 hi
  have hil:i < full.length:=by
   rcases Nat.lt_or_ge i full.length with h |h
   ·exact h
   ·simp [List.getElem?_eq_none h] at hoi
  have hiL:i < L.size:=by rw [hI.size];exact hil
  rcases Nat.lt_or_ge i acc.length with hia |hia
  ·refine kL (fun a' w' hI'=>ih _ a' w' hI' ?_) (vg hfull hDR hck hfl hI hia hi);have:=pe (L:=L) (L':=L.setIfInBounds i true) (i:=i) (fun j hj=>by rw [cI hiL,if_neg (Ne.symm hj)]) hli (by rw [cI hiL,if_pos rfl]) hia;simp only [List.length_cons];omega
  ·have hle:acc.length+k≤i:=by
    rw [hI.tail i hia] at hli;simpa using hli
   have hik:i=acc.length+k:=by
    rcases Nat.lt_or_ge (acc.length+k) i with hh |hh
    ·exfalso;have:=rF hI.closed hlt i i oi (Nat.le_refl _) hoi hpi (acc.length+k) (hc3 i hia hil _ (by omega) hh);rw [hI.tail _ (by omega)] at this;simp at this
    ·omega
   subst hik;have hoe:oi=o:=by rw [ho] at hoi;cases hoi;rfl
   subst hoe;have hahead:=rF hI.closed hlt _ _ oi (Nat.le_refl _) ho hpi;obtain⟨S,h3,h4,h5,h6,h7⟩:=hI.ex
   have hneeds:bC S w a N:=eB hh fun s r hs hl=>by
    rcases Dk hvs hl with⟨j,e,hj,hd,hr⟩ |⟨h8,h9⟩
    ·unfold E5 at hN;rw [List.all_eq_true] at hN;have:=dS (hN s hs) hj;simp only [hd,bne_self_eq_false,Bool.false_or] at this;subst hd hr;exact h7 j e hj (hahead j this)
    ·exact h6 s r h9 h8
   have hp1:(Δr++(Δu++F)).Perm (Δu++(Δr++F)):=by
    rw [←List.append_assoc,←List.append_assoc];exact List.Perm.append_right _ List.perm_append_comm
   have hown:=h5.perm hp1;have hownU:aQ Δu S w:=hown.part
   have hgo:oi.wk c.M c.rd a w (fun a' w'=>fQ c.M c.rd .any full.toArray Q n (L.setIfInBounds (acc.length+k) true) a' w') Q:=ht.run c.rd S w a _ Q h3.dom hneeds hownU fun x S' w' v hs hr ho' hf'=>by
    have hin:∀b,ap Δu b→ap (Δr++(Δu++F)) b:=fun b ⟨d,hd,hb⟩=>⟨d,hp1.mem_iff.2 (List.mem_append.2 (.inl hd)),hb⟩;have hKp:fW S w w':=fun b hb=>hs.keep b (h3.dom b hb) (h5.sees b hb) (fun hx=>(h5.own b (hin b hx)).1 hb);have hfr:=hown.frame h3.dom hs ho' hf'
    have hp2:((R x).2++(Δr++F)).Perm (Δr++((R x).2++F)):=by
     rw [←List.append_assoc,←List.append_assoc];exact List.Perm.append_right _ List.perm_append_comm
    refine h x hfull (by rw [←hd2];rfl) hDR hck hfl hvs n _ _ w' ⟨by simpa using hI.size,fun j hj=>?_,fun j hj hjl=>?_,fun j o' hj hlj kk hkk=>?_,(by cases oi.dst <;> simpa [Act.put] using hI.defers),by simpa [Act.put] using (by cases oi.dst <;> simpa [Act.put] using hI.tmps:(a.put oi.dst v).tmps.size=c.N),hK x hI.keep,S',h3.trans hs fun b hb=>h4 b (hin b hb),fun b hb=>?_,hfr.perm hp2,hG x a v S' w' hI.tmps hr (fun s r hl hno=>A.mono hs.sub hKp r (h6 s r hl hno)),fun j e hj hlj=>?_⟩ ?_
    ·rw [cI hiL];split
     ·rename_i hh;subst hh;simp
     ·rename_i hh;rw [hI.tail j hj];rw [decide_eq_decide];omega
    ·rw [cI hiL];split
     ·rfl
     ·exact hI.must j hj hjl
    ·rw [cI hiL];split
     ·rfl
     ·rw [cI hiL] at hlj;split at hlj
      ·rename_i hij;subst hij;have:o'=oi:=by rw [ho] at hj;cases hj;rfl
       subst this;exact hpi kk hkk
      ·exact hI.closed j o' hj hlj kk hkk
    ·rw [mI hp2.symm] at hb;obtain⟨d',hd',hbd⟩:=hb;rcases List.mem_append.1 hd' with hd' |hd'
     ·rcases hf' b ⟨d',hd',hbd⟩ with hh |hh
      ·exact h4 b (hin b hh)
      ·exact .inr (Nat.le_trans h3.size hh)
     ·exact h4 b ⟨d',hp1.mem_iff.2 (List.mem_append.2 (.inr hd')),hbd⟩
    ·rw [hD a v e hI.tmps (List.mem_of_getElem? hj) (hc6 j e hj).1];refine A.mono hs.sub hKp _ (h7 j e hj ?_)
     rw [cI hiL,if_neg (by
      intro hh
      have:j < acc.length:=by
       rcases Nat.lt_or_ge j acc.length with h |h
       ·exact h
       ·simp [List.getElem?_eq_none h] at hj
      omega)] at hlj
     exact hlj
    ·have:=u5 (L:=L) (L':=L.setIfInBounds (acc.length+k) true) (i:=acc.length+k) (fun j hj=>by rw [cI hiL,if_neg (Ne.symm hj)]) (t:=acc.length) (by omega);rw [this];omega
   have ho2:full.toArray[acc.length+k]? =some oi:=by simpa using ho
   unfold nG;simp only [ho2];rw [if_pos (ab hg _)];exact hgo
theorem TP(hg:o.guard=none)(hd:o.dst=none)(ht:bo c.M o N Δu R)(hh:dO (GB acc vs++Γt) N)(hN:E5 full acc (acc.length+k) N=true)
 (h:∀x,JT c full Q Γ0 Δ acc must T vs Δr (k+1) l Γt ((R x).2++F)):JT c full Q Γ0 Δ acc must T vs Δr k (o::l) Γt (Δu++F):=
 D8 hg ht hh hN (fun _=>Γt) (fun x a v S' w' _ _ hs=>by rw [hd];exact hs) (fun _ h=>h) (fun a v e _ _ _=>by rw [hd];rfl) h
theorem TO(hg:o.guard=none)(hd:o.dst=some d)(hdN:Nat.blt d c.N=true)(hdT:T.contains d=true)(ht:bo c.M o N Δu R)(hh:dO (GB acc vs++Γt) N)(hN:E5 full acc (acc.length+k) N=true)
 (h:∀x,JT c full Q Γ0 Δ acc must T vs Δr (k+1) l ((d,(R x).1)::Γt) ((R x).2++F)):JT c full Q Γ0 Δ acc must T vs Δr k (o::l) Γt (Δu++F):=by
 have hlt:d < c.N:=Nat.blt_eq▸hdN
 refine D8 hg ht hh hN (fun x=>(d,(R x).1)::Γt) (fun x a v S' w' hsz hr hs s r hl hno=>?_) (fun x hk s hsT=>?_) (fun a v e hsz he hT=>?_) h
 ·
  rw [hd,lu (by omega)];simp only [lk] at hl;split at hl
  ·rename_i e;cases hl;rw [if_pos e];exact hr
  ·rename_i e;rw [if_neg e];exact hs s r hl hno
 ·
  simp only [lk];rw [if_neg (fun e=>by subst e;rw [hdT] at hsT;cases hsT)];exact hk s hsT
 ·
  rw [hd,lu (by omega),if_neg (fun e'=>by rw [e'] at hdT;rw [hdT] at hT;cases hT)]
def BH:List DE→List Value→Prop
 |e::es,v::vs=>(∀d∈e.E v,∃S w,d.holds S w)∧BH es vs
 |_,_=>True
theorem BH.of:∀{es:List DE} {vs:List Value},(∀d∈births es vs,∃S w,d.holds S w)→BH es vs
 |e::es,v::vs,h=>⟨fun d hd=>h d (List.mem_append.2 (.inl hd)),BH.of fun d hd=>h d (List.mem_append.2 (.inr hd))⟩
 |[],_,_=>by unfold BH;trivial
 |_::_,[],_=>by unfold BH;trivial
theorem L9(must:List Bool)(T:List Nat)(Δr:List D)(hck:B0 full acc must T=true)(hfl:Fl Δ Δr acc must)(hm:c.P.follows .mixedOrders=true)
 (h:∀vs:List Value,vs.length=acc.length→BH acc vs→∃ks Δt,fg (oG Δ acc vs) ks=some (Δr++Δt)∧ks.Nodup∧JT c full Q Γ0 Δ acc must T vs Δr 0 l Γ0 Δt):DR c id full Q Γ0 Δ acc l Γ:=by
 intro hfull hDR hΓ ops hren a w hst
 refine pB hren hm fun v1 hv=>?_
 have hst':=hst.drew hv
 generalize (v1.upd { v1.toWorld with drawn:=v1.drawn+1 })=w1 at hst'⊢
 have hck0:LA full acc=true:=by
  unfold B0 at hck;simp only [Bool.and_eq_true] at hck;exact Bool.and_eq_true_iff.2 ⟨hck.1.1.1.1.1.1,hck.1.1.1.1.1.2⟩
 obtain⟨hc1,hlt,hc3,hc4,hc5,hc6,hc7⟩:=ly hck
 have hdrop:full.drop acc.length=l:=by
  rw [hfull,List.drop_append_of_le_length (by simp),List.drop_eq_nil_of_le (by simp),List.nil_append]
 have hlen:full.length=acc.length+l.length:=by rw [hfull];simp
 have conv:∀L a w,vC c full Γ0 Δ acc L a w→(∀j,must.getD j false=true→j < acc.length→lst L j=true)→∀aF,cnt L acc.length+l.length≤aF→fQ c.M c.rd .any full.toArray Q aF L a w:=by
  intro L a w hI hmu aF hf;obtain⟨S,h3,h4,h5,h6,h7⟩:=hI.ex
  have hund:∀(j:Nat) (e:DE),acc[j]? =some e→lst L j=false→(∀v,e.E v=[])∧∀k,sN e k=false:=fun j e he hl=>by
   have hjl:j < acc.length:=by
    rcases Nat.lt_or_ge j acc.length with h |h
    ·exact h
    ·simp [List.getElem?_eq_none h] at he
   have hmf:must.getD j false=false:=by
    cases hm:must.getD j false with
    |false=>rfl
    |true=>have:=hmu j hm hjl;rw [hl] at this;cases this
   obtain⟨f1,f2,f3⟩:=hfl.nth he hmf;refine⟨f2,fun k=>?_⟩;rcases f3 with hu |⟨kk,d,hu,_⟩ <;> simp [sN,hu]
  have hD:oG Δ acc (acc.map fun e=>a.tmps.getD e.d undef)=wW Δ acc L a:=by
   unfold oG wW
   have e1:∀(es:List DE) (m:Nat),(∀(j:Nat) (e:DE),es[j]? =some e→lst L (m+j)=false→∀v,e.E v=[])→births es (es.map fun e=>a.tmps.getD e.d undef)=gd L a m es:=by
    intro es
    induction es with
    |nil=>intro m _;rfl
    |cons x es ih=>
     intro m hh;simp only [List.map_cons,births,gd];rw [ih (m+1) fun j e he hl=>hh (j+1) e (by simpa using he) (by rw [←hl];congr 1;omega)];cases hl:lst L m with
     |true=>rfl
     |false=>rw [hh 0 x rfl (by simpa using hl)];rfl
   have e2:∀(k:Nat) (es:List DE) (m:Nat),(∀(j:Nat) (e:DE),es[j]? =some e→lst L (m+j)=false→sN e k=false)→ff L k m es=mR es k:=by
    intro k es
    induction es with
    |nil=>intro m _;rfl
    |cons x es ih=>
     intro m hh;simp only [ff,mR,List.any_cons];rw [ih (m+1) fun j e he hl=>hh (j+1) e (by simpa using he) (by rw [←hl];congr 1;omega)];cases hl:lst L m with
     |true=>rfl
     |false=>rw [hh 0 x rfl (by simpa using hl)];rfl
   rw [e1 acc 0 fun j e he hl=>(hund j e he (by simpa using hl)).1];congr 1
   have:∀(l:List D) (k:Nat),oG.keepFrom acc k l=dL (fun k=> !ff L k 0 acc) k l:=by
    intro l
    induction l with
    |nil=>intro k;rfl
    |cons x l ih=>
     intro k;simp only [oG.keepFrom,dL,e2 k acc 0 (fun j e he hl=>(hund j e he (by simpa using hl)).2 k),ih];cases mR acc k <;> rfl
   exact this Δ 0
  have hBH:BH acc (acc.map fun e=>a.tmps.getD e.d undef):=BH.of fun d hd=>⟨S,w,h5.holds d (by rw [←hD];exact List.mem_append.2 (.inr hd))⟩;obtain⟨ks,Δt,hk,hn,hj⟩:=h (acc.map fun e=>a.tmps.getD e.d undef) (by simp) hBH;refine hj (by rw [hdrop];exact hfull) (by simpa using hdrop) hDR hck hfl (by simp) aF L a w ?_ hf;rw [hD] at hk
  have hm':∀d∈Δr++Δt,d∈wW Δ acc L a:=fun d hd=>by
   obtain⟨k,_,h⟩:=iW hk d hd;exact List.mem_of_getElem? h
  refine⟨hI.size,fun j hj=>by rw [hI.past j hj];simp;omega,hmu,hI.closed,hI.defers,hI.tmps,fun _ _=>rfl,S,h3,fun b ⟨d,hd,e⟩=>h4 b ⟨d,hm' d hd,e⟩,
   h5.re ⟨fun d hd=>h5.holds d (hm' d hd),fun b ⟨d,hd,e⟩=>h5.own b ⟨d,hm' d hd,e⟩,iQ (fun _ _ h b e e'=>h b e' e) h5.apart hn hk⟩ (fun b ⟨d,hd,e⟩=>⟨d,hm' d hd,e⟩) (fun _ h=>.inl h),
   fun s r hl hno=>h6 s r hl fun j e hj _=>hno j e hj,fun j e hj hlj=>?_⟩
  have:=h7 j e hj hlj;unfold rB;split
  ·have hv:(acc.map fun e=>a.tmps.getD e.d undef).getD j undef=a.tmps.getD e.d undef:=by
    rw [List.getD_eq_getElem?_getD,List.getElem?_map,hj];rfl
   rw [hv];exact rfl
  ·exact this
 have key:∀aF L a w,vC c full Γ0 Δ acc L a w→cnt L acc.length+l.length≤aF→fQ c.M c.rd .any full.toArray Q aF L a w:=by
  intro aF
  induction aF with
  |zero=>
   intro L a w hI hf;exact conv L a w hI (fun j _ hj=>jV (by omega) j hj) 0 hf
  |succ n ih=>
   intro L a w hI hf;by_cases hmu:∀j,must.getD j false=true→j < acc.length→lst L j=true
   ·exact conv L a w hI hmu (n+1) hf
   ·have h0:cnt L acc.length≠0:=fun h0=>hmu fun j _ hj=>jV h0 j hj;obtain⟨j,hj1,hj2,hj3⟩:=pg h0;obtain⟨oj,hoj⟩:∃oj,full[j]? =some oj:=⟨_,List.getElem?_eq_getElem (by omega)⟩;have hrj:j∈Region.ready .any full.toArray L:=(cX hI.size).2 ⟨oj,hoj,hj2,fun i hi=>hj3 i (hlt j oj hoj i hi)⟩;refine⟨fun hh=>(by rw [hh] at hrj;cases hrj),fun i hi=>?_⟩;obtain⟨oi,hoi,hli,hpi⟩:=(cX hI.size).1 hi
    have hil:i < full.length:=by
     rcases Nat.lt_or_ge i full.length with h |h
     ·exact h
     ·simp [List.getElem?_eq_none h] at hoi
    have hahead:=rF hI.closed hlt i i oi (Nat.le_refl _) hoi hpi
    have hit:i < acc.length:=by
     rcases Nat.lt_or_ge i acc.length with h |h
     ·exact h
     ·exfalso;by_cases hip:i=acc.length
      ·exact hmu fun j hm hj=>hahead j (by rw [hip];exact hc4 j hj hm)
      ·have:=hahead acc.length (hc3 i h hil _ (Nat.le_refl _) (by omega));rw [hI.past _ (Nat.le_refl _)] at this;cases this
    refine kL (fun a' w' hI'=>ih _ a' w' hI' ?_) (vC.step hfull hDR hck0 hI hit hi);have hiL:i < L.size:=by rw [hI.size];exact hil
    have:=pe (L:=L) (L':=L.setIfInBounds i true) (i:=i) (fun j hj=>by rw [cI hiL,if_neg (Ne.symm hj)]) hli (by rw [cI hiL,if_pos rfl]) hit;omega
 refine key full.toArray.size _ a w1 (vC.start hst') ?_
 have:∀t,cnt (Array.replicate full.toArray.size false) t≤t:=by
  intro t
  induction t with
  |zero=>exact Nat.le_refl _
  |succ t ih=>simp only [cnt];split <;> omega
 have:=this acc.length
 simp only [List.size_toArray] at this⊢
 omega
end
end
section
variable {c:Cx}{full:List Oper}{Q:Exit→Act→VW→Prop}{Γ0 Γ Γt:Ga}{Δ Δr Δt F:List D}{acc:List DE}{l:List Oper}{id:Nat}{must:List Bool}{T:List Nat}{vs:List Value}{k:Nat}
variable {o:Oper}{N:List (Operand×A)}{X:Type}{r r':A}{d j s:Nat}{e e':D}{g b:Bool}{oj:Oper}{P:Program}{M:Md P}
def Ry(e:DE):Prop:=(e.b=true→e.r= .any)∧((e.b=false∧∀k,sN e k=false)→∀v,e.E v=[])
def WF(acc:List DE):Prop:=∀e∈acc,Ry e
theorem WF.snoc{x:DE}(h:WF acc)(hx:Ry x):WF (acc++[x]):=fun e he=>by
 rcases List.mem_append.1 he with he |he
 ·
  exact h e he
 ·
  simp at he;subst he;exact hx
def DW(c:Cx)(id:Nat)(full:List Oper)(Q:Exit→Act→VW→Prop)(Γ0:Ga)(Δ:List D)(acc:List DE)(l:List Oper)(Γ:Ga):Prop:=WF acc.reverse→DR c id full Q Γ0 Δ acc.reverse l Γ
theorem rJ(h:DW c id full Q Γ Δ [] full Γ):JC c (.region id full.toArray true) Q Γ Δ:=Eb (h fun e he=>by simp at he)
theorem Fv{l0:List Oper}(ps:List Nat)(hp:Lx ps l0.length=true)(h:DW c id (ul ps l0) Q Γ Δ [] (ul ps l0) Γ):JC c (.region id l0.toArray true) Q Γ Δ:=I4 (GR hp) (h fun e he=>by simp at he)
def Ly(kr:List Nat):List DE→List Bool→Bool
 |[],_=>true
 |e::es,ms=>(ms.headD false || (!e.b && match e.u with |none=>true |some (k,x)=> !x && kr.contains k)) && Ly kr es ms.tail
theorem wF:∀{ks:List Nat} {Δ':List D} {k:Nat},fg Δ ks=some Δ'→k∈ks→∃d,Δ[k]? =some d∧d∈Δ'
 |[],_,_,_,h=>by simp at h
 |k0::ks,_,k,h,hk=>by
  simp only [fg] at h
  split at h
  ·
   rename_i d l h1 h2
   cases h
   rcases List.mem_cons.1 hk with rfl |hk
   ·
    exact⟨d,h1,List.mem_cons_self ..⟩
   ·
    obtain⟨d',h3,h4⟩:=wF h2 hk
    exact⟨d',h3,List.mem_cons_of_mem _ h4⟩
  ·
   cases h
theorem Fl.of{kr:List Nat}(hk:fg Δ kr=some Δr):∀{es:List DE} {ms:List Bool},(∀e∈es,Ry e)→Ly kr es ms=true→Fl Δ Δr es ms
 |[],_,_,_=>trivial
 |e::es,ms,hw,h=>by
  simp only [Ly,Bool.and_eq_true,Bool.or_eq_true,Bool.not_eq_true'] at h
  refine⟨?_,Fl.of hk (fun e he=>hw e (List.mem_cons_of_mem _ he)) h.2⟩
  have hwe:=hw e (List.mem_cons_self ..)
  rcases h.1 with h1 |⟨h1,h2⟩
  ·
   exact .inl ⟨h1,hwe.1⟩
  ·
   cases hu:e.u with
   |none=>exact .inr ⟨h1,hwe.2 ⟨h1,fun k=>by simp [sN,hu]⟩,.inl rfl⟩
   |some p=>
    obtain⟨k,x⟩:=p
    rw [hu] at h2
    simp only [Bool.and_eq_true,Bool.not_eq_true'] at h2
    obtain⟨rfl,h3⟩:=h2
    obtain⟨d,g1,g2⟩:=wF hk (by simpa using h3)
    exact .inr ⟨h1,hwe.2 ⟨h1,fun k=>by simp [sN,hu]⟩,.inr ⟨k,d,rfl,g1,g2⟩⟩
theorem vt(n:Nat)(must:List Bool)(T:List Nat)(kr:List Nat)(Δr:List D)(hk:fg Δ kr=some Δr)(hck:B0 full acc.reverse must T=true)(hcf:Ly kr acc.reverse must=true)(hn:acc.reverse.length=n)(hm:c.P.follows .mixedOrders=true)
 (h:∀vs:List Value,vs.length=n→BH acc.reverse vs→∃ks Δt,fg (oG Δ acc.reverse vs) ks=some (Δr++Δt)∧ks.Nodup∧JT c full Q Γ0 Δ acc.reverse must T vs Δr 0 l Γ0 Δt):DW c id full Q Γ0 Δ acc l Γ:=
 fun hw=>L9 must T Δr hck (Fl.of hk hw hcf) hm fun vs hv=>h vs (hv.trans hn)
theorem tZ{x:DE}{Γ':Ga}(hs:DR c id full Q Γ0 Δ (acc.reverse++[x]) l Γ'→DR c id full Q Γ0 Δ acc.reverse (o::l) Γ)(hw:WF acc.reverse)(hx:Ry x)(h:DW c id full Q Γ0 Δ (x::acc) l Γ'):DR c id full Q Γ0 Δ acc.reverse (o::l) Γ:=by
 unfold DW at h;rw [List.reverse_cons] at h;exact hs (h (hw.snoc hx))
theorem bJ(hg:o.guard=none)(hd:o.dst=some d)(hdN:Nat.blt d c.N=true)(ht:bo c.M o N [] (fun _:Unit=>(r,[])))(hh:dO Γ N)
 (h:DW c id full Q Γ0 Δ (⟨o,d,N,r,none,false,fun _=>[]⟩::acc) l ((d,r)::Γ)):DW c id full Q Γ0 Δ acc (o::l) Γ:=
 fun hw=>tZ (DR.step rfl (Ee hg hd hdN ht) hh) hw ⟨(fun h=>nomatch h),fun _ _=>rfl⟩ h
theorem g7(k:Nat)(hk:Δ[k]? =some e)(hg:o.guard=none)(hd:o.dst=some d)(hdN:Nat.blt d c.N=true)(ht:bo c.M o N [e] (fun _:Unit=>(r,[e])))(hh:dO Γ N)
 (h:DW c id full Q Γ0 Δ (⟨o,d,N,r,some (k,false),false,fun _=>[]⟩::acc) l ((d,r)::Γ)):DW c id full Q Γ0 Δ acc (o::l) Γ:=
 fun hw=>tZ (DR.step rfl (Ed k hk hg hd hdN ht) hh) hw ⟨(fun h=>nomatch h),fun _ _=>rfl⟩ h
theorem qD{ops:Array Oper}(hg:o.guard=some (j,g))(hj:ops[j]? =some oj)(hs:oj.dst=some s){a:Act}(h:a.tmps.getD s undef=undef):Region.wanted o (yielded ops a.tmps)=false:=by
 have h8:yielded ops a.tmps j=none:=by
  unfold yielded;simp only [hj,Option.bind_some,hs];rw [Array.getD_eq_getD_getElem?] at h;cases h9:a.tmps[s]? with
  |none=>rfl
  |some v=>rw [h9] at h;simp at h;subst h;rfl
 simp only [Region.wanted,hg,h8];cases g <;> rfl
theorem LY{ops:Array Oper}{l:List Oper}(hg:o.guard=some (j,g))(hj:ops[j]? =some oj)(hs:oj.dst=some s)(hl:lk Γ s=some (.eq undef))(hd:o.dst=some d)(hdN:Nat.blt d c.N=true)(h:JO c ops l Q ((d,.eq undef)::Γ) Δ):JO c ops (o::l) Q Γ Δ:=by
 intro a w hst;obtain⟨h1,h2,S,h3,h4,h5,h6⟩:=hst;have hw:Region.wanted o (yielded ops a.tmps)=false:=qD hg hj hs (h6 s _ hl);refine kR fun K hK=>?_;rw [if_neg (by rw [hw];simp)];refine hK _ _ ?_;rw [hd];refine h _ _ (St.put (Δ:=[]) (Δ':=[]) h1 h2 h3 h4 h5 h6 (bp.refl h3.dom) rfl (h5.re uo (fun b hb=>(bW hb).elim) (fun _ h=>.inl h)) (fun b ⟨e,he,_⟩=>by simp at he) (Nat.blt_eq▸hdN))
theorem RE{ops:Array Oper}(hg:o.guard=some (j,g))(hj:ops[j]? =some oj)(hs:oj.dst=some s)(hd:o.dst=some d)(hdN:Nat.blt d c.N=true):
 DV c ops Δ ⟨o,d,[(.tmp s,.eq undef)],.eq undef,none,false,fun _=>[]⟩:=
 ⟨hd,Nat.blt_eq▸hdN,fun S w a K Q hdm hN hO k=>by
  have hb':a.tmps.getD s undef=undef:=hN.1
  rw [if_neg (by rw [qD hg hj hs hb'];simp)]
  exact k S w undef (bp.refl hdm) rfl (by simpa [iI,lF] using hO) (fun b hb=>(bW (by simpa [iI] using hb)).elim)⟩
theorem L8{f:X→Value}{E:X→List D}(E':Value→List D)(hE:∀x,E' (f x)=E x)(hg:o.guard=none)(hd:o.dst=some d)(hdN:Nat.blt d c.N=true)(ht:bo c.M o N [] (fun x=>(.eq (f x),E x)))(hh:dO Γ N)
 (h:DW c id full Q Γ0 Δ (⟨o,d,N,.any,none,true,E'⟩::acc) l ((d,.any)::Γ)):DW c id full Q Γ0 Δ acc (o::l) Γ:=
 fun hw=>tZ (DR.step rfl (Jd E' hE hg hd hdN ht) hh) hw ⟨fun _=>rfl,fun h=>nomatch h.1⟩ h
theorem Jc{f:X→Value}{E:X→List D}(k:Nat)(hk:Δ[k]? =some e)(E':Value→List D)(hE:∀x,E' (f x)=E x)(hg:o.guard=none)(hd:o.dst=some d)(hdN:Nat.blt d c.N=true)(ht:bo c.M o N [e] (fun x=>(.eq (f x),E x)))(hh:dO Γ N)
 (h:DW c id full Q Γ0 Δ (⟨o,d,N,.any,some (k,true),true,E'⟩::acc) l ((d,.any)::Γ)):DW c id full Q Γ0 Δ acc (o::l) Γ:=
 fun hw=>tZ (DR.step rfl (FA k hk E' hE hg hd hdN ht) hh) hw ⟨fun _=>rfl,fun h=>nomatch h.1⟩ h
theorem aC{α:Type}{vs:List α}{n:Nat}(h:vs.length=n+1):∃v vs',vs=v::vs'∧vs'.length=n:=by
 cases vs with
 |nil=>simp at h
 |cons v vs=>exact⟨v,vs,rfl,by simpa using h⟩
theorem ri{α:Type}{vs:List α}(h:vs.length=0):vs=[]:=List.length_eq_zero_iff.1 h
def OE:D:=.sl undef 0 .bool []
theorem Ir{S:FS}{w:World}:¬OE.holds S w:=by
 rintro(⟨h,_⟩ |⟨b,cap,cs,h,_⟩) <;> simp [undef] at h
def NW(T:TypeId)(a:A):Value→List D
 | .pointer (some ⟨b,0,none⟩)=>[.obj b T a]
 |_=>[OE]
theorem NV{T:TypeId}{a:A}{v:Value}(h:∀d∈NW T a v,∃S w,d.holds S w):∃b,v= .pointer (some ⟨b,0,none⟩):=by
 unfold NW at h;split at h
 ·exact⟨_,rfl⟩
 ·obtain⟨S,w,hb⟩:=h OE (by simp);exact absurd hb Ir
theorem TI.permT{a:Act}{w:VW}{L:Array Bool}{Δt':List D}(hp:Δt.Perm Δt')(h:TI c full Γ0 acc must T vs Δr k Γt Δt L a w):TI c full Γ0 acc must T vs Δr k Γt Δt' L a w:=by
 obtain⟨h1,h2,h3,h4,h5,h6,h7,S,g1,g2,g3,g4,g5⟩:=h;have hp':=hp.append_left Δr;exact⟨h1,h2,h3,h4,h5,h6,h7,S,g1,fun b hb=>g2 b ((mI hp' b).2 hb),g3.perm hp',g4,g5⟩
theorem rH(i:Nat)(h:Δt[i]? =some e)(hj:JT c full Q Γ0 Δ acc must T vs Δr k l Γt (e::Δt.eraseIdx i)):JT c full Q Γ0 Δ acc must T vs Δr k l Γt Δt:=
 fun q1 q2 q3 q4 q5 q6 aF L a w hI hf=>hj q1 q2 q3 q4 q5 q6 aF L a w (hI.permT (gk i e h)) hf
theorem O1{v:Value}{TE:TypeId}{t:Ty}{dd:List t.den}(h:bD v=true→JT c full Q Γ0 Δ acc must T vs Δr k l Γt (.sl v TE t dd::F)):JT c full Q Γ0 Δ acc must T vs Δr k l Γt (.sl v TE t dd::F):=
 fun q1 q2 q3 q4 q5 q6 aF L a w hI hf=>by
  refine h ?_ q1 q2 q3 q4 q5 q6 aF L a w hI hf
  obtain⟨S,_,_,h5,_⟩:=hI.ex
  rcases h5.holds _ (List.mem_append.2 (.inr (List.mem_cons_self ..))) with⟨rfl,_⟩ |⟨b,cap,cc,rfl,_⟩ <;> rfl
theorem sX(hg:o.guard=none)(hd:o.dst=none)(ht:bo c.M o N [e] (fun _:Unit=>(r,[e'])))(hh:dO (GB acc vs++Γt) N)(hN:E5 full acc (acc.length+k) N=true)
 (h:JT c full Q Γ0 Δ acc must T vs Δr (k+1) l Γt (e'::F)):JT c full Q Γ0 Δ acc must T vs Δr k (o::l) Γt (e::F):=TP (Δu:=[e]) hg hd ht hh hN fun _=>h
theorem vn(hg:o.guard=none)(hd:o.dst=some d)(hdN:Nat.blt d c.N=true)(hdT:T.contains d=true)(ht:bo c.M o N [e] (fun _:Unit=>(r,[e'])))(hh:dO (GB acc vs++Γt) N)(hN:E5 full acc (acc.length+k) N=true)
 (h:JT c full Q Γ0 Δ acc must T vs Δr (k+1) l ((d,r)::Γt) (e'::F)):JT c full Q Γ0 Δ acc must T vs Δr k (o::l) Γt (e::F):=TO (Δu:=[e]) hg hd hdN hdT ht hh hN fun _=>h
theorem I7{C:Code}{α β ρ Z:Type}{Y:Option α}{f:α→Option β}{K:β→Option ρ}{q:ρ}(G:Z→α→Ga)(E:Z→α→List D)(h:(Y.bind f).bind K=some q)
 (h1:∀K':α→Option ρ,Y.bind K'=some q→JC c C (bS (fun a w=>∃z:Z×α,K' z.2=some q∧St c (G z.1 z.2) (E z.1 z.2) a w) Q) Γ Δ)
 (h2:∀z x,(f x).bind K=some q→JN c (Q .normal) (G z x) (E z x)):JC c C Q Γ Δ:=fun a w s=>by
 refine mP (fun e a w q=>?_) (h1 (fun x=>(f x).bind K) (by
  cases Y with
  |none=>cases h
  |some x=>exact h) a w s)
 cases e with
 |normal=>obtain⟨z,hp,hs⟩:=q;exact h2 z.1 z.2 hp a w hs
 |_=>exact q
theorem I6{C:Code}{α β ρ ε Z:Type}{Y:Option (Except ε α)}{g:ε→Option β}{f:α→Option β}{K:β→Option ρ}{q:ρ}(G:Z→α→Ga)(E:Z→α→List D)(p:ε→Prop)(h:(bE Y g f).bind K=some q)(hg:∀e,(g e).bind K=some q→p e)
 (h1:∀K':Except ε α→Option ρ,(∀e,K' (.error e)=some q→p e)→Y.bind K'=some q→JC c C (bS (fun a w=>∃z:Z×α,K' (.ok z.2)=some q∧St c (G z.1 z.2) (E z.1 z.2) a w) Q) Γ Δ)
 (h2:∀z x,(f x).bind K=some q→JN c (Q .normal) (G z x) (E z x)):JC c C Q Γ Δ:=fun a w s=>by
 refine mP (fun e a w q=>?_) (h1 (fun | .error e=>(g e).bind K | .ok x=>(f x).bind K) hg (by
  cases Y with
  |none=>cases h
  |some x=>cases x with
   |error e=>exact h
   |ok x=>exact h) a w s)
 cases e with
 |normal=>obtain⟨z,hp,hs⟩:=q;exact h2 z.1 z.2 hp a w hs
 |_=>exact q
theorem D5{TE:TypeId}{t:Ty}{dd:List t.den}{Δ':List D}(h:bo M o N Δ (fun v:Value=>(.eq v,.sl v TE t dd::Δ'))):bo M o N Δ (fun _:Unit=>(.rep (.slice t) dd,Δ')):=by
 refine⟨h.1,fun ro S w a next Q hd hN hO k=>?_⟩;refine h.2 ro S w a next Q hd hN hO fun v S' w' u hs hr ho hf=>?_;have e:u=v:=hr;subst e;have hsl:=ho.holds _ (List.mem_cons_self ..);have hp:=List.pairwise_cons.1 ho.apart;rcases hsl with⟨rfl,rfl⟩ |⟨b,cap,cc,rfl,q1,q1',q2,q3,q4⟩
 ·refine k () S' w' _ hs ⟨_,.inl ⟨none,0,rfl,rfl⟩,rfl⟩ (ho.re ⟨fun e he=>ho.holds e (List.mem_cons_of_mem _ he),fun b ⟨e,he,hb⟩=>ho.own b ⟨e,List.mem_cons_of_mem _ he,hb⟩,hp.2⟩ lV (fun _ h=>.inl h)) fun b ⟨e,he,hb⟩=>hf b ⟨e,List.mem_cons_of_mem _ he,hb⟩
 ·have hfe:ap (.sl (.slice (some ⟨b,0,none⟩) dd.length cap) TE t dd::Δ') b:=⟨_,List.mem_cons_self ..,rfl⟩;have hown:=ho.own b hfe;have hK:fW S' w' w':=fun _ _=>rfl;refine k () (fun x=>S' x∨x=b) w' _ ⟨fun x hx=>.inl (hs.sub x hx),fun x hx=>?_,fun x hx=>?_,hs.size,hs.keep,hs.os,hs.tape,hs.output,hs.subA,hs.oldA,hs.Z⟩ ?_ (ho.re ⟨fun e he=>?_,fun x ⟨e,he,hb⟩=>?_,hp.2⟩ lV (fun x (hx:S' x∨x=b)=>hx.imp id fun e=>by rw [e];exact hfe)) fun x ⟨e,he,hb⟩=>hf x ⟨e,List.mem_cons_of_mem _ he,hb⟩
  ·rcases hx with hx |rfl
   ·exact hs.new x hx
   ·exact .inr ((hf x hfe).symm)
  ·rcases hx with hx |rfl
   ·exact hs.dom x hx
   ·exact hown.2
  ·refine⟨_,.inr ⟨b,0,cap,cc,TE,(0,0),rfl,q1,.inr rfl,q2,?_⟩,rfl⟩;rw [List.drop_zero];exact cu (fun _ _ h=>dP (fun _ h=>.inl h) hK t h) q4
  ·exact bU (fun _ h=>.inl h) hK e (fun _ _=>rfl) (ho.holds e (List.mem_cons_of_mem _ he))
  ·have h7:=ho.own x ⟨e,List.mem_cons_of_mem _ he,hb⟩;refine⟨fun hx=>?_,h7.2⟩;rcases hx with hx |rfl
   ·exact h7.1 hx
   ·exact hp.1 e he x rfl hb
end
section
variable {P:Program}{M:Md P}{o:Oper}{x y z:Operand}{T T' e:TypeId}{r r':A}{t u:Ty}
theorem wq{S:FS}{w:World}{l:List t.den}{v:Value}(h:(A.rep (.slice t) l).holds S w v):∃a cap,v= .slice a l.length cap∧rd S w (.slice t) l [.slice a l.length cap]:=by
 obtain⟨cs,h1,h2⟩:=h;rcases h1 with⟨a,cap,rfl,rfl⟩ |⟨b,off,cap,c,T0,fz,rfl,hle,hS,hb,hr⟩
 ·exact⟨a,cap,h2,.inl ⟨a,cap,rfl,rfl⟩⟩
 ·exact⟨_,cap,h2,.inr ⟨b,off,cap,c,T0,fz,rfl,hle,hS,hb,hr⟩⟩
end
section
variable {P:Program}{M:Md P}{o:Oper}{x y z:Operand}{T T' e:TypeId}{r r':A}{t u:Ty}
theorem Aa{M:Md P}{rd:Option Nat}{a:Act}{v:VW}{next:Act→VW→Prop}{Q:Exit→Act→VW→Prop}{f:FuncId}{args:Array Value}(hnd:nd o.op=true)(hex:∀w:World,(execOp a.eval o).runT P w #[]=(.ok (.enter f args) w, #[]))
 (h:∀v1,bh v v1→jA M .normal f args v1 fun
  | .returned x,v''=>next (a.put o.dst x) v''
  | .panicked ch,v''=>Q (.panic ch) a v''
  | .outgrown,_=>False):o.wk M rd a v next Q:=NY fun v1 hr=>by
 rw [Oper.semAt_eq _ _ _ (fun c e=>by rw [e] at hnd;cases hnd)]
 have h1:(execOp a.eval o).run P v1= .ok (.enter f args) v1:=by rw [←Sem.runT_fst P _ _ #[],hex]
 refine⟨?_,by rw [h1];exact h v1 hr⟩
 unfold Sg
 rw [h1]
 have ev:(execOp a.eval o).events P v1 #[]= #[]:=by unfold Sem.events;rw [hex]
 simp only [ev]
 exact eF.refl v1
theorem Bt{n:Nat}(hT:P.underlying T=some (.slice e))(b:Option Addr)(l c:Nat):Ns P (Op.equalIn (n+1) T (.slice b l c) (.slice none 0 0)):=by
 unfold Op.equalIn;refine iR hT ?_;cases b <;> trivial
theorem HD{S:FS}{w:World}{l:List t.den}{ρ:Operand→Value}(ho:o.op= .binOp .eql T x y T')(hT:P.underlying T=some (.slice e))(hx:(A.rep (.slice t) l).holds S w (ρ x))(hy:ρ y= .slice none 0 0):Ns P (execOp ρ o):=by
 refine tO ho ?_;obtain⟨c,cap,e1,_⟩:=wq hx;rw [e1,hy];exact ai (Bt (n:=9999) hT c l.length cap) fun _=>bT
theorem wz(ho:o.op= .makeMap T none):bo M o [] [] (fun z:Nat=>(.eq (.map (some z)),[.raw z (.map #[] 0)])):=by
 refine vB.T ⟨by simp only [nd, *],fun S w a next hd hN _ k=>?_⟩ (fun _ _ a _ _=>im (by simp only [sc, *]) a.eval) (fun d hd=>by first |(simp at hd;done) |(simp at hd;subst hd;trivial))
 have hr:(execOp a.eval o).run P w= .ok (.value (.map (some w.heap.size))) (w.alloc (.map #[] 0)):=by
  have h1:(Instr.makeMap T none).run P w= .ok (.map (some w.heap.size)) (w.alloc (.map #[] 0)):=rfl;simp [execOp,ho,h1]
 rw [hr];refine k w.heap.size S _ _ (fD hd _) rfl (fS (heap_alloc_new w _) ?_) ?_
 ·intro b hb;simp only [D.foot,Option.some.injEq] at hb;subst hb;exact⟨fun h=>by have:=hd _ h;omega,by simp⟩
 ·intro b hb;have:b=w.heap.size:=by simpa [D.foot,eq_comm] using ii.1 hb
  exact .inr (by omega)
theorem Ks{l:List t.den}(ho:o.op= .binOp .eql T x y T')(hT:P.underlying T=some (.slice e)):
 bo M o [(x,.rep (.slice t) l),(y,.eq (.slice none 0 0))] [] (fun b:{ b:Bool // b=true→l=[] }=>(.eq (.bool b.1),[])):=by
 refine vB.T ⟨by simp only [nd, *],fun S w a next hd hN hO k=>?_⟩ (fun S w a hN _=>HD ho hT hN.1 hN.2.1) (fun d hd=>by simp at hd)
 obtain⟨c,cap,e1,hr⟩:=wq hN.1
 have e2:a.eval y= .slice none 0 0:=hN.2.1
 have hrun:(execOp a.eval o).run P w= .ok (.value (.bool c.isNone)) w:=by
  have h1:(Op.equalIn 10000 T (.slice c l.length cap) (.slice none 0 0)).run P w= .ok c.isNone w:=by
   unfold Op.equalIn;cases c <;> simp only [Sem.run_bind,run_underlying hT,Result.andThen_ok,Sem.run_pure,Option.isNone_none,Option.isNone_some]
  have h2:(do eqGuard .eql T x y (.slice c l.length cap) (.slice none 0 0);binOp .eql T (.slice c l.length cap) (.slice none 0 0):Sem Value).run P w= .ok (.bool c.isNone) w:=by
   simp [eqGuard,binOp,Op.equal,Op.maxDepth,h1]
  simp only [Sem.run_bind] at h2;simp only [execOp,ho,e1,e2,Sem.run_bind,h2];rfl
 rw [hrun]
 refine k ⟨c.isNone,fun h=>?_⟩ S w _ (jZ.refl hd) rfl hO (fun b hb=>.inl hb)
 rcases hr with⟨_,_,_,h2⟩ |⟨b,off,cap',_,_,_,h2,_⟩
 ·
  exact h2
 ·
  simp at h2;obtain⟨rfl,_⟩:=h2;simp at h
end
section
variable {c:Cx}{ops:Array Oper}{l:List Oper}{Q:Exit→Act→VW→Prop}{Γ Γ':Ga}{Δ Δ' F:List D}{P:Program}{M:Md P}{o:Oper}{x y:Operand}{T e:TypeId}{t:Ty}
theorem St.swap{d d':D}{a:Act}{w:VW}(hf:∀b,d'.foot=some b↔d.foot=some b)(hh:∀S,d.holds S w.toWorld→d'.holds S w.toWorld)(h:St c Γ (d::F) a w):St c Γ (d'::F) a w:=by
 obtain⟨h1,h2,S,h3,h4,h5,h6⟩:=h
 have hfe:∀b,ap (d'::F) b→ap (d::F) b:=fun b ⟨q,hq,hb⟩=>by
  rcases List.mem_cons.1 hq with rfl |hq
  ·exact⟨d,List.mem_cons_self ..,(hf b).1 hb⟩
  ·exact⟨q,List.mem_cons_of_mem _ hq,hb⟩
 have hp:=List.pairwise_cons.1 h5.apart;refine⟨h1,h2,S,h3,fun b hb=>h4 b (hfe b hb),h5.re ⟨fun q hq=>?_,fun b hb=>h5.own b (hfe b hb),List.pairwise_cons.2 ⟨fun q hq b hb=>hp.1 q hq b ((hf b).1 hb),hp.2⟩⟩ hfe (fun _ h=>.inl h),h6⟩;rcases List.mem_cons.1 hq with rfl |hq
 ·exact hh S (h5.holds _ (List.mem_cons_self ..))
 ·exact h5.holds q (List.mem_cons_of_mem _ hq)
end
def fN{α β:Type}(x:Option α)(a:β)(b:α→β):β:=match x with
 |none=>a
 |some q=>b q
theorem u4{α β ρ:Type}{A:Option β}{B:α→Option β}{K:β→Option ρ}{r:ρ}(h:(fN none A B).bind K=some r):A.bind K=some r:=h
theorem uZ{α β ρ:Type}{q:α}{A:Option β}{B:α→Option β}{K:β→Option ρ}{r:ρ}(h:(fN (some q) A B).bind K=some r):(B q).bind K=some r:=h
@[reducible] def J6{α:Type}(o:Option α)(z:Nat):A:=match o with
 |none=>.eq (.pointer none)
 |some _=>.eq (.pointer (some ⟨z,0,none⟩))
@[reducible] def J5{α:Type}(o:Option α)(f:α→List D):List D:=match o with
 |none=>[]
 |some q=>f q
theorem nc{S:FS}{w:World}{a:Act}:∀{N1 N2:List (Operand×A)},bC S w a (N1++N2)→bC S w a N1∧bC S w a N2
 |[],_,h=>⟨trivial,h⟩
 |_::_,_,h=>⟨⟨h.1,(nc h.2).1⟩,(nc h.2).2⟩
theorem sd{S:FS}{w:World}{a:Act}:∀{xs:List Operand} {vs:List Value},xs.length=vs.length→bC S w a (xs.zip (vs.map .eq))→xs.map a.eval=vs
 |[],[],_,_=>rfl
 |x::xs,v::vs,h,hN=>by
  have h1:a.eval x=v:=hN.1
  rw [List.map_cons,h1,sd (by simpa using h) hN.2]
 |[],_::_,h,_=>by simp at h
 |_::_,[],h,_=>by simp at h
section
variable {P:Program}{M:Md P}{o:Oper}
theorem pT{f:Nat}(xs ys:List Operand)(fs cs:List Value)(ho:o.op= .makeFunc (.func f) xs.toArray ys.toArray)(h1:xs.length=fs.length)(h2:ys.length=cs.length):
 bo M o (xs.zip (fs.map .eq)++ys.zip (cs.map .eq)) [] (fun _:Unit=>(.eq (.func (.func f) fs.toArray cs.toArray),[])):=
 .val0 fun S w a hN=>by
  obtain⟨n1,n2⟩:=nc hN
  have e1:=sd h1 n1
  have e2:=sd h2 n2
  refine⟨.func (.func f) fs.toArray cs.toArray,?_,rfl⟩
  simp [execOp,ho,Instr.makeFunc,e1,e2]
end
theorem j8{c:Cx}{P:Program}{fn:Func}{R:Ending→VW→Prop}{Γ:Ga}{Δ:List D}(h:JN c (bR P fn R .ret) Γ Δ):JN c (bR P fn R .normal) Γ Δ:=h
section
variable {c:Cx}{full:List Oper}{Q:Exit→Act→VW→Prop}{Γ0 Γ Γt:Ga}{Δ Δr Δt F:List D}{acc:List DE}{l:List Oper}{id:Nat}{must:List Bool}{T:List Nat}{vs:List Value}{k:Nat}{o:Oper}
def QX(full:List Oper)(n:Nat):Bool:=(List.range full.length).all fun j=>Nat.blt j n || (List.range j).all fun i=>((kH [] full).getD j 0).testBit i
theorem O2(hA:QX full (acc.length+k)=true)(h:JO c full.toArray (o::l) Q (GB acc vs++Γt) (Δr++Δt)):JT c full Q Γ0 Δ acc must T vs Δr k (o::l) Γt Δt:=by
 intro hfull hdr hDR hck hfl hvs aF;obtain⟨hc1,hlt,hc3,hc4,hc5,hc6,hc7⟩:=ly hck
 have hforced:∀m,acc.length+k≤m→m < full.length→∀i,i < m→((kH [] full).getD m 0).testBit i=true:=fun m hm1 hm2 i hi=>by
  unfold QX at hA;rw [List.all_eq_true] at hA;have:=hA m (List.mem_range.2 hm2);simp only [Bool.or_eq_true,Nat.blt_eq] at this;rcases this with h |h
  ·omega
  ·rw [List.all_eq_true] at h;exact h i (List.mem_range.2 hi)
 have hjl:acc.length+k < full.length:=by
  rcases Nat.lt_or_ge (acc.length+k) full.length with h |h
  ·exact h
  ·rw [List.drop_eq_nil_of_le h] at hdr;cases hdr
 induction aF with
 |zero=>
  intro L a w hI hf;simp only [List.length_cons] at hf;omega
 |succ n ih=>
  intro L a w hI hf;by_cases h0:cnt L acc.length=0
  ·have hall:=jV h0;refine yS hlt (o::l) (acc.length+k) hdr hforced L hI.size (fun i hi _=>?_) (fun i hi=>?_) a w ?_ (n+1) (by omega)
   ·rcases Nat.lt_or_ge i acc.length with hh |hh
    ·exact hall i hh
    ·rw [hI.tail i hh];simpa using hi
   ·rw [hI.tail i (by omega)];simp;omega
   ·obtain⟨S,h3,h4,h5,h6,h7⟩:=hI.ex;refine h a w ⟨hI.defers,hI.tmps,S,h3,h4,h5,fun s r hl=>?_⟩;rcases Dk hvs hl with⟨j,e,hj,hd,hr⟩ |⟨h8,h9⟩
    ·have hjl:j < acc.length:=by
      rcases Nat.lt_or_ge j acc.length with h |h
      ·exact h
      ·simp [List.getElem?_eq_none h] at hj
     subst hd hr;exact h7 j e hj (hall j hjl)
    ·exact h6 s r h9 h8
  ·obtain⟨j,hj1,hj2,hj3⟩:=pg h0;obtain⟨oj,hoj⟩:∃oj,full[j]? =some oj:=⟨_,List.getElem?_eq_getElem (by omega)⟩;have hrj:j∈Region.ready .any full.toArray L:=(cX hI.size).2 ⟨oj,hoj,hj2,fun i hi=>hj3 i (hlt j oj hoj i hi)⟩;refine⟨fun hr=>(by rw [hr] at hrj;cases hrj),fun i hi=>?_⟩;obtain⟨oi,hoi,hli,hpi⟩:=(cX hI.size).1 hi
   have hil:i < full.length:=by
    rcases Nat.lt_or_ge i full.length with h |h
    ·exact h
    ·simp [List.getElem?_eq_none h] at hoi
   have hiL:i < L.size:=by rw [hI.size];exact hil
   have hia:i < acc.length:=by
    rcases Nat.lt_or_ge i acc.length with h |h
    ·exact h
    ·exfalso
     have hki:acc.length+k≤i:=by
      rw [hI.tail i h] at hli;simp at hli;omega
     have:=rF hI.closed hlt i i oi (Nat.le_refl _) hoi hpi j (hforced i hki hil j (by omega));rw [hj2] at this;cases this
   refine kL (fun a' w' hI'=>ih _ a' w' hI' ?_) (vg hfull hDR hck hfl hI hia hi);have:=pe (L:=L) (L':=L.setIfInBounds i true) (i:=i) (fun j hj=>by rw [cI hiL,if_neg (Ne.symm hj)]) hli (by rw [cI hiL,if_pos rfl]) hia;omega
end
section
variable {c:Cx}{Q:Exit→Act→VW→Prop}{Γ Γ':Ga}{Δ Δ':List D}{C C':Code}{M:Act→VW→Prop}
theorem Rn{i:Nat}(h:JN c (Q .normal) Γ Δ):JC c (.label i) Q Γ Δ:=fun a w s=>F8 (h a w s)
theorem RD{i:Nat}(h:JN c (Q (.goto i)) Γ Δ):JC c (.goto i) Q Γ Δ:=fun a w s=>Jr (h a w s)
end
theorem xw{w:World}{b:Nat}{ob:Obj}(hb:b < w.heap.size):(w.putObj b ob).heap[b]? =some ob:=by
 simp [World.putObj,hb]
theorem oY{w:World}{b b':Nat}{ob:Obj}(h:b≠b'):(w.putObj b ob).heap[b']? =w.heap[b']? :=by
 simp [World.putObj,Array.getElem?_setIfInBounds_ne h]
theorem oc{w:World}{b:Nat}{ob:Obj}:(w.putObj b ob).heap.size=w.heap.size:=by simp [World.putObj]
theorem nT{X:Nat→Prop}{S:FS}{w:World}(hd:∀b,S b→b < w.heap.size){b:Nat}(hX:X b)(ob:Obj):jZ X S w S (w.putObj b ob):=qK hd hX ob
theorem gg.alloc{Δ:List D}{S:FS}{w:World}(hd:∀b,S b→b < w.heap.size)(h:gg Δ S w)(ob:Obj):gg (.raw w.heap.size ob::Δ) S (w.alloc ob):=by
 have hlt:∀b,ap Δ b→b < w.heap.size:=fun b hb=>(h.own b hb).2;refine⟨fun d hd'=>?_,fun b ⟨d,hd',e⟩=>?_,List.pairwise_cons.2 ⟨fun d hd' b e e'=>?_,h.apart⟩⟩
 ·rcases List.mem_cons.1 hd' with rfl |hd'
  ·exact heap_alloc_new w ob
  ·exact bU (fun _ h=>h) (fun b hb=>f6 w ob b (hd b hb)) d (fun b e=>f6 w ob b (hlt b ⟨d,hd',e⟩)) (h.holds d hd')
 ·rcases List.mem_cons.1 hd' with rfl |hd'
  ·simp only [D.foot,Option.some.injEq] at e;subst e;exact⟨fun hs=>by have:=hd _ hs;omega,by simp⟩
  ·have:=h.own b ⟨d,hd',e⟩;exact⟨this.1,by simp;omega⟩
 ·simp only [D.foot,Option.some.injEq] at e;subst e;have:=hlt _ ⟨d,hd',e'⟩;omega
theorem gg.put{Δ:List D}{S:FS}{w:World}{b:Nat}{o ob:Obj}(h:gg (.raw b o::Δ) S w):gg (.raw b ob::Δ) S (w.putObj b ob):=by
 have hp:=List.pairwise_cons.1 h.apart;have hb:=h.own b ⟨_,List.mem_cons_self ..,rfl⟩;have hne:∀d∈Δ,∀b',d.foot=some b'→b≠b':=fun d hd b' e e'=>hp.1 d hd b rfl (e'▸e);refine⟨fun d hd=>?_,fun b' ⟨d,hd,e⟩=>?_,List.pairwise_cons.2 ⟨hp.1,hp.2⟩⟩
 ·rcases List.mem_cons.1 hd with rfl |hd
  ·exact xw hb.2
  ·exact bU (fun _ h=>h) (fun b' hb'=>oY (fun e=>hb.1 (by rw [e];exact hb'))) d (fun b' e=>oY (hne d hd b' e)) (h.holds d (List.mem_cons_of_mem _ hd))
 ·rw [oc];rcases List.mem_cons.1 hd with rfl |hd
  ·simp only [D.foot,Option.some.injEq] at e;subst e;exact hb
  ·exact h.own b' ⟨d,List.mem_cons_of_mem _ hd,e⟩
theorem gg.tail{Δ:List D}{d:D}{S:FS}{w:World}(h:gg (d::Δ) S w):gg Δ S w:=
 ⟨fun e he=>h.holds e (List.mem_cons_of_mem _ he),fun b ⟨e,he,hb⟩=>h.own b ⟨e,List.mem_cons_of_mem _ he,hb⟩,(List.pairwise_cons.1 h.apart).2⟩
theorem aQ.alloc{Δ:List D}{S:FS}{v:VW}(hd:∀b,S b→b < v.heap.size)(h:aQ Δ S v)(ob:Obj):aQ (.raw v.heap.size ob::Δ) S (v.upd (v.alloc ob)):=
 h.of (fD hd ob) (h.p.alloc hd ob) fun b ⟨d,hd',e⟩=>by
  rcases List.mem_cons.1 hd' with rfl |hd'
  ·
   simp only [D.foot,Option.some.injEq] at e
   exact .inr (by omega)
  ·
   exact .inl ⟨d,hd',e⟩
theorem aQ.put{Δ:List D}{S:FS}{v:VW}{b:Nat}{o:Obj}(ob:Obj)(hd:∀b,S b→b < v.heap.size)(h:aQ (.raw b o::Δ) S v):aQ (.raw b ob::Δ) S (v.upd (v.putObj b ob)):=
 h.of (nT hd (X:=ap (.raw b o::Δ)) ⟨_,List.mem_cons_self ..,rfl⟩ ob) h.p.put fun b' ⟨d,hd',e⟩=>by
  rcases List.mem_cons.1 hd' with rfl |hd'
  ·
   exact .inl ⟨_,List.mem_cons_self ..,e⟩
  ·
   exact .inl ⟨d,List.mem_cons_of_mem _ hd',e⟩
theorem aQ.tail{Δ:List D}{d:D}{S:FS}{v:VW}(h:aQ (d::Δ) S v):aQ Δ S v:=h.re h.p.tail lV fun _ h=>.inl h
theorem St.putRaw{c:Cx}{Γ:Ga}{Δ:List D}{a:Act}{w:VW}{b:Nat}{o:Obj}(ob:Obj)(h:St c Γ (.raw b o::Δ) a w):St c Γ (.raw b ob::Δ) a (w.upd (w.putObj b ob)):=by
 obtain⟨h1,h2,S,h3,h4,h5,h6⟩:=h;have hb:=h5.own b ⟨_,List.mem_cons_self ..,rfl⟩;refine⟨h1,h2,S,h3.trans (bp.of (nT (X:=fun x=>x=b) h3.dom rfl ob)) (fun x e=>by subst e;exact h4 x ⟨_,List.mem_cons_self ..,rfl⟩),fun x ⟨d,hd,e⟩=>?_,h5.put ob h3.dom,fun s r hl=>A.mono (fun _ h=>h) (fun x hx=>oY (fun e=>hb.1 (by rw [e];exact hx))) r (h6 s r hl)⟩;rcases List.mem_cons.1 hd with rfl |hd
 ·exact h4 x ⟨_,List.mem_cons_self ..,e⟩
 ·exact h4 x ⟨d,List.mem_cons_of_mem _ hd,e⟩
section
variable {P:Program}{α:Type}{s:Sem α}{b:Nat}{o:Obj}{Δ:List D}{S:FS}{v:VW}
theorem GW(hO:aQ (.raw b o::Δ) S v)(hc:calm o=true)(hns:Ns P s)(h:∀w:World,w.heap[b]? =some o→∃x w1,s.run P w= .ok x w1):
 ∃x w',s.run P v= .ok x w'∧∀e∈s.events P v #[],lC v w'.heap.size e:=by
 have hO1:aQ [.raw b o] S v:=aQ.part (F:=Δ) hO
 refine hO1.sg (fun d hd=>by rw [List.mem_singleton.1 hd];exact hc) hns (h _ ?_)
 exact(pM hO1.p).holds _ (List.mem_singleton.2 rfl)
theorem tL{x:α}{ob:Obj}(hO:aQ (.raw b o::Δ) S v)(hc:calm o=true)(hns:Ns P s)(h:∀w:World,w.heap[b]? =some o→s.run P w= .ok x (w.putObj b ob)):
 s.run P v= .ok x (v.putObj b ob)∧eF v (v.putObj b ob) (s.events P v #[]):=by
 have hr:=h v (hO.holds _ (List.mem_cons_self ..))
 obtain⟨x',w',h1,h2⟩:=GW hO hc hns fun w hw=>⟨_,_,h w hw⟩
 rw [hr] at h1
 cases h1
 have hf:=hO.far b ⟨_,List.mem_cons_self ..,rfl⟩
 exact⟨hr,fun b' _ hz=>oY (fun e=>by subst e;exact hz.elim hf.1 hf.2),by rw [oc];exact Nat.le_refl _,.refl _,rfl,rfl,h2⟩
theorem J1{x:α}(hO:aQ (.raw b o::Δ) S v)(hc:calm o=true)(hns:Ns P s)(h:∀w:World,w.heap[b]? =some o→s.run P w= .ok x w):
 s.run P v= .ok x v∧eF v v (s.events P v #[]):=by
 have hr:=h v (hO.holds _ (List.mem_cons_self ..))
 obtain⟨x',w',h1,h2⟩:=GW hO hc hns fun w hw=>⟨_,_,h w hw⟩
 rw [hr] at h1
 cases h1
 exact⟨hr,fun _ _ _=>rfl,Nat.le_refl _,.refl _,rfl,rfl,h2⟩
theorem m9{l:Nat}:Ns P (Instr.getLoop l):=by
 unfold Instr.getLoop;refine eJ fun o _=>?_;cases o <;> trivial
theorem Hm{l:Nat}{args:Array Value}:Ns P (Instr.yield l args):=by
 unfold Instr.yield;refine ai m9 fun r=>?_;split
 ·trivial
 ·exact bT
theorem vL{l:Nat}:Ns P (Instr.beginRound l):=by
 unfold Instr.beginRound;refine ai m9 fun r=>ai (fi rfl) fun _=>?_;split
 ·exact bT
 all_goals exact eO
theorem zn{l:Nat}{j:Option Code}:Ns P (Instr.endRound l j):=by
 unfold Instr.endRound;exact ai m9 fun r=>ai (fi rfl) fun _=>bT
theorem Bv{l:Nat}:Ns P (Instr.endLoop l):=by
 unfold Instr.endLoop;refine ai m9 fun r=>?_;split
 ·exact ai eO fun _=>ai (fi rfl) fun _=>bT
 ·exact ai (fi rfl) fun _=>bT
theorem tz{b:Nat}:Ns P (Instr.takeDeferred b):=by
 unfold Instr.takeDeferred;refine eJ fun o _=>?_;split
 ·exact ai (fi rfl) fun _=>bT
 ·trivial
theorem xG{fn:FuncId}{tmps:Array Value}{ps:Array Tmp}{asg bd:Code}:Ns P (Instr.enterLoop fn tmps ps asg bd none):=by
 unfold Instr.enterLoop;exact⟨rfl,fun _=>⟨rfl,fun _=>trivial⟩⟩
end
def YT{P:Program}(M:Md P)(l:Nat)(as:List A)(Δ:List D){X:Type}(R:X→A×List D):Prop:=
 ∀(S:FS) (w:VW) (vs:List Value),(∀b,S b→b < w.heap.size)→fy S w as vs→aQ Δ S w→
  ∃fn tm asg bd,(Instr.yield l vs.toArray).run P w= .ok (.round l fn tm asg bd) w∧eF w w ((Instr.yield l vs.toArray).events P w #[])∧oP M l fn tm asg bd w (dr S w Δ R)
section
variable {P:Program}{M:Md P}{o:Oper}{x:Operand}{Δ:List D}{X:Type}{R:X→A×List D}
theorem J7{l:Nat}{as:List A}{c:Call}(xs:List Operand){ts:Array TypeId}(ho:o.op= .call c)(hc:c={ callee:=.value x,args:=xs.toArray,argTypes:=ts })(hlen:xs.length=as.length)(h:YT M l as Δ R):
 bo M o ((x,.eq (.func (.yield l) #[] #[]))::xs.zip as) Δ R:=by
 have hnd:nd o.op=true:=by simp only [nd, *]
 refine⟨hnd,fun ro S w a next Q hd hN hO k=>NY fun v1 hr=>?_⟩
 rw [Oper.semAt_eq _ _ _ (fun c e=>by rw [e] at hnd;cases hnd)]
 obtain⟨fn,tm,asg,bd,h1,h2,h3⟩:=h S v1 _ (fun b hb=>Nat.lt_of_lt_of_le (hd b hb) hr.size) (fy.of hlen (bC.rely hd hO.sees hr hN.2)) (hO.rely hd hr)
 have he:execOp a.eval o=Instr.yield l (xs.map a.eval).toArray:=by
  have e1:a.eval x= .func (.yield l) #[] #[]:=hN.1;simp [execOp,ho,hc,resolve,e1,Deferred.ofValue,invoke]
 rw [he]
 refine⟨by unfold Sg;rw [h1];exact h2,?_⟩
 rw [h1]
 simp only [FC]
 refine oP.mono (v:=v1) h3 ?_
 rintro e w' ⟨x,S',v,rfl,h1,h2,h3,h4⟩
 exact k x S' w' v ((bp.rely hd hr).trans h1 fun b hb=>.inl hb) h2 h3 fun b hb=>(h4 b hb).imp id (Nat.le_trans hr.size)
end
def Am(tm:Array Value):Ga→Prop
 |[]=>True
 |(s,r)::l=>r= .eq (tm.getD s undef)∧Am tm l
theorem Am.lk{tm:Array Value}:∀{Γ:Ga} {s:Nat} {r:A},Am tm Γ→lk Γ s=some r→r= .eq (tm.getD s undef)
 |(s0,r0)::l,s,r,h,hl=>by
  simp only [K.lk] at hl
  split at hl
  ·
   rename_i e;subst e;cases hl;exact h.1
  ·
   exact Am.lk h.2 hl
section
variable {P:Program}{main:Bool}{b c:Frame}{a:Act}{k:List Item}{cs:List Frame}{w w':World}{l:Nat}{x:Value}
theorem K7(hb:b.roundOf=some l)(hr:(Instr.beginRound l).run P w= .ok () w'):∃es,(∀e∈es,e∈(Instr.beginRound l).events P w #[])∧∀main,stepG P main (Gr (b.atR a (.beginRound::k)) cs) w= .go (Gr (b.atR a k) cs) w' es:=by
 refine⟨seen P b.fn (if b.kind == .early then #[] else(Instr.beginRound l).events P w #[]),fun e hm=>?_,fun main=>?_⟩
 ·have:=Conc.mem_seen hm;split at this
  ·simp at this
  ·exact this
 ·simp [stepG,stepG.exec,stepG.apply,Frame.atR,hb,hr,Frame.finish,GStep.after]
theorem Qv(j:Option Code)(k:List Item)(hb:b.roundOf=some l)(hk:b.kind= .normal)
 (hj:(k=[]∧j=none)∨(∃k',k= .code .ret::k'∧j=some .ret)∨(∃id k',k= .code (.exit id)::k'∧exitTo id k'=none∧j=some (.exit id))∨(∃i k',k= .code (.goto i)::k'∧gotoIn i k'=none∧j=some (.goto i)))
 (hr:(Instr.endRound l j).run P w= .ok x w'):
 ∃es,(∀e∈es,e∈(Instr.endRound l j).events P w #[])∧∀main,stepG P main (Gr (b.atR a k) (c::cs)) w= .go (Gr (c.finish x) cs) w' es:=by
 refine⟨seen P b.fn ((Instr.endRound l j).events P w #[]),fun e hm=>Conc.mem_seen hm,fun main=>?_⟩
 rcases hj with⟨rfl,rfl⟩ |⟨k',rfl,rfl⟩ |⟨id,k',rfl,h3,rfl⟩ |⟨i,k',rfl,h3,rfl⟩
 ·
  simp [stepG,stepG.exec,Frame.atR,hb,hr,doReturn,hk,GStep.after]
 ·
  simp [stepG,stepG.exec,Frame.atR,hb,hr,doReturn,hk,GStep.after]
 ·
  simp [stepG,stepG.exec,Frame.atR,hb,hr,doReturn,hk,GStep.after,h3]
 ·
  simp [stepG,stepG.exec,Frame.atR,hb,hr,doReturn,hk,GStep.after,h3]
end
def tK{P:Program}(M:Md P)(l:Nat)(bd:Code)(Q:Exit→Act→VW→Prop)(a:Act)(w:VW):Prop:=
 ∀v1,bh w v1→∃w',(Instr.beginRound l).run P v1= .ok () w'∧eF v1 w' ((Instr.beginRound l).events P v1 #[])∧bd.wk M (some l) Q a (v1.upd w')
theorem Aw{c:Cx}{l:Nat}{rec:Loop}{bd:Code}{Q:Exit→Act→VW→Prop}{Γ:Ga}{Δ:List D}(hc:c.rd=some l)(hs:rec.state= .ready)(h:JC c bd Q Γ (.raw l (.loop { rec with state:=.busy })::Δ)):
 JN c (tK c.M l bd Q) Γ (.raw l (.loop rec)::Δ):=by
 intro a w st v1 hr
 have st1:=st.rely hr
 obtain⟨_,_,S,h3,_,h5,_⟩:=st1
 obtain⟨r1,r2⟩:=tL (P:=c.P) (ob:=.loop { rec with state:=.busy }) h5 rfl vL fun w hw=>run_beginRound hw hs
 refine⟨_,r1,r2,?_⟩
 have:=h a _ (St.putRaw (.loop { rec with state:=.busy }) (st.rely hr))
 rwa [hc] at this
def wu(P:Program)(l:Nat)(R:Ending→VW→Prop)(j:Option Code)(v:VW):Prop:=
 ∀v1,bh v v1→∃x w',(Instr.endRound l j).run P v1= .ok x w'∧eF v1 w' ((Instr.endRound l j).events P v1 #[])∧R (.returned x) (v1.upd w')
def oW(P:Program)(l:Nat)(R:Ending→VW→Prop):Exit→Act→VW→Prop
 | .normal,_,v=>wu P l R none v
 | .ret,_,v=>wu P l R (some .ret) v
 | .exit id,_,v=>wu P l R (some (.exit id)) v
 | .goto i,_,v=>wu P l R (some (.goto i)) v
 |_,_,_=>False
theorem OQ{P:Program}{M:Md P}{N l:Nat}{rec:Loop}{as:List A}{Δ:List D}{Γ:Ga}{X:Type}{R:X→A×List D}(tm:List Value→Array Value)
 (hy:∀S w vs,fy S w as vs→∀w':World,w'.heap[l]? =some (.loop rec)→(Instr.yield l vs.toArray).run P w'= .ok (.round l rec.fn (tm vs) rec.assign rec.body) w')
 (hst:∀S (w:VW) vs,(∀b,S b→b < w.heap.size)→fy S w as vs→aQ (.raw l (.loop rec)::Δ) S w→St ⟨P,N,S,w,ap (.raw l (.loop rec)::Δ),some l,[],M⟩ Γ (.raw l (.loop rec)::Δ) { tmps:=tm vs,defers:=[] } w)
 (h:∀S w,JC ⟨P,N,S,w,ap (.raw l (.loop rec)::Δ),some l,[],M⟩ rec.assign (bS (tK M l rec.body (oW P l (dr S w (.raw l (.loop rec)::Δ) R))) (fun _ _ _=>False)) Γ (.raw l (.loop rec)::Δ)):
 YT M l as (.raw l (.loop rec)::Δ) R:=by
 intro S w vs hd hall hO
 obtain⟨g1,g2⟩:=J1 hO rfl Hm (hy S w vs hall)
 refine⟨rec.fn,tm vs,rec.assign,rec.body,g1,g2,?_⟩
 intro T hT c cs hret _ _
 have bc:=M.bc T hT
 let b:Frame:={ (default:Frame) with fn:=rec.fn,kind:=.normal,roundOf:=some l }
 have out:∀(j:Option Code) (a':Act) (v':VW) (k:List Item),wu P l (dr S w (.raw l (.loop rec)::Δ) R) j v'→
  ((k=[]∧j=none)∨(∃k',k= .code .ret::k'∧j=some .ret)∨(∃id k',k= .code (.exit id)::k'∧exitTo id k'=none∧j=some (.exit id))∨(∃i k',k= .code (.goto i)::k'∧gotoIn i k'=none∧j=some (.goto i)))→
  T v' (b.atR a' k) (c::cs):=fun j a' v' k q hj=>bc.step _ _ _ fun v1 hr=>by
  obtain⟨x,w',q1,q2,q3⟩:=q v1 hr
  obtain⟨es,e1,e2⟩:=Qv (c:=c) (cs:=cs) (a:=a') (b:=b) j k rfl rfl hj q1
  exact⟨_,_,w',es,e2,q2.sub e1,hret x _ q3⟩
 have hfr:Frame.round l rec.fn (tm vs) rec.assign rec.body .normal=b.atR { tmps:=tm vs,defers:=[] } [.code rec.assign,.beginRound,.code rec.body]:=rfl
 rw [hfr]
 refine h S w _ _ (hst S w vs hd hall hO) T hT b _ (c::cs) rfl fun e a' v' q=>?_
 cases e with
 |normal=>
  refine bc.step _ _ _ fun v1 hr=>?_;obtain⟨w',q1,q2,q3⟩:=q v1 hr;obtain⟨es,e1,e2⟩:=K7 (b:=b) (a:=a') (k:=[.code rec.body]) (cs:=c::cs) rfl q1;refine⟨_,_,w',es,e2,q2.sub e1,q3 T hT b [] (c::cs) rfl fun e a' v' q=>?_⟩;cases e with
  |normal=>exact out none a' v' [] q (.inl ⟨rfl,rfl⟩)
  |ret=>exact⟨fun h=>(by cases h),fun _ k1=>out (some .ret) a' v' _ q (.inr (.inl ⟨k1,rfl,rfl⟩))⟩
  |exit id=>exact .inr ⟨rfl,rfl,fun k1 hk=>out (some (.exit id)) a' v' _ q (.inr (.inr (.inl ⟨id,k1,rfl,hk,rfl⟩)))⟩
  |goto i=>exact .inr ⟨rfl,rfl,fun k1 hk=>out (some (.goto i)) a' v' _ q (.inr (.inr (.inr ⟨i,k1,rfl,hk,rfl⟩)))⟩
  |panic ch=>exact q.elim
  |outgrown=>exact q.elim
 |ret=>exact q.elim
 |exit id=>exact q.elim
 |goto i=>exact q.elim
 |panic ch=>exact q.elim
 |outgrown=>exact q.elim
theorem YT.of{P:Program}{M:Md P}{N l p:Nat}{rec:Loop}{as:A}{Δ:List D}{Γ:Ga}{X:Type}{R:X→A×List D}(hp:rec.params= #[p])(hN:rec.tmps.size=N)(hpN:p < N)(hΓ:Am rec.tmps Γ)
 (h:∀S w,JC ⟨P,N,S,w,ap (.raw l (.loop rec)::Δ),some l,[],M⟩ rec.assign (bS (tK M l rec.body (oW P l (dr S w (.raw l (.loop rec)::Δ) R))) (fun _ _ _=>False)) ((p,as)::Γ) (.raw l (.loop rec)::Δ)):
 YT M l [as] (.raw l (.loop rec)::Δ) R:=by
 refine OQ (fun vs=>rec.tmps.setIfInBounds p (vs.headD undef)) (fun S w vs hall w' hb=>?_) (fun S w vs hd hall hO=>?_) h
 ·
  obtain⟨v,vs',rfl,hv,hn⟩:=hall;have hn:vs'=[]:=hn;subst hn;have:=run_yield (P:=P) (w:=w') (args:= #[v]) hb (by simp [hp]);rw [this];simp [hp]
 ·
  obtain⟨v,vs',rfl,hv,hn⟩:=hall;refine⟨rfl,by simpa using hN,S,bp.refl hd,fun b hb=>.inl hb,hO,fun s r hl=>?_⟩;simp only [lk] at hl;split at hl
  ·rename_i e;subst e;cases hl;simpa [Array.getD_eq_getD_getElem?,Array.getElem?_setIfInBounds,hN,hpN] using hv
  ·rename_i e;rw [hΓ.lk hl];show _=_;simp [Array.getD_eq_getD_getElem?,Array.getElem?_setIfInBounds_ne e]
theorem NR{P:Program}{M:Md P}{N l:Nat}{rec:Loop}{S:FS}{w0:VW}{Δ0 Δ:List D}{Γ:Ga}{X:Type}{R:X→A×List D}{a:Act}{w:VW}(j:Option Code)(x:X)(k:Nat)
 (hR:R x=(.eq (.bool j.isNone),.raw l (.loop { rec with state:=if j.isNone then .ready else .done,pending:=j })::Δ.take k)) (st:St ⟨P,N,S,w0,ap Δ0,some l,[],M⟩ Γ (.raw l (.loop rec)::Δ) a w):wu P l (dr S w0 Δ0 R) j w:=by
 intro v1 hr
 have st1:=st.rely hr
 obtain⟨_,_,S1,_,_,h5,_⟩:=st1
 obtain⟨r1,r2⟩:=tL (P:=P) (x:=.bool j.isNone) (ob:=.loop { rec with state:=if j.isNone then .ready else .done,pending:=j }) h5 rfl zn fun w hw=>run_endRound j hw
 refine⟨_,_,r1,r2,?_⟩
 have st':=St.putRaw (.loop { rec with state:=if j.isNone then .ready else .done,pending:=j }) (st.rely hr)
 obtain⟨h1,h2,S',h3,h4,h5,h6⟩:=(SE.drop (k+1)) a _ st'
 exact⟨x,S',_,rfl,h3,by rw [hR];rfl,by rw [hR];exact h5,by rw [hR];exact h4⟩
theorem pq{P:Program}{M:Md P}{N l:Nat}{rec:Loop}{S:FS}{w0:VW}{Δ0 Δ:List D}{Γ:Ga}{X:Type}{R:X→A×List D}(x:X)(k:Nat)
 (hR:R x=(.eq (.bool true),.raw l (.loop { rec with state:=.ready,pending:=none })::Δ.take k)):
 JN ⟨P,N,S,w0,ap Δ0,some l,[],M⟩ (oW P l (dr S w0 Δ0 R) .normal) Γ (.raw l (.loop rec)::Δ):=fun _ _ st=>NR none x k hR st
@[reducible] def kj(rec:Loop)(j:Option Code):Loop:={ rec with state:=if j.isNone then .ready else .done,pending:=j }
def xB(j:Option Code)(M:Prop)(N:Code→Prop):Prop:=match j with
 |none=>M
 |some jc=>N jc
theorem t9{b:Bool}{M:Prop}{N:Code→Prop}(h0:b=false→M)(h1:b=true→N .ret):xB (cond b (some .ret) none) M N:=by
 cases b
 ·exact h0 rfl
 ·exact h1 rfl
def gW(dl:Nat):Deferred:={ target:=.collected dl,args:= #[] }
theorem EA{f:Operand}{g:FuncId}{us:Array Value}{y:Value}{ρ:Operand→Value}(h1:ρ f= .func (.func g) #[] us)(h2:ρ (.const y)=y):
 (do let d←resolve ρ { callee:=.value f,args:= #[.const y],argTypes:= #[] } 0;invoke d.target d.args:Sem Next)=callFunc g (#[y]++us):=by
 simp [resolve,h1,h2,Deferred.ofValue,invoke]
section
variable {P:Program}{b:Frame}{a:Act}{k:List Item}{cs:List Frame}{w:World}
theorem nn{g:FuncId}{args:Array Value}(hen:ah P g)(w:World):(callFunc g args).runT P w #[]=(.ok (.enter g args) w, #[]):=by
 obtain⟨fn,h1,h2,h3⟩:=hen
 show((match P.funcs[g]? with
  |none=>stuck "call: no such function"
  |some fn=>if fn.name == "runtime.NumGoroutine" then pure .numGoroutine else if fn.body.isNone then _ else pure (.enter g args):Sem Next)).runT P w #[]=_
 rw [h1];simp only [h2,h3,Bool.false_eq_true,if_false];rfl
theorem K3{f:Operand}{g:FuncId}{us:Array Value}{ps:Array Tmp}{asg bd:Code}(hb:b.roundOf=none)(hf:a.eval f= .func (.func g) #[] us)(hen:ah P g):
 ∃es,(∀e∈es,e∈(Instr.enterLoop b.fn a.tmps ps asg bd none).events P w #[])∧∀main,stepG P main (Gr (b.atR a (.code (.rangeFunc f ps asg bd)::k)) cs) w=
  .go (Gr (Frame.enter P g (#[.func (.yield (w.heap.size+1)) #[] #[]]++us) .normal) (b.atR { a with defers:=gW w.heap.size::a.defers } (.inRangeFunc (w.heap.size+1)::k)::cs))
   ((w.alloc (.deferred (some []))).alloc (.loop { state:=.ready,pending:=none,fn:=b.fn,tmps:=a.tmps,params:=ps,assign:=asg,body:=bd,defers:=w.heap.size })) es:=by
 refine⟨seen P b.fn ((Instr.enterLoop b.fn a.tmps ps asg bd none).events P w #[])++seen P b.fn (if b.kind == .early then #[] else #[]),fun e hm=>?_,fun main=>?_⟩
 ·
  rcases Array.mem_append.1 hm with hm |hm
  ·exact Conc.mem_seen hm
  ·have:=Conc.mem_seen hm;split at this <;> simp at this
 ·
  have hrT:(Instr.enterLoop b.fn a.tmps ps asg bd none).runT P w #[]=(.ok (w.heap.size+1,[gW w.heap.size]) ((w.alloc (.deferred (some []))).alloc (.loop { state:=.ready,pending:=none,fn:=b.fn,tmps:=a.tmps,params:=ps,assign:=asg,body:=bd,defers:=w.heap.size })),(Instr.enterLoop b.fn a.tmps ps asg bd none).events P w #[]):=by
   rw [Sem.runT_eq,run_enterLoop_outer];rfl
  have he1:(b.atR { a with defers:=gW w.heap.size::a.defers } (.inRangeFunc (w.heap.size+1)::k)).eval f= .func (.func g) #[] us:=by rw [Frame.eval_atR];exact hf
  have hsem:=EA (y:=.func (.yield (w.heap.size+1)) #[] #[]) he1 rfl;simp only [Frame.atR,hb] at hsem;simp only [stepG,stepG.exec,Frame.atR,hb,hrT,List.cons_append,List.nil_append,hsem,stepG.apply,if_true,nn hen,GStep.after,Array.append_empty]
theorem BM{l:Nat}{j:Option Code}{w':World}(hr:(Instr.endLoop l).run P w= .ok j w'):∃es,(∀e∈es,e∈(Instr.endLoop l).events P w #[])∧∀main,stepG P main (Gr (b.atR a (.endRangeFunc l::k)) cs) w= .go (Gr (b.atR a ((j.map Item.code).toList++k)) cs) w' es:=by
 refine⟨seen P b.fn ((Instr.endLoop l).events P w #[]),fun e hm=>Conc.mem_seen hm,fun main=>?_⟩;simp [stepG,stepG.exec,Frame.atR,hr,GStep.after]
theorem Ot{fr:Frame}{dl:Nat}{ds calls:List Deferred}{w':World}(hm:fr.mode= .returning)(hd:fr.defers=gW dl::ds)(hr:(Instr.takeDeferred dl).run P w= .ok calls w'):
 ∃es,(∀e∈es,e∈(Instr.takeDeferred dl).events P w #[])∧∀main,stepG P main (Gr fr cs) w= .go (Gr { fr with defers:=calls++ds } cs) w' es:=by
 refine⟨seen P fr.fn ((Instr.takeDeferred dl).events P w #[]),fun e hm=>Conc.mem_seen hm,fun main=>?_⟩
 simp [stepG,unwind,hm,hd,gW,hr,GStep.after]
end
theorem yb{b:Frame}{a:Act}{k:List Item}{l:Nat}{x:Value}:(b.atR a (.inRangeFunc l::k)).finish x=b.atR a (.endRangeFunc l::k):=rfl
theorem rI{c:Cx}{Q:Exit→Act→VW→Prop}{Γ:Ga}{Δ F:List D}{s g:Nat}{ps:Array Nat}{cs:List Value}{asg bd:Code}{X:Type}{J:X→Option Code}{E:X→List D}{r0:X→A}(hrd:c.rd=none)
 (hl:lk Γ s=some (.eq (.func (.func g) #[] cs.toArray))) (hen:ah c.P g)
 (hcall:∀(rec:Loop),rec.params=ps→rec.assign=asg→rec.body=bd→rec.state= .ready→rec.pending=none→rec.tmps.size=c.N→(∀s v,lk Γ s=some (.eq v)→rec.tmps.getD s undef=v)→∀l,
  bQ c.M g (.eq (.func (.yield l) #[] #[])::cs.map .eq) (.raw l (.loop rec)::Δ) (fun x=>(r0 x,.raw l (.loop (kj rec (J x)))::E x)))
 (hnext:∀dl x,xB (J x) (JN { c with dfs:=gW dl::c.dfs } (Q .normal) Γ (.raw dl (.deferred (some []))::(E x++F)))
  (fun jc=>JC { c with dfs:=gW dl::c.dfs } jc Q Γ (.raw dl (.deferred (some []))::(E x++F)))):JC c (.rangeFunc (.tmp s) ps asg bd) Q Γ (Δ++F):=by
 intro a w0 st0 T hT b k fs hb hq
 have bc:=c.M.bc T hT
 have hb0:b.roundOf=none:=hb.trans hrd
 refine bc.step _ _ _ fun w hrel=>?_
 obtain⟨h1,h2,S,h3,h4,h5,h6⟩:=st0.rely hrel
 have hv:a.eval (.tmp s)= .func (.func g) #[] cs.toArray:=h6 s _ hl
 obtain⟨es,e1,e2⟩:=K3 (k:=k) (cs:=fs) (w:=w.toWorld) (ps:=ps) (asg:=asg) (bd:=bd) hb0 hv hen
 let dl:=w.heap.size
 let rec0:Loop:={ state:=.ready,pending:=none,fn:=b.fn,tmps:=a.tmps,params:=ps,assign:=asg,body:=bd,defers:=dl }
 let w1:World:=(w.alloc (.deferred (some []))).alloc (.loop rec0)
 have hsz1:(w.alloc (.deferred (some []))).heap.size=dl+1:=by simp [dl]
 have hd1:∀b,S b→b < (w.alloc (.deferred (some []))).heap.size:=fun b hb=>by have:=h3.dom b hb;omega
 have hK1:∀x,x < w.heap.size→w1.heap[x]? =w.heap[x]? :=fun x hx=>
  (f6 (w.alloc (.deferred (some []))) (.loop rec0) x (by rw [hsz1];exact Nat.lt_succ_of_lt hx)).trans (f6 w (.deferred (some [])) x hx)
 have hG:eF w w1 es:=by
  have h0:aQ [] S w:=h5.re uo (fun b hb=>(bW hb).elim) (fun _ h=>.inl h);have hrun:∀w':World,∃x w1,(Instr.enterLoop b.fn a.tmps ps asg bd none).run c.P w'= .ok x w1:=fun w'=>⟨_,_,run_enterLoop_outer ..⟩;obtain⟨x,w',r1,r2⟩:=h0.sg (fun d hd=>by simp at hd) xG (hrun _);rw [run_enterLoop_outer] at r1;cases r1;exact⟨fun x hx _=>hK1 x hx,by show w.heap.size≤w1.heap.size;simp [w1];omega,.refl _,rfl,rfl,fun e he=>r2 e (e1 e he)⟩
 refine⟨_,_,w1,es,e2,hG,?_⟩
 have hA:=(h5.alloc h3.dom (.deferred (some []))).alloc hd1 (.loop rec0)
 have hS1:bp c.X c.S0 c.w0 S (w.upd w1):=(h3.trans (bp.of (fD (X:=fun _=>False) h3.dom _)) (fun b hb=>hb.elim)).trans (bp.of (v:=w.upd (w.alloc (.deferred (some [])))) (fD (X:=fun _=>False) hd1 _)) (fun b hb=>hb.elim)
 have hd2:∀b,S b→b < w1.heap.size:=hS1.dom
 have hA:aQ (.raw (dl+1) (.loop rec0):: .raw dl (.deferred (some []))::(Δ++F)) S (w.upd w1):=by
  have e:(w.upd (w.alloc (.deferred (some [])))).heap.size=dl+1:=hsz1;rw [e] at hA;exact hA
 have hp:(D.raw (dl+1) (.loop rec0):: .raw dl (.deferred (some []))::(Δ++F)).Perm ((.raw (dl+1) (.loop rec0)::Δ)++(.raw dl (.deferred (some []))::F)):=by
  refine List.Perm.cons _ ?_;exact(List.perm_middle (l₁:=Δ)).symm
 have hO:=hA.perm hp
 have hOc:aQ (.raw (dl+1) (.loop rec0)::Δ) S (w.upd w1):=hO.part
 have hfeet:∀b,ap ((D.raw (dl+1) (.loop rec0)::Δ)++(.raw dl (.deferred (some []))::F)) b→c.X b∨c.w0.heap.size≤b:=fun b ⟨d,hd,e⟩=>by
  have hle:c.w0.heap.size≤dl:=h3.size;rcases List.mem_append.1 hd with hd |hd
  ·rcases List.mem_cons.1 hd with rfl |hd
   ·simp only [D.foot,Option.some.injEq] at e;exact .inr (by omega)
   ·exact h4 b ⟨d,List.mem_append.2 (.inl hd),e⟩
  ·rcases List.mem_cons.1 hd with rfl |hd
   ·simp only [D.foot,Option.some.injEq] at e;exact .inr (by omega)
   ·exact h4 b ⟨d,List.mem_append.2 (.inr hd),e⟩
 have hG1:∀s r,lk Γ s=some r→r.holds S w1 (a.tmps.getD s undef):=fun s r hl=>A.mono (fun _ h=>h) (fun b hb=>hK1 b (h3.dom b hb)) r (h6 s r hl)
 have heq:∀vs:List Value,fy S w1 (vs.map .eq) vs:=fun vs=>by
  induction vs with
  |nil=>rfl
  |cons v vs ih=>exact⟨v,vs,rfl,rfl,ih⟩
 have hca:=hcall rec0 rfl rfl rfl rfl rfl h2 (fun s v hl=>h6 s _ hl) (dl+1) .normal (fun e=>nomatch e) S (w.upd w1) (.func (.yield (dl+1)) #[] #[]::cs) hd2 ⟨_,_,rfl,rfl,heq cs⟩ hOc
 have harg:(#[Value.func (.yield (w.heap.size+1)) #[] #[]]++cs.toArray)=(.func (.yield (dl+1)) #[] #[]::cs).toArray:=by simp [dl]
 rw [harg]
 refine hca T hT _ fun e w' fr he hf hk hlv=>?_
 obtain⟨x,S',v,rfl,g1,_,g3,g4⟩:=he
 refine o5 bc hlv hk ?_
 rw [yb]
 have hO2:=hO.frame hd2 g1 g3 g4
 have hS2:=hS1.trans g1 fun b ⟨d,hd,e⟩=>hfeet b ⟨d,List.mem_append.2 (.inl hd),e⟩
 have hK2:fW S w1 w':=fun b hb=>g1.keep b (hd2 b hb) (hOc.sees b hb) fun hx=>(hOc.own b hx).1 hb
 have hfeet2:∀b,ap (.raw (dl+1) (.loop (kj rec0 (J x)))::E x++(.raw dl (.deferred (some []))::F)) b→c.X b∨c.w0.heap.size≤b:=fun b ⟨d,hd,e⟩=>by
  rcases List.mem_append.1 hd with hd |hd
  ·rcases g4 b ⟨d,hd,e⟩ with hh |hh
   ·obtain⟨d',hd',e'⟩:=hh;exact hfeet b ⟨d',List.mem_append.2 (.inl hd'),e'⟩
   ·exact .inr (Nat.le_trans hS1.size hh)
  ·exact hfeet b ⟨d,List.mem_append.2 (.inr hd),e⟩
 have hst:St { c with dfs:=gW dl::c.dfs } Γ (.raw (dl+1) (.loop (kj rec0 (J x)))::(E x++(.raw dl (.deferred (some []))::F))) { a with defers:=gW w.heap.size::a.defers } w':=
  ⟨by simp [h1,dl],h2,S',hS2,hfeet2,hO2,fun s r hl=>A.mono g1.sub hK2 r (hG1 s r hl)⟩
 refine bc.step _ _ _ fun v1 hr1=>?_
 have hst1:=hst.rely hr1
 obtain⟨_,_,S3,p3,_,p5,_⟩:=hst1
 have hnb:(kj rec0 (J x)).state≠.busy:=by
  show(if(J x).isNone then LoopState.ready else .done)≠.busy;split <;> simp
 obtain⟨r1,r2⟩:=tL (P:=c.P) (ob:=.loop { kj rec0 (J x) with state:=.exhausted }) p5 rfl Bv fun w hw=>run_endLoop hw hnb
 obtain⟨es',e1',e2'⟩:=BM (b:=b) (a:={ a with defers:=gW w.heap.size::a.defers }) (k:=k) (cs:=fs) r1
 refine⟨_,_,_,es',e2',r2.sub e1',?_⟩
 have hst2:=(hst.rely hr1).putRaw (.loop { kj rec0 (J x) with state:=.exhausted })
 have hp2:(E x++(D.raw dl (.deferred (some []))::F)).Perm (.raw dl (.deferred (some []))::(E x++F)):=List.perm_middle
 obtain⟨q1,q2,S2,q3,q4,q5,q6⟩:=hst2
 have hst3:St { c with dfs:=gW dl::c.dfs } Γ (.raw dl (.deferred (some []))::(E x++F)) { a with defers:=gW w.heap.size::a.defers } (v1.upd (v1.putObj (dl+1) (.loop { kj rec0 (J x) with state:=.exhausted }))):=by
  refine⟨q1,q2,S2,q3,fun b hb=>?_,q5.tail.perm hp2,q6⟩;rw [mI hp2.symm] at hb;obtain⟨d,hd,e⟩:=hb;exact q4 b ⟨d,List.mem_cons_of_mem _ hd,e⟩
 have hn:=hnext dl x
 have hpe:(kj rec0 (J x)).pending=J x:=rfl
 rw [hpe]
 cases hj:J x with
 |none=>
  unfold xB at hn;rw [hj] at hn hst3;exact hq _ _ _ (hn _ _ hst3)
 |some cc=>
  unfold xB at hn;rw [hj] at hn hst3;exact hn _ _ hst3 T hT b k fs hb hq
def pi(P:Program)(fn:Func)(R:Ending→VW→Prop):Exit→Act→VW→Prop
 | .ret,a,v=>bR P fn R .ret a v∨∃dl,a.defers=[gW dl]∧∀v1,bh v v1→∃w',(Instr.takeDeferred dl).run P v1= .ok [] w'∧eF v1 w' ((Instr.takeDeferred dl).events P v1 #[])∧bR P fn R .ret { a with defers:=[] } (v1.upd w')
 | .normal,a,v=>bR P fn R .ret a v∨∃dl,a.defers=[gW dl]∧∀v1,bh v v1→∃w',(Instr.takeDeferred dl).run P v1= .ok [] w'∧eF v1 w' ((Instr.takeDeferred dl).events P v1 #[])∧bR P fn R .ret { a with defers:=[] } (v1.upd w')
 | .panic chain,a,v=>a.defers=[]∧R (.panicked chain) v
 |_,_,_=>False
theorem Au{c:Cx}{P:Program}{fn:Func}{R:Ending→VW→Prop}{Γ:Ga}{Δ:List D}(h:JN c (bR P fn R .ret) Γ Δ):JN c (pi P fn R .ret) Γ Δ:=fun a w st=>.inl (h a w st)
theorem Ea{P:Program}{M:Md P}{N dl:Nat}{S:FS}{w0:VW}{X:Nat→Prop}{fn:Func}{R:Ending→VW→Prop}{Γ:Ga}{Δ:List D}(h:JN ⟨P,N,S,w0,X,none,[],M⟩ (bR P fn R .ret) Γ Δ):
 JN ⟨P,N,S,w0,X,none,[gW dl],M⟩ (pi P fn R .ret) Γ (.raw dl (.deferred (some []))::Δ):=by
 intro a w st
 refine .inr ⟨dl,st.1,fun v1 hr=>?_⟩
 have st1:=st.rely hr
 obtain⟨_,_,S1,_,_,p5,_⟩:=st1
 obtain⟨r1,r2⟩:=tL (P:=P) (x:=([]:List Deferred)) (ob:=.deferred none) p5 rfl tz fun w hw=>run_takeDeferred hw
 refine⟨_,r1,r2,?_⟩
 have st2:=(st.rely hr).putRaw (.deferred none)
 obtain⟨h1,h2,S',h3,h4,h5,h6⟩:=st2
 exact h _ _ ⟨rfl,h2,S',h3,fun b ⟨d,hd,e⟩=>h4 b ⟨d,List.mem_cons_of_mem _ hd,e⟩,h5.tail,h6⟩
theorem St.entry{P:Program}{M:Md P}{as:List A}{Δ:List D}{N:Nat}{S:FS}{w:VW}{vs:List Value}(hn:Nat.ble as.length N=true)(hd:∀b,S b→b < w.heap.size)(hall:fy S w as vs)(hO:aQ Δ S w):
 St ⟨P,N,S,w,ap Δ,none,[],M⟩ (entry 0 as) Δ { tmps:=vs.toArray++Array.replicate (N - vs.toArray.size) undef,defers:=[] } w:=by
 have hn:=Nat.le_of_ble_eq_true hn
 refine⟨rfl,?_,S,bp.refl hd,fun b hb=>.inl hb,hO,fun s r hl=>?_⟩
 ·
  have:=hall.length;simp only [Array.size_append,List.size_toArray,Array.size_replicate];omega
 ·
  obtain⟨j,e,hj,hr⟩:=qq hall hl;have e':s=j:=by omega
  subst e'
  have e2:(vs.toArray++Array.replicate (N - vs.toArray.size) undef).getD s undef=vs.getD s undef:=by
   simp [Array.getD_eq_getD_getElem?,Array.getElem?_append,hj]
  rw [e2];exact hr
theorem enter_at{P:Program}{f:Nat}{fn:Func}{C:Code}{args:Array Value}{kind:CallKind}(hf:P.funcs[f]? =some fn)(hb:fn.body=some C):
 Frame.enter P f args kind=Frame.atR { (default:Frame) with fn:=f,kind:=kind } { tmps:=args++Array.replicate (fn.ntmps - args.size) undef,defers:=[] } [.code C]:=by
 simp [Frame.enter,Frame.atR,hf,hb]
 rfl
theorem vu{P:Program}{M:Md P}{f:Nat}{fn:Func}{C:Code}{as:List A}{Δ:List D}{X:Type}{R:X→A×List D}(N:Nat)(hf:P.funcs[f]? =some fn)(hb:fn.body=some C)(hN:fn.ntmps=N)(hn:Nat.ble as.length N=true)
 (h:∀S w0,JC ⟨P,N,S,w0,ap Δ,none,[],M⟩ C (pi P fn (dr S w0 Δ R)) (entry 0 as) Δ):bQ M f as Δ R:=by
 subst hN
 intro kind hkind S w vs hd hall hO T hT cs hc
 have bc:=M.bc T hT
 rw [enter_at hf hb]
 refine h S w _ _ (St.entry hn hd hall hO) T hT _ [] cs rfl fun e a' v' q=>?_
 have fin:∀(a':Act) (v':VW) todo,bR P fn (dr S w Δ R) .ret a' v'→T v' { Frame.atR { (default:Frame) with fn:=f,kind:=kind } a' todo with mode:=.returning } cs:=fun a' v' todo ⟨q1,x,q2,q3⟩=>hc _ _ _ q3 rfl rfl ⟨rfl,q1,fn,hf,q2⟩
 have finM:∀todo,(bR P fn (dr S w Δ R) .ret a' v'∨∃dl,a'.defers=[gW dl]∧∀v1,bh v' v1→∃w',(Instr.takeDeferred dl).run P v1= .ok [] w'∧eF v1 w' ((Instr.takeDeferred dl).events P v1 #[])∧bR P fn (dr S w Δ R) .ret { a' with defers:=[] } (v1.upd w'))→
  T v' { Frame.atR { (default:Frame) with fn:=f,kind:=kind } a' todo with mode:=.returning } cs:=fun todo q=>by
  rcases q with q |⟨dl,q1,q2⟩
  ·
   exact fin a' v' todo q
  ·
   refine bc.step _ _ _ fun v1 hr=>?_;obtain⟨w',p1,p2,p3⟩:=q2 v1 hr;obtain⟨es,e1,e2⟩:=Ot (P:=P) (fr:={ Frame.atR { (default:Frame) with fn:=f,kind:=kind } a' todo with mode:=.returning }) (cs:=cs) (ds:=[]) rfl q1 p1;exact⟨_,_,w',es,e2,p2.sub e1,fin { a' with defers:=[] } _ todo p3⟩
 cases e with
 |normal=>exact bc.move (fun _ _=>wL rfl) (finM _ q)
 |ret=>exact⟨fun _ todo=>finM todo q,fun h=>by cases h⟩
 |panic chain=>exact fun todo=>hc _ _ _ q.2 rfl rfl ⟨rfl,q.1,fn,hf⟩
 |exit id=>exact q.elim
 |goto l=>exact q.elim
 |outgrown=>exact q.elim
theorem RF{P:Program}{f:Nat}{fn:Func}{C:Code}{as:List A}{Δ:List D}{X:Type}{R:X→A×List D}(N:Nat)(hf:P.funcs[f]? =some fn)(hb:fn.body=some C)(hN:fn.ntmps=N)(hn:Nat.ble as.length N=true)
 (h:∀{M:Md P} (S:FS) (w0:VW),JC ⟨P,N,S,w0,ap Δ,none,[],M⟩ C (pi P fn (dr S w0 Δ R)) (entry 0 as) Δ):de P f as Δ R:=fun _=>vu N hf hb hN hn h
section
variable {c:Cx}{ops:Array Oper}{o:Oper}{l:List Oper}{Q:Exit→Act→VW→Prop}{Γ Γ':Ga}{Δ Δ' F E pre pre':List D}{N:List (Operand×A)}{d:Nat}{X:Type}{R:X→A×List D}{r:A}
theorem As(hg:o.guard=none)(hd:o.dst=some d)(hdN:Nat.blt d c.N=true)(ht:bo c.M o N Δ R)(hh:dO Γ N)(h:∀x,JO c ops l Q ((d,(R x).1)::Γ) (R x).2):JO c ops (o::l) Q Γ Δ:=by
 have:=aD (c:=c) (ops:=ops) (o:=o) (l:=l) (Q:=Q) (Γ:=Γ) (Δ:=Δ) (F:=[]) (N:=N) (d:=d) (R:=R) (fun _ _ _=>ab hg _) hd hdN ht hh (fun x=>by rw [List.append_nil];exact h x);rwa [List.append_nil] at this
theorem IY(pre:List D)(hg:o.guard=none)(hd:o.dst=some d)(hdN:Nat.blt d c.N=true)(ht:bo c.M o N Δ R)(hh:dO Γ N)(h:∀x,JO c ops l Q ((d,(R x).1)::Γ) (pre++(R x).2)):JO c ops (o::l) Q Γ (pre++Δ):=by
 have h1:JO c ops (o::l) Q Γ (Δ++pre):=aD (fun _ _ _=>ab hg _) hd hdN ht hh (fun x a w st=>h x a w (st.perm List.perm_append_comm));exact fun a w st=>h1 a w (st.perm List.perm_append_comm)
theorem jT{Δ Δ':List D}(h:∀d∈Δ',d∈Δ){b:Nat}:ap Δ' b→ap Δ b:=fun⟨d,hd,e⟩=>⟨d,h d hd,e⟩
theorem kY{ks:List Nat}(hk:fg Δ ks=some Δ'):∀d∈Δ',d∈Δ:=fun d hd=>by
 obtain⟨k,_,e⟩:=iW hk d hd
 exact List.mem_of_getElem? e
theorem gg.pick{S:FS}{w:World}{ks:List Nat}(hk:fg Δ ks=some Δ')(hn:ks.Nodup)(h:gg Δ S w):gg Δ' S w:=
 ⟨fun d hd=>h.holds d (kY hk d hd),fun b hb=>h.own b (jT (kY hk) hb),iQ (fun a b hab x e e'=>hab x e' e) h.apart hn hk⟩
theorem aQ.pick{S:FS}{w:VW}{ks:List Nat}(hk:fg Δ ks=some Δ')(hn:ks.Nodup)(h:aQ Δ S w):aQ Δ' S w:=h.re (h.p.pick hk hn) (fun _ hb=>jT (kY hk) hb) fun _ h=>.inl h
theorem kK(pre:List D)(E:List D)(ks:List Nat)(hs:Jj Γ' Γ)(hk:fg pre ks=some pre')(hn:ks.Nodup:=by decide):SE c Γ (pre++E) Γ' (pre'++E):=by
 rintro a w ⟨h1,h2,S,h3,h4,h5,h6⟩;have hm:=kY hk;have hap:=List.pairwise_append.1 h5.apart;have hO:gg pre' S w:=gg.pick hk hn h5.part.p
 have hsub:∀d∈pre'++E,d∈pre++E:=fun d hd=>by
  rcases List.mem_append.1 hd with hd |hd
  ·exact List.mem_append.2 (.inl (hm d hd))
  ·exact List.mem_append.2 (.inr hd)
 exact⟨h1,h2,S,h3,fun b hb=>h4 b (jT hsub hb),h5.re ⟨fun d hd=>h5.holds d (hsub d hd),fun b hb=>h5.own b (jT hsub hb),List.pairwise_append.2 ⟨hO.apart,hap.2.1,fun d hd d' hd'=>hap.2.2 d (hm d hd) d' hd'⟩⟩ (fun b hb=>jT hsub hb) (fun _ h=>.inl h),fun s r hl=>h6 s r (hs.lk hl)⟩
theorem dr.pick{S:FS}{w:VW}{X:Type}{R R':X→A×List D}{ks ks2:List Nat}(hk:fg Δ ks=some Δ')(h1:∀x,(R' x).1=(R x).1)(hk2:∀x,fg (R' x).2 ks2=some (R x).2)(hn2:ks2.Nodup){e:Ending}{w':VW}
 (h:dr S w Δ' R' e w'):dr S w Δ R e w':=by
 obtain⟨x,S',v,he,g1,g2,g3,g4⟩:=h
 refine⟨x,S',v,he,g1.mono (fun b hb=>jT (kY hk) hb),by rw [←h1];exact g2,g3.pick (hk2 x) hn2,fun b hb=>?_⟩
 rcases g4 b (jT (kY (hk2 x)) hb) with hh |hh
 ·
  exact .inl (jT (kY hk) hh)
 ·
  exact .inr hh
theorem bQ.pick{P:Program}{M:Md P}{M:Md P}{f:Nat}{as:List A}{X:Type}{R R':X→A×List D}(ks ks2:List Nat)(h:bQ M f as Δ' R')(hk:fg Δ ks=some Δ')(hk2:∀x,fg (R' x).2 ks2=some (R x).2)(h1:∀x,(R' x).1=(R x).1)
 (hn:ks.Nodup:=by decide) (hn2:ks2.Nodup:=by decide):bQ M f as Δ R:=
 fun k he S w vs hd hall hO=>(h k he S w vs hd hall (hO.pick hk hn)).mono fun _ _ hh=>dr.pick hk h1 hk2 hn2 hh
theorem de.pick{P:Program}{M:Md P}{f:Nat}{as:List A}{X:Type}{R R':X→A×List D}(ks ks2:List Nat)(h:de P f as Δ' R')(hk:fg Δ ks=some Δ')(hk2:∀x,fg (R' x).2 ks2=some (R x).2)(h1:∀x,(R' x).1=(R x).1)
 (hn:ks.Nodup:=by decide) (hn2:ks2.Nodup:=by decide):de P f as Δ R:=fun M=>bQ.pick (M:=M) ks ks2 (h M) hk hk2 h1 hn hn2
theorem YT.pick{P:Program}{M:Md P}{i:Nat}{as:List A}{X:Type}{R R':X→A×List D}(ks ks2:List Nat)(h:YT M i as Δ' R')(hk:fg Δ ks=some Δ')(hk2:∀x,fg (R' x).2 ks2=some (R x).2)(h1:∀x,(R' x).1=(R x).1)
 (hn:ks.Nodup:=by decide) (hn2:ks2.Nodup:=by decide):YT M i as Δ R:=fun S w vs hd hall hO=>by
 obtain⟨fn,tm,asg,bd,g1,g0,g2⟩:=h S w vs hd hall (hO.pick hk hn)
 exact⟨fn,tm,asg,bd,g1,g0,g2.mono fun _ _ hh=>dr.pick hk h1 hk2 hn2 hh⟩
theorem sW{b:Nat}{ob:Obj}(p:Obj→Prop)(hp:p ob):SE c Γ (.raw b ob::F) Γ (.inv b p::F):=fun a w h=>
 h.swap (d:=.raw b ob) (d':=.inv b p) (fun b'=>Iff.rfl) fun S hs=>⟨ob,hs,hp⟩
theorem tY{P:Program}{M:Md P}{S:FS}{w0:VW}{Δ0:List D}{X:Type}{R:X→A×List D}{N:Nat}{fn:Func}(x:X)(rs:List A)
 (hr:xa P Γ Δ fn.results.toList rs) (hR:R x=(bv rs,Δ)):JN ⟨P,N,S,w0,ap Δ0,none,[],M⟩ (bR P fn (dr S w0 Δ0 R) .ret) Γ Δ:=
 aM x rs Δ.length hr (by rw [hR,List.take_length])
end
def qJ{σ α:Type}(Y:σ→α→Option (σ×Bool)):σ×Bool→α→Option ((σ×Bool)×Bool)
 |(_,true),_=>none
 |(s,false),p=>(Y s p).bind fun r=>some ((r.1, !r.2),r.2)
theorem ua{σ α:Type}{Y:σ→α→Option (σ×Bool)}{q:σ×Bool}{p:α}{r:(σ×Bool)×Bool}(h:qJ Y q p=some r):∃r',q.2=false∧Y q.1 p=some r'∧r=((r'.1, !r'.2),r'.2):=by
 obtain⟨s,b⟩:=q;cases b with
 |true=>cases h
 |false=>
  simp only [qJ] at h;cases hY:Y s p with
  |none=>rw [hY] at h;cases h
  |some r'=>rw [hY] at h;exact⟨r',rfl,rfl,(Option.some.inj h).symm⟩
@[reducible] def Pm(b:Bool):Option Code:=cond b (some .ret) none
section
variable {P:Program}{M:Md P}{o:Oper}{x y:Operand}{T T' e:TypeId}{t:Ty}
end
section
variable {c:Cx}{Γ:Ga}{F:List D}{T:TypeId}{t:Ty}
end
section
variable {P:Program}{M:Md P}{o:Oper}{y:Operand}{T:TypeId}
def BJ(s:ByteArray)(i:Int):Option UInt8:=if 0≤i then s[i.toNat]? else none
theorem zf{s:ByteArray}{k:IntKind}{i:Int}{b:UInt8}(ho:o.op= .index T (.const (.string s)) y)(hT:P.underlying T=some .string)(hd:BJ s i=some b):
 bo M o [(y,.eq (.int k i))] [] (fun _:Unit=>(.eq (.int .u8 b.toNat),[])):=
 .val0 fun S w a hN=>by
  have e1:a.eval y= .int k i:=hN.1
  have e2:a.eval (.const (.string s))= .string s:=rfl
  refine⟨.int .u8 b.toNat,?_,rfl⟩
  unfold BJ at hd
  have h1:(Instr.index T (.string s) (.int k i)).run P w= .ok (.int .u8 b.toNat) w:=by
   unfold Instr.index;simp only [asIntOf,Sem.run_bind,Sem.run_pure,Result.andThen_ok,run_underlying hT,hd]
  simp only [execOp,ho,e1,e2,Sem.run_bind,h1,Result.andThen_ok,Sem.run_pure]
end
def yp(P:Program)(k:TypeId)(R:Value→Int→Prop)(o:Obj):Prop:=
 ∃es cl,o= .map es cl∧∀e∈es.toList,(∃lt,keyOf P k e.key=some lt)∧kO e.key=true∧∃n,e.val= .int .i64 n∧R e.key n
theorem yp.nil{P:Program}{k:TypeId}{R:Value→Int→Prop}:yp P k R (.map #[] 0):=⟨#[],0,rfl,by simp⟩
section
variable {P:Program}{M:Md P}{o:Oper}{x y v:Operand}{T T' k e:TypeId}{R:Value→Int→Prop}{kv:Value}
theorem yp.calm{P:Program}{k:TypeId}{R:Value→Int→Prop}{o:Obj}(h:yp P k R o):calm o=true:=by
 obtain⟨es,cl,rfl,h⟩:=h;show(es.toList.all fun e=>kO e.key)=true;rw [List.all_eq_true];exact fun e he=>(h e he).2.1
theorem fK{w:World}{z:Nat}{es:Array MapEntry}{cl:Nat}(h:w.heap[z]? =some (.map es cl)):(getObj z).run P w= .ok (.map es cl) w:=by simp [getObj,Sem.run,h]
theorem kX{w:World}{z:Nat}{es:Array MapEntry}{cl:Nat}(o:Obj)(h:w.heap[z]? =some (.map es cl)):(setObj z o).run P w= .ok () (w.putObj z o):=by simp [setObj,Sem.run,h,World.putObj]
theorem Da{b:Bool}{ρ:Operand→Value}(ho:o.op= .lookup T x y b)(h:kO (ρ y)=true):Ns P (execOp ρ o):=by
 unfold execOp;rw [ho];exact iK (EH h)
theorem C5{ρ:Operand→Value}(ho:o.op= .mapUpdate T x y v)(h:kO (ρ y)=true):Ns P (execOp ρ o):=by
 unfold execOp;rw [ho];exact N8 (xE h)
end
theorem CE{c:Cx}{C:Code}{Q:Exit→Act→VW→Prop}{Γ:Ga}{F:List D}{z:Nat}{p:Obj→Prop}(h:∀ob,p ob→JC c C Q Γ (.raw z ob::F)):JC c C Q Γ (.inv z p::F):=by
 intro a w st
 obtain⟨ob,h1,h2⟩:∃o,w.heap[z]? =some o∧p o:=by
  obtain⟨_,_,S,_,_,h5,_⟩:=st;exact h5.holds _ (List.mem_cons_self ..)
 exact h ob h2 a w (st.swap (d:=.inv z p) (d':=.raw z ob) (fun b'=>Iff.rfl) fun S _=>h1)
theorem IH{P:Program}{M:Md P}{N l p:Nat}{rec:Loop}{cA cB:Code}(hcA:rec.assign=cA)(hcB:rec.body=cB){as:A}{Δ:List D}{Γ:Ga}{X:Type}{R:X→A×List D}(hp:rec.params= #[p])(hN:rec.tmps.size=N)(hpN:p < N)(hΓ:Am rec.tmps Γ)
 (h:∀S w,JC ⟨P,N,S,w,ap (.raw l (.loop rec)::Δ),some l,[],M⟩ cA (bS (tK M l cB (oW P l (dr S w (.raw l (.loop rec)::Δ) R))) (fun _ _ _=>False)) ((p,as)::Γ) (.raw l (.loop rec)::Δ)):
 YT M l [as] (.raw l (.loop rec)::Δ) R:=by
 subst hcA hcB
 exact YT.of hp hN hpN hΓ h
section
variable {c:Cx}{Q:Exit→Act→VW→Prop}{Γ Γ':Ga}{Δ Δ':List D}{C:Code}
@[reducible] def Un{α β:Type}(x:α×β):(α ⊕ Value)×β:=(.inl x.1,x.2)
section
variable {u r:Ty}{v:Value}{T:TypeId}{F:List D}
end
end
def gY(v:Value)(r:Bool):List PanicEntry:=[{ v:=v,recovered:=r }]
def Jh(g b:Nat):Deferred:={ target:=.fn (.func g) #[.pointer (some ⟨b,0,none⟩)],args:= #[] }
section
variable {P:Program}{a:Act}{cs:List Frame}{w:World}
theorem EO{b:Frame}{k:List Item}{ops:Array Oper}{i:Nat}{rest:List Nat}{o:Oper}(hb:b.roundOf=none)(ho:ops[i]? =some o)(hw:Region.wanted o (yielded ops a.tmps)=true)(hr:∀ρ,execOp ρ o=pure .recover):
 ∃es,(∀e∈es,e∈(#[]:Array Event))∧∀main,stepG P main (Gr (b.atR a (.inRegion ops (i::rest)::k)) cs) w=match tryRecover (b.atR a (.inRegion ops (i::rest)::k)) cs with
  |some (x,cs')=>.go (Gr (b.atR (a.put o.dst x) (.inRegion ops rest::k)) cs') w es
  |none=>.go (Gr (b.atR (a.put o.dst .nilIface) (.inRegion ops rest::k)) cs) w es:=by
 have hfin:∀x,(b.atR a (.inRegion ops (i::rest)::k)).finish x=b.atR (a.put o.dst x) (.inRegion ops rest::k):=fun x=>by rw [Frame.finish_atR,ho];rfl
 refine⟨seen P b.fn (if b.kind == .early then #[] else #[]),fun e he=>?_,fun main=>?_⟩
 ·
  have:=Conc.mem_seen he;split at this <;> exact this
 ·
  rw [uS ho hw,hb,Oper.semAt_none,hr];have hT:(pure Next.recover:Sem Next).runT P w #[]=(.ok .recover w, #[]):=rfl;have hro:(b.atR a (.inRegion ops (i::rest)::k)).roundOf=none:=hb;simp only [stepG.apply,if_true,hT,hro];cases htr:tryRecover (b.atR a (.inRegion ops (i::rest)::k)) cs with
  |none=>simp only [GStep.after,Array.append_empty,hfin];rfl
  |some p=>obtain⟨x,cs'⟩:=p;simp only [GStep.after,Array.append_empty,hfin];rfl
theorem zH{fr:Frame}{g b:Nat}{ds:List Deferred}(m:FrameMode)(hen:ah P g)(hm:fr.mode=m)(hm':m≠.run)(hd:fr.defers=Jh g b::ds):
 ∃es,(∀e∈es,e∈(#[]:Array Event))∧∀main,stepG P main (Gr fr cs) w= .go (Gr (Frame.enter P g #[.pointer (some ⟨b,0,none⟩)] .deferred) ({ fr with defers:=ds }::cs)) w es:=by
 refine⟨seen P fr.fn #[],fun e he=>Conc.mem_seen he,fun main=>?_⟩
 have hi:invoke (.fn (.func g) #[.pointer (some ⟨b,0,none⟩)]) #[]=callFunc g #[.pointer (some ⟨b,0,none⟩)]:=by simp [invoke]
 cases m with
 |run=>exact absurd rfl hm'
 |returning=>simp only [stepG,hm,unwind,hd,Jh,callDeferred,hi,nn hen,GStep.after,Array.append_empty];rfl
 |panicking ch=>simp only [stepG,hm,unwind,hd,Jh,callDeferred,hi,nn hen,GStep.after,Array.append_empty];rfl
theorem Ib{fr c:Frame}{x:Value}{fn:Func}(h1:fr.mode= .returning)(h2:fr.defers=[])(hk:fr.kind= .deferred)(h3:P.funcs[fr.fn]? =some fn)(h4:(results fn fr.tmps).run P w= .ok x w)(hc:c.mode= .returning∨∃v,c.mode= .panicking (gY v true)):
 ∀main,stepG P main (Gr fr (c::cs)) w= .go (Gr { c with mode:=.returning } cs) w (seen P fr.fn ((results fn fr.tmps).events P w #[])):=fun main=>by
 rcases hc with hc |⟨v,hc⟩
 ·
  have e:({ c with mode:=.returning }:Frame)=c:=by cases c;cases hc;rfl
  rw [e]
  simp [stepG,unwind,h1,h2,h3,h4,doReturn,hk,GStep.after,hc]
 ·
  simp [stepG,unwind,h1,h2,h3,h4,doReturn,hk,GStep.after,hc,gY]
end
def lD{P:Program}(M:Md P)(g:Nat)(m:FrameMode)(Tc:TypeId)(e0 e1:Value):Prop:=
 ∀T,M.ok T→∀(b:Nat) (S:FS) (w:VW) (fr:Frame) (cs:List Frame),(∀b,S b→b < w.heap.size)→aQ [.obj b Tc (.eq e0)] S w→fr.mode=m→
  (∀S' w',bp (ap [.obj b Tc (.eq e0)]) S w S' w'→aQ [.obj b Tc (.eq e1)] S' w'→T w' { fr with mode:=.returning } cs)→
  T w (Frame.enter P g #[.pointer (some ⟨b,0,none⟩)] .deferred) (fr::cs)
structure yx(P:Program)(g:Nat)(pv:Value)(Tc:TypeId)(e1:Value):Prop where
 enter:ah P g
 calm:∀(M:Md P) (e0:Value),lD M g .returning Tc e0 e0
 caught:∀(M:Md P) (e0:Value),lD M g (.panicking (gY pv false)) Tc e0 e1
theorem lD.of{P:Program}{M:Md P}{g d id N:Nat}{fn:Func}{o:Oper}{l:List Oper}{C:Code}{m m1:FrameMode}{val:Value}{Tc:TypeId}{e0 e1:Value}(hf:P.funcs[g]? =some fn)(hb:fn.body=some (.seq (.region id (o::l).toArray false) C))(hN:fn.ntmps=N)(hn:0 < N)
 (hg:o.guard=none) (hd:o.dst=some d) (hdN:d < N) (ho:∀ρ,execOp ρ o=pure .recover)
 (hm:∀(fr b:Frame) (cs:List Frame),b.kind= .deferred→fr.mode=m→(match tryRecover b (fr::cs) with |some (x,cs')=>x=val∧cs'={ fr with mode:=m1 }::cs |none=>val= .nilIface∧m1=m)) (hm1:m1= .returning∨∃v,m1= .panicking (gY v true))
 (h:∀(b:Nat) (S:FS) (w0:VW),JO ⟨P,N,S,w0,ap [.obj b Tc (.eq e0)],none,[],M⟩ (o::l).toArray l
  (bS (C.wk M none (bR P fn (dr S w0 [.obj b Tc (.eq e0)] (fun _:Unit=>(bv [],[.obj b Tc (.eq e1)]))))) (bR P fn (dr S w0 [.obj b Tc (.eq e0)] (fun _:Unit=>(bv [],[.obj b Tc (.eq e1)])))))
  [(d,.eq val),(0,.eq (.pointer (some ⟨b,0,none⟩)))] [.obj b Tc (.eq e0)]):lD M g m Tc e0 e1:=by
 subst hN
 intro T hT b S w fr cs hdom hO hfr hk
 have bc:=M.bc T hT
 rw [enter_at hf hb]
 refine bc.move (fun _ _=>dB) (bc.move (fun _ _=>eX) ?_)
 let a:Act:={ tmps:= #[Value.pointer (some ⟨b,0,none⟩)]++Array.replicate (fn.ntmps - 1) undef,defers:=[] }
 let fb:Frame:={ (default:Frame) with fn:=g,kind:=.deferred }
 have hst:St ⟨P,fn.ntmps,S,w,ap [.obj b Tc (.eq e0)],none,[],M⟩ [(0,.eq (.pointer (some ⟨b,0,none⟩)))] [.obj b Tc (.eq e0)] a w:=
  St.entry (as:=[.eq (.pointer (some ⟨b,0,none⟩))]) (vs:=[.pointer (some ⟨b,0,none⟩)]) (by rw [Nat.ble_eq];exact hn) hdom ⟨_,_,rfl,rfl,rfl⟩ hO
 have hst2:∀v1,bh w v1→St ⟨P,fn.ntmps,S,w,ap [.obj b Tc (.eq e0)],none,[],M⟩ [(d,.eq val),(0,.eq (.pointer (some ⟨b,0,none⟩)))] [.obj b Tc (.eq e0)] (a.put o.dst val) v1:=fun v1 hr=>by
  obtain⟨h1,h2,S',h3,h4,h5,h6⟩:=hst.rely hr;rw [hd];refine⟨h1,by simpa [Act.put] using h2,S',h3,h4,h5,fun s r hl=>?_⟩;rw [lu (by rw [h2];exact hdN)];simp only [lk] at hl;split at hl
  ·rename_i e;cases hl;rw [if_pos e];rfl
  ·rename_i e;rw [if_neg e];exact h6 s r (by simp only [lk];exact hl)
 have hsz:(o::l).toArray.size=l.length+1:=by simp
 have hlist:List.range (o::l).toArray.size=0::List.range' 1 l.length:=by rw [hsz,List.range_eq_range',List.range'_succ]
 rw [hlist]
 have go:∀v1,bh w v1→T v1 (fb.atR (a.put o.dst val) (.inRegion (o::l).toArray (List.range' 1 l.length)::[.code C])) ({ fr with mode:=m1 }::cs):=fun v1 hr=>by
  have hw:=kz l 1 (ops:=(o::l).toArray) (fun j=>by simp [Nat.add_comm 1 j]) (h b S w _ _ (hst2 v1 hr))
  have finR:∀a' v' todo,bR P fn (dr S w [.obj b Tc (.eq e0)] (fun _:Unit=>(bv [],[.obj b Tc (.eq e1)]))) .ret a' v'→T v' { fb.atR a' todo with mode:=.returning } ({ fr with mode:=m1 }::cs):=by
   rintro a' v' todo ⟨q1,x,q2,_,S',v,_,q3,_,q4,_⟩;refine bc.step _ _ _ fun v1 hr=>?_;obtain⟨r1,r2⟩:=q2 v1 hr;exact⟨_,_,v1.toWorld,_,Ib (fr:={ fb.atR a' todo with mode:=.returning }) (c:={ fr with mode:=m1 }) rfl q1 rfl hf r1 hm1,r2.sub fun e he=>Conc.mem_seen he,bc.rely _ _ _ _ hr (hk S' v' q3 q4)⟩
  have out:∀e a' v',e≠.normal→bR P fn (dr S w [.obj b Tc (.eq e0)] (fun _:Unit=>(bv [],[.obj b Tc (.eq e1)]))) e a' v'→∀k,mO T fb k ({ fr with mode:=m1 }::cs) e a' v':=by
   intro e a' v' he q k;cases e with
   |normal=>exact absurd rfl he
   |ret=>exact⟨fun _ todo=>finR a' v' todo q,fun h=>by cases h⟩
   |panic ch=>obtain⟨_,_,_,_,q2,_⟩:=q;cases q2
   |exit id=>exact q.elim
   |goto i=>exact q.elim
   |outgrown=>exact q.elim
  refine nP _ hw T hT fb [.code C] _ rfl fun e a' v' q=>?_;cases e with
  |normal=>
   refine q T hT fb [] _ rfl fun e a' v' q=>?_
   cases e with
    |normal=>exact bc.move (fun _ _=>wL rfl) (finR a' v' [] q)
    |ret=>exact out _ a' v' (by simp) q []
    |panic ch=>exact out _ a' v' (by simp) q []
    |exit id=>exact out _ a' v' (by simp) q []
    |goto i=>exact out _ a' v' (by simp) q []
    |outgrown=>exact out _ a' v' (by simp) q []
  |ret=>exact out .ret a' v' (by simp) q _
  |panic ch=>exact out (.panic ch) a' v' (by simp) q _
  |exit id=>exact out (.exit id) a' v' (by simp) q _
  |goto i=>exact out (.goto i) a' v' (by simp) q _
  |outgrown=>exact out .outgrown a' v' (by simp) q _
 refine bc.step _ _ _ fun v1 hr=>?_
 obtain⟨es,e1',e2⟩:=EO (P:=P) (a:=a) (cs:=fr::cs) (w:=v1.toWorld) (b:=fb) (k:=[.code C]) (ops:=(o::l).toArray) (i:=0) (rest:=List.range' 1 l.length) (o:=o) rfl (by simp) (ab hg _) ho
 have hm':=hm fr (fb.atR a (.inRegion (o::l).toArray (0::List.range' 1 l.length)::[.code C])) cs rfl hfr
 cases htr:tryRecover (fb.atR a (.inRegion (o::l).toArray (0::List.range' 1 l.length)::[.code C])) (fr::cs) with
 |none=>
  rw [htr] at hm' e2;obtain⟨rfl,rfl⟩:=hm';have e:({ fr with mode:=m1 }:Frame)=fr:=by cases fr;cases hfr;rfl
  have:=go v1 hr;rw [e] at this;exact⟨_,_,v1.toWorld,es,e2,(eF.refl v1).sub e1',this⟩
 |some p=>
  obtain⟨x,cs'⟩:=p;rw [htr] at hm' e2;obtain⟨rfl,rfl⟩:=hm';exact⟨_,_,v1.toWorld,es,e2,(eF.refl v1).sub e1',go v1 hr⟩
def Rh{P:Program}(M:Md P)(fn:Func)(R:Ending→VW→Prop)(m:FrameMode)(a:Act)(v:VW):Prop:=
 ∀T,M.ok T→∀(fr:Frame) (cs:List Frame),P.funcs[fr.fn]? =some fn→fr.mode=m→fr.defers=a.defers→fr.tmps=a.tmps→
  (∀v',bR P fn R .ret { a with defers:=[] } v'→T v' { fr with mode:=.returning,defers:=[] } cs)→T v fr cs
def pj{P:Program}(M:Md P)(fn:Func)(R:Ending→VW→Prop):Exit→Act→VW→Prop
 | .ret,a,v=>Rh M fn R .returning a v
 | .normal,a,v=>Rh M fn R .returning a v
 | .panic ch,a,v=>Rh M fn R (.panicking ch) a v
 |_,_,_=>False
section
variable {P:Program}{M:Md P}{N:Nat}{S:FS}{w0:VW}{X:Nat→Prop}{ops:Array Oper}{o:Oper}{l:List Oper}{Q:Exit→Act→VW→Prop}{Γ:Ga}{Δ F:List D}{b g s:Nat}{T Tc:TypeId}{fn:Func}{R:Ending→VW→Prop}{e0:Value}{a0:A}{pv u:Value}
theorem I0{cl:Call}{ts:Array TypeId}(hg:o.guard=none)(hd:o.dst=none)(ho:o.op= .defer cl)(hcl:cl={ callee:=.value (.tmp s),args:= #[],argTypes:=ts })(hl:lk Γ s=some (.eq (.func (.func g) #[] #[.pointer (some ⟨b,0,none⟩)])))
 (h:JO ⟨P,N,S,w0,X,none,[Jh g b],M⟩ ops l Q Γ Δ):JO ⟨P,N,S,w0,X,none,[],M⟩ ops (o::l) Q Γ Δ:=by
 intro a w hst
 have hw:Region.wanted o (yielded ops a.tmps)=true:=ab hg _
 refine kR fun K hK=>?_
 rw [if_pos hw]
 refine NY fun v1 hr=>?_
 obtain⟨h1,h2,S',h3,h4,h5,h6⟩:=hst.rely hr
 have e1:a.eval (.tmp s)= .func (.func g) #[] #[.pointer (some ⟨b,0,none⟩)]:=h6 s _ hl
 have hex:(o.semAt none a.eval)=pure (.defer (Jh g b)):=by
  rw [Oper.semAt_none];simp [execOp,ho,hcl,resolve,Deferred.ofValue,e1,Jh]
 show Sg P v1 (o.semAt none a.eval)∧FC M v1 o a K Q ((o.semAt none a.eval).run P v1)
 rw [hex]
 refine⟨eF.refl v1,hK _ _ (h _ _ ⟨?_,by rw [hd];simpa [Act.put] using h2,S',h3,h4,h5,fun s r hl=>by rw [hd];simpa [Act.put] using h6 s r hl⟩)⟩
 have h1:a.defers=[]:=h1
 rw [hd]
 simp [Act.put,h1]
theorem Fq{c:Cx}(hrd:c.rd=none)(hg:o.guard=none)(ho:o.op= .panic (.tmp s))(hl:lk Γ s=some (.eq (.iface T u)))(h:JN c (Q (.panic (gY (.iface T u) false))) Γ Δ):JO c ops (o::l) Q Γ Δ:=by
 intro a w hst;have hw:Region.wanted o (yielded ops a.tmps)=true:=ab hg _;refine kR fun K hK=>?_;rw [if_pos hw,hrd];refine NY fun v1 hr=>?_;have hst':=hst.rely hr;obtain⟨h1,h2,S',h3,h4,h5,h6⟩:=hst';have e1:a.eval (.tmp s)= .iface T u:=h6 s _ hl
 have hex:(o.semAt none a.eval)= .halt (.panic (.iface T u)):=by
  rw [Oper.semAt_none];unfold execOp;rw [ho];show((Instr.panic (a.eval (.tmp s))).bind _)=_;rw [e1];rfl
 rw [hex];exact⟨eF.refl v1,h a _ (hst.rely hr)⟩
theorem sZ{c:Cx}{M1:Act→VW→Prop}{ch:List PanicEntry}(h:JN c (Q (.panic ch)) Γ Δ):JN c (bS M1 Q (.panic ch)) Γ Δ:=h
theorem Av{c:Cx}{id:Nat}{ch:List PanicEntry}(h:JN c (Q (.panic ch)) Γ Δ):JN c (Ex.blk id Q (.panic ch)) Γ Δ:=h
theorem TX{m:FrameMode}{e1:Value}(hE:ah P g)(hc:lD M g m Tc e0 e1)(hm:m≠.run)(h:JN ⟨P,N,S,w0,X,none,[],M⟩ (bR P fn R .ret) Γ (.obj b Tc (.eq e1)::F)):
 JN ⟨P,N,S,w0,X,none,[Jh g b],M⟩ (Rh M fn R m) Γ (.obj b Tc (.eq e0)::F):=by
 intro a w st T hT fr cs hfn hmo hdf htm hk
 have bc:=M.bc T hT
 have h1:a.defers=[Jh g b]:=st.1
 refine bc.step _ _ _ fun v1 hr=>?_
 obtain⟨es,q1,q2⟩:=zH (P:=P) (cs:=cs) (w:=v1.toWorld) m hE hmo hm (hdf.trans h1)
 refine⟨_,_,v1.toWorld,es,q2,(eF.refl v1).sub q1,?_⟩
 obtain⟨_,h2,S1,h3,h4,h5,h6⟩:=st.rely hr
 have hO1:aQ [.obj b Tc (.eq e0)] S1 v1:=aQ.part (F:=F) h5
 refine hc T hT b S1 v1 { fr with defers:=[] } cs h3.dom hO1 hmo fun S' w' g1 g2=>?_
 refine hk w' (h _ _ ⟨rfl,h2,S',h3.trans g1 (fun x hx=>h4 x (by obtain⟨d,hd,e⟩:=hx;rw [List.mem_singleton.1 hd] at e;exact⟨_,List.mem_cons_self ..,e⟩)),?_,?_,fun s r hl=>?_⟩)
 ·
  rintro x ⟨d,hd,e⟩;rcases List.mem_cons.1 hd with rfl |hd
  ·exact h4 x ⟨_,List.mem_cons_self ..,e⟩
  ·exact h4 x ⟨d,List.mem_cons_of_mem _ hd,e⟩
 ·
  refine aQ.frame (Δ:=[.obj b Tc (.eq e0)]) (Δ':=[.obj b Tc (.eq e1)]) (F:=F) h3.dom h5 g1 g2 fun x hx=>.inl ?_;obtain⟨d,hd,e⟩:=hx;rw [List.mem_singleton.1 hd] at e;exact⟨_,List.mem_singleton.2 rfl,e⟩
 ·
  have hK:fW S1 v1 w':=fun x hx=>g1.keep x (h3.dom x hx) (h5.sees x hx) fun hf=>(hO1.own x hf).1 hx;exact A.mono g1.sub hK r (h6 s r hl)
theorem LZ{e1:Value}(hc:yx P g pv Tc e1)(h:JN ⟨P,N,S,w0,X,none,[],M⟩ (bR P fn R .ret) Γ (.obj b Tc (.eq e0)::F)):
 JN ⟨P,N,S,w0,X,none,[Jh g b],M⟩ (pj M fn R .ret) Γ (.obj b Tc (.eq e0)::F):=TX hc.enter (hc.calm M e0) (by simp) h
theorem Ft{e1:Value}(hc:yx P g pv Tc e1)(h:JN ⟨P,N,S,w0,X,none,[],M⟩ (bR P fn R .ret) Γ (.obj b Tc (.eq e1)::F)):
 JN ⟨P,N,S,w0,X,none,[Jh g b],M⟩ (pj M fn R (.panic (gY pv false))) Γ (.obj b Tc (.eq e0)::F):=TX hc.enter (hc.caught M e0) (by simp) h
theorem Az{f:Nat}{C:Code}{as:List A}{Y:Type}{R:Y→A×List D}(N:Nat)(hf:P.funcs[f]? =some fn)(hb:fn.body=some C)(hN:fn.ntmps=N)(hn:Nat.ble as.length N=true)
 (h:∀S w0,JC ⟨P,N,S,w0,ap Δ,none,[],M⟩ C (pj M fn (dr S w0 Δ R)) (entry 0 as) Δ):bQ M f as Δ R:=by
 subst hN
 intro kind hkind S w vs hd hall hO T hT cs hc
 have bc:=M.bc T hT
 rw [enter_at hf hb]
 refine h S w _ _ (St.entry hn hd hall hO) T hT _ [] cs rfl fun e a' v' q=>?_
 have fin:∀(m:FrameMode) (todo:List Item),Rh M fn (dr S w Δ R) m a' v'→T v' { Frame.atR { (default:Frame) with fn:=f,kind:=kind } a' todo with mode:=m } cs:=fun m todo q=>
  q T hT { Frame.atR { (default:Frame) with fn:=f,kind:=kind } a' todo with mode:=m } cs hf rfl rfl rfl fun v'' ⟨p1,x,p2,p3⟩=>hc _ _ _ p3 rfl rfl ⟨rfl,rfl,fn,hf,p2⟩
 cases e with
 |normal=>exact bc.move (fun _ _=>wL rfl) (fin .returning [] q)
 |ret=>exact⟨fun _ todo=>fin .returning todo q,fun h=>by cases h⟩
 |panic chain=>exact fun todo=>fin (.panicking chain) todo q
 |exit id=>exact q.elim
 |goto l=>exact q.elim
 |outgrown=>exact q.elim
theorem RG{f:Nat}{C:Code}{as:List A}{Y:Type}{R:Y→A×List D}(N:Nat)(hf:P.funcs[f]? =some fn)(hb:fn.body=some C)(hN:fn.ntmps=N)(hn:Nat.ble as.length N=true)
 (h:∀{M:Md P} (S:FS) (w0:VW),JC ⟨P,N,S,w0,ap Δ,none,[],M⟩ C (pj M fn (dr S w0 Δ R)) (entry 0 as) Δ):de P f as Δ R:=fun _=>Az N hf hb hN hn h
end
section
variable {P:Program}{M:Md P}{o:Oper}{x:Operand}{T T':TypeId}{n:Int}
structure OY(P:Program)(T:TypeId)(z:Value):Prop where
 und:∃fs,P.underlying T=some (.struct fs)
 zero:∀w,(zeroValue T).run P w= .ok z w
theorem GU{fr b:Frame}{cs:List Frame}{m:FrameMode}(hb:b.kind= .deferred)(hm:fr.mode= .returning)(he:m= .returning):
 (match tryRecover b (fr::cs) with |some (x,cs')=>x= .nilIface∧cs'={ fr with mode:=m }::cs |none=>Value.nilIface= .nilIface∧m= .returning):=by
 simp [tryRecover,hb,hm,he]
theorem GT{fr b:Frame}{cs:List Frame}(hb:b.kind= .deferred){v:Value}(hm:fr.mode= .panicking (gY v false)):
 (match tryRecover b (fr::cs) with |some (x,cs')=>x=v∧cs'={ fr with mode:=.panicking (gY v true) }::cs |none=>v= .nilIface∧FrameMode.panicking (gY v true)= .panicking (gY v false)):=by
 simp [tryRecover,hb,hm,gY]
end
theorem Kr{P:Program}{M:Md P}{o:Oper}{x:Operand}{T:TypeId}{f n:Nat}{g:Bool}{fs:Array Field}{fd:Field}{a1 r:A}(ho:o.op= .field T x f)(hu:P.underlying T=some (.struct fs))(hf:fs[f]? =some fd)(hz:dY P fd.type n g)(hg:g=false→n=1)
 (hget:a1.get fd.offset n g=some r) (hag:a1.isAgg=true) (hs:a1.stor):bo M o [(x,a1)] [] (fun _:Unit=>(r,[])):=
 .val0 fun S w a hN=>by
  obtain⟨h1,h2,h3⟩:=eh hN.1 hs
  obtain⟨g1,g2⟩:=iD a1 h1 hget
  generalize hcs:(a.eval x).cells.toList=cs at h1 h2 h3 g1
  have e1:a.eval x= .agg cs.toArray:=by rw [h3,hag];rfl
  refine⟨_,?_,g1⟩
  have hp:(part fd.type cs.toArray fd.offset).run P w= .ok (mk g ((cs.drop fd.offset).take n)) w:=by
   unfold part;cases g with
   |true=>
    simp only [Sem.run_bind,hz.agg,Result.andThen_ok,if_true,hz.size,Sem.run_pure];simp only [mk,if_true,Result.ok.injEq,and_true,Value.agg.injEq];apply Array.ext';simp [List.extract_eq_take_drop,Nat.add_sub_cancel_left]
   |false=>
    obtain rfl:=hg rfl;have hlt:fd.offset < cs.length:=by omega
    have e9:(cs.drop fd.offset).take 1=[cs[fd.offset]]:=by rw [List.drop_eq_getElem_cons hlt];rfl
    have e8:cs.toArray[fd.offset]? =some cs[fd.offset]:=by simp [hlt]
    rw [e9];simp only [Sem.run_bind,hz.agg,Result.andThen_ok,e8];rfl
  simp [execOp,ho,e1,Instr.field,Sem.run_bind,run_underlying hu,hf,asAgg,hp]
end K
end Go.Proofs.YtlmopgkkijhllaaGreat
namespace Go.Proofs.YtlmopgkkijhllaaGreat
namespace K
open Go Go.ChangeShapes Go.WideShapes Go.ChangeAt Go.RowKit
@[reducible] def vw(W:World):VW:=⟨W,fun _=>False,fun _=>False⟩
theorem G5{S:FS}{W:World}:aQ [] S (vw W):=⟨fun _ h=>by simp at h,fun _ hb=>(bW hb).elim,List.Pairwise.nil,fun _ hb=>(bW hb).elim,fun _ _ h=>h,fun _ h=>h.elim,fun _ h=>h.elim⟩
section
variable {H:Type}{enc:TypeId×Value→H}{P:Program}{M:Md P}
theorem G2{f:Func}{s:ChangeSpec}{apart fresh handsOn again:Bool}{W W':World}{args:Array Value}{v:Value}{ds gs:List (DataW H)}{before pa pv:List MemPlace}
 (hW:DataW.Whole enc P f.params.toList s.vars apart W args.toList ds gs before)
 (hres:∀(b:Nat) (sp:Nat→Bool) (hd:Bool),DataW.TrodAll enc P W' b sp hd f.resultTypes.toList (v.resultList f.resultTypes.size) (s.fn H (ds++gs)).results [])
 (hargs:∀sp:Nat→Bool,(∀p∈before,sp p.block=true)→DataW.TrodAll enc P W' 0 sp true f.params.toList args.toList (s.fn H (ds++gs)).args pa)
 (hvars:∀sp:Nat→Bool,(∀p∈before,sp p.block=true)→DataW.TrodVars enc P W' sp s.vars (s.fn H (ds++gs)).vars pv)
 (hps:before=pa++pv) (hk:W.keptBut W' (· ∈before)) (hfz:∀a:Addr,a.block < W.heap.size→W'.frozen? a=W.frozen? a)
 (hok:∀(j:Nat) (t:TypeId) (r:Value),f.resultTypes[j]? =some t→(v.resultList f.resultTypes.size)[j]? =some r→Value.okWide P W' .any 0 t r):
 s.post enc P f apart fresh handsOn again W args v W':=by
 have hlt:∀p∈before,p.block < W.heap.size:=fun p hp=>hW.lt p hp
 have hold:∀p∈before,(fun b=>decide (b < W.heap.size)) p.block=true:=fun p hp=>by simpa using hlt p hp
 refine⟨ds,gs,before,[],pa,pv,hW,hres _ _ _,hargs _ hold,hvars _ hold,World.keptBut_mono (fun p hp=>⟨hp,?_⟩) hk,fun _=>?_⟩
 ·
  rw [hps,List.mem_append] at hp;exact Or.inr hp
 ·
  obtain⟨_,_,_,_,_,hz,hn⟩:=hW;refine⟨hok,_,_,([]++pa)++pv,⟨[]++pa,pv,trodAll_append (hargs _ (fun _ _=>rfl)) (hres _ _ _),hvars _ (fun _ _=>rfl),rfl,?_,?_⟩,?_⟩
  ·intro b off hp;have hp':MemPlace.cell b off∈before:=by rw [hps];simpa using hp
   rw [hfz _ (hlt _ hp')];exact hz b off hp'
  ·intro ha;have:=hn ha;rw [hps] at this;simpa using this
  ·intro p hp _;rw [hps];simpa using hp
theorem Ew{S S':FS}{W:World}{W':VW}{may:MemPlace→Prop}(h:bp (ap []) S (vw W) S' W'):W.keptBut { W'.toWorld with os:=W.os } may∧∀a:Addr,a.block < W.heap.size→World.frozen? { W'.toWorld with os:=W.os } a=W.frozen? a:=by
 have hk:∀b,b < W.heap.size→W'.heap[b]? =W.heap[b]? :=fun b hb=>h.keep b hb (fun hx=>hx) (fun hx=>bW hx);refine⟨⟨rfl,h.output,fun i hi=>by have e:({ W'.toWorld with os:=W.os }:World).heap[i]? =W.heap[i]? :=hk i hi;rw [e];exact(World.keptBut_refl W may).2.2 i hi⟩,fun a ha=>?_⟩;unfold World.frozen?;rw [hk _ ha]
end
end K
