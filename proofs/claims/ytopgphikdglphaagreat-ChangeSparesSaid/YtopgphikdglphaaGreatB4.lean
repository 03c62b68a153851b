import Derived.Test.YtopgphikdglphaaGreatB3
import Derived.ScopeJumps
import Derived.RangeFuncRecord
namespace Go.Proofs.YtopgphikdglphaaGreat
namespace K
open Go
section
variable {c:Cx}{full:List Oper}{Q:Exit→Act→VW→Prop}{Γ0 Γ Γt:Ga}{Δ Δr Δt F:List D}{acc:List DE}{l:List Oper}{id:Nat}{must:List Bool}{T:List Nat}{vs:List Value}{k:Nat}
def Fl(Δ Δr:List D):List DE→List Bool→Prop
 |[],_=>True
 |e::es,ms=>((ms.headD false=true∧(e.b=true→e.r= .any))∨(e.b=false∧(∀v,e.E v=[])∧(e.u=none∨∃k d,e.u=some (k,false)∧Δ[k]? =some d∧d∈Δr)))∧Fl Δ Δr es ms.tail
theorem Fl.nth:∀{acc:List DE} {must:List Bool} {i:Nat} {e:DE},Fl Δ Δr acc must→acc[i]? =some e→must.getD i false=false→e.b=false∧(∀v,e.E v=[])∧(e.u=none∨∃k d,e.u=some (k,false)∧Δ[k]? =some d∧d∈Δr)
 |[],_,_,_,_,h,_=>by simp at h
 |x::acc,must,0,e,h,he,hm=>by
  simp at he
  subst he
  rcases h.1 with h1 |h1
  ·
   cases must <;> simp at h1 hm
   rw [h1.1] at hm;cases hm
  ·
   exact h1
 |x::acc,must,i+1,e,h,he,hm=>by
  refine Fl.nth (acc:=acc) (must:=must.tail) (i:=i) h.2 (by simpa using he) ?_
  cases must with
  |nil=>simp
  |cons m ms=>simpa using hm
def DC(full:List Oper)(es:List DE)(must:List Bool)(T:List Nat):Bool:=
 let M:=mL [] full
 (es.zipIdx.all fun(e,i)=>uS M es i e) && (full.zipIdx.all fun(o,i)=>(iu o).all (· < i)) &&
 ((List.range full.length).all fun j=>j < es.length || (List.range j).all fun i=>i < es.length || (M.getD j 0).testBit i) &&
 (es.zipIdx.all fun(_,i)=> !must.getD i false || (M.getD es.length 0).testBit i) &&
 (es.zipIdx.all fun(e,i)=>must.getD i false || (jk e.N).all fun s=>es.zipIdx.all fun(e',j)=>e'.d != s || (M.getD i 0).testBit j) &&
 (es.zipIdx.all fun(e,i)=> !T.contains e.d && (must.getD i false || (jk e.N).all fun s=> !T.contains s)) && decide (es.length < full.length)
@[reducible] def rB(e:DE)(v:Value):A:=if e.b then .eq v else e.r
@[reducible] def GB:List DE→List Value→Ga
 |e::es,v::vs=>(e.d,rB e v)::GB es vs
 |_,_=>[]
theorem Ei{s:Nat}{r:A}:∀{acc:List DE} {vs:List Value},vs.length=acc.length→lk (GB acc vs++Γt) s=some r→
 (∃(j:Nat) (e:DE),acc[j]? =some e∧e.d=s∧r=rB e (vs.getD j undef))∨((∀(j:Nat) (e:DE),acc[j]? =some e→e.d≠s)∧lk Γt s=some r)
 |[],[],_,h=>.inr ⟨fun j e h=>by simp at h,h⟩
 |e::es,v::vs,hl,h=>by
  simp only [GB,List.cons_append,lk] at h
  split at h
  ·
   rename_i hd
   exact .inl ⟨0,e,rfl,hd,(Option.some.inj h).symm⟩
  ·
   rename_i hd
   rcases Ei (acc:=es) (vs:=vs) (by simpa using hl) h with⟨j,e',h1,h2,h3⟩ |⟨h1,h2⟩
   ·
    exact .inl ⟨j+1,e',by simpa using h1,h2,by simpa using h3⟩
   ·
    refine .inr ⟨fun j e' h3=>?_,h2⟩
    cases j with
    |zero=>simp at h3;subst h3;exact hd
    |succ j=>exact h1 j e' (by simpa using h3)
 |[],_::_,hl,_=>by simp at hl
 |_::_,[],hl,_=>by simp at hl
structure TI(c:Cx)(full:List Oper)(Γ0:Ga)(acc:List DE)(must:List Bool)(T:List Nat)(vs:List Value)(Δr:List D)(k:Nat)(Γt:Ga)(Δt:List D)(L:Array Bool)(a:Act)(w:VW):Prop where
 size:L.size=full.length
 tail:∀j,acc.length≤j→iE L j=decide (j < acc.length+k)
 must:∀j,must.getD j false=true→j < acc.length→iE L j=true
 closed:∀j o,full[j]? =some o→iE L j=true→∀i∈iu o,iE L i=true
 defers:a.defers=c.dfs
 tmps:a.tmps.size=c.N
 keep:∀s,T.contains s=false→lk Γt s=lk Γ0 s
 ex:∃S:FS,bX c.X c.S0 c.w0 S w∧(∀b,aS (Δr++Δt) b→c.X b∨c.w0.heap.size≤b)∧bo (Δr++Δt) S w∧
  (∀s r,lk Γt s=some r→(∀(j:Nat) (e:DE),acc[j]? =some e→e.d≠s)→r.holds S w (a.tmps.getD s undef))∧
  (∀(j:Nat) (e:DE),acc[j]? =some e→iE L j=true→(rB e (vs.getD j undef)).holds S w (a.tmps.getD e.d undef))
theorem np(h:DC full acc must T=true):
 (∀(i:Nat) (e:DE),acc[i]? =some e→uS (mL [] full) acc i e=true)∧(∀(j:Nat) (o:Oper),full[j]? =some o→∀i∈iu o,i < j)∧
 (∀j,acc.length≤j→j < full.length→∀i,acc.length≤i→i < j→((mL [] full).getD j 0).testBit i=true)∧
 (∀i,i < acc.length→must.getD i false=true→((mL [] full).getD acc.length 0).testBit i=true)∧
 (∀(i:Nat) (e:DE),acc[i]? =some e→must.getD i false=false→∀s∈jk e.N,∀(j:Nat) (e':DE),acc[j]? =some e'→e'.d=s→((mL [] full).getD i 0).testBit j=true)∧
 (∀(i:Nat) (e:DE),acc[i]? =some e→T.contains e.d=false∧(must.getD i false=false→∀s∈jk e.N,T.contains s=false))∧acc.length < full.length:=by
 unfold DC at h
 simp only [Bool.and_eq_true,decide_eq_true_eq] at h
 obtain⟨⟨⟨⟨⟨⟨h1,h2⟩,h3⟩,h4⟩,h5⟩,h6⟩,h7⟩:=h
 refine⟨fun i e he=>fj h1 he,fun j o ho i hi=>?_,fun j hj hjl i hi hij=>?_,fun i hi hm=>?_,fun i e he hm s hs j e' he' hd=>?_,fun i e he=>?_,h7⟩
 ·
  have:=fj h2 ho;rw [List.all_eq_true] at this;simpa using this i hi
 ·
  rw [List.all_eq_true] at h3;have:=h3 j (List.mem_range.2 hjl);simp only [Bool.or_eq_true,decide_eq_true_eq] at this;rcases this with h |h
  ·omega
  ·rw [List.all_eq_true] at h;have:=h i (List.mem_range.2 hij);simp only [Bool.or_eq_true,decide_eq_true_eq] at this;rcases this with h |h
   ·omega
   ·exact h
 ·
  have:=fj h4 (List.getElem?_eq_getElem hi);simp only [hm,Bool.not_true,Bool.false_or] at this;exact this
 ·
  have:=fj h5 he;simp only [hm,Bool.false_or] at this;rw [List.all_eq_true] at this;have:=fj (this s hs) he';simpa [hd] using this
 ·
  have:=fj h6 he;simp only [Bool.and_eq_true,Bool.not_eq_true'] at this;refine⟨this.1,fun hm s hs=>?_⟩;have h8:=this.2;simp only [hm,Bool.false_or] at h8;rw [List.all_eq_true] at h8;simpa using h8 s hs
theorem Fl.any:∀{acc:List DE} {must:List Bool} {i:Nat} {e:DE},Fl Δ Δr acc must→acc[i]? =some e→e.b=true→e.r= .any
 |[],_,_,_,_,h,_=>by simp at h
 |x::acc,must,0,e,h,he,hb=>by
  simp at he
  subst he
  rcases h.1 with h1 |h1
  ·
   exact h1.2 hb
  ·
   rw [h1.1] at hb;cases hb
 |x::acc,must,i+1,e,h,he,hb=>Fl.any (acc:=acc) (must:=must.tail) (i:=i) h.2 (by simpa using he) hb
theorem KZ(hlt:∀(j:Nat) (o:Oper),full[j]? =some o→∀i∈iu o,i < j):∀(n m:Nat) (o:Oper),m≤n→full[m]? =some o→∀q,((mL [] full).getD m 0).testBit q=true→q < m:=by
 intro n
 induction n with
 |zero=>
  intro m o hm ho q hq;have:m=0:=by omega
  subst this;obtain⟨M',g1,g2,g3⟩:=tN (M:=[]) ho;simp only [List.length_nil,Nat.zero_add] at g3;rw [List.getD_eq_getElem?_getD,g3,Option.getD_some] at hq;obtain⟨p,hp,_⟩:=mj hq;have:=hlt 0 o ho p hp;omega
 |succ n ih=>
  intro m o hm ho q hq;obtain⟨M',g1,g2,g3⟩:=tN (M:=[]) ho;simp only [List.length_nil,Nat.zero_add] at g1 g3;rw [List.getD_eq_getElem?_getD,g3,Option.getD_some] at hq;obtain⟨p,hp,hq⟩:=mj hq;have hpm:=hlt m o ho p hp;rcases hq with rfl |hq
  ·exact hpm
  ·have hml:m < full.length:=by
    rcases Nat.lt_or_ge m full.length with h |h
    ·exact h
    ·simp [List.getElem?_eq_none h] at ho
   have:=ih p _ (by omega) (List.getElem?_eq_getElem (by omega:p < full.length)) q (by
    rw [List.getD_eq_getElem?_getD] at hq⊢;rw [g2 p (by omega)];exact hq)
   omega
theorem xA(hfull:full=acc.map (·.o)++l)(hDR:EO c full.toArray Δ Γ0 acc)(hck:DC full acc must T=true)(hfl:Fl Δ Δr acc must){L:Array Bool}{a:Act}{w:VW}(h:TI c full Γ0 acc must T vs Δr k Γt Δt L a w){i:Nat}
 (hi:i < acc.length) (hri:i∈Region.ready .any full.toArray L):pR c.M c.rd full.toArray Q i (fun a' w'=>TI c full Γ0 acc must T vs Δr k Γt Δt (L.setIfInBounds i true) a' w') a w:=by
 obtain⟨hc1,hlt,hc3,hc4,hc5,hc6,hc7⟩:=np hck
 obtain⟨e,he⟩:∃e,acc[i]? =some e:=⟨_,List.getElem?_eq_getElem hi⟩
 obtain⟨hDV,hHas⟩:=EO.nth acc hDR he
 have hone:=hc1 i e he
 simp only [uS] at hone
 have hother:∀(j:Nat) (e':DE),acc[j]? =some e'→j≠i→e'.d≠e.d:=fun j e' hj hne=>by
  have:=fj hone hj;simp only [Bool.or_eq_true,beq_iff_eq,hne,false_or,Bool.and_eq_true,bne_iff_ne,Bool.not_eq_true'] at this;exact this.1.1
 obtain⟨oi,hoi,hli,hpi⟩:=(dU h.size).1 hri
 have hoe:oi=e.o:=by
  rw [hfull,List.getElem?_append_left (by simpa using hi)] at hoi;simp [he] at hoi;exact hoi.symm
 subst hoe
 have hiL:i < L.size:=by rw [h.size,hfull];simp;omega
 have hahead:=tX h.closed hlt i i e.o (Nat.le_refl _) hoi hpi
 have hmf:must.getD i false=false:=by
  cases hm:must.getD i false with
  |false=>rfl
  |true=>have:=h.must i hm hi;rw [hli] at this;cases this
 obtain⟨f1,f2,f3⟩:=hfl.nth he hmf
 obtain⟨S,h3,h4,h5,h6,h7⟩:=h.ex
 have hsetL:∀j,j≠i→iE (L.setIfInBounds i true) j=iE L j:=fun j hj=>by rw [dh hiL,if_neg (Ne.symm hj)]
 have hsetI:iE (L.setIfInBounds i true) i=true:=by rw [dh hiL,if_pos rfl]
 have hrB:∀(j:Nat) (e':DE),acc[j]? =some e'→iE L j=true→e'.b=false→e'.r.holds S w (a.tmps.getD e'.d undef):=fun j e' hj hl hb=>by
  have:=h7 j e' hj hl;simpa [rB,hb] using this
 have hneeds:ct S w a e.N:=iC hHas fun s r hs hl=>by
  rcases vJ hl with⟨j,e',hj,hd,hr⟩ |⟨h8,h9⟩
  ·have hji:j < i:=by
    rcases Nat.lt_or_ge j i with hh |hh
    ·exact hh
    ·rw [List.getElem?_eq_none (by simp;omega)] at hj;cases hj
   rw [List.getElem?_take_of_lt hji] at hj;have hlj:=hahead j (hc5 i e he hmf s hs j e' hj hd);subst hr hd;cases hb:e'.b with
   |false=>exact hrB j e' hj hlj hb
   |true=>
    rw [hfl.any hj hb];trivial
  ·refine h6 s r ?_ fun j e' hj hd=>?_
   ·rw [h.keep s ((hc6 i e he).2 hmf s hs)];exact h8
   ·have hb:=hc5 i e he hmf s hs j e' hj hd;have hji:=KZ hlt i i _ (Nat.le_refl _) hoi j hb;exact h9 j e' (by rw [List.getElem?_take_of_lt hji];exact hj) hd
 obtain⟨rest,hp1,hk1⟩:∃rest,(Δr++Δt).Perm (nG Δ e.u++rest)∧kO Δ e.u=nG Δ e.u:=by
  rcases f3 with hu |⟨kk,d,hu,hkd,hd⟩
  ·rw [hu];exact⟨_,List.Perm.refl _,rfl⟩
  ·rw [hu];obtain⟨q,hq⟩:=List.getElem?_of_mem (List.mem_append_left Δt hd);exact⟨_,by simp only [nG,hkd];exact lN q d hq,by simp [nG,kO,hkd]⟩
 have hown:=h5.perm hp1
 have hownU:bo (nG Δ e.u) S w:=hown.part
 have hgo:=hDV.run S w a (fun a' w'=>TI c full Γ0 acc must T vs Δr k Γt Δt (L.setIfInBounds i true) a' w') Q h3.dom hneeds hownU fun S' w' v hs hr ho hf=>by
  have hdl:e.d < a.tmps.size:=by rw [h.tmps];exact hDV.lt
  have hput:∀s,(a.put (some e.d) v).tmps.getD s undef=if e.d=s then v else a.tmps.getD s undef:=fun s=>lr hdl;have hin:∀b,aS (nG Δ e.u) b→aS (Δr++Δt) b:=fun b ⟨d,hd,hb⟩=>⟨d,hp1.mem_iff.2 (List.mem_append.2 (.inl hd)),hb⟩;have hK:jZ S w w':=fun b hb=>hs.keep b (h3.dom b hb) (h5.sees b hb) (fun hx=>(h5.own b (hin b hx)).1 hb);rw [f2 v,List.append_nil,hk1] at ho;have hfr:=hown.frame h3.dom hs ho (fun b hb=>.inl hb);refine⟨by simpa using h.size,fun j hj=>by rw [hsetL j (by omega)];exact h.tail j hj,fun j hj hjl=>?_,fun j o hj hlj kk hkk=>?_,h.defers,by simpa [Act.put] using h.tmps,h.keep,S',h3.trans hs fun b hb=>h4 b (hin b hb),h4,hfr.perm hp1.symm,fun s r hl hno=>?_,fun j e' hj hlj=>?_⟩
  ·rw [dh hiL];split
   ·rfl
   ·exact h.must j hj hjl
  ·rw [dh hiL];split
   ·rfl
   ·rw [dh hiL] at hlj;split at hlj
    ·rename_i hij;subst hij;have:o=e.o:=by rw [hoi] at hj;cases hj;rfl
     subst this;exact hpi kk hkk
    ·exact h.closed j o hj hlj kk hkk
  ·rw [hput,if_neg (hno i e he)];exact A.mono hs.sub hK r (h6 s r hl hno)
  ·rw [hput];by_cases hji:j=i
   ·subst hji;have:e'=e:=by rw [he] at hj;cases hj;rfl
    subst this;rw [if_pos rfl];simpa [rB,f1] using hr
   ·rw [if_neg (Ne.symm (hother j e' hj hji))];exact A.mono hs.sub hK _ (h7 j e' hj (by rw [hsetL j hji] at hlj;exact hlj))
 have hoi':full.toArray[i]? =some e.o:=by simpa using hoi
 unfold pR
 simp only [hoi']
 split
 ·
  rename_i hw;rw [if_pos hw] at hgo;exact hgo
 ·
  rename_i hw;rw [if_neg hw] at hgo;rw [hDV.dst];exact hgo
def JT(c:Cx)(full:List Oper)(Q:Exit→Act→VW→Prop)(Γ0:Ga)(Δ:List D)(acc:List DE)(must:List Bool)(T:List Nat)(vs:List Value)(Δr:List D)(k:Nat)(l:List Oper)(Γt:Ga)(Δt:List D):Prop:=
 full=acc.map (·.o)++full.drop acc.length→full.drop (acc.length+k)=l→EO c full.toArray Δ Γ0 acc→DC full acc must T=true→Fl Δ Δr acc must→vs.length=acc.length→
  ∀aH L a w,TI c full Γ0 acc must T vs Δr k Γt Δt L a w→ue L acc.length+l.length≤aH→jj c.M c.rd .any full.toArray Q aH L a w
theorem sN(h:JN c (Q .normal) (GB acc vs++Γt) (Δr++Δt)):JT c full Q Γ0 Δ acc must T vs Δr k [] Γt Δt:=by
 intro hfull hdr hDR hck hfl hvs aH;obtain⟨hc1,hlt,hc3,hc4,hc5,hc6,hc7⟩:=np hck;have hlen:full.length≤acc.length+k:=by simpa using hdr
 have fin:∀L a w,TI c full Γ0 acc must T vs Δr k Γt Δt L a w→ue L acc.length=0→Region.ready .any full.toArray L=[]∧Q .normal a w:=by
  intro L a w hI h0;have hall:=mh h0;constructor
  ·rw [List.eq_nil_iff_forall_not_mem];intro i hi;obtain⟨o,h3,h4,_⟩:=(dU hI.size).1 hi
   have hil:i < full.length:=by
    rcases Nat.lt_or_ge i full.length with h |h
    ·exact h
    ·simp [List.getElem?_eq_none h] at h3
   rcases Nat.lt_or_ge i acc.length with h |h
   ·rw [hall i h] at h4;cases h4
   ·rw [hI.tail i h] at h4;simp at h4;omega
  ·obtain⟨S,h3,h4,h5,h6,h7⟩:=hI.ex;refine h a w ⟨hI.defers,hI.tmps,S,h3,h4,h5,fun s r hl=>?_⟩;rcases Ei hvs hl with⟨j,e,hj,hd,hr⟩ |⟨h8,h9⟩
   ·have hjl:j < acc.length:=by
     rcases Nat.lt_or_ge j acc.length with h |h
     ·exact h
     ·simp [List.getElem?_eq_none h] at hj
    subst hd hr;exact h7 j e hj (hall j hjl)
   ·exact h6 s r h9 h8
 induction aH with
 |zero=>
  intro L a w hI hf;exact fin L a w hI (by omega)
 |succ n ih=>
  intro L a w hI hf;refine⟨fun hr=>?_,fun i hi=>?_⟩
  ·by_cases h0:ue L acc.length=0
   ·exact(fin L a w hI h0).2
   ·obtain⟨j,hj1,hj2,hj3⟩:=ru h0;obtain⟨oj,hoj⟩:∃oj,full[j]? =some oj:=⟨_,List.getElem?_eq_getElem (by omega)⟩;have:j∈Region.ready .any full.toArray L:=(dU hI.size).2 ⟨oj,hoj,hj2,fun i hi=>hj3 i (hlt j oj hoj i hi)⟩;rw [hr] at this;cases this
  ·obtain⟨oi,hoi,hli,hpi⟩:=(dU hI.size).1 hi
   have hil:i < full.length:=by
    rcases Nat.lt_or_ge i full.length with h |h
    ·exact h
    ·simp [List.getElem?_eq_none h] at hoi
   have hia:i < acc.length:=by
    rcases Nat.lt_or_ge i acc.length with h |h
    ·exact h
    ·rw [hI.tail i h] at hli;simp at hli;omega
   refine mP (fun a' w' hI'=>ih _ a' w' hI' ?_) (xA hfull hDR hck hfl hI hia hi);have hiL:i < L.size:=by rw [hI.size];exact hil
   have:=rr (L:=L) (L':=L.setIfInBounds i true) (i:=i) (fun j hj=>by rw [dh hiL,if_neg (Ne.symm hj)]) hli (by rw [dh hiL,if_pos rfl]) hia;omega
def zW(full:List Oper)(acc:List DE)(i:Nat)(N:List (Operand×A)):Bool:=
 (jk N).all fun s=>acc.zipIdx.all fun(e',j)=>e'.d != s || ((mL [] full).getD i 0).testBit j
section
variable {o:Oper}{N:List (Operand×A)}{Δu:List D}{X:Type}{R:X→A×List D}{r:A}{d:Nat}
theorem EK(hg:o.guard=none)(ht:bZ c.M o N Δu R)(hh:cu (GB acc vs++Γt) N)(hN:zW full acc (acc.length+k) N=true)
 (G':X→Ga) (hG:∀x (a:Act) (v:Value) (S':FS) (w':World),a.tmps.size=c.N→(R x).1.holds S' w' v→(∀s r,lk Γt s=some r→(∀(j:Nat) (e:DE),acc[j]? =some e→e.d≠s)→r.holds S' w' (a.tmps.getD s undef))→
  (∀s r,lk (G' x) s=some r→(∀(j:Nat) (e:DE),acc[j]? =some e→e.d≠s)→r.holds S' w' ((a.put o.dst v).tmps.getD s undef)))
 (hK:∀x,(∀s,T.contains s=false→lk Γt s=lk Γ0 s)→∀s,T.contains s=false→lk (G' x) s=lk Γ0 s)
 (hD:∀(a:Act) (v:Value) (e:DE),a.tmps.size=c.N→e∈acc→T.contains e.d=false→(a.put o.dst v).tmps.getD e.d undef=a.tmps.getD e.d undef)
 (h:∀x,JT c full Q Γ0 Δ acc must T vs Δr (k+1) l (G' x) ((R x).2++F)):JT c full Q Γ0 Δ acc must T vs Δr k (o::l) Γt (Δu++F):=by
 intro hfull hdr hDR hck hfl hvs aH
 obtain⟨hc1,hlt,hc3,hc4,hc5,hc6,hc7⟩:=np hck
 have hjl:acc.length+k < full.length:=by
  rcases Nat.lt_or_ge (acc.length+k) full.length with h |h
  ·exact h
  ·rw [List.drop_eq_nil_of_le h] at hdr;cases hdr
 have hdr0:=hdr
 rw [List.drop_eq_getElem_cons hjl] at hdr
 simp only [List.cons.injEq] at hdr
 obtain⟨hd1,hd2⟩:=hdr
 have ho:full[acc.length+k]? =some o:=by rw [List.getElem?_eq_getElem hjl,hd1]
 induction aH with
 |zero=>
  intro L a w hI hf;simp only [List.length_cons] at hf;omega
 |succ n ih=>
  intro L a w hI hf;simp only [List.length_cons] at hf
  have hne:Region.ready .any full.toArray L≠[]:=by
   by_cases h0:ue L acc.length=0
   ·have hall:=mh h0
    have hrj:acc.length+k∈Region.ready .any full.toArray L:=(dU hI.size).2 ⟨o,ho,by rw [hI.tail _ (by omega)];simp,fun i hi=>by
     have:=hlt _ o ho i hi;rcases Nat.lt_or_ge i acc.length with h |h
     ·exact hall i h
     ·rw [hI.tail i h];simpa using this⟩
    intro hr;rw [hr] at hrj;cases hrj
   ·obtain⟨j,hj1,hj2,hj3⟩:=ru h0;obtain⟨oj,hoj⟩:∃oj,full[j]? =some oj:=⟨_,List.getElem?_eq_getElem (by omega)⟩;have:j∈Region.ready .any full.toArray L:=(dU hI.size).2 ⟨oj,hoj,hj2,fun i hi=>hj3 i (hlt j oj hoj i hi)⟩;intro hr;rw [hr] at this;cases this
  refine⟨fun hr=>absurd hr hne,fun i hi=>?_⟩;obtain⟨oi,hoi,hli,hpi⟩:=(dU hI.size).1 hi
  have hil:i < full.length:=by
   rcases Nat.lt_or_ge i full.length with h |h
   ·exact h
   ·simp [List.getElem?_eq_none h] at hoi
  have hiL:i < L.size:=by rw [hI.size];exact hil
  rcases Nat.lt_or_ge i acc.length with hia |hia
  ·refine mP (fun a' w' hI'=>ih _ a' w' hI' ?_) (xA hfull hDR hck hfl hI hia hi);have:=rr (L:=L) (L':=L.setIfInBounds i true) (i:=i) (fun j hj=>by rw [dh hiL,if_neg (Ne.symm hj)]) hli (by rw [dh hiL,if_pos rfl]) hia;simp only [List.length_cons];omega
  ·have hle:acc.length+k≤i:=by
    rw [hI.tail i hia] at hli;simpa using hli
   have hik:i=acc.length+k:=by
    rcases Nat.lt_or_ge (acc.length+k) i with hh |hh
    ·exfalso;have:=tX hI.closed hlt i i oi (Nat.le_refl _) hoi hpi (acc.length+k) (hc3 i hia hil _ (by omega) hh);rw [hI.tail _ (by omega)] at this;simp at this
    ·omega
   subst hik;have hoe:oi=o:=by rw [ho] at hoi;cases hoi;rfl
   subst hoe;have hahead:=tX hI.closed hlt _ _ oi (Nat.le_refl _) ho hpi;obtain⟨S,h3,h4,h5,h6,h7⟩:=hI.ex
   have hneeds:ct S w a N:=iC hh fun s r hs hl=>by
    rcases Ei hvs hl with⟨j,e,hj,hd,hr⟩ |⟨h8,h9⟩
    ·unfold zW at hN;rw [List.all_eq_true] at hN;have:=fj (hN s hs) hj;simp only [hd,bne_self_eq_false,Bool.false_or] at this;subst hd hr;exact h7 j e hj (hahead j this)
    ·exact h6 s r h9 h8
   have hp1:(Δr++(Δu++F)).Perm (Δu++(Δr++F)):=by
    rw [←List.append_assoc,←List.append_assoc];exact List.Perm.append_right _ List.perm_append_comm
   have hown:=h5.perm hp1;have hownU:bo Δu S w:=hown.part
   have hgo:oi.wk c.M c.rd a w (fun a' w'=>jj c.M c.rd .any full.toArray Q n (L.setIfInBounds (acc.length+k) true) a' w') Q:=ht.run c.rd S w a _ Q h3.dom hneeds hownU fun x S' w' v hs hr ho' hf'=>by
    have hin:∀b,aS Δu b→aS (Δr++(Δu++F)) b:=fun b ⟨d,hd,hb⟩=>⟨d,hp1.mem_iff.2 (List.mem_append.2 (.inl hd)),hb⟩;have hKp:jZ S w w':=fun b hb=>hs.keep b (h3.dom b hb) (h5.sees b hb) (fun hx=>(h5.own b (hin b hx)).1 hb);have hfr:=hown.frame h3.dom hs ho' hf'
    have hp2:((R x).2++(Δr++F)).Perm (Δr++((R x).2++F)):=by
     rw [←List.append_assoc,←List.append_assoc];exact List.Perm.append_right _ List.perm_append_comm
    refine h x hfull (by rw [←hd2];rfl) hDR hck hfl hvs n _ _ w' ⟨by simpa using hI.size,fun j hj=>?_,fun j hj hjl=>?_,fun j o' hj hlj kk hkk=>?_,(by cases oi.dst <;> simpa [Act.put] using hI.defers),by simpa [Act.put] using (by cases oi.dst <;> simpa [Act.put] using hI.tmps:(a.put oi.dst v).tmps.size=c.N),hK x hI.keep,S',h3.trans hs fun b hb=>h4 b (hin b hb),fun b hb=>?_,hfr.perm hp2,hG x a v S' w' hI.tmps hr (fun s r hl hno=>A.mono hs.sub hKp r (h6 s r hl hno)),fun j e hj hlj=>?_⟩ ?_
    ·rw [dh hiL];split
     ·rename_i hh;subst hh;simp
     ·rename_i hh;rw [hI.tail j hj];rw [decide_eq_decide];omega
    ·rw [dh hiL];split
     ·rfl
     ·exact hI.must j hj hjl
    ·rw [dh hiL];split
     ·rfl
     ·rw [dh hiL] at hlj;split at hlj
      ·rename_i hij;subst hij;have:o'=oi:=by rw [ho] at hj;cases hj;rfl
       subst this;exact hpi kk hkk
      ·exact hI.closed j o' hj hlj kk hkk
    ·rw [mW hp2.symm] at hb;obtain⟨d',hd',hbd⟩:=hb;rcases List.mem_append.1 hd' with hd' |hd'
     ·rcases hf' b ⟨d',hd',hbd⟩ with hh |hh
      ·exact h4 b (hin b hh)
      ·exact .inr (Nat.le_trans h3.size hh)
     ·exact h4 b ⟨d',hp1.mem_iff.2 (List.mem_append.2 (.inr hd')),hbd⟩
    ·rw [hD a v e hI.tmps (List.mem_of_getElem? hj) (hc6 j e hj).1];refine A.mono hs.sub hKp _ (h7 j e hj ?_)
     rw [dh hiL,if_neg (by
      intro hh
      have:j < acc.length:=by
       rcases Nat.lt_or_ge j acc.length with h |h
       ·exact h
       ·simp [List.getElem?_eq_none h] at hj
      omega)] at hlj
     exact hlj
    ·have:=xk (L:=L) (L':=L.setIfInBounds (acc.length+k) true) (i:=acc.length+k) (fun j hj=>by rw [dh hiL,if_neg (Ne.symm hj)]) (t:=acc.length) (by omega);rw [this];omega
   have ho2:full.toArray[acc.length+k]? =some oi:=by simpa using ho
   unfold pR;simp only [ho2];rw [if_pos (az hg _)];exact hgo
theorem Qf(hg:o.guard=none)(hd:o.dst=none)(ht:bZ c.M o N Δu R)(hh:cu (GB acc vs++Γt) N)(hN:zW full acc (acc.length+k) N=true)
 (h:∀x,JT c full Q Γ0 Δ acc must T vs Δr (k+1) l Γt ((R x).2++F)):JT c full Q Γ0 Δ acc must T vs Δr k (o::l) Γt (Δu++F):=
 EK hg ht hh hN (fun _=>Γt) (fun x a v S' w' _ _ hs=>by rw [hd];exact hs) (fun _ h=>h) (fun a v e _ _ _=>by rw [hd];rfl) h
theorem I5(hg:o.guard=none)(hd:o.dst=some d)(hdN:Nat.blt d c.N=true)(hdT:T.contains d=true)(ht:bZ c.M o N Δu R)(hh:cu (GB acc vs++Γt) N)(hN:zW full acc (acc.length+k) N=true)
 (h:∀x,JT c full Q Γ0 Δ acc must T vs Δr (k+1) l ((d,(R x).1)::Γt) ((R x).2++F)):JT c full Q Γ0 Δ acc must T vs Δr k (o::l) Γt (Δu++F):=by
 have hlt:d < c.N:=Nat.blt_eq▸hdN
 refine EK hg ht hh hN (fun x=>(d,(R x).1)::Γt) (fun x a v S' w' hsz hr hs s r hl hno=>?_) (fun x hk s hsT=>?_) (fun a v e hsz he hT=>?_) h
 ·
  rw [hd,lr (by omega)];simp only [lk] at hl;split at hl
  ·rename_i e;cases hl;rw [if_pos e];exact hr
  ·rename_i e;rw [if_neg e];exact hs s r hl hno
 ·
  simp only [lk];rw [if_neg (fun e=>by subst e;rw [hdT] at hsT;cases hsT)];exact hk s hsT
 ·
  rw [hd,lr (by omega),if_neg (fun e'=>by rw [e'] at hdT;rw [hdT] at hT;cases hT)]
def BH:List DE→List Value→Prop
 |e::es,v::vs=>(∀d∈e.E v,∃S w,d.holds S w)∧BH es vs
 |_,_=>True
theorem BH.of:∀{es:List DE} {vs:List Value},(∀d∈births es vs,∃S w,d.holds S w)→BH es vs
 |e::es,v::vs,h=>⟨fun d hd=>h d (List.mem_append.2 (.inl hd)),BH.of fun d hd=>h d (List.mem_append.2 (.inr hd))⟩
 |[],_,_=>by unfold BH;trivial
 |_::_,[],_=>by unfold BH;trivial
theorem LC(must:List Bool)(T:List Nat)(Δr:List D)(hck:DC full acc must T=true)(hfl:Fl Δ Δr acc must)(hm:c.P.follows .mixedOrders=true)
 (h:∀vs:List Value,vs.length=acc.length→BH acc vs→∃ks Δt,iI (qB Δ acc vs) ks=some (Δr++Δt)∧ks.Nodup∧JT c full Q Γ0 Δ acc must T vs Δr 0 l Γ0 Δt):DR c id full Q Γ0 Δ acc l Γ:=by
 intro hfull hDR hΓ ops hren a w hst
 refine rN hren hm fun v1 hv=>?_
 have hst':=hst.drew hv
 generalize (v1.upd { v1.toWorld with drawn:=v1.drawn+1 })=w1 at hst'⊢
 have hck0:K2 full acc=true:=by
  unfold DC at hck;simp only [Bool.and_eq_true] at hck;exact Bool.and_eq_true_iff.2 ⟨hck.1.1.1.1.1.1,hck.1.1.1.1.1.2⟩
 obtain⟨hc1,hlt,hc3,hc4,hc5,hc6,hc7⟩:=np hck
 have hdrop:full.drop acc.length=l:=by
  rw [hfull,List.drop_append_of_le_length (by simp),List.drop_eq_nil_of_le (by simp),List.nil_append]
 have hlen:full.length=acc.length+l.length:=by rw [hfull];simp
 have conv:∀L a w,Gs c full Γ0 Δ acc L a w→(∀j,must.getD j false=true→j < acc.length→iE L j=true)→∀aH,ue L acc.length+l.length≤aH→jj c.M c.rd .any full.toArray Q aH L a w:=by
  intro L a w hI hmu aH hf;obtain⟨S,h3,h4,h5,h6,h7⟩:=hI.ex
  have hund:∀(j:Nat) (e:DE),acc[j]? =some e→iE L j=false→(∀v,e.E v=[])∧∀k,uQ e k=false:=fun j e he hl=>by
   have hjl:j < acc.length:=by
    rcases Nat.lt_or_ge j acc.length with h |h
    ·exact h
    ·simp [List.getElem?_eq_none h] at he
   have hmf:must.getD j false=false:=by
    cases hm:must.getD j false with
    |false=>rfl
    |true=>have:=hmu j hm hjl;rw [hl] at this;cases this
   obtain⟨f1,f2,f3⟩:=hfl.nth he hmf;refine⟨f2,fun k=>?_⟩;rcases f3 with hu |⟨kk,d,hu,_⟩ <;> simp [uQ,hu]
  have hD:qB Δ acc (acc.map fun e=>a.tmps.getD e.d undef)=yW Δ acc L a:=by
   unfold qB yW
   have e1:∀(es:List DE) (m:Nat),(∀(j:Nat) (e:DE),es[j]? =some e→iE L (m+j)=false→∀v,e.E v=[])→births es (es.map fun e=>a.tmps.getD e.d undef)=jn L a m es:=by
    intro es
    induction es with
    |nil=>intro m _;rfl
    |cons x es ih=>
     intro m hh;simp only [List.map_cons,births,jn];rw [ih (m+1) fun j e he hl=>hh (j+1) e (by simpa using he) (by rw [←hl];congr 1;omega)];cases hl:iE L m with
     |true=>rfl
     |false=>rw [hh 0 x rfl (by simpa using hl)];rfl
   have e2:∀(k:Nat) (es:List DE) (m:Nat),(∀(j:Nat) (e:DE),es[j]? =some e→iE L (m+j)=false→uQ e k=false)→ic L k m es=oV es k:=by
    intro k es
    induction es with
    |nil=>intro m _;rfl
    |cons x es ih=>
     intro m hh;simp only [ic,oV,List.any_cons];rw [ih (m+1) fun j e he hl=>hh (j+1) e (by simpa using he) (by rw [←hl];congr 1;omega)];cases hl:iE L m with
     |true=>rfl
     |false=>rw [hh 0 x rfl (by simpa using hl)];rfl
   rw [e1 acc 0 fun j e he hl=>(hund j e he (by simpa using hl)).1];congr 1
   have:∀(l:List D) (k:Nat),qB.keepFrom acc k l=eS (fun k=> !ic L k 0 acc) k l:=by
    intro l
    induction l with
    |nil=>intro k;rfl
    |cons x l ih=>
     intro k;simp only [qB.keepFrom,eS,e2 k acc 0 (fun j e he hl=>(hund j e he (by simpa using hl)).2 k),ih];cases oV acc k <;> rfl
   exact this Δ 0
  have hBH:BH acc (acc.map fun e=>a.tmps.getD e.d undef):=BH.of fun d hd=>⟨S,w,h5.holds d (by rw [←hD];exact List.mem_append.2 (.inr hd))⟩;obtain⟨ks,Δt,hk,hn,hj⟩:=h (acc.map fun e=>a.tmps.getD e.d undef) (by simp) hBH;refine hj (by rw [hdrop];exact hfull) (by simpa using hdrop) hDR hck hfl (by simp) aH L a w ?_ hf;rw [hD] at hk
  have hm':∀d∈Δr++Δt,d∈yW Δ acc L a:=fun d hd=>by
   obtain⟨k,_,h⟩:=ll hk d hd;exact List.mem_of_getElem? h
  refine⟨hI.size,fun j hj=>by rw [hI.past j hj];simp;omega,hmu,hI.closed,hI.defers,hI.tmps,fun _ _=>rfl,S,h3,fun b ⟨d,hd,e⟩=>h4 b ⟨d,hm' d hd,e⟩,
   h5.re ⟨fun d hd=>h5.holds d (hm' d hd),fun b ⟨d,hd,e⟩=>h5.own b ⟨d,hm' d hd,e⟩,k9 (fun _ _ h b e e'=>h b e' e) h5.apart hn hk⟩ (fun b ⟨d,hd,e⟩=>⟨d,hm' d hd,e⟩) (fun _ h=>.inl h),
   fun s r hl hno=>h6 s r hl fun j e hj _=>hno j e hj,fun j e hj hlj=>?_⟩
  have:=h7 j e hj hlj;unfold rB;split
  ·have hv:(acc.map fun e=>a.tmps.getD e.d undef).getD j undef=a.tmps.getD e.d undef:=by
    rw [List.getD_eq_getElem?_getD,List.getElem?_map,hj];rfl
   rw [hv];exact rfl
  ·exact this
 have key:∀aH L a w,Gs c full Γ0 Δ acc L a w→ue L acc.length+l.length≤aH→jj c.M c.rd .any full.toArray Q aH L a w:=by
  intro aH
  induction aH with
  |zero=>
   intro L a w hI hf;exact conv L a w hI (fun j _ hj=>mh (by omega) j hj) 0 hf
  |succ n ih=>
   intro L a w hI hf;by_cases hmu:∀j,must.getD j false=true→j < acc.length→iE L j=true
   ·exact conv L a w hI hmu (n+1) hf
   ·have h0:ue L acc.length≠0:=fun h0=>hmu fun j _ hj=>mh h0 j hj;obtain⟨j,hj1,hj2,hj3⟩:=ru h0;obtain⟨oj,hoj⟩:∃oj,full[j]? =some oj:=⟨_,List.getElem?_eq_getElem (by omega)⟩;have hrj:j∈Region.ready .any full.toArray L:=(dU hI.size).2 ⟨oj,hoj,hj2,fun i hi=>hj3 i (hlt j oj hoj i hi)⟩;refine⟨fun hh=>(by rw [hh] at hrj;cases hrj),fun i hi=>?_⟩;obtain⟨oi,hoi,hli,hpi⟩:=(dU hI.size).1 hi
    have hil:i < full.length:=by
     rcases Nat.lt_or_ge i full.length with h |h
     ·exact h
     ·simp [List.getElem?_eq_none h] at hoi
    have hahead:=tX hI.closed hlt i i oi (Nat.le_refl _) hoi hpi
    have hit:i < acc.length:=by
     rcases Nat.lt_or_ge i acc.length with h |h
     ·exact h
     ·exfalso;by_cases hip:i=acc.length
      ·exact hmu fun j hm hj=>hahead j (by rw [hip];exact hc4 j hj hm)
      ·have:=hahead acc.length (hc3 i h hil _ (Nat.le_refl _) (by omega));rw [hI.past _ (Nat.le_refl _)] at this;cases this
    refine mP (fun a' w' hI'=>ih _ a' w' hI' ?_) (Gs.step hfull hDR hck0 hI hit hi);have hiL:i < L.size:=by rw [hI.size];exact hil
    have:=rr (L:=L) (L':=L.setIfInBounds i true) (i:=i) (fun j hj=>by rw [dh hiL,if_neg (Ne.symm hj)]) hli (by rw [dh hiL,if_pos rfl]) hit;omega
 refine key full.toArray.size _ a w1 (Gs.start hst') ?_
 have:∀t,ue (Array.replicate full.toArray.size false) t≤t:=by
  intro t
  induction t with
  |zero=>exact Nat.le_refl _
  |succ t ih=>simp only [ue];split <;> omega
 have:=this acc.length
 simp only [List.size_toArray] at this⊢
 omega
end
end
section
variable {c:Cx}{full:List Oper}{Q:Exit→Act→VW→Prop}{Γ0 Γ Γt:Ga}{Δ Δr Δt F:List D}{acc:List DE}{l:List Oper}{id:Nat}{must:List Bool}{T:List Nat}{vs:List Value}{k:Nat}
variable {o:Oper}{N:List (Operand×A)}{X:Type}{r r':A}{d j s:Nat}{e e':D}{g b:Bool}{oj:Oper}{P:Program}{M:Md P}
def OR(e:DE):Prop:=(e.b=true→e.r= .any)∧((e.b=false∧∀k,uQ e k=false)→∀v,e.E v=[])
def WF(acc:List DE):Prop:=∀e∈acc,OR e
theorem WF.snoc{x:DE}(h:WF acc)(hx:OR x):WF (acc++[x]):=fun e he=>by
 rcases List.mem_append.1 he with he |he
 ·
  exact h e he
 ·
  simp at he;subst he;exact hx
def DW(c:Cx)(id:Nat)(full:List Oper)(Q:Exit→Act→VW→Prop)(Γ0:Ga)(Δ:List D)(acc:List DE)(l:List Oper)(Γ:Ga):Prop:=WF acc.reverse→DR c id full Q Γ0 Δ acc.reverse l Γ
theorem i8(h:DW c id full Q Γ Δ [] full Γ):JC c (.region id full.toArray true) Q Γ Δ:=EL (h fun e he=>by simp at he)
theorem Gq{l0:List Oper}(ps:List Nat)(hp:K0 ps l0.length=true)(h:DW c id (wt ps l0) Q Γ Δ [] (wt ps l0) Γ):JC c (.region id l0.toArray true) Q Γ Δ:=Je (GZ hp) (h fun e he=>by simp at he)
def K1(kr:List Nat):List DE→List Bool→Bool
 |[],_=>true
 |e::es,ms=>(ms.headD false || (!e.b && match e.u with |none=>true |some (k,x)=> !x && kr.contains k)) && K1 kr es ms.tail
theorem yD:∀{ks:List Nat} {Δ':List D} {k:Nat},iI Δ ks=some Δ'→k∈ks→∃d,Δ[k]? =some d∧d∈Δ'
 |[],_,_,_,h=>by simp at h
 |k0::ks,_,k,h,hk=>by
  simp only [iI] at h
  split at h
  ·
   rename_i d l h1 h2
   cases h
   rcases List.mem_cons.1 hk with rfl |hk
   ·
    exact⟨d,h1,List.mem_cons_self ..⟩
   ·
    obtain⟨d',h3,h4⟩:=yD h2 hk
    exact⟨d',h3,List.mem_cons_of_mem _ h4⟩
  ·
   cases h
theorem Fl.of{kr:List Nat}(hk:iI Δ kr=some Δr):∀{es:List DE} {ms:List Bool},(∀e∈es,OR e)→K1 kr es ms=true→Fl Δ Δr es ms
 |[],_,_,_=>trivial
 |e::es,ms,hw,h=>by
  simp only [K1,Bool.and_eq_true,Bool.or_eq_true,Bool.not_eq_true'] at h
  refine⟨?_,Fl.of hk (fun e he=>hw e (List.mem_cons_of_mem _ he)) h.2⟩
  have hwe:=hw e (List.mem_cons_self ..)
  rcases h.1 with h1 |⟨h1,h2⟩
  ·
   exact .inl ⟨h1,hwe.1⟩
  ·
   cases hu:e.u with
   |none=>exact .inr ⟨h1,hwe.2 ⟨h1,fun k=>by simp [uQ,hu]⟩,.inl rfl⟩
   |some p=>
    obtain⟨k,x⟩:=p
    rw [hu] at h2
    simp only [Bool.and_eq_true,Bool.not_eq_true'] at h2
    obtain⟨rfl,h3⟩:=h2
    obtain⟨d,g1,g2⟩:=yD hk (by simpa using h3)
    exact .inr ⟨h1,hwe.2 ⟨h1,fun k=>by simp [uQ,hu]⟩,.inr ⟨k,d,rfl,g1,g2⟩⟩
theorem mA(n:Nat)(must:List Bool)(T:List Nat)(kr:List Nat)(Δr:List D)(hk:iI Δ kr=some Δr)(hck:DC full acc.reverse must T=true)(hcf:K1 kr acc.reverse must=true)(hn:acc.reverse.length=n)(hm:c.P.follows .mixedOrders=true)
 (h:∀vs:List Value,vs.length=n→BH acc.reverse vs→∃ks Δt,iI (qB Δ acc.reverse vs) ks=some (Δr++Δt)∧ks.Nodup∧JT c full Q Γ0 Δ acc.reverse must T vs Δr 0 l Γ0 Δt):DW c id full Q Γ0 Δ acc l Γ:=
 fun hw=>LC must T Δr hck (Fl.of hk hw hcf) hm fun vs hv=>h vs (hv.trans hn)
theorem vR{x:DE}{Γ':Ga}(hs:DR c id full Q Γ0 Δ (acc.reverse++[x]) l Γ'→DR c id full Q Γ0 Δ acc.reverse (o::l) Γ)(hw:WF acc.reverse)(hx:OR x)(h:DW c id full Q Γ0 Δ (x::acc) l Γ'):DR c id full Q Γ0 Δ acc.reverse (o::l) Γ:=by
 unfold DW at h;rw [List.reverse_cons] at h;exact hs (h (hw.snoc hx))
theorem aP(hg:o.guard=none)(hd:o.dst=some d)(hdN:Nat.blt d c.N=true)(ht:bZ c.M o N [] (fun _:Unit=>(r,[])))(hh:cu Γ N)
 (h:DW c id full Q Γ0 Δ (⟨o,d,N,r,none,false,fun _=>[]⟩::acc) l ((d,r)::Γ)):DW c id full Q Γ0 Δ acc (o::l) Γ:=
 fun hw=>vR (DR.step rfl (EN hg hd hdN ht) hh) hw ⟨(fun h=>nomatch h),fun _ _=>rfl⟩ h
theorem fy(k:Nat)(hk:Δ[k]? =some e)(hg:o.guard=none)(hd:o.dst=some d)(hdN:Nat.blt d c.N=true)(ht:bZ c.M o N [e] (fun _:Unit=>(r,[e])))(hh:cu Γ N)
 (h:DW c id full Q Γ0 Δ (⟨o,d,N,r,some (k,false),false,fun _=>[]⟩::acc) l ((d,r)::Γ)):DW c id full Q Γ0 Δ acc (o::l) Γ:=
 fun hw=>vR (DR.step rfl (EM k hk hg hd hdN ht) hh) hw ⟨(fun h=>nomatch h),fun _ _=>rfl⟩ h
theorem sT{ops:Array Oper}(hg:o.guard=some (j,g))(hj:ops[j]? =some oj)(hs:oj.dst=some s){a:Act}(h:a.tmps.getD s undef=undef):Region.wanted o (yielded ops a.tmps)=false:=by
 have h8:yielded ops a.tmps j=none:=by
  unfold yielded;simp only [hj,Option.bind_some,hs];rw [Array.getD_eq_getD_getElem?] at h;cases h9:a.tmps[s]? with
  |none=>rfl
  |some v=>rw [h9] at h;simp at h;subst h;rfl
 simp only [Region.wanted,hg,h8];cases g <;> rfl
theorem Lr{ops:Array Oper}{l:List Oper}(hg:o.guard=some (j,g))(hj:ops[j]? =some oj)(hs:oj.dst=some s)(hl:lk Γ s=some (.eq undef))(hd:o.dst=some d)(hdN:Nat.blt d c.N=true)(h:JO c ops l Q ((d,.eq undef)::Γ) Δ):JO c ops (o::l) Q Γ Δ:=by
 intro a w hst;obtain⟨h1,h2,S,h3,h4,h5,h6⟩:=hst;have hw:Region.wanted o (yielded ops a.tmps)=false:=sT hg hj hs (h6 s _ hl);refine om fun K hK=>?_;rw [if_neg (by rw [hw];simp)];refine hK _ _ ?_;rw [hd];refine h _ _ (St.put (Δ:=[]) (Δ':=[]) h1 h2 h3 h4 h5 h6 (bX.refl h3.dom) rfl (h5.re wu (fun b hb=>(iW hb).elim) (fun _ h=>.inl h)) (fun b ⟨e,he,_⟩=>by simp at he) (Nat.blt_eq▸hdN))
theorem LA{ops:Array Oper}(hg:o.guard=some (j,g))(hj:ops[j]? =some oj)(hs:oj.dst=some s)(hd:o.dst=some d)(hdN:Nat.blt d c.N=true):
 DV c ops Δ ⟨o,d,[(.tmp s,.eq undef)],.eq undef,none,false,fun _=>[]⟩:=
 ⟨hd,Nat.blt_eq▸hdN,fun S w a K Q hdm hN hO k=>by
  have hb':a.tmps.getD s undef=undef:=hN.1
  rw [if_neg (by rw [sT hg hj hs hb'];simp)]
  exact k S w undef (bX.refl hdm) rfl (by simpa [kO,nG] using hO) (fun b hb=>(iW (by simpa [kO] using hb)).elim)⟩
theorem Jm{m:Bool}(hg:o.guard=some (j,g))(hj:full.toArray[j]? =some oj)(hs:oj.dst=some s)(hl:lk Γ s=some (.eq undef))(hd:o.dst=some d)(hdN:Nat.blt d c.N=true)
 (h:DN c id full Q Γ0 Δ (acc++[⟨o,d,[(.tmp s,.eq undef)],.eq undef,none,false,fun _=>[]⟩]) l ((d,.eq undef)::Γ) m):DN c id full Q Γ0 Δ acc (o::l) Γ m:=
 fun h1 h2=>DR.step rfl (LA hg hj hs hd hdN) ⟨hl,trivial⟩ (h (h1.snoc ⟨rfl,fun _=>rfl⟩) fun e=>(h2 e).snoc ⟨fun _=>rfl,rfl⟩)
theorem kx{f:X→Value}{E:X→List D}(E':Value→List D)(hE:∀x,E' (f x)=E x)(hg:o.guard=none)(hd:o.dst=some d)(hdN:Nat.blt d c.N=true)(ht:bZ c.M o N [] (fun x=>(.eq (f x),E x)))(hh:cu Γ N)
 (h:DW c id full Q Γ0 Δ (⟨o,d,N,.any,none,true,E'⟩::acc) l ((d,.any)::Γ)):DW c id full Q Γ0 Δ acc (o::l) Γ:=
 fun hw=>vR (DR.step rfl (Jk E' hE hg hd hdN ht) hh) hw ⟨fun _=>rfl,fun h=>nomatch h.1⟩ h
theorem xI{f:X→Value}{E:X→List D}(k:Nat)(hk:Δ[k]? =some e)(E':Value→List D)(hE:∀x,E' (f x)=E x)(hg:o.guard=none)(hd:o.dst=some d)(hdN:Nat.blt d c.N=true)(ht:bZ c.M o N [e] (fun x=>(.eq (f x),E x)))(hh:cu Γ N)
 (h:DW c id full Q Γ0 Δ (⟨o,d,N,.any,some (k,true),true,E'⟩::acc) l ((d,.any)::Γ)):DW c id full Q Γ0 Δ acc (o::l) Γ:=
 fun hw=>vR (DR.step rfl (Gt k hk E' hE hg hd hdN ht) hh) hw ⟨fun _=>rfl,fun h=>nomatch h.1⟩ h
theorem ar{α:Type}{vs:List α}{n:Nat}(h:vs.length=n+1):∃v vs',vs=v::vs'∧vs'.length=n:=by
 cases vs with
 |nil=>simp at h
 |cons v vs=>exact⟨v,vs,rfl,by simpa using h⟩
theorem kp{α:Type}{vs:List α}(h:vs.length=0):vs=[]:=List.length_eq_zero_iff.1 h
def Iw:D:=.sl undef 0 .bool []
theorem BA{S:FS}{w:World}:¬Iw.holds S w:=by
 rintro(⟨h,_⟩ |⟨b,cap,cs,h,_⟩) <;> simp [undef] at h
def vr(T:TypeId)(a:A):Value→List D
 | .pointer (some ⟨b,0,none⟩)=>[.obj b T a]
 |_=>[Iw]
theorem nW{T:TypeId}{a:A}{v:Value}(h:∀d∈vr T a v,∃S w,d.holds S w):∃b,v= .pointer (some ⟨b,0,none⟩):=by
 unfold vr at h;split at h
 ·exact⟨_,rfl⟩
 ·obtain⟨S,w,hb⟩:=h Iw (by simp);exact absurd hb BA
theorem TI.permT{a:Act}{w:VW}{L:Array Bool}{Δt':List D}(hp:Δt.Perm Δt')(h:TI c full Γ0 acc must T vs Δr k Γt Δt L a w):TI c full Γ0 acc must T vs Δr k Γt Δt' L a w:=by
 obtain⟨h1,h2,h3,h4,h5,h6,h7,S,g1,g2,g3,g4,g5⟩:=h;have hp':=hp.append_left Δr;exact⟨h1,h2,h3,h4,h5,h6,h7,S,g1,fun b hb=>g2 b ((mW hp' b).2 hb),g3.perm hp',g4,g5⟩
theorem i7(i:Nat)(h:Δt[i]? =some e)(hj:JT c full Q Γ0 Δ acc must T vs Δr k l Γt (e::Δt.eraseIdx i)):JT c full Q Γ0 Δ acc must T vs Δr k l Γt Δt:=
 fun q1 q2 q3 q4 q5 q6 aH L a w hI hf=>hj q1 q2 q3 q4 q5 q6 aH L a w (hI.permT (lN i e h)) hf
theorem I6{v:Value}{TE:TypeId}{t:Ty}{dd:List t.den}(h:cU v=true→JT c full Q Γ0 Δ acc must T vs Δr k l Γt (.sl v TE t dd::F)):JT c full Q Γ0 Δ acc must T vs Δr k l Γt (.sl v TE t dd::F):=
 fun q1 q2 q3 q4 q5 q6 aH L a w hI hf=>by
  refine h ?_ q1 q2 q3 q4 q5 q6 aH L a w hI hf
  obtain⟨S,_,_,h5,_⟩:=hI.ex
  rcases h5.holds _ (List.mem_append.2 (.inr (List.mem_cons_self ..))) with⟨rfl,_⟩ |⟨b,cap,cc,rfl,_⟩ <;> rfl
theorem nw(hg:o.guard=none)(hd:o.dst=none)(ht:bZ c.M o N [e] (fun _:Unit=>(r,[e'])))(hh:cu (GB acc vs++Γt) N)(hN:zW full acc (acc.length+k) N=true)
 (h:JT c full Q Γ0 Δ acc must T vs Δr (k+1) l Γt (e'::F)):JT c full Q Γ0 Δ acc must T vs Δr k (o::l) Γt (e::F):=Qf (Δu:=[e]) hg hd ht hh hN fun _=>h
theorem uZ(hg:o.guard=none)(hd:o.dst=some d)(hdN:Nat.blt d c.N=true)(hdT:T.contains d=true)(ht:bZ c.M o N [] (fun _:Unit=>(r,[])))(hh:cu (GB acc vs++Γt) N)(hN:zW full acc (acc.length+k) N=true)
 (h:JT c full Q Γ0 Δ acc must T vs Δr (k+1) l ((d,r)::Γt) Δt):JT c full Q Γ0 Δ acc must T vs Δr k (o::l) Γt Δt:=I5 (Δu:=[]) hg hd hdN hdT ht hh hN fun _=>h
theorem I4(hg:o.guard=none)(hd:o.dst=some d)(hdN:Nat.blt d c.N=true)(hdT:T.contains d=true)(ht:bZ c.M o N [e] (fun _:Unit=>(r,[e'])))(hh:cu (GB acc vs++Γt) N)(hN:zW full acc (acc.length+k) N=true)
 (h:JT c full Q Γ0 Δ acc must T vs Δr (k+1) l ((d,r)::Γt) (e'::F)):JT c full Q Γ0 Δ acc must T vs Δr k (o::l) Γt (e::F):=I5 (Δu:=[e]) hg hd hdN hdT ht hh hN fun _=>h
theorem I3{e':X→D}{r:X→A}(hg:o.guard=none)(hd:o.dst=some d)(hdN:Nat.blt d c.N=true)(hdT:T.contains d=true)(ht:bZ c.M o N [e] (fun x=>(r x,[e' x])))(hh:cu (GB acc vs++Γt) N)(hN:zW full acc (acc.length+k) N=true)
 (h:∀x,JT c full Q Γ0 Δ acc must T vs Δr (k+1) l ((d,r x)::Γt) (e' x::F)):JT c full Q Γ0 Δ acc must T vs Δr k (o::l) Γt (e::F):=I5 (Δu:=[e]) hg hd hdN hdT ht hh hN h
theorem Ny{e':X→D}{r:X→A}(hg:o.guard=none)(hd:o.dst=some d)(hdN:Nat.blt d c.N=true)(hdT:T.contains d=true)(ht:bZ c.M o N [] (fun x=>(r x,[e' x])))(hh:cu (GB acc vs++Γt) N)(hN:zW full acc (acc.length+k) N=true)
 (h:∀x,JT c full Q Γ0 Δ acc must T vs Δr (k+1) l ((d,r x)::Γt) (e' x::Δt)):JT c full Q Γ0 Δ acc must T vs Δr k (o::l) Γt Δt:=I5 (Δu:=[]) hg hd hdN hdT ht hh hN h
theorem Jf{C:Code}{α β ρ Z:Type}{Y:Option α}{f:α→Option β}{K:β→Option ρ}{q:ρ}(G:Z→α→Ga)(E:Z→α→List D)(h:(Y.bind f).bind K=some q)
 (h1:∀K':α→Option ρ,Y.bind K'=some q→JC c C (cT (fun a w=>∃z:Z×α,K' z.2=some q∧St c (G z.1 z.2) (E z.1 z.2) a w) Q) Γ Δ)
 (h2:∀z x,(f x).bind K=some q→JN c (Q .normal) (G z x) (E z x)):JC c C Q Γ Δ:=fun a w s=>by
 refine oU (fun e a w q=>?_) (h1 (fun x=>(f x).bind K) (by
  cases Y with
  |none=>cases h
  |some x=>exact h) a w s)
 cases e with
 |normal=>obtain⟨z,hp,hs⟩:=q;exact h2 z.1 z.2 hp a w hs
 |_=>exact q
theorem t9{TE:TypeId}{t:Ty}{dd:List t.den}{Δ':List D}(h:bZ M o N Δ (fun v:Value=>(.eq v,.sl v TE t dd::Δ'))):bZ M o N Δ (fun _:Unit=>(.rep (.slice t) dd,Δ')):=by
 refine⟨h.1,fun ro S w a next Q hd hN hO k=>?_⟩;refine h.2 ro S w a next Q hd hN hO fun v S' w' u hs hr ho hf=>?_;have e:u=v:=hr;subst e;have hsl:=ho.holds _ (List.mem_cons_self ..);have hp:=List.pairwise_cons.1 ho.apart;rcases hsl with⟨rfl,rfl⟩ |⟨b,cap,cc,rfl,q1,q1',q2,q3,q4⟩
 ·refine k () S' w' _ hs ⟨_,.inl ⟨none,0,rfl,rfl⟩,rfl⟩ (ho.re ⟨fun e he=>ho.holds e (List.mem_cons_of_mem _ he),fun b ⟨e,he,hb⟩=>ho.own b ⟨e,List.mem_cons_of_mem _ he,hb⟩,hp.2⟩ l7 (fun _ h=>.inl h)) fun b ⟨e,he,hb⟩=>hf b ⟨e,List.mem_cons_of_mem _ he,hb⟩
 ·have hfe:aS (.sl (.slice (some ⟨b,0,none⟩) dd.length cap) TE t dd::Δ') b:=⟨_,List.mem_cons_self ..,rfl⟩;have hown:=ho.own b hfe;have hK:jZ S' w' w':=fun _ _=>rfl;refine k () (fun x=>S' x∨x=b) w' _ ⟨fun x hx=>.inl (hs.sub x hx),fun x hx=>?_,fun x hx=>?_,hs.size,hs.keep,hs.os,hs.tape,hs.output,hs.subA,hs.oldA,hs.Z⟩ ?_ (ho.re ⟨fun e he=>?_,fun x ⟨e,he,hb⟩=>?_,hp.2⟩ l7 (fun x (hx:S' x∨x=b)=>hx.imp id fun e=>by rw [e];exact hfe)) fun x ⟨e,he,hb⟩=>hf x ⟨e,List.mem_cons_of_mem _ he,hb⟩
  ·rcases hx with hx |rfl
   ·exact hs.new x hx
   ·exact .inr ((hf x hfe).symm)
  ·rcases hx with hx |rfl
   ·exact hs.dom x hx
   ·exact hown.2
  ·refine⟨_,.inr ⟨b,0,cap,cc,TE,(0,0),rfl,q1,.inr rfl,q2,?_⟩,rfl⟩;rw [List.drop_zero];exact cp (fun _ _ h=>eZ (fun _ h=>.inl h) hK t h) q4
  ·exact dL (fun _ h=>.inl h) hK e (fun _ _=>rfl) (ho.holds e (List.mem_cons_of_mem _ he))
  ·have h7:=ho.own x ⟨e,List.mem_cons_of_mem _ he,hb⟩;refine⟨fun hx=>?_,h7.2⟩;rcases hx with hx |rfl
   ·exact h7.1 hx
   ·exact hp.1 e he x rfl hb
theorem Lp{v:Value}{T:TypeId}{t:Ty}{l:List t.den}{N N':List (Operand×A)}{R:X→A×List D}(h:bZ M o N' Δ R)(hN:∀S w a,(A.rep (.slice t) l).holds S w v→ct S w a N→ct S w a N'):bZ M o N (.sl v T t l::Δ) R:=by
 refine⟨h.1,fun ro S w a next Q hd hNN hO k=>?_⟩;have hs:=hO.holds _ (List.mem_cons_self ..);have hp:=List.pairwise_cons.1 hO.apart;have hOΔ:bo Δ S w:=hO.re ⟨fun e he=>hO.holds e (List.mem_cons_of_mem _ he),fun b ⟨e,he,hb⟩=>hO.own b ⟨e,List.mem_cons_of_mem _ he,hb⟩,hp.2⟩ l7 (fun _ h=>.inl h);have hK:jZ S w w:=fun _ _=>rfl;have up:∀y,aS Δ y→aS (.sl v T t l::Δ) y:=fun y ⟨e,he,hb⟩=>⟨e,List.mem_cons_of_mem _ he,hb⟩;rcases hs with⟨rfl,rfl⟩ |⟨b,cap,cc,rfl,q1,q1',q2,q3,q4⟩
 ·exact h.2 ro S w a next Q hd (hN S w a ⟨_,.inl ⟨none,0,rfl,rfl⟩,rfl⟩ hNN) hOΔ fun x S' w' v' h1 h2 h3 h4=>k x S' w' v' (h1.mono up) h2 h3 (fun y hy=>(h4 y hy).imp (up y) id)
 ·have hown:=hO.own b ⟨_,List.mem_cons_self ..,rfl⟩;have hnb:¬aS Δ b:=fun⟨e,he,hb⟩=>hp.1 e he b rfl hb;have hmono:∀x,S x→S x∨x=b:=fun _ h=>.inl h
  have hread:(A.rep (.slice t) l).holds (fun x=>S x∨x=b) w (.slice (some ⟨b,0,none⟩) l.length cap):=by
   refine⟨_,.inr ⟨b,0,cap,cc,T,(0,0),rfl,q1,.inr rfl,q2,?_⟩,rfl⟩;rw [List.drop_zero];exact cp (fun _ _ h=>eZ hmono hK t h) q4
  have hNN':∀{N:List (Operand×A)},ct S w a N→ct (fun x=>S x∨x=b) w a N:=by
   intro N
   induction N with
   |nil=>exact fun h=>h
   |cons p N ih=>obtain⟨x,r⟩:=p;exact fun h=>⟨A.mono hmono hK r h.1,ih h.2⟩
  have hd':∀x,(S x∨x=b)→x < w.heap.size:=fun x hx=>hx.elim (hd x) (fun e=>by subst e;exact hown.2);have hOΔ':bo Δ (fun x=>S x∨x=b) w:=hO.re ⟨fun e he=>dL hmono hK e (fun _ _=>rfl) (hOΔ.holds e he),fun x hx=>⟨fun h=>h.elim (hOΔ.own x hx).1 (fun e=>by subst e;exact hnb hx),(hOΔ.own x hx).2⟩,hOΔ.apart⟩ l7 (fun x hx=>hx.imp id fun e=>by rw [e];exact⟨_,List.mem_cons_self ..,rfl⟩);refine h.2 ro _ w a next Q hd' (hN _ w a hread (hNN' hNN)) hOΔ' fun x S' w' v' h1 h2 h3 h4=>?_;refine k x S' w' v' ⟨fun y hy=>h1.sub y (.inl hy),fun y hy=>?_,h1.dom,h1.size,fun y hy ha hx=>h1.keep y hy ha (fun hh=>hx (up y hh)),h1.os,h1.tape,h1.output,h1.subA,h1.oldA,h1.Z⟩ h2 h3 (fun y hy=>(h4 y hy).imp (up y) id);rcases h1.new y hy with(hh |rfl) |hh |hh
  ·exact .inl hh
  ·exact .inr (.inr ⟨_,List.mem_cons_self ..,rfl⟩)
  ·exact .inr (.inl hh)
  ·exact .inr (.inr (up y hh))
end
section
variable {P:Program}{M:Md P}{o:Oper}{x y z:Operand}{T T' e:TypeId}{r r':A}{t u:Ty}
theorem wo{α:Type}{R:α→List Value→Prop}{m:Nat}(hR:∀x cs,R x cs→cs.length=m)(k:Nat):∀{l:List α} {cs:List Value},dp R l cs→dp R (l.drop k) (cs.drop (k * m)):=by
 induction k with
 |zero=>intro l cs h;simpa using h
 |succ k ih=>
  intro l cs h;cases l with
  |nil=>simp [dp] at h;subst h;simp [dp]
  |cons x l=>
   obtain⟨a,b,rfl,h1,h2⟩:=h;have la:=hR _ _ h1;have:=ih h2;rw [List.drop_succ_cons,show(k+1) * m=a.length+k * m by rw [Nat.add_mul,la];omega,List.drop_append,List.drop_eq_nil_of_le (Nat.le_add_right a.length (k * m)),Nat.add_sub_cancel_left,List.nil_append];exact this
theorem Fa{S:FS}{w:World}{l:List t.den}{a:Option Addr}{n cap i j:Nat}(hlen:n=l.length)(h:rd S w (.slice t) l [.slice a n cap])(hij:i≤j)(hj:j≤l.length):
 rd S w (.slice t) ((l.take j).drop i) [sliced a i j cap t.cells]:=by
 subst hlen
 rcases h with⟨a',cap',e,rfl⟩ |⟨b,off,cap',c,T0,fz,e,hle,hS,hb,hr⟩
 ·
  simp only [List.length_nil] at hj;have:j=0:=by omega
  subst this;have:i=0:=by omega
  subst this;exact .inl ⟨_,_,rfl,by simp⟩
 ·
  simp only [List.cons.injEq,Value.slice.injEq,true_and,and_true] at e;obtain⟨rfl,rfl⟩:=e;by_cases hd:i=j
  ·subst hd;refine .inl ⟨if cap=i then some ⟨b,off,none⟩ else(some ⟨b,off,none⟩:Option Addr).map (·.add (i * t.cells)),cap - i,?_,?_⟩
   ·simp [sliced]
   ·rw [List.drop_eq_nil_of_le (by simp only [List.length_take];omega)]
  ·have hc:¬cap=i:=by omega
   refine .inr ⟨b,off+i * t.cells,cap - i,c,T0,fz,?_,?_,hS,hb,?_⟩
   ·simp only [sliced,if_neg hc,Option.map_some,iK,List.length_drop,List.length_take,Nat.min_eq_left hj]
   ·simp only [List.length_drop,List.length_take];omega
   ·have h1:=wo (fun _ _ h=>aX t h) i (rZ (fun _ _ h=>aX t h) j hr)
    have e1:(((c.toList.drop off).take (l.length * t.cells)).take (j * t.cells)).drop (i * t.cells)=(c.toList.drop (off+i * t.cells)).take (((l.take j).drop i).length * t.cells):=by
     have hm:j * t.cells≤l.length * t.cells:=Nat.mul_le_mul_right _ hj;rw [List.take_take,Nat.min_eq_left hm,List.drop_take,List.drop_drop];congr 1;simp only [List.length_drop,List.length_take,Nat.min_eq_left hj,Nat.sub_mul]
    rw [←e1];exact h1
theorem qW{S:FS}{w:World}{l:List t.den}{v:Value}(h:(A.rep (.slice t) l).holds S w v):∃a cap,v= .slice a l.length cap∧rd S w (.slice t) l [.slice a l.length cap]:=by
 obtain⟨cs,h1,h2⟩:=h;rcases h1 with⟨a,cap,rfl,rfl⟩ |⟨b,off,cap,c,T0,fz,rfl,hle,hS,hb,hr⟩
 ·exact⟨a,cap,h2,.inl ⟨a,cap,rfl,rfl⟩⟩
 ·exact⟨_,cap,h2,.inr ⟨b,off,cap,c,T0,fz,rfl,hle,hS,hb,hr⟩⟩
theorem MD{S:FS}{w:World}{l:List t.den}{a:Option Addr}{cap:Nat}(h:rd S w (.slice t) l [.slice a l.length cap]):l.length≤cap∨l=[]:=by
 rcases h with⟨a',cap',e,rfl⟩ |⟨b,off,cap',c,T0,fz,e,hle,_⟩
 ·exact .inr rfl
 ·simp only [List.cons.injEq,Value.slice.injEq,true_and,and_true] at e;obtain⟨_,rfl⟩:=e;exact .inl hle
theorem yw{l:List t.den}{k:IntKind}{j:Int}{g:Bool}(ho:o.op= .slice T x none (some y) none)(hT:P.underlying T=some (.slice e))(he:fX P e t.cells g)(h0:0≤j)(h1:j≤l.length):
 bZ M o [(x,.rep (.slice t) l),(y,.eq (.int k j))] [] (fun _:Unit=>(.rep (.slice t) (l.take j.toNat),[])):=
 .val0 fun S w a hN=>by
  obtain⟨b,cap,e1,hr⟩:=qW hN.1
  have e2:a.eval y= .int k j:=hN.2.1
  have hel:P.elem T=e:=by simp [Program.elem,hT]
  have hu:P.underlying T=some (.slice (P.elem T)):=by rw [hel];exact hT
  have hcap:j≤cap:=by
   rcases MD hr with h |h
   ·omega
   ·subst h;simp at h1;omega
  refine⟨sliced b 0 j.toNat cap t.cells,?_,?_⟩
  ·have:=run_slice_h (P:=P) w T b l.length cap hu k j h0 hcap;simp [execOp,ho,e1,e2,run_sliceAt_slice w T _ _ _ _ hu,this,hel,he.size]
  ·have:=Fa rfl hr (Nat.zero_le j.toNat) (by omega);rw [List.drop_zero] at this;exact⟨_,this,rfl⟩
end
section
variable {P:Program}{M:Md P}{o:Oper}{x y z:Operand}{T T' e:TypeId}{r r':A}{t u:Ty}
def Aa(P:Program)(T:TypeId):Prop:=P.underlying T=some (.int .i64)∧∀w,(zeroValue T).run P w= .ok (.int .i64 0) w
theorem wh{t0:TypeId}{n:Int}(h:Aa P T)(w:World):(Instr.typeAssert (.iface t0 (.int .i64 n)) T' T true).run P w= .ok (.tuple #[.int .i64 (if t0=T then n else 0),.bool (decide (t0=T))]) w:=by
 unfold Instr.typeAssert;simp only [Sem.run_bind,run_underlying h.1,Result.andThen_ok];by_cases e:t0=T
 ·simp [e]
 ·simp [e,h.2]
theorem N8{t0 t1:TypeId}{v:Bool×Int}{n:Int}{b:Bool}(ho:o.op= .typeAssert x T' T true)(h:Aa P T)(hn:(if(if v.1 then t1 else t0)=T then v.2 else 0)=n)(hb:decide ((if v.1 then t1 else t0)=T)=b):
 bZ M o [(x,.rep (.tag t0 t1) v)] [] (fun _:Unit=>(.tup (.pair (.eq (.int .i64 n)) (.pair (.eq (.bool b)) .any)),[])):=
 .val0 fun S w a hN=>by
  obtain⟨cs,h1,h2⟩:=hN.1
  have e1:a.eval x= .iface (if v.1 then t1 else t0) (.int .i64 v.2):=by
   have h1:cs=_:=h1;rw [h2,h1];rfl
  refine⟨.tuple #[.int .i64 (if(if v.1 then t1 else t0)=T then v.2 else 0),.bool (decide ((if v.1 then t1 else t0)=T))],by simp only [execOp,ho,e1,Sem.run_bind,wh h,Result.andThen_ok,Sem.run_pure],?_⟩;subst hn hb;exact⟨[_,_],rfl,_,_,rfl,rfl,_,_,rfl,rfl,rfl⟩
theorem Ot{t0 t1:TypeId}(hne:t0≠t1)(v:Bool×Int):(if(if v.1 then t1 else t0)=t1 then v.2 else 0)=cond v.1 v.2 0:=by
 cases v.1 <;> simp [hne]
theorem Ov{t0 t1:TypeId}(hne:t0≠t1)(v:Bool×Int):decide ((if v.1 then t1 else t0)=t1)=v.1:=by
 cases v.1 <;> simp [hne]
theorem Ou{t0 t1:TypeId}(hne:t0≠t1)(v:Bool×Int):(if(if v.1 then t1 else t0)=t0 then v.2 else 0)=cond v.1 0 v.2:=by
 cases v.1 <;> simp [hne.symm]
theorem Ox{t0 t1:TypeId}(hne:t0≠t1)(v:Bool×Int):decide ((if v.1 then t1 else t0)=t0)= !v.1:=by
 cases v.1 <;> simp [hne.symm]
theorem Hm{t0:TypeId}{v:Bool×Int}(ho:o.op= .typeAssert x T' T true)(h:Aa P T)(hne:t0≠T):
 bZ M o [(x,.rep (.tag t0 T) v)] [] (fun _:Unit=>(.tup (.pair (.eq (.int .i64 (cond v.1 v.2 0))) (.pair (.eq (.bool v.1)) .any)),[])):=N8 ho h (Ot hne v) (Ov hne v)
theorem LN{t1:TypeId}{v:Bool×Int}(ho:o.op= .typeAssert x T' T true)(h:Aa P T)(hne:T≠t1):
 bZ M o [(x,.rep (.tag T t1) v)] [] (fun _:Unit=>(.tup (.pair (.eq (.int .i64 (cond v.1 0 v.2))) (.pair (.eq (.bool (!v.1))) .any)),[])):=N8 ho h (Ou hne v) (Ox hne v)
def EJ(P:Program)(T:TypeId)(name:String)(f:Nat):Prop:=∀n w,(callMethod (.iface T (.int .i64 n)) name #[]).runT P w #[]=(.ok (.enter f #[.int .i64 n]) w, #[])
theorem IG{M:Md P}{rd:Option Nat}{a:Act}{v:VW}{next:Act→VW→Prop}{Q:Exit→Act→VW→Prop}{f:FuncId}{args:Array Value}(hnd:nd o.op=true)(hex:∀w:World,(execOp a.eval o).runT P w #[]=(.ok (.enter f args) w, #[]))
 (h:∀v1,de v v1→nD M .normal f args v1 fun
  | .returned x,v''=>next (a.put o.dst x) v''
  | .panicked ch,v''=>Q (.panic ch) a v''
  | .outgrown,_=>False):o.wk M rd a v next Q:=fun v1 hr=>by
 rw [Oper.semAt_eq _ _ _ (fun c e=>by rw [e] at hnd;cases hnd)]
 have h1:(execOp a.eval o).run P v1= .ok (.enter f args) v1:=by rw [←Sem.runT_fst P _ _ #[],hex]
 refine⟨?_,by rw [h1];exact h v1 hr⟩
 unfold Sg
 rw [h1]
 have ev:(execOp a.eval o).events P v1 #[]= #[]:=by unfold Sem.events;rw [hex]
 simp only [ev]
 exact iD.refl v1
theorem Di{n:Nat}(hT:P.underlying T=some (.slice e))(b:Option Addr)(l c:Nat):Ns P (Op.equalIn (n+1) T (.slice b l c) (.slice none 0 0)):=by
 unfold Op.equalIn;refine lh hT ?_;cases b <;> trivial
theorem HE{S:FS}{w:World}{l:List t.den}{ρ:Operand→Value}(ho:o.op= .binOp .eql T x y T')(hT:P.underlying T=some (.slice e))(hx:(A.rep (.slice t) l).holds S w (ρ x))(hy:ρ y= .slice none 0 0):Ns P (execOp ρ o):=by
 refine vF ho ?_;obtain⟨c,cap,e1,_⟩:=qW hx;rw [e1,hy];exact au (Di (n:=9999) hT c l.length cap) fun _=>cG
theorem lb{t0 t1:TypeId}{f0 f1:Nat}{name:String}{v:Bool×Int}{q:Int}{c:Call}{ts:Array TypeId}(ho:o.op= .call c)(hc:c={ callee:=.invoke x name,args:= #[],argTypes:=ts })
 (h0:EJ P t0 name f0) (h1:EJ P t1 name f1) (hr:bQ P (cond v.1 f1 f0) [.eq (.int .i64 v.2)] [] (fun _:Unit=>(.eq (.int .i64 q),[]))):bZ M o [(x,.rep (.tag t0 t1) v)] [] (fun _:Unit=>(.eq (.int .i64 q),[])):=by
 have hnd:nd o.op=true:=by simp only [nd, *]
 refine⟨hnd,fun ro S w a next Q hd hN hO k=>?_⟩
 obtain⟨cs,g1,g2⟩:=hN.1
 have e1:a.eval x= .iface (if v.1 then t1 else t0) (.int .i64 v.2):=by
  have g1:cs=_:=g1;rw [g2,g1];rfl
 have hrun:∀w:World,(execOp a.eval o).runT P w #[]=(.ok (.enter (cond v.1 f1 f0) #[.int .i64 v.2]) w, #[]):=fun w=>by
  have e2:(callMethod (a.eval x) name #[]).runT P w #[]=(.ok (.enter (cond v.1 f1 f0) #[.int .i64 v.2]) w, #[]):=by
   rw [e1];cases v.1
   ·exact h0 _ _
   ·exact h1 _ _
  rw [←e2];simp [execOp,ho,hc,resolve,invoke]
 refine IG hnd hrun fun v1 hrel=>?_
 refine(hr M .normal S v1 [.int .i64 v.2] (fun b hb=>Nat.lt_of_lt_of_le (hd b hb) hrel.size) ⟨_,_,rfl,rfl,rfl⟩ (hO.rely hd hrel)).mono ?_
 rintro e w' ⟨x,S',v,rfl,h1,h2,h3,h4⟩
 exact k x S' w' v ((bX.rely hd hrel).trans h1 fun b hb=>.inl hb) h2 h3 fun b hb=>(h4 b hb).imp id (Nat.le_trans hrel.size)
theorem lu{b:Bool}{f0 f1:Nat}{as:List A}{Δ:List D}{X:Type}{R:X→A×List D}(h0:b=false→bQ P f0 as Δ R)(h1:b=true→bQ P f1 as Δ R):bQ P (cond b f1 f0) as Δ R:=by
 cases b
 ·exact h0 rfl
 ·exact h1 rfl
theorem yx(ho:o.op= .makeMap T none):bZ M o [] [] (fun z:Nat=>(.eq (.map (some z)),[.raw z (.map #[] 0)])):=by
 refine lI ⟨by simp only [nd, *],fun S w a next hd hN _ k=>?_⟩ (fun _ _ a _ _=>jI (by simp only [tp, *]) a.eval) (fun d hd=>by first |(simp at hd;done) |(simp at hd;subst hd;trivial))
 have hr:(execOp a.eval o).run P w= .ok (.value (.map (some w.heap.size))) (w.alloc (.map #[] 0)):=by
  have h1:(Instr.makeMap T none).run P w= .ok (.map (some w.heap.size)) (w.alloc (.map #[] 0)):=rfl;simp [execOp,ho,h1]
 rw [hr];refine k w.heap.size S _ _ (iL hd _) rfl (iT (heap_alloc_new w _) ?_) ?_
 ·intro b hb;simp only [D.foot,Option.some.injEq] at hb;subst hb;exact⟨fun h=>by have:=hd _ h;omega,by simp⟩
 ·intro b hb;have:b=w.heap.size:=by simpa [D.foot,eq_comm] using ir.1 hb
  exact .inr (by omega)
theorem zz{l:List t.den}(ho:o.op= .binOp .eql T x y T')(hT:P.underlying T=some (.slice e)):
 bZ M o [(x,.rep (.slice t) l),(y,.eq (.slice none 0 0))] [] (fun b:{ b:Bool // b=true→l=[] }=>(.eq (.bool b.1),[])):=by
 refine lI ⟨by simp only [nd, *],fun S w a next hd hN hO k=>?_⟩ (fun S w a hN _=>HE ho hT hN.1 hN.2.1) (fun d hd=>by simp at hd)
 obtain⟨c,cap,e1,hr⟩:=qW hN.1
 have e2:a.eval y= .slice none 0 0:=hN.2.1
 have hrun:(execOp a.eval o).run P w= .ok (.value (.bool c.isNone)) w:=by
  have h1:(Op.equalIn 10000 T (.slice c l.length cap) (.slice none 0 0)).run P w= .ok c.isNone w:=by
   unfold Op.equalIn;cases c <;> simp only [Sem.run_bind,run_underlying hT,Result.andThen_ok,Sem.run_pure,Option.isNone_none,Option.isNone_some]
  have h2:(do eqGuard .eql T x y (.slice c l.length cap) (.slice none 0 0);binOp .eql T (.slice c l.length cap) (.slice none 0 0):Sem Value).run P w= .ok (.bool c.isNone) w:=by
   simp [eqGuard,binOp,Op.equal,Op.maxDepth,h1]
  simp only [Sem.run_bind] at h2;simp only [execOp,ho,e1,e2,Sem.run_bind,h2];rfl
 rw [hrun]
 refine k ⟨c.isNone,fun h=>?_⟩ S w _ (lE.refl hd) rfl hO (fun b hb=>.inl hb)
 rcases hr with⟨_,_,_,h2⟩ |⟨b,off,cap',_,_,_,h2,_⟩
 ·
  exact h2
 ·
  simp at h2;obtain⟨rfl,_⟩:=h2;simp at h
theorem AO{v:Value}{TE:TypeId}{l:List t.den}{k:IntKind}{j:Int}{g:Bool}(ho:o.op= .slice T x none (some y) none)(hT:P.underlying T=some (.slice e))(he:fX P e t.cells g)(h0:0≤j)(h1:j≤l.length):
 bZ M o [(x,.eq v),(y,.eq (.int k j))] [.sl v TE t l] (fun v':Value=>(.eq v',[.sl v' TE t (l.take j.toNat)])):=by
 refine lI ⟨by simp only [nd, *],fun S w a next hd hN hO kk=>?_⟩ (fun _ _ a _ _=>jI (by simp only [tp, *]) a.eval) (fun d hd=>by first |(simp at hd;done) |(simp at hd;subst hd;trivial))
 have e1:a.eval x=v:=hN.1
 have e2:a.eval y= .int k j:=hN.2.1
 have hel:P.elem T=e:=by simp [Program.elem,hT]
 have hu:P.underlying T=some (.slice (P.elem T)):=by rw [hel];exact hT
 have hown:=hO.holds _ (List.mem_singleton.2 rfl)
 rcases hown with⟨rfl,rfl⟩ |⟨b,cap,c,rfl,hle,hcap,hb,hsz,hrd⟩
 ·
  have hj:j=0:=by simp at h1;omega
  subst hj;have:=run_slice_h (P:=P) w T none 0 0 hu k 0 (Int.le_refl _) (by omega)
  have hr:(execOp a.eval o).run P w= .ok (.value (.slice none 0 0)) w:=by
   simp [execOp,ho,e1,e2,run_sliceAt_slice w T _ _ _ _ hu,this,hel,he.size,sliced]
  rw [hr];exact kk _ S w _ (lE.refl hd) rfl (by simpa using hO) (fun b hb=>.inl (by simpa using hb))
 ·
  have:=run_slice_h (P:=P) w T (some ⟨b,0,none⟩) l.length cap hu k j h0 (by omega)
  have hsl:sliced (some ⟨b,0,none⟩) 0 j.toNat cap t.cells= .slice (some ⟨b,0,none⟩) j.toNat cap:=by
   unfold sliced;by_cases hc:cap=0
   ·simp [hc]
   ·simp [hc,Addr.add]
  have hr:(execOp a.eval o).run P w= .ok (.value (.slice (some ⟨b,0,none⟩) j.toNat cap)) w:=by
   simp [execOp,ho,e1,e2,run_sliceAt_slice w T _ _ _ _ hu,this,hel,he.size,hsl]
  rw [hr];have hlen:(l.take j.toNat).length=j.toNat:=by simp;omega
  have hfoot:∀b',aS [D.sl (.slice (some ⟨b,0,none⟩) j.toNat cap) TE t (l.take j.toNat)] b'→aS [D.sl (.slice (some ⟨b,0,none⟩) l.length cap) TE t l] b':=fun b' h=>by
   have:=ir.1 h;exact ir.2 (by simpa [D.foot,Value.ownBlock] using this)
  refine kk _ S w _ (lE.refl hd) rfl (iT ?_ fun b' h=>hO.own b' (hfoot b' (ir.2 h))) (fun b' hb=>.inl (hfoot b' hb));refine .inr ⟨b,cap,c,by rw [hlen],by omega,hcap,hb,hsz,?_⟩;rw [hlen];have h2:=rZ (fun _ _ h=>aX t h) j.toNat hrd;have hm:j.toNat * t.cells≤l.length * t.cells:=Nat.mul_le_mul_right _ (by omega);rw [List.take_take,Nat.min_eq_left hm] at h2;exact h2
end
section
variable {c:Cx}{ops:Array Oper}{l:List Oper}{Q:Exit→Act→VW→Prop}{Γ Γ':Ga}{Δ Δ' F:List D}{P:Program}{M:Md P}{o:Oper}{x y:Operand}{T e:TypeId}{t:Ty}
theorem St.swap{d d':D}{a:Act}{w:VW}(hf:∀b,d'.foot=some b↔d.foot=some b)(hh:∀S,d.holds S w.toWorld→d'.holds S w.toWorld)(h:St c Γ (d::F) a w):St c Γ (d'::F) a w:=by
 obtain⟨h1,h2,S,h3,h4,h5,h6⟩:=h
 have hfe:∀b,aS (d'::F) b→aS (d::F) b:=fun b ⟨q,hq,hb⟩=>by
  rcases List.mem_cons.1 hq with rfl |hq
  ·exact⟨d,List.mem_cons_self ..,(hf b).1 hb⟩
  ·exact⟨q,List.mem_cons_of_mem _ hq,hb⟩
 have hp:=List.pairwise_cons.1 h5.apart;refine⟨h1,h2,S,h3,fun b hb=>h4 b (hfe b hb),h5.re ⟨fun q hq=>?_,fun b hb=>h5.own b (hfe b hb),List.pairwise_cons.2 ⟨fun q hq b hb=>hp.1 q hq b ((hf b).1 hb),hp.2⟩⟩ hfe (fun _ h=>.inl h),h6⟩;rcases List.mem_cons.1 hq with rfl |hq
 ·exact hh S (h5.holds _ (List.mem_cons_self ..))
 ·exact h5.holds q (List.mem_cons_of_mem _ hq)
theorem IZ{b n:Nat}{dd:List t.den}(hn:dd.length=n)(hm:n≤maxLen):SE c Γ (.obj b T (.rep (.arr n t) dd)::F) Γ (.sl (.slice (some ⟨b,0,none⟩) n n) T t dd::F):=fun a w h=>
 h.swap (fun b'=>by simp [D.foot,Value.ownBlock]) fun S hs=>by
  obtain⟨cs,h1,h2⟩:=hs
  have hl:=gh (fun _ _ h=>aX t h) h2.2
  subst hn
  refine .inr ⟨b,dd.length,cs.toArray,rfl,Nat.le_refl _,hm,h1,by simpa using hl,?_⟩
  rw [List.toList_toArray,List.take_of_length_le (by omega)]
  exact h2.2
theorem IW{b n:Nat}{dd:List t.den}(hn:dd.length=n):SE c Γ (.sl (.slice (some ⟨b,0,none⟩) n n) T t dd::F) Γ (.obj b T (.rep (.arr n t) dd)::F):=fun a w h=>
 h.swap (fun b'=>by simp [D.foot,Value.ownBlock]) fun S hs=>by
  rcases hs with⟨h1,_⟩ |⟨b',cap,cc,h1,h2,h3,h4,h5,h6⟩
  ·
   simp at h1
  ·
   simp only [Value.slice.injEq,Option.some.injEq,Addr.mk.injEq,and_true] at h1
   obtain⟨rfl,hn',rfl⟩:=h1
   refine⟨cc.toList,by simpa using h4,hn,?_⟩
   have:cc.toList.take (dd.length * t.cells)=cc.toList:=List.take_of_length_le (by simp [h5,hn])
   rwa [this] at h6
end
def jE{α β:Type}(x:Option α)(a:β)(b:α→β):β:=match x with
 |none=>a
 |some q=>b q
theorem xj{α β ρ:Type}{A:Option β}{B:α→Option β}{K:β→Option ρ}{r:ρ}(h:(jE none A B).bind K=some r):A.bind K=some r:=h
theorem xi{α β ρ:Type}{q:α}{A:Option β}{B:α→Option β}{K:β→Option ρ}{r:ρ}(h:(jE (some q) A B).bind K=some r):(B q).bind K=some r:=h
@[reducible] def N3{α:Type}(o:Option α)(z:Nat):A:=match o with
 |none=>.eq (.pointer none)
 |some _=>.eq (.pointer (some ⟨z,0,none⟩))
@[reducible] def NZ{α:Type}(o:Option α)(f:α→List D):List D:=match o with
 |none=>[]
 |some q=>f q
theorem pj{S:FS}{w:World}{a:Act}:∀{N1 N2:List (Operand×A)},ct S w a (N1++N2)→ct S w a N1∧ct S w a N2
 |[],_,h=>⟨trivial,h⟩
 |_::_,_,h=>⟨⟨h.1,(pj h.2).1⟩,(pj h.2).2⟩
theorem uA{S:FS}{w:World}{a:Act}:∀{xs:List Operand} {vs:List Value},xs.length=vs.length→ct S w a (xs.zip (vs.map .eq))→xs.map a.eval=vs
 |[],[],_,_=>rfl
 |x::xs,v::vs,h,hN=>by
  have h1:a.eval x=v:=hN.1
  rw [List.map_cons,h1,uA (by simpa using h) hN.2]
 |[],_::_,h,_=>by simp at h
 |_::_,[],h,_=>by simp at h
section
variable {P:Program}{M:Md P}{o:Oper}
theorem jU{f:Nat}(xs ys:List Operand)(fs cs:List Value)(ho:o.op= .makeFunc (.func f) xs.toArray ys.toArray)(h1:xs.length=fs.length)(h2:ys.length=cs.length):
 bZ M o (xs.zip (fs.map .eq)++ys.zip (cs.map .eq)) [] (fun _:Unit=>(.eq (.func (.func f) fs.toArray cs.toArray),[])):=
 .val0 fun S w a hN=>by
  obtain⟨n1,n2⟩:=pj hN
  have e1:=uA h1 n1
  have e2:=uA h2 n2
  refine⟨.func (.func f) fs.toArray cs.toArray,?_,rfl⟩
  simp [execOp,ho,Instr.makeFunc,e1,e2]
end
theorem mp{c:Cx}{P:Program}{fn:Func}{R:Ending→VW→Prop}{Γ:Ga}{Δ:List D}(h:JN c (c9 P fn R .ret) Γ Δ):JN c (c9 P fn R .normal) Γ Δ:=h
section
variable {c:Cx}{full:List Oper}{Q:Exit→Act→VW→Prop}{Γ0 Γ Γt:Ga}{Δ Δr Δt F:List D}{acc:List DE}{l:List Oper}{id:Nat}{must:List Bool}{T:List Nat}{vs:List Value}{k:Nat}{o:Oper}
def Oq(full:List Oper)(n:Nat):Bool:=(List.range full.length).all fun j=>Nat.blt j n || (List.range j).all fun i=>((mL [] full).getD j 0).testBit i
theorem xF(hA:Oq full (acc.length+k)=true)(h:JO c full.toArray (o::l) Q (GB acc vs++Γt) (Δr++Δt)):JT c full Q Γ0 Δ acc must T vs Δr k (o::l) Γt Δt:=by
 intro hfull hdr hDR hck hfl hvs aH;obtain⟨hc1,hlt,hc3,hc4,hc5,hc6,hc7⟩:=np hck
 have hforced:∀m,acc.length+k≤m→m < full.length→∀i,i < m→((mL [] full).getD m 0).testBit i=true:=fun m hm1 hm2 i hi=>by
  unfold Oq at hA;rw [List.all_eq_true] at hA;have:=hA m (List.mem_range.2 hm2);simp only [Bool.or_eq_true,Nat.blt_eq] at this;rcases this with h |h
  ·omega
  ·rw [List.all_eq_true] at h;exact h i (List.mem_range.2 hi)
 have hjl:acc.length+k < full.length:=by
  rcases Nat.lt_or_ge (acc.length+k) full.length with h |h
  ·exact h
  ·rw [List.drop_eq_nil_of_le h] at hdr;cases hdr
 induction aH with
 |zero=>
  intro L a w hI hf;simp only [List.length_cons] at hf;omega
 |succ n ih=>
  intro L a w hI hf;by_cases h0:ue L acc.length=0
  ·have hall:=mh h0;refine Aw hlt (o::l) (acc.length+k) hdr hforced L hI.size (fun i hi _=>?_) (fun i hi=>?_) a w ?_ (n+1) (by omega)
   ·rcases Nat.lt_or_ge i acc.length with hh |hh
    ·exact hall i hh
    ·rw [hI.tail i hh];simpa using hi
   ·rw [hI.tail i (by omega)];simp;omega
   ·obtain⟨S,h3,h4,h5,h6,h7⟩:=hI.ex;refine h a w ⟨hI.defers,hI.tmps,S,h3,h4,h5,fun s r hl=>?_⟩;rcases Ei hvs hl with⟨j,e,hj,hd,hr⟩ |⟨h8,h9⟩
    ·have hjl:j < acc.length:=by
      rcases Nat.lt_or_ge j acc.length with h |h
      ·exact h
      ·simp [List.getElem?_eq_none h] at hj
     subst hd hr;exact h7 j e hj (hall j hjl)
    ·exact h6 s r h9 h8
  ·obtain⟨j,hj1,hj2,hj3⟩:=ru h0;obtain⟨oj,hoj⟩:∃oj,full[j]? =some oj:=⟨_,List.getElem?_eq_getElem (by omega)⟩;have hrj:j∈Region.ready .any full.toArray L:=(dU hI.size).2 ⟨oj,hoj,hj2,fun i hi=>hj3 i (hlt j oj hoj i hi)⟩;refine⟨fun hr=>(by rw [hr] at hrj;cases hrj),fun i hi=>?_⟩;obtain⟨oi,hoi,hli,hpi⟩:=(dU hI.size).1 hi
   have hil:i < full.length:=by
    rcases Nat.lt_or_ge i full.length with h |h
    ·exact h
    ·simp [List.getElem?_eq_none h] at hoi
   have hiL:i < L.size:=by rw [hI.size];exact hil
   have hia:i < acc.length:=by
    rcases Nat.lt_or_ge i acc.length with h |h
    ·exact h
    ·exfalso
     have hki:acc.length+k≤i:=by
      rw [hI.tail i h] at hli;simp at hli;omega
     have:=tX hI.closed hlt i i oi (Nat.le_refl _) hoi hpi j (hforced i hki hil j (by omega));rw [hj2] at this;cases this
   refine mP (fun a' w' hI'=>ih _ a' w' hI' ?_) (xA hfull hDR hck hfl hI hia hi);have:=rr (L:=L) (L':=L.setIfInBounds i true) (i:=i) (fun j hj=>by rw [dh hiL,if_neg (Ne.symm hj)]) hli (by rw [dh hiL,if_pos rfl]) hia;omega
def MX:Value→List D
 | .map (some z)=>[.raw z (.map #[] 0)]
 |_=>[Iw]
theorem MW{v:Value}(h:∀d∈MX v,∃S w,d.holds S w):∃z,v= .map (some z):=by
 unfold MX at h;split at h
 ·exact⟨_,rfl⟩
 ·obtain⟨S,w,h1⟩:=h Iw (List.mem_singleton.2 rfl);exact absurd h1 BA
end
section
variable {c:Cx}{Q:Exit→Act→VW→Prop}{Γ Γ':Ga}{Δ Δ':List D}{C C':Code}{M:Act→VW→Prop}
theorem BY{i:Nat}(h:JN c (Q .normal) Γ Δ):JC c (.label i) Q Γ Δ:=fun a w s=>GE (h a w s)
theorem Ly{i:Nat}(h:JN c (Q (.goto i)) Γ Δ):JC c (.goto i) Q Γ Δ:=fun a w s=>Jy (h a w s)
theorem Gp{i:Nat}(h:JN c (Q (.goto i)) Γ Δ):JN c (cT M Q (.goto i)) Γ Δ:=h
theorem Jb{i:Nat}{J:Act→VW→Prop}(h:JN c (Q .normal) Γ Δ):JN c (ny i J Q .normal) Γ Δ:=h
theorem qO{i:Nat}{J:Act→VW→Prop}(h:JN c (Q .ret) Γ Δ):JN c (ny i J Q .ret) Γ Δ:=h
end
theorem G7{w:World}{b:Nat}{ob:Obj}(hb:b < w.heap.size):(w.putObj b ob).heap[b]? =some ob:=by
 simp [World.putObj,hb]
theorem qY{w:World}{b b':Nat}{ob:Obj}(h:b≠b'):(w.putObj b ob).heap[b']? =w.heap[b']? :=by
 simp [World.putObj,Array.getElem?_setIfInBounds_ne h]
theorem wq{w:World}{b:Nat}{ob:Obj}:(w.putObj b ob).heap.size=w.heap.size:=by simp [World.putObj]
theorem vY{X:Nat→Prop}{S:FS}{w:World}(hd:∀b,S b→b < w.heap.size){b:Nat}(hX:X b)(ob:Obj):lE X S w S (w.putObj b ob):=pY hd hX ob
theorem jq.alloc{Δ:List D}{S:FS}{w:World}(hd:∀b,S b→b < w.heap.size)(h:jq Δ S w)(ob:Obj):jq (.raw w.heap.size ob::Δ) S (w.alloc ob):=by
 have hlt:∀b,aS Δ b→b < w.heap.size:=fun b hb=>(h.own b hb).2;refine⟨fun d hd'=>?_,fun b ⟨d,hd',e⟩=>?_,List.pairwise_cons.2 ⟨fun d hd' b e e'=>?_,h.apart⟩⟩
 ·rcases List.mem_cons.1 hd' with rfl |hd'
  ·exact heap_alloc_new w ob
  ·exact dL (fun _ h=>h) (fun b hb=>jg w ob b (hd b hb)) d (fun b e=>jg w ob b (hlt b ⟨d,hd',e⟩)) (h.holds d hd')
 ·rcases List.mem_cons.1 hd' with rfl |hd'
  ·simp only [D.foot,Option.some.injEq] at e;subst e;exact⟨fun hs=>by have:=hd _ hs;omega,by simp⟩
  ·have:=h.own b ⟨d,hd',e⟩;exact⟨this.1,by simp;omega⟩
 ·simp only [D.foot,Option.some.injEq] at e;subst e;have:=hlt _ ⟨d,hd',e'⟩;omega
theorem jq.put{Δ:List D}{S:FS}{w:World}{b:Nat}{o ob:Obj}(h:jq (.raw b o::Δ) S w):jq (.raw b ob::Δ) S (w.putObj b ob):=by
 have hp:=List.pairwise_cons.1 h.apart;have hb:=h.own b ⟨_,List.mem_cons_self ..,rfl⟩;have hne:∀d∈Δ,∀b',d.foot=some b'→b≠b':=fun d hd b' e e'=>hp.1 d hd b rfl (e'▸e);refine⟨fun d hd=>?_,fun b' ⟨d,hd,e⟩=>?_,List.pairwise_cons.2 ⟨hp.1,hp.2⟩⟩
 ·rcases List.mem_cons.1 hd with rfl |hd
  ·exact G7 hb.2
  ·exact dL (fun _ h=>h) (fun b' hb'=>qY (fun e=>hb.1 (by rw [e];exact hb'))) d (fun b' e=>qY (hne d hd b' e)) (h.holds d (List.mem_cons_of_mem _ hd))
 ·rw [wq];rcases List.mem_cons.1 hd with rfl |hd
  ·simp only [D.foot,Option.some.injEq] at e;subst e;exact hb
  ·exact h.own b' ⟨d,List.mem_cons_of_mem _ hd,e⟩
theorem jq.tail{Δ:List D}{d:D}{S:FS}{w:World}(h:jq (d::Δ) S w):jq Δ S w:=
 ⟨fun e he=>h.holds e (List.mem_cons_of_mem _ he),fun b ⟨e,he,hb⟩=>h.own b ⟨e,List.mem_cons_of_mem _ he,hb⟩,(List.pairwise_cons.1 h.apart).2⟩
theorem bo.alloc{Δ:List D}{S:FS}{v:VW}(hd:∀b,S b→b < v.heap.size)(h:bo Δ S v)(ob:Obj):bo (.raw v.heap.size ob::Δ) S (v.upd (v.alloc ob)):=
 h.of (iL hd ob) (h.p.alloc hd ob) fun b ⟨d,hd',e⟩=>by
  rcases List.mem_cons.1 hd' with rfl |hd'
  ·
   simp only [D.foot,Option.some.injEq] at e
   exact .inr (by omega)
  ·
   exact .inl ⟨d,hd',e⟩
theorem bo.put{Δ:List D}{S:FS}{v:VW}{b:Nat}{o:Obj}(ob:Obj)(hd:∀b,S b→b < v.heap.size)(h:bo (.raw b o::Δ) S v):bo (.raw b ob::Δ) S (v.upd (v.putObj b ob)):=
 h.of (vY hd (X:=aS (.raw b o::Δ)) ⟨_,List.mem_cons_self ..,rfl⟩ ob) h.p.put fun b' ⟨d,hd',e⟩=>by
  rcases List.mem_cons.1 hd' with rfl |hd'
  ·
   exact .inl ⟨_,List.mem_cons_self ..,e⟩
  ·
   exact .inl ⟨d,List.mem_cons_of_mem _ hd',e⟩
theorem bo.tail{Δ:List D}{d:D}{S:FS}{v:VW}(h:bo (d::Δ) S v):bo Δ S v:=h.re h.p.tail l7 fun _ h=>.inl h
theorem St.putRaw{c:Cx}{Γ:Ga}{Δ:List D}{a:Act}{w:VW}{b:Nat}{o:Obj}(ob:Obj)(h:St c Γ (.raw b o::Δ) a w):St c Γ (.raw b ob::Δ) a (w.upd (w.putObj b ob)):=by
 obtain⟨h1,h2,S,h3,h4,h5,h6⟩:=h;have hb:=h5.own b ⟨_,List.mem_cons_self ..,rfl⟩;refine⟨h1,h2,S,h3.trans (bX.of (vY (X:=fun x=>x=b) h3.dom rfl ob)) (fun x e=>by subst e;exact h4 x ⟨_,List.mem_cons_self ..,rfl⟩),fun x ⟨d,hd,e⟩=>?_,h5.put ob h3.dom,fun s r hl=>A.mono (fun _ h=>h) (fun x hx=>qY (fun e=>hb.1 (by rw [e];exact hx))) r (h6 s r hl)⟩;rcases List.mem_cons.1 hd with rfl |hd
 ·exact h4 x ⟨_,List.mem_cons_self ..,e⟩
 ·exact h4 x ⟨d,List.mem_cons_of_mem _ hd,e⟩
section
variable {P:Program}{α:Type}{s:Sem α}{b:Nat}{o:Obj}{Δ:List D}{S:FS}{v:VW}
theorem G5(hO:bo (.raw b o::Δ) S v)(hc:calm o=true)(hns:Ns P s)(h:∀w:World,w.heap[b]? =some o→∃x w1,s.run P w= .ok x w1):
 ∃x w',s.run P v= .ok x w'∧∀e∈s.events P v #[],qP v w'.heap.size e:=by
 have hO1:bo [.raw b o] S v:=bo.part (F:=Δ) hO
 refine hO1.sg (fun d hd=>by rw [List.mem_singleton.1 hd];exact hc) hns (h _ ?_)
 exact(rW hO1.p).holds _ (List.mem_singleton.2 rfl)
theorem vD{x:α}{ob:Obj}(hO:bo (.raw b o::Δ) S v)(hc:calm o=true)(hns:Ns P s)(h:∀w:World,w.heap[b]? =some o→s.run P w= .ok x (w.putObj b ob)):
 s.run P v= .ok x (v.putObj b ob)∧iD v (v.putObj b ob) (s.events P v #[]):=by
 have hr:=h v (hO.holds _ (List.mem_cons_self ..))
 obtain⟨x',w',h1,h2⟩:=G5 hO hc hns fun w hw=>⟨_,_,h w hw⟩
 rw [hr] at h1
 cases h1
 have hf:=hO.far b ⟨_,List.mem_cons_self ..,rfl⟩
 exact⟨hr,fun b' _ hz=>qY (fun e=>by subst e;exact hz.elim hf.1 hf.2),by rw [wq];exact Nat.le_refl _,rfl,rfl,rfl,h2⟩
theorem JM{x:α}(hO:bo (.raw b o::Δ) S v)(hc:calm o=true)(hns:Ns P s)(h:∀w:World,w.heap[b]? =some o→s.run P w= .ok x w):
 s.run P v= .ok x v∧iD v v (s.events P v #[]):=by
 have hr:=h v (hO.holds _ (List.mem_cons_self ..))
 obtain⟨x',w',h1,h2⟩:=G5 hO hc hns fun w hw=>⟨_,_,h w hw⟩
 rw [hr] at h1
 cases h1
 exact⟨hr,fun _ _ _=>rfl,Nat.le_refl _,rfl,rfl,rfl,h2⟩
theorem pg{l:Nat}:Ns P (Instr.getLoop l):=by
 unfold Instr.getLoop;refine f4 fun o _=>?_;cases o <;> trivial
theorem Ho{l:Nat}{args:Array Value}:Ns P (Instr.yield l args):=by
 unfold Instr.yield;refine au pg fun r=>?_;split
 ·trivial
 ·exact cG
theorem xZ{l:Nat}:Ns P (Instr.beginRound l):=by
 unfold Instr.beginRound;refine au pg fun r=>au (im rfl) fun _=>?_;split
 ·exact cG
 all_goals exact gq
theorem A1{l:Nat}{j:Option Code}:Ns P (Instr.endRound l j):=by
 unfold Instr.endRound;exact au pg fun r=>au (im rfl) fun _=>cG
theorem Dj{l:Nat}:Ns P (Instr.endLoop l):=by
 unfold Instr.endLoop;refine au pg fun r=>?_;split
 ·exact au gq fun _=>au (im rfl) fun _=>cG
 ·exact au (im rfl) fun _=>cG
theorem vu{b:Nat}:Ns P (Instr.takeDeferred b):=by
 unfold Instr.takeDeferred;refine f4 fun o _=>?_;split
 ·exact au (im rfl) fun _=>cG
 ·trivial
theorem zC{fn:FuncId}{tmps:Array Value}{ps:Array Tmp}{asg bd:Code}:Ns P (Instr.enterLoop fn tmps ps asg bd none):=by
 unfold Instr.enterLoop;exact⟨rfl,fun _=>⟨rfl,fun _=>trivial⟩⟩
end
def YT{P:Program}(M:Md P)(l:Nat)(as:List A)(Δ:List D){X:Type}(R:X→A×List D):Prop:=
 ∀(S:FS) (w:VW) (vs:List Value),(∀b,S b→b < w.heap.size)→lG S w as vs→bo Δ S w→
  ∃fn tm asg bd,(Instr.yield l vs.toArray).run P w= .ok (.round l fn tm asg bd) w∧iD w w ((Instr.yield l vs.toArray).events P w #[])∧qQ M l fn tm asg bd w (fU S w Δ R)
section
variable {P:Program}{M:Md P}{o:Oper}{x:Operand}{Δ:List D}{X:Type}{R:X→A×List D}
theorem JW{l:Nat}{as:List A}{c:Call}(xs:List Operand){ts:Array TypeId}(ho:o.op= .call c)(hc:c={ callee:=.value x,args:=xs.toArray,argTypes:=ts })(hlen:xs.length=as.length)(h:YT M l as Δ R):
 bZ M o ((x,.eq (.func (.yield l) #[] #[]))::xs.zip as) Δ R:=by
 have hnd:nd o.op=true:=by simp only [nd, *]
 refine⟨hnd,fun ro S w a next Q hd hN hO k v1 hr=>?_⟩
 rw [Oper.semAt_eq _ _ _ (fun c e=>by rw [e] at hnd;cases hnd)]
 obtain⟨fn,tm,asg,bd,h1,h2,h3⟩:=h S v1 _ (fun b hb=>Nat.lt_of_lt_of_le (hd b hb) hr.size) (lG.of hlen (ct.rely hd hO.sees hr hN.2)) (hO.rely hd hr)
 have he:execOp a.eval o=Instr.yield l (xs.map a.eval).toArray:=by
  have e1:a.eval x= .func (.yield l) #[] #[]:=hN.1;simp [execOp,ho,hc,resolve,e1,Deferred.ofValue,invoke]
 rw [he]
 refine⟨by unfold Sg;rw [h1];exact h2,?_⟩
 rw [h1]
 simp only [GI]
 refine qQ.mono (v:=v1) h3 ?_
 rintro e w' ⟨x,S',v,rfl,h1,h2,h3,h4⟩
 exact k x S' w' v ((bX.rely hd hr).trans h1 fun b hb=>.inl hb) h2 h3 fun b hb=>(h4 b hb).imp id (Nat.le_trans hr.size)
end
def qL(tm:Array Value):Ga→Prop
 |[]=>True
 |(s,r)::l=>r= .eq (tm.getD s undef)∧qL tm l
theorem qL.lk{tm:Array Value}:∀{Γ:Ga} {s:Nat} {r:A},qL tm Γ→lk Γ s=some r→r= .eq (tm.getD s undef)
 |(s0,r0)::l,s,r,h,hl=>by
  simp only [K.lk] at hl
  split at hl
  ·
   rename_i e;subst e;cases hl;exact h.1
  ·
   exact qL.lk h.2 hl
section
variable {P:Program}{main:Bool}{b c:Frame}{a:Act}{k:List Item}{cs:List Frame}{w w':World}{l:Nat}{x:Value}
theorem KN(hb:b.roundOf=some l)(hr:(Instr.beginRound l).run P w= .ok () w'):∃es,(∀e∈es,e∈(Instr.beginRound l).events P w #[])∧∀main,stepG P main (Gr (b.atR a (.beginRound::k)) cs) w= .go (Gr (b.atR a k) cs) w' es:=by
 refine⟨seen P b.fn (if b.kind == .early then #[] else(Instr.beginRound l).events P w #[]),fun e hm=>?_,fun main=>?_⟩
 ·have:=Conc.mem_seen hm;split at this
  ·simp at this
  ·exact this
 ·simp [stepG,stepG.exec,stepG.apply,Frame.atR,hb,hr,Frame.finish,GStep.after]
theorem Oa(j:Option Code)(k:List Item)(hb:b.roundOf=some l)(hk:b.kind= .normal)
 (hj:(k=[]∧j=none)∨(∃k',k= .code .ret::k'∧j=some .ret)∨(∃id k',k= .code (.exit id)::k'∧exitTo id k'=none∧j=some (.exit id))∨(∃i k',k= .code (.goto i)::k'∧gotoIn i k'=none∧j=some (.goto i)))
 (hr:(Instr.endRound l j).run P w= .ok x w'):
 ∃es,(∀e∈es,e∈(Instr.endRound l j).events P w #[])∧∀main,stepG P main (Gr (b.atR a k) (c::cs)) w= .go (Gr (c.finish x) cs) w' es:=by
 refine⟨seen P b.fn ((Instr.endRound l j).events P w #[]),fun e hm=>Conc.mem_seen hm,fun main=>?_⟩
 rcases hj with⟨rfl,rfl⟩ |⟨k',rfl,rfl⟩ |⟨id,k',rfl,h3,rfl⟩ |⟨i,k',rfl,h3,rfl⟩
 ·
  simp [stepG,stepG.exec,Frame.atR,hb,hr,doReturn,hk,GStep.after]
 ·
  simp [stepG,stepG.exec,Frame.atR,hb,hr,doReturn,hk,GStep.after]
 ·
  simp [stepG,stepG.exec,Frame.atR,hb,hr,doReturn,hk,GStep.after,h3]
 ·
  simp [stepG,stepG.exec,Frame.atR,hb,hr,doReturn,hk,GStep.after,h3]
end
def zu{P:Program}(M:Md P)(l:Nat)(bd:Code)(Q:Exit→Act→VW→Prop)(a:Act)(w:VW):Prop:=
 ∀v1,de w v1→∃w',(Instr.beginRound l).run P v1= .ok () w'∧iD v1 w' ((Instr.beginRound l).events P v1 #[])∧bd.wk M (some l) Q a (v1.upd w')
theorem Jc{c:Cx}{l:Nat}{rec:Loop}{bd:Code}{Q:Exit→Act→VW→Prop}{Γ:Ga}{Δ:List D}(hc:c.rd=some l)(hs:rec.state= .ready)(h:JC c bd Q Γ (.raw l (.loop { rec with state:=.busy })::Δ)):
 JN c (zu c.M l bd Q) Γ (.raw l (.loop rec)::Δ):=by
 intro a w st v1 hr
 have st1:=st.rely hr
 obtain⟨_,_,S,h3,_,h5,_⟩:=st1
 obtain⟨r1,r2⟩:=vD (P:=c.P) (ob:=.loop { rec with state:=.busy }) h5 rfl xZ fun w hw=>run_beginRound hw hs
 refine⟨_,r1,r2,?_⟩
 have:=h a _ (St.putRaw (.loop { rec with state:=.busy }) (st.rely hr))
 rwa [hc] at this
def yr(P:Program)(l:Nat)(R:Ending→VW→Prop)(j:Option Code)(v:VW):Prop:=
 ∀v1,de v v1→∃x w',(Instr.endRound l j).run P v1= .ok x w'∧iD v1 w' ((Instr.endRound l j).events P v1 #[])∧R (.returned x) (v1.upd w')
def ul(P:Program)(l:Nat)(R:Ending→VW→Prop):Exit→Act→VW→Prop
 | .normal,_,v=>yr P l R none v
 | .ret,_,v=>yr P l R (some .ret) v
 | .exit id,_,v=>yr P l R (some (.exit id)) v
 | .goto i,_,v=>yr P l R (some (.goto i)) v
 |_,_,_=>False
theorem YT.of{P:Program}{M:Md P}{N l p:Nat}{rec:Loop}{as:A}{Δ:List D}{Γ:Ga}{X:Type}{R:X→A×List D}(hp:rec.params= #[p])(hN:rec.tmps.size=N)(hpN:p < N)(hΓ:qL rec.tmps Γ)
 (h:∀S w,JC ⟨P,N,S,w,aS (.raw l (.loop rec)::Δ),some l,[],M⟩ rec.assign (cT (zu M l rec.body (ul P l (fU S w (.raw l (.loop rec)::Δ) R))) (fun _ _ _=>False)) ((p,as)::Γ) (.raw l (.loop rec)::Δ)):
 YT M l [as] (.raw l (.loop rec)::Δ) R:=by
 intro S w vs hd hall hO
 obtain⟨v,vs',rfl,hv,hn⟩:=hall
 have hn:vs'=[]:=hn
 subst hn
 have hst:St ⟨P,N,S,w,aS (.raw l (.loop rec)::Δ),some l,[],M⟩ ((p,as)::Γ) (.raw l (.loop rec)::Δ) { tmps:=rec.tmps.setIfInBounds p v,defers:=[] } w:=by
  refine⟨rfl,by simpa using hN,S,bX.refl hd,fun b hb=>.inl hb,hO,fun s r hl=>?_⟩;simp only [lk] at hl;split at hl
  ·rename_i e;subst e;cases hl;simpa [Array.getD_eq_getD_getElem?,Array.getElem?_setIfInBounds,hN,hpN] using hv
  ·rename_i e;rw [hΓ.lk hl];show _=_;simp [Array.getD_eq_getD_getElem?,Array.getElem?_setIfInBounds_ne e]
 have hy:∀w:World,w.heap[l]? =some (.loop rec)→(Instr.yield l [v].toArray).run P w= .ok (.round l rec.fn (rec.tmps.setIfInBounds p v) rec.assign rec.body) w:=fun w hb=>by
  have:=run_yield (P:=P) (w:=w) (args:= #[v]) hb (by simp [hp]);rw [this];simp [hp]
 obtain⟨g1,g2⟩:=JM hO rfl Ho hy
 refine⟨rec.fn,rec.tmps.setIfInBounds p v,rec.assign,rec.body,g1,g2,?_⟩
 intro T hT c cs hret _ _
 have bc:=M.bc T hT
 let b:Frame:={ (default:Frame) with fn:=rec.fn,kind:=.normal,roundOf:=some l }
 have out:∀(j:Option Code) (a':Act) (v':VW) (k:List Item),yr P l (fU S w (.raw l (.loop rec)::Δ) R) j v'→
  ((k=[]∧j=none)∨(∃k',k= .code .ret::k'∧j=some .ret)∨(∃id k',k= .code (.exit id)::k'∧exitTo id k'=none∧j=some (.exit id))∨(∃i k',k= .code (.goto i)::k'∧gotoIn i k'=none∧j=some (.goto i)))→
  T v' (b.atR a' k) (c::cs):=fun j a' v' k q hj=>bc.step _ _ _ fun v1 hr=>by
  obtain⟨x,w',q1,q2,q3⟩:=q v1 hr
  obtain⟨es,e1,e2⟩:=Oa (c:=c) (cs:=cs) (a:=a') (b:=b) j k rfl rfl hj q1
  exact⟨_,_,w',es,e2,q2.sub e1,hret x _ q3⟩
 have hfr:Frame.round l rec.fn (rec.tmps.setIfInBounds p v) rec.assign rec.body .normal=b.atR { tmps:=rec.tmps.setIfInBounds p v,defers:=[] } [.code rec.assign,.beginRound,.code rec.body]:=rfl
 rw [hfr]
 refine h S w _ _ hst T hT b _ (c::cs) rfl fun e a' v' q=>?_
 cases e with
 |normal=>
  refine bc.step _ _ _ fun v1 hr=>?_;obtain⟨w',q1,q2,q3⟩:=q v1 hr;obtain⟨es,e1,e2⟩:=KN (b:=b) (a:=a') (k:=[.code rec.body]) (cs:=c::cs) rfl q1;refine⟨_,_,w',es,e2,q2.sub e1,q3 T hT b [] (c::cs) rfl fun e a' v' q=>?_⟩;cases e with
  |normal=>exact out none a' v' [] q (.inl ⟨rfl,rfl⟩)
  |ret=>exact⟨fun h=>(by cases h),fun _ k1=>out (some .ret) a' v' _ q (.inr (.inl ⟨k1,rfl,rfl⟩))⟩
  |exit id=>exact .inr ⟨rfl,rfl,fun k1 hk=>out (some (.exit id)) a' v' _ q (.inr (.inr (.inl ⟨id,k1,rfl,hk,rfl⟩)))⟩
  |goto i=>exact .inr ⟨rfl,rfl,fun k1 hk=>out (some (.goto i)) a' v' _ q (.inr (.inr (.inr ⟨i,k1,rfl,hk,rfl⟩)))⟩
  |panic ch=>exact q.elim
  |outgrown=>exact q.elim
 |ret=>exact q.elim
 |exit id=>exact q.elim
 |goto i=>exact q.elim
 |panic ch=>exact q.elim
 |outgrown=>exact q.elim
theorem MC{P:Program}{M:Md P}{N l:Nat}{rec:Loop}{S:FS}{w0:VW}{Δ0 Δ:List D}{Γ:Ga}{X:Type}{R:X→A×List D}{a:Act}{w:VW}(j:Option Code)(x:X)(k:Nat)
 (hR:R x=(.eq (.bool j.isNone),.raw l (.loop { rec with state:=if j.isNone then .ready else .done,pending:=j })::Δ.take k)) (st:St ⟨P,N,S,w0,aS Δ0,some l,[],M⟩ Γ (.raw l (.loop rec)::Δ) a w):yr P l (fU S w0 Δ0 R) j w:=by
 intro v1 hr
 have st1:=st.rely hr
 obtain⟨_,_,S1,_,_,h5,_⟩:=st1
 obtain⟨r1,r2⟩:=vD (P:=P) (x:=.bool j.isNone) (ob:=.loop { rec with state:=if j.isNone then .ready else .done,pending:=j }) h5 rfl A1 fun w hw=>run_endRound j hw
 refine⟨_,_,r1,r2,?_⟩
 have st':=St.putRaw (.loop { rec with state:=if j.isNone then .ready else .done,pending:=j }) (st.rely hr)
 obtain⟨h1,h2,S',h3,h4,h5,h6⟩:=(SE.drop (k+1)) a _ st'
 exact⟨x,S',_,rfl,h3,by rw [hR];rfl,by rw [hR];exact h5,by rw [hR];exact h4⟩
theorem zb{P:Program}{M:Md P}{N l:Nat}{rec:Loop}{S:FS}{w0:VW}{Δ0 Δ:List D}{Γ:Ga}{X:Type}{R:X→A×List D}(x:X)(k:Nat)
 (hR:R x=(.eq (.bool true),.raw l (.loop { rec with state:=.ready,pending:=none })::Δ.take k)):
 JN ⟨P,N,S,w0,aS Δ0,some l,[],M⟩ (ul P l (fU S w0 Δ0 R) .normal) Γ (.raw l (.loop rec)::Δ):=fun _ _ st=>MC none x k hR st
@[reducible] def nV(rec:Loop)(j:Option Code):Loop:={ rec with state:=if j.isNone then .ready else .done,pending:=j }
def zy(j:Option Code)(M:Prop)(N:Code→Prop):Prop:=match j with
 |none=>M
 |some jc=>N jc
theorem CL{b:Bool}{M:Prop}{N:Code→Prop}(h0:b=false→M)(h1:b=true→N .ret):zy (cond b (some .ret) none) M N:=by
 cases b
 ·exact h0 rfl
 ·exact h1 rfl
def jV(dl:Nat):Deferred:={ target:=.collected dl,args:= #[] }
theorem E6{f:Operand}{g:FuncId}{us:Array Value}{y:Value}{ρ:Operand→Value}(h1:ρ f= .func (.func g) #[] us)(h2:ρ (.const y)=y):
 (do let d←resolve ρ { callee:=.value f,args:= #[.const y],argTypes:= #[] } 0;invoke d.target d.args:Sem Next)=callFunc g (#[y]++us):=by
 simp [resolve,h1,h2,Deferred.ofValue,invoke]
section
variable {P:Program}{b:Frame}{a:Act}{k:List Item}{cs:List Frame}{w:World}
theorem pz{g:FuncId}{args:Array Value}(hen:an P g)(w:World):(callFunc g args).runT P w #[]=(.ok (.enter g args) w, #[]):=by
 obtain⟨fn,h1,h2,h3⟩:=hen
 show((match P.funcs[g]? with
  |none=>stuck "call: no such function"
  |some fn=>if fn.name == "runtime.NumGoroutine" then pure .numGoroutine else if fn.body.isNone then _ else pure (.enter g args):Sem Next)).runT P w #[]=_
 rw [h1];simp only [h2,h3,Bool.false_eq_true,if_false];rfl
theorem KH{f:Operand}{g:FuncId}{us:Array Value}{ps:Array Tmp}{asg bd:Code}(hb:b.roundOf=none)(hf:a.eval f= .func (.func g) #[] us)(hen:an P g):
 ∃es,(∀e∈es,e∈(Instr.enterLoop b.fn a.tmps ps asg bd none).events P w #[])∧∀main,stepG P main (Gr (b.atR a (.code (.rangeFunc f ps asg bd)::k)) cs) w=
  .go (Gr (Frame.enter P g (#[.func (.yield (w.heap.size+1)) #[] #[]]++us) .normal) (b.atR { a with defers:=jV w.heap.size::a.defers } (.inRangeFunc (w.heap.size+1)::k)::cs))
   ((w.alloc (.deferred (some []))).alloc (.loop { state:=.ready,pending:=none,fn:=b.fn,tmps:=a.tmps,params:=ps,assign:=asg,body:=bd,defers:=w.heap.size })) es:=by
 refine⟨seen P b.fn ((Instr.enterLoop b.fn a.tmps ps asg bd none).events P w #[])++seen P b.fn (if b.kind == .early then #[] else #[]),fun e hm=>?_,fun main=>?_⟩
 ·
  rcases Array.mem_append.1 hm with hm |hm
  ·exact Conc.mem_seen hm
  ·have:=Conc.mem_seen hm;split at this <;> simp at this
 ·
  have hrT:(Instr.enterLoop b.fn a.tmps ps asg bd none).runT P w #[]=(.ok (w.heap.size+1,[jV w.heap.size]) ((w.alloc (.deferred (some []))).alloc (.loop { state:=.ready,pending:=none,fn:=b.fn,tmps:=a.tmps,params:=ps,assign:=asg,body:=bd,defers:=w.heap.size })),(Instr.enterLoop b.fn a.tmps ps asg bd none).events P w #[]):=by
   rw [Sem.runT_eq,run_enterLoop_outer];rfl
  have he1:(b.atR { a with defers:=jV w.heap.size::a.defers } (.inRangeFunc (w.heap.size+1)::k)).eval f= .func (.func g) #[] us:=by rw [Frame.eval_atR];exact hf
  have hsem:=E6 (y:=.func (.yield (w.heap.size+1)) #[] #[]) he1 rfl;simp only [Frame.atR,hb] at hsem;simp only [stepG,stepG.exec,Frame.atR,hb,hrT,List.cons_append,List.nil_append,hsem,stepG.apply,if_true,pz hen,GStep.after,Array.append_empty]
theorem Dv{l:Nat}{j:Option Code}{w':World}(hr:(Instr.endLoop l).run P w= .ok j w'):∃es,(∀e∈es,e∈(Instr.endLoop l).events P w #[])∧∀main,stepG P main (Gr (b.atR a (.endRangeFunc l::k)) cs) w= .go (Gr (b.atR a ((j.map Item.code).toList++k)) cs) w' es:=by
 refine⟨seen P b.fn ((Instr.endLoop l).events P w #[]),fun e hm=>Conc.mem_seen hm,fun main=>?_⟩;simp [stepG,stepG.exec,Frame.atR,hr,GStep.after]
theorem M5{fr:Frame}{dl:Nat}{ds calls:List Deferred}{w':World}(hm:fr.mode= .returning)(hd:fr.defers=jV dl::ds)(hr:(Instr.takeDeferred dl).run P w= .ok calls w'):
 ∃es,(∀e∈es,e∈(Instr.takeDeferred dl).events P w #[])∧∀main,stepG P main (Gr fr cs) w= .go (Gr { fr with defers:=calls++ds } cs) w' es:=by
 refine⟨seen P fr.fn ((Instr.takeDeferred dl).events P w #[]),fun e hm=>Conc.mem_seen hm,fun main=>?_⟩
 simp [stepG,unwind,hm,hd,jV,hr,GStep.after]
end
theorem zP{b:Frame}{a:Act}{k:List Item}{l:Nat}{x:Value}:(b.atR a (.inRangeFunc l::k)).finish x=b.atR a (.endRangeFunc l::k):=rfl
theorem Ad{c:Cx}{Q:Exit→Act→VW→Prop}{Γ:Ga}{Δ F:List D}{s g p:Nat}{cs:List Value}{asg bd:Code}{X:Type}{J:X→Option Code}{E:X→List D}{r0:X→A}(hrd:c.rd=none)
 (hl:lk Γ s=some (.eq (.func (.func g) #[] cs.toArray))) (hen:an c.P g)
 (hcall:∀(rec:Loop),rec.params= #[p]→rec.assign=asg→rec.body=bd→rec.state= .ready→rec.pending=none→rec.tmps.size=c.N→(∀s v,lk Γ s=some (.eq v)→rec.tmps.getD s undef=v)→∀l,
  kE c.M g (.eq (.func (.yield l) #[] #[])::cs.map .eq) (.raw l (.loop rec)::Δ) (fun x=>(r0 x,.raw l (.loop (nV rec (J x)))::E x)))
 (hnext:∀dl x,zy (J x) (JN { c with dfs:=jV dl::c.dfs } (Q .normal) Γ (.raw dl (.deferred (some []))::(E x++F)))
  (fun jc=>JC { c with dfs:=jV dl::c.dfs } jc Q Γ (.raw dl (.deferred (some []))::(E x++F)))):JC c (.rangeFunc (.tmp s) #[p] asg bd) Q Γ (Δ++F):=by
 intro a w0 st0 T hT b k fs hb hq
 have bc:=c.M.bc T hT
 have hb0:b.roundOf=none:=hb.trans hrd
 refine bc.step _ _ _ fun w hrel=>?_
 obtain⟨h1,h2,S,h3,h4,h5,h6⟩:=st0.rely hrel
 have hv:a.eval (.tmp s)= .func (.func g) #[] cs.toArray:=h6 s _ hl
 obtain⟨es,e1,e2⟩:=KH (k:=k) (cs:=fs) (w:=w.toWorld) (ps:= #[p]) (asg:=asg) (bd:=bd) hb0 hv hen
 let dl:=w.heap.size
 let rec0:Loop:={ state:=.ready,pending:=none,fn:=b.fn,tmps:=a.tmps,params:= #[p],assign:=asg,body:=bd,defers:=dl }
 let w1:World:=(w.alloc (.deferred (some []))).alloc (.loop rec0)
 have hsz1:(w.alloc (.deferred (some []))).heap.size=dl+1:=by simp [dl]
 have hd1:∀b,S b→b < (w.alloc (.deferred (some []))).heap.size:=fun b hb=>by have:=h3.dom b hb;omega
 have hK1:∀x,x < w.heap.size→w1.heap[x]? =w.heap[x]? :=fun x hx=>
  (jg (w.alloc (.deferred (some []))) (.loop rec0) x (by rw [hsz1];exact Nat.lt_succ_of_lt hx)).trans (jg w (.deferred (some [])) x hx)
 have hG:iD w w1 es:=by
  have h0:bo [] S w:=h5.re wu (fun b hb=>(iW hb).elim) (fun _ h=>.inl h);have hrun:∀w':World,∃x w1,(Instr.enterLoop b.fn a.tmps #[p] asg bd none).run c.P w'= .ok x w1:=fun w'=>⟨_,_,run_enterLoop_outer ..⟩;obtain⟨x,w',r1,r2⟩:=h0.sg (fun d hd=>by simp at hd) zC (hrun _);rw [run_enterLoop_outer] at r1;cases r1;exact⟨fun x hx _=>hK1 x hx,by show w.heap.size≤w1.heap.size;simp [w1];omega,rfl,rfl,rfl,fun e he=>r2 e (e1 e he)⟩
 refine⟨_,_,w1,es,e2,hG,?_⟩
 have hA:=(h5.alloc h3.dom (.deferred (some []))).alloc hd1 (.loop rec0)
 have hS1:bX c.X c.S0 c.w0 S (w.upd w1):=(h3.trans (bX.of (iL (X:=fun _=>False) h3.dom _)) (fun b hb=>hb.elim)).trans (bX.of (v:=w.upd (w.alloc (.deferred (some [])))) (iL (X:=fun _=>False) hd1 _)) (fun b hb=>hb.elim)
 have hd2:∀b,S b→b < w1.heap.size:=hS1.dom
 have hA:bo (.raw (dl+1) (.loop rec0):: .raw dl (.deferred (some []))::(Δ++F)) S (w.upd w1):=by
  have e:(w.upd (w.alloc (.deferred (some [])))).heap.size=dl+1:=hsz1;rw [e] at hA;exact hA
 have hp:(D.raw (dl+1) (.loop rec0):: .raw dl (.deferred (some []))::(Δ++F)).Perm ((.raw (dl+1) (.loop rec0)::Δ)++(.raw dl (.deferred (some []))::F)):=by
  refine List.Perm.cons _ ?_;exact(List.perm_middle (l₁:=Δ)).symm
 have hO:=hA.perm hp
 have hOc:bo (.raw (dl+1) (.loop rec0)::Δ) S (w.upd w1):=hO.part
 have hfeet:∀b,aS ((D.raw (dl+1) (.loop rec0)::Δ)++(.raw dl (.deferred (some []))::F)) b→c.X b∨c.w0.heap.size≤b:=fun b ⟨d,hd,e⟩=>by
  have hle:c.w0.heap.size≤dl:=h3.size;rcases List.mem_append.1 hd with hd |hd
  ·rcases List.mem_cons.1 hd with rfl |hd
   ·simp only [D.foot,Option.some.injEq] at e;exact .inr (by omega)
   ·exact h4 b ⟨d,List.mem_append.2 (.inl hd),e⟩
  ·rcases List.mem_cons.1 hd with rfl |hd
   ·simp only [D.foot,Option.some.injEq] at e;exact .inr (by omega)
   ·exact h4 b ⟨d,List.mem_append.2 (.inr hd),e⟩
 have hG1:∀s r,lk Γ s=some r→r.holds S w1 (a.tmps.getD s undef):=fun s r hl=>A.mono (fun _ h=>h) (fun b hb=>hK1 b (h3.dom b hb)) r (h6 s r hl)
 have heq:∀vs:List Value,lG S w1 (vs.map .eq) vs:=fun vs=>by
  induction vs with
  |nil=>rfl
  |cons v vs ih=>exact⟨v,vs,rfl,rfl,ih⟩
 have hca:=hcall rec0 rfl rfl rfl rfl rfl h2 (fun s v hl=>h6 s _ hl) (dl+1) .normal S (w.upd w1) (.func (.yield (dl+1)) #[] #[]::cs) hd2 ⟨_,_,rfl,rfl,heq cs⟩ hOc
 have harg:(#[Value.func (.yield (w.heap.size+1)) #[] #[]]++cs.toArray)=(.func (.yield (dl+1)) #[] #[]::cs).toArray:=by simp [dl]
 rw [harg]
 refine hca T hT _ fun e w' fr he hf hk hlv=>?_
 obtain⟨x,S',v,rfl,g1,_,g3,g4⟩:=he
 refine uF bc hlv hk ?_
 rw [zP]
 have hO2:=hO.frame hd2 g1 g3 g4
 have hS2:=hS1.trans g1 fun b ⟨d,hd,e⟩=>hfeet b ⟨d,List.mem_append.2 (.inl hd),e⟩
 have hK2:jZ S w1 w':=fun b hb=>g1.keep b (hd2 b hb) (hOc.sees b hb) fun hx=>(hOc.own b hx).1 hb
 have hfeet2:∀b,aS (.raw (dl+1) (.loop (nV rec0 (J x)))::E x++(.raw dl (.deferred (some []))::F)) b→c.X b∨c.w0.heap.size≤b:=fun b ⟨d,hd,e⟩=>by
  rcases List.mem_append.1 hd with hd |hd
  ·rcases g4 b ⟨d,hd,e⟩ with hh |hh
   ·obtain⟨d',hd',e'⟩:=hh;exact hfeet b ⟨d',List.mem_append.2 (.inl hd'),e'⟩
   ·exact .inr (Nat.le_trans hS1.size hh)
  ·exact hfeet b ⟨d,List.mem_append.2 (.inr hd),e⟩
 have hst:St { c with dfs:=jV dl::c.dfs } Γ (.raw (dl+1) (.loop (nV rec0 (J x)))::(E x++(.raw dl (.deferred (some []))::F))) { a with defers:=jV w.heap.size::a.defers } w':=
  ⟨by simp [h1,dl],h2,S',hS2,hfeet2,hO2,fun s r hl=>A.mono g1.sub hK2 r (hG1 s r hl)⟩
 refine bc.step _ _ _ fun v1 hr1=>?_
 have hst1:=hst.rely hr1
 obtain⟨_,_,S3,p3,_,p5,_⟩:=hst1
 have hnb:(nV rec0 (J x)).state≠.busy:=by
  show(if(J x).isNone then LoopState.ready else .done)≠.busy;split <;> simp
 obtain⟨r1,r2⟩:=vD (P:=c.P) (ob:=.loop { nV rec0 (J x) with state:=.exhausted }) p5 rfl Dj fun w hw=>run_endLoop hw hnb
 obtain⟨es',e1',e2'⟩:=Dv (b:=b) (a:={ a with defers:=jV w.heap.size::a.defers }) (k:=k) (cs:=fs) r1
 refine⟨_,_,_,es',e2',r2.sub e1',?_⟩
 have hst2:=(hst.rely hr1).putRaw (.loop { nV rec0 (J x) with state:=.exhausted })
 have hp2:(E x++(D.raw dl (.deferred (some []))::F)).Perm (.raw dl (.deferred (some []))::(E x++F)):=List.perm_middle
 obtain⟨q1,q2,S2,q3,q4,q5,q6⟩:=hst2
 have hst3:St { c with dfs:=jV dl::c.dfs } Γ (.raw dl (.deferred (some []))::(E x++F)) { a with defers:=jV w.heap.size::a.defers } (v1.upd (v1.putObj (dl+1) (.loop { nV rec0 (J x) with state:=.exhausted }))):=by
  refine⟨q1,q2,S2,q3,fun b hb=>?_,q5.tail.perm hp2,q6⟩;rw [mW hp2.symm] at hb;obtain⟨d,hd,e⟩:=hb;exact q4 b ⟨d,List.mem_cons_of_mem _ hd,e⟩
 have hn:=hnext dl x
 have hpe:(nV rec0 (J x)).pending=J x:=rfl
 rw [hpe]
 cases hj:J x with
 |none=>
  unfold zy at hn;rw [hj] at hn hst3;exact hq _ _ _ (hn _ _ hst3)
 |some cc=>
  unfold zy at hn;rw [hj] at hn hst3;exact hn _ _ hst3 T hT b k fs hb hq
def uV(P:Program)(fn:Func)(R:Ending→VW→Prop):Exit→Act→VW→Prop
 | .ret,a,v=>c9 P fn R .ret a v∨∃dl,a.defers=[jV dl]∧∀v1,de v v1→∃w',(Instr.takeDeferred dl).run P v1= .ok [] w'∧iD v1 w' ((Instr.takeDeferred dl).events P v1 #[])∧c9 P fn R .ret { a with defers:=[] } (v1.upd w')
 | .normal,a,v=>c9 P fn R .ret a v∨∃dl,a.defers=[jV dl]∧∀v1,de v v1→∃w',(Instr.takeDeferred dl).run P v1= .ok [] w'∧iD v1 w' ((Instr.takeDeferred dl).events P v1 #[])∧c9 P fn R .ret { a with defers:=[] } (v1.upd w')
 | .panic chain,a,v=>a.defers=[]∧R (.panicked chain) v
 |_,_,_=>False
theorem Ls{P:Program}{M:Md P}{N dl:Nat}{S:FS}{w0:VW}{X:Nat→Prop}{fn:Func}{R:Ending→VW→Prop}{Γ:Ga}{Δ:List D}(h:JN ⟨P,N,S,w0,X,none,[],M⟩ (c9 P fn R .ret) Γ Δ):
 JN ⟨P,N,S,w0,X,none,[jV dl],M⟩ (uV P fn R .ret) Γ (.raw dl (.deferred (some []))::Δ):=by
 intro a w st
 refine .inr ⟨dl,st.1,fun v1 hr=>?_⟩
 have st1:=st.rely hr
 obtain⟨_,_,S1,_,_,p5,_⟩:=st1
 obtain⟨r1,r2⟩:=vD (P:=P) (x:=([]:List Deferred)) (ob:=.deferred none) p5 rfl vu fun w hw=>run_takeDeferred hw
 refine⟨_,r1,r2,?_⟩
 have st2:=(st.rely hr).putRaw (.deferred none)
 obtain⟨h1,h2,S',h3,h4,h5,h6⟩:=st2
 exact h _ _ ⟨rfl,h2,S',h3,fun b ⟨d,hd,e⟩=>h4 b ⟨d,List.mem_cons_of_mem _ hd,e⟩,h5.tail,h6⟩
theorem St.entry{P:Program}{M:Md P}{as:List A}{Δ:List D}{N:Nat}{S:FS}{w:VW}{vs:List Value}(hn:Nat.ble as.length N=true)(hd:∀b,S b→b < w.heap.size)(hall:lG S w as vs)(hO:bo Δ S w):
 St ⟨P,N,S,w,aS Δ,none,[],M⟩ (entry 0 as) Δ { tmps:=vs.toArray++Array.replicate (N - vs.toArray.size) undef,defers:=[] } w:=by
 have hn:=Nat.le_of_ble_eq_true hn
 refine⟨rfl,?_,S,bX.refl hd,fun b hb=>.inl hb,hO,fun s r hl=>?_⟩
 ·
  have:=hall.length;simp only [Array.size_append,List.size_toArray,Array.size_replicate];omega
 ·
  obtain⟨j,e,hj,hr⟩:=sA hall hl;have e':s=j:=by omega
  subst e'
  have e2:(vs.toArray++Array.replicate (N - vs.toArray.size) undef).getD s undef=vs.getD s undef:=by
   simp [Array.getD_eq_getD_getElem?,Array.getElem?_append,hj]
  rw [e2];exact hr
theorem tK{P:Program}{f:Nat}{fn:Func}{C:Code}{args:Array Value}{kind:CallKind}(hf:P.funcs[f]? =some fn)(hb:fn.body=some C):
 Frame.enter P f args kind=Frame.atR { (default:Frame) with fn:=f,kind:=kind } { tmps:=args++Array.replicate (fn.ntmps - args.size) undef,defers:=[] } [.code C]:=by
 simp [Frame.enter,Frame.atR,hf,hb]
 rfl
theorem Jo{P:Program}{M:Md P}{f:Nat}{fn:Func}{C:Code}{as:List A}{Δ:List D}{X:Type}{R:X→A×List D}(N:Nat)(hf:P.funcs[f]? =some fn)(hb:fn.body=some C)(hN:fn.ntmps=N)(hn:Nat.ble as.length N=true)
 (h:∀S w0,JC ⟨P,N,S,w0,aS Δ,none,[],M⟩ C (uV P fn (fU S w0 Δ R)) (entry 0 as) Δ):kE M f as Δ R:=by
 subst hN
 intro kind S w vs hd hall hO T hT cs hc
 have bc:=M.bc T hT
 rw [tK hf hb]
 refine h S w _ _ (St.entry hn hd hall hO) T hT _ [] cs rfl fun e a' v' q=>?_
 have fin:∀(a':Act) (v':VW) todo,c9 P fn (fU S w Δ R) .ret a' v'→T v' { Frame.atR { (default:Frame) with fn:=f,kind:=kind } a' todo with mode:=.returning } cs:=fun a' v' todo ⟨q1,x,q2,q3⟩=>hc _ _ _ q3 rfl rfl ⟨rfl,q1,fn,hf,q2⟩
 have finM:∀todo,(c9 P fn (fU S w Δ R) .ret a' v'∨∃dl,a'.defers=[jV dl]∧∀v1,de v' v1→∃w',(Instr.takeDeferred dl).run P v1= .ok [] w'∧iD v1 w' ((Instr.takeDeferred dl).events P v1 #[])∧c9 P fn (fU S w Δ R) .ret { a' with defers:=[] } (v1.upd w'))→
  T v' { Frame.atR { (default:Frame) with fn:=f,kind:=kind } a' todo with mode:=.returning } cs:=fun todo q=>by
  rcases q with q |⟨dl,q1,q2⟩
  ·
   exact fin a' v' todo q
  ·
   refine bc.step _ _ _ fun v1 hr=>?_;obtain⟨w',p1,p2,p3⟩:=q2 v1 hr;obtain⟨es,e1,e2⟩:=M5 (P:=P) (fr:={ Frame.atR { (default:Frame) with fn:=f,kind:=kind } a' todo with mode:=.returning }) (cs:=cs) (ds:=[]) rfl q1 p1;exact⟨_,_,w',es,e2,p2.sub e1,fin { a' with defers:=[] } _ todo p3⟩
 cases e with
 |normal=>exact bc.move (fun _ _=>Bl rfl) (finM _ q)
 |ret=>exact⟨fun _ todo=>finM todo q,fun h=>by cases h⟩
 |panic chain=>exact fun todo=>hc _ _ _ q.2 rfl rfl ⟨rfl,q.1,fn,hf⟩
 |exit id=>exact q.elim
 |goto l=>exact q.elim
 |outgrown=>exact q.elim
theorem LF{P:Program}{f:Nat}{fn:Func}{C:Code}{as:List A}{Δ:List D}{X:Type}{R:X→A×List D}(N:Nat)(hf:P.funcs[f]? =some fn)(hb:fn.body=some C)(hN:fn.ntmps=N)(hn:Nat.ble as.length N=true)
 (h:∀{M:Md P} (S:FS) (w0:VW),JC ⟨P,N,S,w0,aS Δ,none,[],M⟩ C (uV P fn (fU S w0 Δ R)) (entry 0 as) Δ):bQ P f as Δ R:=fun _=>Jo N hf hb hN hn h
theorem mH{P:Program}{M:Md P}{o:Oper}{x:Operand}{T:TypeId}{n:Int}(ho:o.op= .makeInterface T x)(hT:P.underlying T=some (.int .i64)):bZ M o [(x,.eq (.int .i64 n))] [] (fun _:Unit=>(.eq (.iface T (.int .i64 n)),[])):=
 .val0 fun S w a hN=>by
  have e:a.eval x= .int .i64 n:=hN.1
  refine⟨_,?_,rfl⟩
  simp [execOp,ho,e,Instr.makeInterface,run_underlying hT]
section
variable {c:Cx}{ops:Array Oper}{o:Oper}{l:List Oper}{Q:Exit→Act→VW→Prop}{Γ Γ':Ga}{Δ Δ' F E pre pre':List D}{N:List (Operand×A)}{d:Nat}{X:Type}{R:X→A×List D}{r:A}
theorem BW(hg:o.guard=none)(hd:o.dst=some d)(hdN:Nat.blt d c.N=true)(ht:bZ c.M o N Δ R)(hh:cu Γ N)(h:∀x,JO c ops l Q ((d,(R x).1)::Γ) (R x).2):JO c ops (o::l) Q Γ Δ:=by
 have:=be (c:=c) (ops:=ops) (o:=o) (l:=l) (Q:=Q) (Γ:=Γ) (Δ:=Δ) (F:=[]) (N:=N) (d:=d) (R:=R) (fun _ _ _=>az hg _) hd hdN ht hh (fun x=>by rw [List.append_nil];exact h x);rwa [List.append_nil] at this
theorem I7(pre:List D)(hg:o.guard=none)(hd:o.dst=some d)(hdN:Nat.blt d c.N=true)(ht:bZ c.M o N Δ R)(hh:cu Γ N)(h:∀x,JO c ops l Q ((d,(R x).1)::Γ) (pre++(R x).2)):JO c ops (o::l) Q Γ (pre++Δ):=by
 have h1:JO c ops (o::l) Q Γ (Δ++pre):=be (fun _ _ _=>az hg _) hd hdN ht hh (fun x a w st=>h x a w (st.perm List.perm_append_comm));exact fun a w st=>h1 a w (st.perm List.perm_append_comm)
theorem mg{Δ Δ':List D}(h:∀d∈Δ',d∈Δ){b:Nat}:aS Δ' b→aS Δ b:=fun⟨d,hd,e⟩=>⟨d,h d hd,e⟩
theorem na{ks:List Nat}(hk:iI Δ ks=some Δ'):∀d∈Δ',d∈Δ:=fun d hd=>by
 obtain⟨k,_,e⟩:=ll hk d hd
 exact List.mem_of_getElem? e
theorem jq.pick{S:FS}{w:World}{ks:List Nat}(hk:iI Δ ks=some Δ')(hn:ks.Nodup)(h:jq Δ S w):jq Δ' S w:=
 ⟨fun d hd=>h.holds d (na hk d hd),fun b hb=>h.own b (mg (na hk) hb),k9 (fun a b hab x e e'=>hab x e' e) h.apart hn hk⟩
theorem bo.pick{S:FS}{w:VW}{ks:List Nat}(hk:iI Δ ks=some Δ')(hn:ks.Nodup)(h:bo Δ S w):bo Δ' S w:=h.re (h.p.pick hk hn) (fun _ hb=>mg (na hk) hb) fun _ h=>.inl h
theorem jo(pre:List D)(E:List D)(ks:List Nat)(hs:Lj Γ' Γ)(hk:iI pre ks=some pre')(hn:ks.Nodup:=by decide):SE c Γ (pre++E) Γ' (pre'++E):=by
 rintro a w ⟨h1,h2,S,h3,h4,h5,h6⟩;have hm:=na hk;have hap:=List.pairwise_append.1 h5.apart;have hO:jq pre' S w:=jq.pick hk hn h5.part.p
 have hsub:∀d∈pre'++E,d∈pre++E:=fun d hd=>by
  rcases List.mem_append.1 hd with hd |hd
  ·exact List.mem_append.2 (.inl (hm d hd))
  ·exact List.mem_append.2 (.inr hd)
 exact⟨h1,h2,S,h3,fun b hb=>h4 b (mg hsub hb),h5.re ⟨fun d hd=>h5.holds d (hsub d hd),fun b hb=>h5.own b (mg hsub hb),List.pairwise_append.2 ⟨hO.apart,hap.2.1,fun d hd d' hd'=>hap.2.2 d (hm d hd) d' hd'⟩⟩ (fun b hb=>mg hsub hb) (fun _ h=>.inl h),fun s r hl=>h6 s r (hs.lk hl)⟩
theorem fU.pick{S:FS}{w:VW}{X:Type}{R R':X→A×List D}{ks ks2:List Nat}(hk:iI Δ ks=some Δ')(h1:∀x,(R' x).1=(R x).1)(hk2:∀x,iI (R' x).2 ks2=some (R x).2)(hn2:ks2.Nodup){e:Ending}{w':VW}
 (h:fU S w Δ' R' e w'):fU S w Δ R e w':=by
 obtain⟨x,S',v,he,g1,g2,g3,g4⟩:=h
 refine⟨x,S',v,he,g1.mono (fun b hb=>mg (na hk) hb),by rw [←h1];exact g2,g3.pick (hk2 x) hn2,fun b hb=>?_⟩
 rcases g4 b (mg (na (hk2 x)) hb) with hh |hh
 ·
  exact .inl (mg (na hk) hh)
 ·
  exact .inr hh
theorem kE.pick{P:Program}{M:Md P}{M:Md P}{f:Nat}{as:List A}{X:Type}{R R':X→A×List D}(ks ks2:List Nat)(h:kE M f as Δ' R')(hk:iI Δ ks=some Δ')(hk2:∀x,iI (R' x).2 ks2=some (R x).2)(h1:∀x,(R' x).1=(R x).1)
 (hn:ks.Nodup:=by decide) (hn2:ks2.Nodup:=by decide):kE M f as Δ R:=
 fun k S w vs hd hall hO=>(h k S w vs hd hall (hO.pick hk hn)).mono fun _ _ hh=>fU.pick hk h1 hk2 hn2 hh
theorem bQ.pick{P:Program}{M:Md P}{f:Nat}{as:List A}{X:Type}{R R':X→A×List D}(ks ks2:List Nat)(h:bQ P f as Δ' R')(hk:iI Δ ks=some Δ')(hk2:∀x,iI (R' x).2 ks2=some (R x).2)(h1:∀x,(R' x).1=(R x).1)
 (hn:ks.Nodup:=by decide) (hn2:ks2.Nodup:=by decide):bQ P f as Δ R:=fun M=>kE.pick (M:=M) ks ks2 (h M) hk hk2 h1 hn hn2
theorem YT.pick{P:Program}{M:Md P}{i:Nat}{as:List A}{X:Type}{R R':X→A×List D}(ks ks2:List Nat)(h:YT M i as Δ' R')(hk:iI Δ ks=some Δ')(hk2:∀x,iI (R' x).2 ks2=some (R x).2)(h1:∀x,(R' x).1=(R x).1)
 (hn:ks.Nodup:=by decide) (hn2:ks2.Nodup:=by decide):YT M i as Δ R:=fun S w vs hd hall hO=>by
 obtain⟨fn,tm,asg,bd,g1,g0,g2⟩:=h S w vs hd hall (hO.pick hk hn)
 exact⟨fn,tm,asg,bd,g1,g0,g2.mono fun _ _ hh=>fU.pick hk h1 hk2 hn2 hh⟩
theorem jS{b:Nat}{ob:Obj}(p:Obj→Prop)(hp:p ob):SE c Γ (.raw b ob::F) Γ (.inv b p::F):=fun a w h=>
 h.swap (d:=.raw b ob) (d':=.inv b p) (fun b'=>Iff.rfl) fun S hs=>⟨ob,hs,hp⟩
theorem vQ{P:Program}{M:Md P}{S:FS}{w0:VW}{Δ0:List D}{X:Type}{R:X→A×List D}{N:Nat}{fn:Func}(x:X)(rs:List A)
 (hr:yY P Γ Δ fn.results.toList rs) (hR:R x=(bG rs,Δ)):JN ⟨P,N,S,w0,aS Δ0,none,[],M⟩ (c9 P fn (fU S w0 Δ0 R) .ret) Γ Δ:=
 aZ x rs Δ.length hr (by rw [hR,List.take_length])
theorem I1{P:Program}{M:Md P}{TE:TypeId}{t:Ty}{dd:List t.den}{e:D}(h:bZ M o N Δ (fun v:Value=>(.eq v,[e,.sl v TE t dd]))):bZ M o N Δ (fun _:Unit=>(.rep (.slice t) dd,[e])):=by
 have h2:bZ M o N Δ (fun v:Value=>(.eq v,.sl v TE t dd::[e])):=by
  refine⟨h.1,fun ro S w a next Q hd hN hO k=>h.2 ro S w a next Q hd hN hO fun x S' w' v hs hr ho hf=>k x S' w' v hs hr (ho.perm (List.Perm.swap _ _ _)) fun b hb=>hf b (by rwa [mW (List.Perm.swap _ _ _)])⟩
 exact t9 h2
end
def yo{σ α:Type}(Y:σ→α→Option (σ×Bool)):σ×Bool→α→Option ((σ×Bool)×Bool)
 |(_,true),_=>none
 |(s,false),p=>(Y s p).bind fun r=>some ((r.1, !r.2),r.2)
theorem CM{σ α:Type}{Y:σ→α→Option (σ×Bool)}{q:σ×Bool}{p:α}{r:(σ×Bool)×Bool}(h:yo Y q p=some r):∃r',q.2=false∧Y q.1 p=some r'∧r=((r'.1, !r'.2),r'.2):=by
 obtain⟨s,b⟩:=q;cases b with
 |true=>cases h
 |false=>
  simp only [yo] at h;cases hY:Y s p with
  |none=>rw [hY] at h;cases h
  |some r'=>rw [hY] at h;exact⟨r',rfl,rfl,(Option.some.inj h).symm⟩
@[reducible] def Pe(b:Bool):Option Code:=cond b (some .ret) none
section
variable {P:Program}{M:Md P}{o:Oper}{x y:Operand}{T T' e:TypeId}{t:Ty}
theorem vd{b n m:Nat}{g:Bool}(ho:o.op= .slice T x none none none)(hT:P.underlying T=some (.array n e))(he:fX P e m g):
 bZ M o [(x,.eq (.pointer (some ⟨b,0,none⟩)))] [] (fun _:Unit=>(.eq (.slice (some ⟨b,0,none⟩) n n),[])):=
 .val0 fun S w a hN=>by
  have e1:a.eval x= .pointer (some ⟨b,0,none⟩):=hN.1
  refine⟨.slice (some ⟨b,0,none⟩) n n,?_,rfl⟩
  simp [execOp,ho,e1,Instr.sliceAt,Instr.sureAddr,run_underlying hT,Instr.sliceBounds,he.size,Addr.add]
theorem C7{b n:Nat}{T0 T1:TypeId}{g:Bool}{l l2:List t.den}{c:Call}(ho:o.op= .call c)(hc:c={ callee:=.builtin .copy,args:= #[x,y],argTypes:= #[T,T1] })(hT:P.underlying T=some (.slice e))(he:fX P e t.cells g):
 bZ M o [(x,.eq (.slice (some ⟨b,0,none⟩) n n)),(y,.rep (.slice t) l2)] [.obj b T0 (.rep (.arr n t) l)] (fun _:Unit=>(.eq (.int .i64 (min l2.length n:Nat)),[.obj b T0 (.rep (.arr n t) (l2.take n++l.drop l2.length))])):=by
 refine lI ⟨by simp only [nd, *],fun S w a next hd hN hO k=>?_⟩ (fun _ _ a _ _=>jI (by simp only [tp, *]) a.eval) (fun d hd=>by first |(simp at hd;done) |(simp at hd;subst hd;trivial))
 have e1:a.eval x= .slice (some ⟨b,0,none⟩) n n:=hN.1
 obtain⟨a2,cap2,e2,hr2⟩:=qW hN.2.1
 obtain⟨cs,h3,h4⟩:=hO.holds _ (List.mem_singleton.2 rfl)
 obtain⟨hlen,hrd⟩:=(h4:l.length=n∧dp (rd S w t) l cs)
 obtain⟨hnb,hbs⟩:=hO.own b (iV.2 rfl)
 have hcl:=gh (fun _ _ h=>aX t h) hrd
 have main:∃news:List Value,(Builtin.firstCells t.cells (Nat.min l2.length n) (a.eval y)).run P w= .ok news.toArray w∧dp (rd S w t) (l2.take n) news:=by
  rcases hr2 with⟨a3,cap3,h5,h6⟩ |⟨b2,off2,cap3,c2,T2,fz,h5,hle,hS,hb2,hr⟩
  ·subst h6;refine⟨[],?_,by simp [dp]⟩;rw [e2];cases a2 with
   |none=>simp [Builtin.firstCells]
   |some q=>simp [Builtin.firstCells,loadCells,loadCellsFrom]
  ·simp only [List.cons.injEq,Value.slice.injEq,true_and,and_true] at h5;obtain⟨rfl,rfl⟩:=h5;have h7:=rZ (fun _ _ h=>aX t h) n hr;have h8:=gh (fun _ _ h=>aX t h) h7;refine⟨_,?_,h7⟩;rw [e2];refine run_firstCells_some (P:=P) w t.cells (Nat.min l2.length n) ⟨b2,off2,none⟩ _ _ _ (by rw [h8,List.length_take,Nat.min_comm]) fun j v hj=>?_;rw [iK];rw [List.getElem?_take] at hj;split at hj
   ·rw [List.getElem?_take] at hj;split at hj
    ·simp only [List.getElem?_drop,Array.getElem?_toList] at hj;simp [World.cell?,hb2,hj]
    ·cases hj
   ·cases hj
 obtain⟨news,hn1,hn2⟩:=main
 have hnl:=gh (fun _ _ h=>aX t h) hn2
 have hone:=qX (fun _ _ h=>wn t h) hn2
 have hbnd:news.length≤cs.length:=by
  rw [hnl,hcl,List.length_take,hlen];exact Nat.mul_le_mul_right _ (Nat.min_le_left _ _)
 have hst:=kY P b T0 0 news 0 w cs.toArray h3 hone (by simpa using hbnd)
 simp only [Nat.add_zero,Nat.zero_add,List.take_zero,List.nil_append] at hst
 have hrun:(execOp a.eval o).run P w= .ok (.value (.int .i64 (min l2.length n:Nat))) { w with heap:=w.heap.setIfInBounds b (.cells (news++cs.drop news.length).toArray T0 (0,0)) }:=by
  have h1:(Builtin.copy_ #[T,T1] o.type #[a.eval x,a.eval y]).run P w= .ok (.int .i64 (min l2.length n:Nat)) { w with heap:=w.heap.setIfInBounds b (.cells (news++cs.drop news.length).toArray T0 (0,0)) }:=by
   have hlo:(Builtin.lenOf (a.eval y)).run P w= .ok l2.length w:=by rw [e2];rfl
   simp only [Builtin.copy_,List.getElem?_toArray,List.getElem?_cons_zero,List.getElem?_cons_succ,e1,Sem.run_bind,run_underlying hT,Result.andThen_ok,hlo,he.size,hn1,hst,Sem.run_pure];rfl
  simp [execOp,ho,hc,resolve,invoke,builtin,h1]
 rw [hrun]
 have hset:=pY (X:=aS [D.obj b T0 (.rep (.arr n t) l)]) hd (iV.2 rfl) (.cells (news++cs.drop news.length).toArray T0 (0,0))
 have hK:jZ S w { w with heap:=w.heap.setIfInBounds b (.cells (news++cs.drop news.length).toArray T0 (0,0)) }:=fun b' hb'=>by
  have hne:b≠b':=fun e=>hnb (by rw [e];exact hb');simp [Array.getElem?_setIfInBounds_ne hne]
 refine k () S _ _ hset rfl (iT ⟨news++cs.drop news.length,by simp [hbs],?_⟩ fun b' hb'=>?_) fun b' hb'=>.inl ?_
 ·
  refine⟨?_,?_⟩
  ·simp only [List.length_append,List.length_take,List.length_drop];rw [hlen];omega
  ·refine o7 (cp (R:=rd S w t) (fun _ _ h=>eZ (fun _ h=>h) hK t h) hn2) ?_;have h9:=wo (fun _ _ h=>aX t h) l2.length hrd
   have e9:cs.drop news.length=cs.drop (l2.length * t.cells):=by
    rw [hnl,List.length_take];rcases Nat.le_total n l2.length with hh |hh
    ·rw [Nat.min_eq_left hh];rw [List.drop_eq_nil_of_le (by rw [hcl,hlen];exact Nat.le_refl _),List.drop_eq_nil_of_le (by rw [hcl,hlen];exact Nat.mul_le_mul_right _ hh)]
    ·rw [Nat.min_eq_right hh]
   rw [←e9] at h9;exact cp (R:=rd S w t) (fun _ _ h=>eZ (fun _ h=>h) hK t h) h9
 ·
  simp only [D.foot,Option.some.injEq] at hb';subst hb';exact⟨hnb,by simpa using hbs⟩
 ·
  exact iV.2 (iV.1 hb')
end
section
variable {c:Cx}{Γ:Ga}{F:List D}{T:TypeId}{t:Ty}
theorem Gm{b n:Nat}{dd:List t.den}(hm:n≤maxLen):SE c Γ (.obj b T (.rep (.arr n t) dd)::F) Γ (.sl (.slice (some ⟨b,0,none⟩) n n) T t dd::F):=fun a w h=>by
 have hn:dd.length=n:=by
  obtain⟨_,_,S,_,_,h5,_⟩:=h;obtain⟨cs,_,h2⟩:=h5.holds _ (List.mem_cons_self ..);exact h2.1
 exact IZ hn hm a w h
theorem Gj{b n:Nat}{dd:List t.den}:SE c Γ (.sl (.slice (some ⟨b,0,none⟩) n n) T t dd::F) Γ (.obj b T (.rep (.arr n t) dd)::F):=fun a w h=>by
 have hn:dd.length=n:=by
  obtain⟨_,_,S,_,_,h5,_⟩:=h;rcases h5.holds _ (List.mem_cons_self ..) with⟨h1,_⟩ |⟨b',cap,cc,h1,_⟩
  ·simp at h1
  ·simp only [Value.slice.injEq] at h1;exact h1.2.1.symm
 exact IW hn a w h
end
section
variable {P:Program}{M:Md P}{o:Oper}{y:Operand}{T:TypeId}
def Ds(s:ByteArray)(i:Int):Option UInt8:=if 0≤i then s[i.toNat]? else none
theorem AS{s:ByteArray}{k:IntKind}{i:Int}{b:UInt8}(ho:o.op= .index T (.const (.string s)) y)(hT:P.underlying T=some .string)(hd:Ds s i=some b):
 bZ M o [(y,.eq (.int k i))] [] (fun _:Unit=>(.eq (.int .u8 b.toNat),[])):=
 .val0 fun S w a hN=>by
  have e1:a.eval y= .int k i:=hN.1
  have e2:a.eval (.const (.string s))= .string s:=rfl
  refine⟨.int .u8 b.toNat,?_,rfl⟩
  unfold Ds at hd
  have h1:(Instr.index T (.string s) (.int k i)).run P w= .ok (.int .u8 b.toNat) w:=by
   unfold Instr.index;simp only [asIntOf,Sem.run_bind,Sem.run_pure,Result.andThen_ok,run_underlying hT,hd]
  simp only [execOp,ho,e1,e2,Sem.run_bind,h1,Result.andThen_ok,Sem.run_pure]
end
end K
end Go.Proofs.YtopgphikdglphaaGreat
