import Derived.Test.YtflilincnacbpaaGreatVTB2
import Derived.Laws.StructEq
open Nat
open List hiding mem_of_getElem?
open Array hiding mem_of_getElem? mk
set_option linter.unusedVariables false
set_option linter.unusedSimpArgs false
namespace Go.Proofs.YtflilincnacbpaaGreat
namespace K
open Go
def uJ(p:Nat->Nat)(o:Oper):Oper:={ o with after:=o.after.map λe=>{ e with on:=p e.on },guard:=o.guard.map λg=>(p g.1,g.2) }
def JJ(ops ops':Array Oper):Prop:=ops'.size=ops.size/\∃p q:Nat->Nat,(∀i,q (p i)=i)/\(∀j,p (q j)=j)/\∀i,ops'[p i]? =(ops[i]?).map (uJ p)
theorem K3(o:Oper):uJ id o=o:=by
 simp_all [uJ]
theorem JJ.refl(ops:Array Oper):JJ ops ops:=⟨rfl,id,id,λ_=>rfl,λ_=>rfl,λi=>by
 grind [K3]⟩
section
variable {P:Program}{M:Md P}{M:Md P}{rd:Option Nat}{ops ops':Array Oper}{Q:Exit->Act->VW->Prop}{p q:Nat->Nat}
theorem xd{L L':Array Bool}(hL:∀i,L'[p i]? =L[i]?)(i:Nat)(b:Bool):L'.getD (p i) b=L.getD i b:=by
 simp_all
theorem sD(hp:∀i,ops'[p i]? =(ops[i]?).map (uJ p)){L L':Array Bool}(hL:∀i,L'[p i]? =L[i]?)(i:Nat):p i∈Region.ready .any ops' L'↔i∈Region.ready .any ops L:=by
 have hs:p i < ops'.size↔i < ops.size:=by
  grind
 unfold Region.ready;simp only [List.mem_filter,List.mem_range,hs,xd hL,hp i,Option.map_map,Bool.and_eq_true];refine and_congr Iff.rfl (and_congr Iff.rfl ?_);cases ops[i]? with
 |none=>simp_all
 |some o=>
  simp_all [Option.map_some,Function.comp_apply,Option.getD_some,uJ,Array.all_map,Region.binds,xd]
theorem ze(hp:∀i,ops'[p i]? =(ops[i]?).map (uJ p)){tm:Array Value}(j:Nat):yielded ops' tm (p j)=yielded ops tm j:=by
 unfold yielded;rw [hp j];cases ops[j]? <;> rfl
theorem GP(hp:∀i,ops'[p i]? =(ops[i]?).map (uJ p)){K K':Act->VW->Prop}(hK:∀a w,K' a w->K a w){i:Nat}{a:Act}{w:VW}(h:nV M rd ops' Q (p i) K' a w):nV M rd ops Q i K a w:=by
 unfold nV at h⊢;rw [hp i] at h;cases ho:ops[i]? with
 |none=>simp_all
 |some o=>
  rw [ho] at h;simp only [Option.map_some] at h
  have hw:Region.wanted (uJ p o) (yielded ops' a.tmps)=Region.wanted o (yielded ops a.tmps):=by
   unfold Region.wanted uJ;cases hg:o.guard with
   |none=>simp
   |some g=>simp [ze hp]
  rw [hw] at h;simp only;split at h
  .rename_i hh;rw [if_pos hh];have h':o.wk M rd a w K' Q:=h;exact oz hK h'
  .rename_i hh;rw [if_neg hh];exact hK _ _ h
theorem M7(hqp:∀i,q (p i)=i)(hpq:∀j,p (q j)=j)(hp:∀i,ops'[p i]? =(ops[i]?).map (uJ p)):∀(aL:Nat) {L L':Array Bool} {a:Act} {w:VW},(∀i,L'[p i]? =L[i]?)->fN M rd .any ops' Q aL L' a w->fN M rd .any ops Q aL L a w:=by
 have hnil:∀{L L':Array Bool},(∀i,L'[p i]? =L[i]?)->Region.ready .any ops L=[]->Region.ready .any ops' L'=[]:=λ{L L'} hL h=>by
  rw [eq_nil_iff_forall_not_mem];intro j hj;rw [<-hpq j,sD hp hL] at hj;simp_all
 have hnil':∀{L L':Array Bool},(∀i,L'[p i]? =L[i]?)->Region.ready .any ops' L'=[]->Region.ready .any ops L=[]:=λ{L L'} hL h=>by
  rw [eq_nil_iff_forall_not_mem];intro j hj;rw [<-sD hp hL,h] at hj;cases hj
 intro aL
 induction aL with
 |zero=>intro L L' a w hL h;exact⟨hnil' hL h.1,h.2⟩
 |succ aL ih=>
  intro L L' a w hL h;refine⟨λh0=>h.1 (hnil hL h0),λi hi=>?_⟩;refine GP hp (λa w h'=>ih ?_ h') (h.2 (p i) ((sD hp hL i).2 hi));grind
def AA(xs:List Nat)(o:Oper):Oper:={ o with after:=o.after.filter λe=> !xs.contains e.on }
def J2(ops ops':Array Oper):Prop:=ops'.size=ops.size/\(∀(i:Nat) o,ops[i]? =some o->∀e∈o.after,e.on < i)/\∃f:Nat->List Nat,∀i,ops'[i]? =(ops[i]?).map (AA (f i))
def zd(ops ops':Array Oper):Prop:=∃ops1,(ops1=ops\/J2 ops ops1)/\JJ ops1 ops'
theorem zd.refl(ops:Array Oper):zd ops ops:=⟨ops,.inl rfl,JJ.refl ops⟩
theorem qB{L:Array Bool}{i:Nat}:i∈Region.ready .any ops L↔i < ops.size/\L.getD i true=false/\∀o,ops[i]? =some o->∀e∈o.after,Region.binds .any e=true->L.getD e.on false=true:=by
 unfold Region.ready;simp only [List.mem_filter,List.mem_range,Bool.and_eq_true,Bool.not_eq_true'];refine and_congr_right λhi=>and_congr Iff.rfl ?_;grind [Array.getElem?_eq_getElem,Option.some.injEq,all_eq_true_iff_forall_mem,Region.binds]
theorem vl{L:Array Bool}{i:Nat}(hd:J2 ops ops')(h:i∈Region.ready .any ops L):i∈Region.ready .any ops' L:=by
 obtain⟨hs,_,f,hf⟩:=hd;rw [qB] at h⊢;refine⟨by omega,h.2.1,λo ho e he hb=>?_⟩;rw [hf] at ho;cases h2:ops[i]? with
 |none=>simp_all
 |some o'=>
  rw [h2] at ho;cases ho;exact h.2.2 o' h2 e (Array.mem_filter.1 he).1 hb
theorem Jg{L:Array Bool}(hd:J2 ops ops')(hL:L.size=ops.size)(h:Region.ready .any ops L=[]):Region.ready .any ops' L=[]:=by
 obtain⟨hs,hw,f,hf⟩:=hd;rw [eq_nil_iff_forall_not_mem] at h⊢
 have key:∀i,i < ops.size->L.getD i false=true:=by
  intro i
  induction i using Nat.strongRecOn with
  |_ i ih=>
   intro hi;cases hb:L.getD i false with
   |true=>rfl
   |false=>
    have hb':L.getD i true=false:=by
     simp_all
    exact absurd (qB.2 ⟨hi,hb',λo ho e he _=>ih e.on (hw i o ho e he) (by grind)⟩) (h i)
 intro i hi;rw [qB] at hi;grind
theorem xI{f:Nat->List Nat}(hf:∀i,ops'[i]? =(ops[i]?).map (AA (f i))){tm:Array Value}(j:Nat):yielded ops' tm j=yielded ops tm j:=by
 unfold yielded;rw [hf j];cases ops[j]? <;> rfl
theorem Jq(hd:J2 ops ops'):∀(aL:Nat) {L:Array Bool} {a:Act} {w:VW},L.size=ops.size->fN M rd .any ops' Q aL L a w->fN M rd .any ops Q aL L a w:=by
 obtain⟨hs,hw,f,hf⟩:=hd;have hd:J2 ops ops':=⟨hs,hw,f,hf⟩
 have hnil':∀{L:Array Bool},Region.ready .any ops' L=[]->Region.ready .any ops L=[]:=λ{L} h=>by
  rw [eq_nil_iff_forall_not_mem] at h⊢;exact λi hi=>h i (vl hd hi)
 intro aL
 induction aL with
 |zero=>intro L a w _ h;exact⟨hnil' h.1,h.2⟩
 |succ aL ih=>
  intro L a w hL h;refine⟨λh0=>h.1 (Jg hd hL h0),λi hi=>?_⟩;have h2:=h.2 i (vl hd hi);unfold nV at h2⊢;rw [hf i] at h2;cases ho:ops[i]? with
  |none=>simp_all
  |some o=>
   rw [ho] at h2;simp only [Option.map_some] at h2
   have hw:Region.wanted (AA (f i) o) (yielded ops' a.tmps)=Region.wanted o (yielded ops a.tmps):=by
    unfold Region.wanted AA;cases hg:o.guard with
    |none=>simp
    |some g=>simp [xI hf]
   rw [hw] at h2;simp only;split at h2
   .rename_i hh;rw [if_pos hh];have h':o.wk M rd a w (fN M rd .any ops' Q aL (L.setIfInBounds i true)) Q:=h2;grind [oz]
   .rename_i hh;rw [if_neg hh];exact ih (by simp_all) h2
theorem pQ{id:Nat}{a:Act}{w:VW}(hr:zd ops ops')(hm:P.follows .mixedOrders=true)
 (h:∀v1,bu w v1->fN M rd .any ops' Q ops'.size (Array.replicate ops'.size false) a (v1.upd { v1.toWorld with drawn:=v1.drawn+1 })):(Code.region id ops true).wk M rd Q a w:=by
 obtain⟨ops1,hx,hs,p,q,h1,h2,h3⟩:=hr
 have hs1:ops1.size=ops.size:=by
  rcases hx with rfl |hx
  .rfl
  .exact hx.1
 have fin:(∀v1,bu w v1->fN M rd .any ops1 Q ops1.size (Array.replicate ops1.size false) a (v1.upd { v1.toWorld with drawn:=v1.drawn+1 }))->(Code.region id ops true).wk M rd Q a w:=λh=>by
  grind [pR,Jq]
 rw [hs] at h
 refine fin λv1 hv=>M7 h1 h2 h3 _ (λi=>?_) (h v1 hv)
 grind
end
@[reducible] def zZ(ps:List Nat)(i:Nat):Nat:=if i < ps.length then ps.idxOf i else i
@[reducible] def HZ(ps:List Nat)(j:Nat):Nat:=if j < ps.length then ps.getD j 0 else j
@[reducible] def zN(ps:List Nat)(l:List Oper):List Oper:=ps.map λi=>uJ (zZ ps) (l.getD i default)
def MX(ps:List Nat)(n:Nat):Bool:=ps.length == n && (List.range n).all λi=>blt (ps.idxOf i) n && ps.getD (ps.idxOf i) 0 == i && blt (ps.getD i 0) n && ps.idxOf (ps.getD i 0) == i
theorem Fg{ps:List Nat}{l:List Oper}(h:MX ps l.length=true):JJ l.toArray (zN ps l).toArray:=by
 unfold MX at h;simp only [Bool.and_eq_true,beq_iff_eq,List.all_eq_true,List.mem_range] at h;obtain⟨hl,h⟩:=h
 have h':∀i,i < ps.length->ps.idxOf i < ps.length/\ps.getD (ps.idxOf i) 0=i/\ps.getD i 0 < ps.length/\ps.idxOf (ps.getD i 0)=i:=λi hi=>by
  simp_all
 refine⟨by simp_all,zZ ps,HZ ps,λi=>?_,λj=>?_,λi=>?_⟩
 .unfold zZ HZ;by_cases hi:i < ps.length
  .simp_all
  grind
 .unfold zZ HZ;by_cases hj:j < ps.length
  .simp_all
  grind
 .simp only [List.getElem?_toArray];unfold zZ;by_cases hi:i < ps.length
  .rw [if_pos hi];obtain⟨a,b,_,_⟩:=h' i hi;have hi':i < l.length:=by omega
   unfold zN;rw [List.getElem?_map,List.getElem?_eq_getElem a,List.getElem?_eq_getElem hi',Option.map_some,Option.map_some];grind
  grind
theorem HG{ps:List Nat}{l:List Oper}(h:MX ps l.length=true):zd l.toArray (zN ps l).toArray:=⟨_,.inl rfl,Fg h⟩
@[reducible] def Vh(ds:List (List Nat))(l:List Oper):List Oper:=(List.range l.length).map λi=>AA (ds.getD i []) (l.getD i default)
structure DE where
 o:Oper
 d:Nat
 N:List (Operand×A)
 r:A
 u:Option (Nat×Bool)
 b:Bool
 E:Value->List D
@[reducible] def Hj(Δ:List D)(k:Nat):List D:=match Δ[k / 64 - 1]?,Δ[k % 64]? with |some d,some e=>if k / 64 - 1=k % 64 then [] else [d,e] |_,_=>[]
@[reducible] def kZ(Δ:List D):Option (Nat×Bool)->List D
 |none=>[]
 |some (k,x)=>match Δ[k]? with |some d=>[d] |none=>if x || blt k 64 then [] else Hj Δ k
@[reducible] def kE(Δ:List D):Option (Nat×Bool)->List D
 |some (k,false)=>kZ Δ (some (k,false))
 |_=>[]
structure DV(c:Cx)(ops:Array Oper)(Δ:List D)(e:DE):Prop where
 dst:e.o.dst=some e.d
 lt:e.d < c.N
 run:∀(S:FS) (w:VW) (a:Act) (K:Act->VW->Prop) (Q:Exit->Act->VW->Prop),(∀b,S b->b < w.heap.size)->bI S w a e.N->aS (kZ Δ e.u) S w->
  (∀S' w' v,bD (av (kZ Δ e.u)) S w S' w'->e.r.holds S' w' v->aS (kE Δ e.u++e.E v) S' w'->(∀b,av (kE Δ e.u++e.E v) b->av (kZ Δ e.u) b\/w.heap.size≤b)->K (a.put (some e.d) v) w')->
  if Region.wanted e.o (yielded ops a.tmps) then e.o.wk c.M c.rd a w K Q else K (a.put (some e.d) undef) w
def EV(c:Cx)(ops:Array Oper)(Δ:List D):Ga->List DE->Prop
 |_,[]=>True
 |Γ,e::es=>DV c ops Δ e/\ek Γ e.N/\EV c ops Δ ((e.d,e.r)::Γ) es
def CU:Ga->List DE->Ga
 |Γ,[]=>Γ
 |Γ,e::es=>CU ((e.d,e.r)::Γ) es
def nJ:List DE->List Value->Ga
 |e::es,v::vs=>if e.b then(e.d,.eq v)::nJ es vs else nJ es vs
 |_,_=>[]
def tj(e:DE)(k:Nat):Bool:=match e.u with |some (k',true)=>k' == k |_=>false
def pZ(es:List DE)(k:Nat):Bool:=es.any λe=>tj e k
def births:List DE->List Value->List D
 |e::es,v::vs=>e.E v++births es vs
 |_,_=>[]
def oS(Δ:List D)(es:List DE)(vs:List Value):List D:=keepFrom 0 Δ++births es vs
where
 keepFrom (k:Nat):List D->List D
 |[]=>[]
 |d::l=>if pZ es k then keepFrom (k+1) l else d::keepFrom (k+1) l
def fJ(o:Oper):List Nat:=(o.after.toList.filter (Region.binds .any)).map (·.on)
def qK(masks:List Nat):List Nat->Nat
 |[]=>0
 |j::js=>(1 <<< j |||masks.getD j 0) |||qK masks js
def kN:List Nat->List Oper->List Nat
 |masks,[]=>masks
 |masks,o::l=>kN (masks++[qK masks (fJ o)]) l
def fV:List (Operand×A)->List Nat
 |[]=>[]
 |(.tmp t,_)::l=>t::fV l
 |_::l=>fV l
def tA(M:List Nat)(es:List DE)(i:Nat)(e:DE):Bool:=
 es.zipIdx.all λ(e',j)=>j == i ||
  (e'.d != e.d && (!(fV e.N).contains e'.d || (if j < i then(M.getD i 0).testBit j else(M.getD j 0).testBit i)) &&
   (match e.u,e'.u with |some (k,x),some (k',x')=>(k != k' && blt k 64 && blt k' 64) || (!x && !x') |_,_=>true))
def MZ(full:List Oper)(es:List DE):Bool:=
 let M:=kN [] full
 (es.zipIdx.all λ(e,i)=>tA M es i e) && (full.zipIdx.all λ(o,i)=>(fJ o).all (· < i))
def chk(full:List Oper)(es:List DE):Bool:=
 let M:=kN [] full
 (es.zipIdx.all λ(e,i)=>tA M es i e) && (full.zipIdx.all λ(o,i)=>(fJ o).all (· < i)) &&
 ((List.range full.length).all λj=>j < es.length || (List.range j).all λi=>(M.getD j 0).testBit i)
section
variable {c:Cx}{full:List Oper}{Q:Exit->Act->VW->Prop}{Γ0 Γ:Ga}{Δ:List D}{acc:List DE}{o:Oper}{l:List Oper}{N:List (Operand×A)}{r:A}{d:Nat}{id:Nat}
def DR(c:Cx)(id:Nat)(full:List Oper)(Q:Exit->Act->VW->Prop)(Γ0:Ga)(Δ:List D)(acc:List DE)(l:List Oper)(Γ:Ga):Prop:=
 full=acc.map (·.o)++l->EV c full.toArray Δ Γ0 acc->Γ=CU Γ0 acc->∀ops,zd ops full.toArray->JC c (.region id ops true) Q Γ0 Δ
theorem EV.snoc{ops:Array Oper}{e:DE}:∀{acc:List DE} {Γ0:Ga},EV c ops Δ Γ0 acc->DV c ops Δ e->ek (CU Γ0 acc) e.N->EV c ops Δ Γ0 (acc++[e])
 |[],_,_,h,h'=>⟨h,h',trivial⟩
 |_::_,_,⟨h1,h2,h3⟩,h,h'=>⟨h1,h2,EV.snoc h3 h h'⟩
theorem FK{e:DE}(acc:List DE):∀{Γ0:Ga},CU Γ0 (acc++[e])=(e.d,e.r)::CU Γ0 acc:=by
 induction acc with
 |nil=>intro Γ0;rfl
 |cons x acc ih=>intro Γ0;exact ih
theorem DR.step{e:DE}(ho:e.o=o)(hv:DV c full.toArray Δ e)(hh:ek Γ e.N)(h:DR c id full Q Γ0 Δ (acc++[e]) l ((e.d,e.r)::Γ)):DR c id full Q Γ0 Δ acc (o::l) Γ:=by
 intro h1 h2 h3;subst h3;exact h (by simp_all) (EV.snoc h2 hv hh) (FK acc).symm
theorem ER(h:DR c id full Q Γ Δ [] full Γ):JC c (.region id full.toArray true) Q Γ Δ:=h rfl trivial rfl _ (zd.refl _)
theorem JV{l0:List Oper}(hr:zd l0.toArray full.toArray)(h:DR c id full Q Γ Δ [] full Γ):JC c (.region id l0.toArray true) Q Γ Δ:=h rfl trivial rfl _ hr
theorem EU{ops:Array Oper}(hg:o.guard=none)(hd:o.dst=some d)(hdN:blt d c.N=true)(ht:bB c.M o N [] (λ_:Unit=>(r,[]))):DV c ops Δ ⟨o,d,N,r,none,false,λ_=>[]⟩:=
 ⟨hd,blt_eq▸hdN,λS w a K Q hdm hN hO k=>by
  rw [if_pos (ag hg _)]
  exact ht.run c.rd S w a K Q hdm hN hO λ_ S' w' v h1 h2 h3 h4=>by grind⟩
theorem ET{ops:Array Oper}{e:D}(k:Nat)(hk:Δ[k]? =some e)(hg:o.guard=none)(hd:o.dst=some d)(hdN:blt d c.N=true)(ht:bB c.M o N [e] (λ_:Unit=>(r,[e]))):DV c ops Δ ⟨o,d,N,r,some (k,false),false,λ_=>[]⟩:=
 ⟨hd,blt_eq▸hdN,λS w a K Q hdm hN hO kk=>by
  rw [if_pos (ag hg _)]
  simp only [kZ,kE,hk,append_nil] at hO kk
  exact ht.run c.rd S w a K Q hdm hN hO λ_ S' w' v h1 h2 h3 h4=>by grind⟩
theorem NF{ops:Array Oper}{e e':D}(i j:Nat)(hi:Δ[i]? =some e)(hj:Δ[j]? =some e')(hl:(blt j 64 && i != j && ble Δ.length 64)=true)(hg:o.guard=none)(hd:o.dst=some d)(hdN:blt d c.N=true)(ht:bB c.M o N [e,e'] (λ_:Unit=>(r,[e,e']))):DV c ops Δ ⟨o,d,N,r,some (64 * (i+1)+j,false),false,λ_=>[]⟩:=by
 simp only [Bool.and_eq_true,blt_eq,bne_iff_ne,ble_eq] at hl
 have hu:kZ Δ (some (64 * (i+1)+j,false))=[e,e']:=by
  have h1:Δ[64 * (i+1)+j]? =none:=List.getElem?_eq_none (by omega);have h2:blt (64 * (i+1)+j) 64=false:=by rw [Bool.eq_false_iff];simp;omega
  grind
 exact⟨hd,blt_eq▸hdN,λS w a K Q hdm hN hO kk=>by
  rw [if_pos (ag hg _)];simp only [kE,hu,append_nil] at hO kk;exact ht.run c.rd S w a K Q hdm hN hO λ_ S' w' v h1 h2 h3 h4=>by grind⟩
theorem J5{ops:Array Oper}{e e':D}(k:Nat)(hk:Δ[k]? =some e)(hg:o.guard=none)(hd:o.dst=some d)(hdN:blt d c.N=true)(ht:bB c.M o N [e] (λ_:Unit=>(r,[e']))):DV c ops Δ ⟨o,d,N,r,some (k,true),false,λ_=>[e']⟩:=
 ⟨hd,blt_eq▸hdN,λS w a K Q hdm hN hO kk=>by
  rw [if_pos (ag hg _)]
  simp only [kZ,kE,hk,nil_append] at hO kk
  exact ht.run c.rd S w a K Q hdm hN hO λ_ S' w' v h1 h2 h3 h4=>by grind⟩
theorem J4{ops:Array Oper}{X:Type}{f:X->Value}{E:X->List D}(E':Value->List D)(hE:∀x,E' (f x)=E x)(hg:o.guard=none)(hd:o.dst=some d)(hdN:blt d c.N=true)(ht:bB c.M o N [] (λx=>(.eq (f x),E x))):
 DV c ops Δ ⟨o,d,N,.any,none,true,E'⟩:=
 ⟨hd,blt_eq▸hdN,λS w a K Q hdm hN hO k=>by
  rw [if_pos (ag hg _)]
  exact ht.run c.rd S w a K Q hdm hN hO λx S' w' v h1 h2 h3 h4=>by
   have e:v=f x:=h2
   subst e
   rw [hd]
   exact k S' w' _ h1 trivial (by simp_all) (by simp_all)⟩
theorem GA{ops:Array Oper}{X:Type}{f:X->Value}{e:D}{E:X->List D}(k:Nat)(hk:Δ[k]? =some e)(E':Value->List D)(hE:∀x,E' (f x)=E x)(hg:o.guard=none)(hd:o.dst=some d)(hdN:blt d c.N=true)
 (ht:bB c.M o N [e] (λx=>(.eq (f x),E x))):DV c ops Δ ⟨o,d,N,.any,some (k,true),true,E'⟩:=
 ⟨hd,blt_eq▸hdN,λS w a K Q hdm hN hO kk=>by
  rw [if_pos (ag hg _)]
  simp only [kZ,kE,hk] at hO kk
  exact ht.run c.rd S w a K Q hdm hN hO λx S' w' v h1 h2 h3 h4=>by
   have e:v=f x:=h2
   subst e
   rw [hd]
   exact kk S' w' _ h1 trivial (by simp_all) (by simp_all)⟩
theorem oh{ops:Array Oper}{j s:Nat}{g b:Bool}{oj:Oper}(hg:o.guard=some (j,g))(hj:ops[j]? =some oj)(hs:oj.dst=some s){a:Act}(h:a.tmps.getD s undef= .bool b):Region.wanted o (yielded ops a.tmps)=(b == g):=by
 have h8:yielded ops a.tmps j=some b:=by
  unfold yielded;simp only [hj,Option.bind_some,hs];rw [getD_eq_getD_getElem?] at h;grind [undef]
 simp_all [Region.wanted]
theorem Qw{ops:Array Oper}{j s:Nat}{g:Bool}{oj:Oper}(hg:o.guard=some (j,g))(hj:ops[j]? =some oj)(hs:oj.dst=some s)(hd:o.dst=some d)(hdN:blt d c.N=true)(ht:bB c.M o N [] (λ_:Unit=>(r,[]))):
 DV c ops Δ ⟨o,d,(.tmp s,.eq (.bool g))::N,r,none,false,λ_=>[]⟩:=
 ⟨hd,blt_eq▸hdN,λS w a K Q hdm hN hO k=>by
  have hb:a.tmps.getD s undef= .bool g:=hN.1
  rw [if_pos (by grind [oh])]
  exact ht.run c.rd S w a K Q hdm hN.2 hO λ_ S' w' v h1 h2 h3 h4=>by grind⟩
theorem Qv{ops:Array Oper}{e:D}(k:Nat)(hk:Δ[k]? =some e){j s:Nat}{g:Bool}{oj:Oper}(hg:o.guard=some (j,g))(hj:ops[j]? =some oj)(hs:oj.dst=some s)(hd:o.dst=some d)(hdN:blt d c.N=true)(ht:bB c.M o N [e] (λ_:Unit=>(r,[e]))):
 DV c ops Δ ⟨o,d,(.tmp s,.eq (.bool g))::N,r,some (k,false),false,λ_=>[]⟩:=
 ⟨hd,blt_eq▸hdN,λS w a K Q hdm hN hO kk=>by
  have hb:a.tmps.getD s undef= .bool g:=hN.1
  rw [if_pos (by grind [oh])]
  simp only [kZ,kE,hk,append_nil] at hO kk
  exact ht.run c.rd S w a K Q hdm hN.2 hO λ_ S' w' v h1 h2 h3 h4=>by grind⟩
theorem Qu{ops:Array Oper}{j s:Nat}{g b:Bool}{oj:Oper}(hg:o.guard=some (j,g))(hj:ops[j]? =some oj)(hs:oj.dst=some s)(hb:(b == g)=false)(hd:o.dst=some d)(hdN:blt d c.N=true):
 DV c ops Δ ⟨o,d,[(.tmp s,.eq (.bool b))],.eq undef,none,false,λ_=>[]⟩:=
 ⟨hd,blt_eq▸hdN,λS w a K Q hdm hN hO k=>by
  have hb':a.tmps.getD s undef= .bool b:=hN.1
  rw [if_neg (by grind [oh])]
  exact k S w undef (bD.refl hdm) rfl (by simp_all) (λb hb=>(cx (by simpa [kE] using hb)).elim)⟩
def lst(L:Array Bool)(j:Nat):Bool:=L.getD j false
def eG(L:Array Bool)(k:Nat):Nat->List DE->Bool
 |_,[]=>false
 |j,e::es=>(lst L j && tj e k) || eG L k (j+1) es
def dJ(p:Nat->Bool):Nat->List D->List D
 |_,[]=>[]
 |k,d::l=>if p k then d::dJ p (k+1) l else dJ p (k+1) l
def gq(L:Array Bool)(a:Act):Nat->List DE->List D
 |_,[]=>[]
 |j,e::es=>(if lst L j then e.E (a.tmps.getD e.d undef) else [])++gq L a (j+1) es
def vL(Δ:List D)(es:List DE)(L:Array Bool)(a:Act):List D:=dJ (λk=> !eG L k 0 es) 0 Δ++gq L a 0 es
theorem oN{p q:Nat->Bool}:∀{l:List D} {k:Nat},(∀j,p j=q j)->dJ p k l=dJ q k l
 |[],_,_=>rfl
 |d::l,k,h=>by simp only [dJ,h k,oN h]
theorem me{p:Nat->Bool}{d:D}:∀{l:List D} {i k:Nat},l[i]? =some d->p (k+i)=true->(dJ p k l).Perm (d::dJ (λj=>p j && j != k+i) k l)
 |[],_,_,h,_=>by simp at h
 |x::l,0,k,h,hp=>by
  simp at h
  subst h
  have e:dJ p (k+1) l=dJ (λj=>p j && j != k) (k+1) l:=by
   have:∀(l:List D) (m:Nat),k < m->dJ p m l=dJ (λj=>p j && j != k) m l:=by
    intro l
    induction l with
    |nil=>intro m _;rfl
    |cons y l ih=>
     intro m hm;have:(m != k)=true:=by simp;omega
     simp only [dJ,this,Bool.and_true,ih (m+1) (by omega)]
   simp_all
  simp_all [Nat.add_zero,dJ,if_true,bne_self_eq_false,Bool.and_false,Bool.false_eq_true,if_false]
 |x::l,i+1,k,h,hp=>by
  have ih:=me (l:=l) (i:=i) (k:=k+1) (by simpa using h) (by rw [<-hp];congr 1;omega);have e1:k+1+i=k+(i+1):=by omega
  rw [e1] at ih;have hne:(k != k+(i+1))=true:=by simp
  simp only [dJ,hne,Bool.and_true];split
  .exact(ih.cons x).trans (List.Perm.swap _ _ _)
  .exact ih
end
section
variable {L L':Array Bool}{a a':Act}{i:Nat}{e:DE}{v:Value}
theorem vo(hL:∀j,j≠i->lst L' j=lst L j):∀{es:List DE} {m:Nat},i < m->(∀(j:Nat) (e':DE),es[j]? =some e'->a'.tmps.getD e'.d undef=a.tmps.getD e'.d undef)->gq L' a' m es=gq L a m es
 |[],_,_,_=>rfl
 |x::es,m,hm,hs=>by
  simp only [gq,hL m (by omega),hs 0 x rfl]
  rw [vo hL (by omega) (λj e' h=>hs (j+1) e' (by simpa using h))]
theorem AO(hL:∀j,j≠i->lst L' j=lst L j)(hi:lst L i=false)(hi':lst L' i=true)(hv:a'.tmps.getD e.d undef=v):
 ∀{es:List DE} {m k:Nat},m+k=i->es[k]? =some e->(∀(j:Nat) (e':DE),es[j]? =some e'->m+j≠i->a'.tmps.getD e'.d undef=a.tmps.getD e'.d undef)->(gq L' a' m es).Perm (e.E v++gq L a m es)
 |[],_,_,_,h,_=>by simp at h
 |x::es,m,0,hm,h,hs=>by
  simp at h hm
  subst h hm
  simp only [gq,hi,hi',if_true,Bool.false_eq_true,if_false,nil_append,hv]
  rw [vo hL (by omega) (λj e' h=>hs (j+1) e' (by simpa using h) (by omega))]
 |x::es,m,k+1,hm,h,hs=>by
  have ih:=AO hL hi hi' hv (es:=es) (m:=m+1) (k:=k) (by omega) (by simpa using h) (λj e' h hj=>hs (j+1) e' (by simpa using h) (by omega))
  simp only [gq,hL m (by omega),hs 0 x rfl (by omega)]
  refine(List.Perm.append_left _ ih).trans ?_
  grind [List.append_assoc,List.Perm.append_right,perm_append_comm]
theorem wE(hL:∀j,j≠i->lst L' j=lst L j){k:Nat}:∀{es:List DE} {m:Nat},i < m->eG L' k m es=eG L k m es
 |[],_,_=>rfl
 |x::es,m,hm=>by simp only [eG,hL m (by omega),wE hL (es:=es) (m:=m+1) (by omega)]
theorem Dz(hL:∀j,j≠i->lst L' j=lst L j)(hi:lst L i=false)(hi':lst L' i=true){k:Nat}:∀{es:List DE} {m q:Nat},m+q=i->es[q]? =some e->eG L' k m es=(eG L k m es || tj e k)
 |[],_,_,_,h=>by simp at h
 |x::es,m,0,hm,h=>by
  simp at h hm
  subst h hm
  simp only [eG,hi,hi',Bool.true_and,Bool.false_and,Bool.false_or,wE hL (es:=es) (m:=m+1) (by omega)]
  grind
 |x::es,m,q+1,hm,h=>by
  simp only [eG,hL m (by omega),Dz hL hi hi' (k:=k) (es:=es) (m:=m+1) (q:=q) (by omega) (by simpa using h),Bool.or_assoc]
theorem k9{k:Nat}:∀{es:List DE} {m:Nat},(∀(j:Nat) (e':DE),es[j]? =some e'->lst L (m+j)=true->tj e' k=false)->eG L k m es=false
 |[],_,_=>rfl
 |x::es,m,h=>by
  simp only [eG]
  rw [k9 (es:=es) (m:=m+1) (λj e' he hl=>h (j+1) e' (by simp_all) (by grind))]
  have h0:=h 0 x rfl
  simp_all
theorem cX{L:Array Bool}{i j:Nat}(hi:i < L.size):lst (L.setIfInBounds i true) j=if i=j then true else lst L j:=by
 simp only [lst,getD_eq_getD_getElem?,getElem?_setIfInBounds];grind
def cnt(L:Array Bool):Nat->Nat
 |0=>0
 |t+1=>cnt L t+if lst L t then 0 else 1
theorem vn(hL:∀j,j≠i->lst L' j=lst L j):∀{t:Nat},t≤i->cnt L' t=cnt L t
 |0,_=>rfl
 |t+1,h=>by simp only [cnt,hL t (by omega),vn hL (t:=t) (by omega)]
theorem pA(hL:∀j,j≠i->lst L' j=lst L j)(hi:lst L i=false)(hi':lst L' i=true):∀{t:Nat},i < t->cnt L' t+1=cnt L t
 |0,h=>by omega
 |t+1,h=>by
  simp only [cnt]
  rcases Nat.lt_or_ge i t with hlt |hge
  .
   have:=pA hL hi hi' (t:=t) hlt
   grind
  .
   have e:i=t:=by omega
   subst e
   rw [vn hL (Nat.le_refl _),hi,hi']
   simp
theorem lG:∀{t:Nat},cnt L t=0->∀j,j < t->lst L j=true
 |0,_,_,h=>by omega
 |t+1,h0,j,h=>by
  simp only [cnt] at h0
  rcases Nat.lt_or_ge j t with hlt |hge
  .
   exact lG (t:=t) (by omega) j hlt
  grind
theorem pB:∀{t:Nat},cnt L t≠0->∃j,j < t/\lst L j=false/\∀k,k < j->lst L k=true
 |0,h=>absurd rfl h
 |t+1,h=>by
  by_cases h0:cnt L t=0
  .
   grind [lG,lst,cnt]
  .
   obtain⟨j,h1,h2,h3⟩:=pB h0
   grind
end
theorem jX{M:List Nat}{k:Nat}:∀{js:List Nat},(qK M js).testBit k=true->∃j∈js,k=j\/(M.getD j 0).testBit k=true
 |[],h=>by simp [qK] at h
 |j::js,h=>by
  simp only [qK,testBit_or,Bool.or_eq_true] at h
  rcases h with(h |h) |h
  .
   simp_all [mem_cons_self,one_shiftLeft,testBit_two_pow]
  .
   simp_all
  .
   obtain⟨j',h1,h2⟩:=jX h
   grind
theorem oV:∀{l:List Oper} {M:List Nat} {j:Nat},j < M.length->(kN M l)[j]? =M[j]?
 |[],_,_,_=>rfl
 |o::l,M,j,h=>by
  rw [kN,oV (by simp;omega),List.getElem?_append_left h]
theorem rT:∀{l:List Oper} {M:List Nat} {q:Nat} {o:Oper},l[q]? =some o->∃M',M'.length=M.length+q/\(∀j,j < M'.length->(kN M l)[j]? =M'[j]?)/\(kN M l)[M.length+q]? =some (qK M' (fJ o))
 |[],_,_,_,h=>by simp at h
 |o::l,M,0,o',h=>by
  simp at h
  subst h
  refine⟨M,rfl,λj hj=>oV hj,?_⟩
  simp_all [kN,Nat.add_zero,oV]
 |x::l,M,q+1,o,h=>by
  obtain⟨M',h1,h2,h3⟩:=rT (l:=l) (M:=M++[qK M (fJ x)]) (q:=q) (by simpa using h)
  grind [kN]
theorem rU{full:List Oper}{L:Array Bool}(hcl:∀j o,full[j]? =some o->lst L j=true->∀i∈fJ o,lst L i=true)(hlt:∀j o,full[j]? =some o->∀i∈fJ o,i < j):
 ∀(n j:Nat) (o:Oper),j≤n->full[j]? =some o->(∀i∈fJ o,lst L i=true)->∀k,((kN [] full).getD j 0).testBit k=true->lst L k=true:=by
 intro n
 induction n with
 |zero=>
  intro j o hj ho hp k hk;have:j=0:=by omega
  subst this;obtain⟨M',h1,h2,h3⟩:=rT (M:=[]) ho;simp only [length_nil,Nat.zero_add] at h3;grind [jX]
 |succ n ih=>
  intro j o hj ho hp k hk;obtain⟨M',h1,h2,h3⟩:=rT (M:=[]) ho;simp only [length_nil,Nat.zero_add] at h1 h3;rw [getD_eq_getElem?_getD,h3,Option.getD_some] at hk;obtain⟨i,hi,hk⟩:=jX hk;rcases hk with rfl |hk
  .exact hp k hi
  .have hij:=hlt j o ho i hi
   have hjl:j < full.length:=by
    grind
   obtain⟨oi,hoi⟩:∃oi,full[i]? =some oi:=⟨_,List.getElem?_eq_getElem (by omega)⟩;refine ih i oi (by omega) hoi (hcl i oi hoi (hp i hi)) k ?_;grind
theorem dw{full:List Oper}{L:Array Bool}(hs:L.size=full.length){i:Nat}:i∈Region.ready .any full.toArray L↔∃o,full[i]? =some o/\lst L i=false/\∀j∈fJ o,lst L j=true:=by
 rw [mem_ready];constructor
 .rintro⟨h1,o,h2,h3⟩;have h2':full[i]? =some o:=by simp_all
  have hi:i < L.size:=by
   grind
  refine⟨o,h2',?_,λj hj=>?_⟩
  .simp_all [lst,getD_eq_getD_getElem?,Array.getElem?_eq_getElem,Option.getD_some]
  .simp only [fJ,List.mem_map,List.mem_filter,mem_toList_iff] at hj;obtain⟨ed,⟨h4,h5⟩,rfl⟩:=hj;exact h3 ed h4 h5
 .rintro⟨o,h1,h2,h3⟩
  have hi:i < L.size:=by
   grind
  refine⟨?_,o,by simp_all,λed h4 h5=>h3 ed.on ?_⟩
  .simp_all [lst,getD_eq_getD_getElem?,Array.getElem?_eq_getElem,Option.getD_some]
  grind [fJ]
theorem mem_zipIdx{α:Type}{l:List α}{p:α×Nat->Bool}(h:l.zipIdx.all p=true){i:Nat}{x:α}(hx:l[i]? =some x):p (x,i)=true:=by
 grind
section
variable {c:Cx}{full:List Oper}{Q:Exit->Act->VW->Prop}{Γ0 Γ:Ga}{Δ:List D}{acc:List DE}{l:List Oper}{id:Nat}
theorem zA{P:Program}{M:Md P}{rd:Option Nat}(hlt:∀j o,full[j]? =some o->∀i∈fJ o,i < j):∀(l:List Oper) (j:Nat),full.drop j=l->(∀m,j≤m->m < full.length->∀i,i < m->((kN [] full).getD m 0).testBit i=true)->
 ∀(L:Array Bool),L.size=full.length->(∀i,i < j->i < full.length->lst L i=true)->(∀i,j≤i->lst L i=false)->∀(a:Act) (w:VW),E3 M rd full.toArray Q l a w->∀aL,l.length≤aL->fN M rd .any full.toArray Q aL L a w:=by
 intro l
 induction l with
 |nil=>
  intro j hd _ L hs h1 h2 a w hw aL _
  have hr:Region.ready .any full.toArray L=[]:=by
   rw [eq_nil_iff_forall_not_mem];grind [dw,Nat.lt_or_ge,List.getElem?_eq_none]
  cases aL with
  |zero=>exact⟨hr,hw⟩
  |succ n=>exact⟨λ_=>hw,by rw [hr];simp⟩
 |cons o l ih=>
  intro j hd hf L hs h1 h2 a w hw aL hfuel
  have hjl:j < full.length:=by
   grind
  rw [drop_eq_getElem_cons hjl] at hd;simp only [List.cons.injEq] at hd;obtain⟨hd1,hd2⟩:=hd;have ho:full[j]? =some o:=by simp_all
  have hcl:∀j o,full[j]? =some o->lst L j=true->∀i∈fJ o,lst L i=true:=λj' o' h3 h4 i hi=>by
   grind
  have hrj:j∈Region.ready .any full.toArray L:=(dw hs).2 ⟨o,ho,h2 j (Nat.le_refl _),λi hi=>h1 i (hlt j o ho i hi) (by grind)⟩;obtain⟨m,rfl⟩:∃m,aL=m+1:=⟨aL - 1,by grind⟩;refine⟨λh0=>(by simp_all),λi hi=>?_⟩;obtain⟨oi,h3,h4,h5⟩:=(dw hs).1 hi
  have hij:i=j:=by
   have hil:i < full.length:=by
    grind
   rcases Nat.lt_trichotomy i j with h |h |h
   .simp_all
   .exact h
   .have:=rU hcl hlt i i oi (Nat.le_refl _) h3 h5 j (hf i (by omega) hil j h);grind
  subst hij;have ho':full.toArray[i]? =some o:=by simp_all
  unfold nV;simp only [ho']
  have hnext:∀a' w',E3 M rd full.toArray Q l a' w'->fN M rd .any full.toArray Q m (L.setIfInBounds i true) a' w':=λa' w' h=>by
   have hsz:i < L.size:=by omega
   refine ih (i+1) hd2 (λm hm=>hf m (by omega)) _ (by grind) (λk hk hk2=>?_) (λk hk=>?_) a' w' h m (by grind)
   .rw [cX hsz];grind
   .rw [cX hsz,if_neg (by omega)];grind
  unfold E3 at hw;split
  .rename_i hwt;rw [if_pos hwt] at hw;exact oz hnext hw
  grind
structure vQ(c:Cx)(full:List Oper)(Γ0:Ga)(Δ:List D)(acc:List DE)(L:Array Bool)(a:Act)(w:VW):Prop where
 size:L.size=full.length
 past:∀j,acc.length≤j->lst L j=false
 closed:∀j o,full[j]? =some o->lst L j=true->∀i∈fJ o,lst L i=true
 defers:a.defers=c.dfs
 tmps:a.tmps.size=c.N
 ex:∃S:FS,bD c.X c.S0 c.w0 S w/\(∀b,av (vL Δ acc L a) b->c.X b\/c.w0.heap.size≤b)/\aS (vL Δ acc L a) S w/\
  (∀s r,lk Γ0 s=some r->(∀j (e:DE),acc[j]? =some e->lst L j=true->e.d≠s)->r.holds S w (a.tmps.getD s undef))/\
  (∀j (e:DE),acc[j]? =some e->lst L j=true->e.r.holds S w (a.tmps.getD e.d undef))
theorem EV.nth{ops:Array Oper}(acc:List DE):∀{Γ0:Ga} {i:Nat} {e:DE},EV c ops Δ Γ0 acc->acc[i]? =some e->DV c ops Δ e/\ek (CU Γ0 (acc.take i)) e.N:=by
 induction acc with
 |nil=>simp_all
 |cons x acc ih=>
  rintro Γ0 i e ⟨h1,h2,h3⟩ h;cases i with
  |zero=>simp at h;subst h;exact⟨h1,h2⟩
  |succ i=>exact ih h3 (by simpa using h)
theorem ui{s:Nat}{r:A}:∀{acc:List DE} {Γ0:Ga},lk (CU Γ0 acc) s=some r->(∃(j:Nat) (e:DE),acc[j]? =some e/\e.d=s/\e.r=r)\/(lk Γ0 s=some r/\∀(j:Nat) (e:DE),acc[j]? =some e->e.d≠s)
 |[],Γ0,h=>.inr ⟨h,λj e h=>by simp at h⟩
 |x::acc,Γ0,h=>by
  rcases ui (acc:=acc) h with⟨j,e,h1,h2⟩ |⟨h1,h2⟩
  .
   exact .inl ⟨j+1,e,by simp_all,h2⟩
  .
   simp only [lk] at h1
   split at h1
   .
    rename_i e;cases h1;exact .inl ⟨0,x,rfl,e,rfl⟩
   grind
theorem eL{S:FS}{w:VW}{a:Act}{Γ:Ga}:∀{N:List (Operand×A)},ek Γ N->(∀s r,s∈fV N->lk Γ s=some r->r.holds S w (a.tmps.getD s undef))->bI S w a N
 |[],_,_=>trivial
 |(.tmp t,r)::l,hh,h=>⟨h t r (by simp [fV]) hh.1,eL hh.2 λs r hs hl=>h s r (by simp [fV,hs]) hl⟩
 |(.const v,r)::l,hh,h=>⟨by rw [hh.1];rfl,eL hh.2 λs r hs hl=>h s r (by simp_all [fV]) hl⟩
 |(.func f,r)::l,hh,h=>⟨by rw [hh.1];rfl,eL hh.2 λs r hs hl=>h s r (by simp_all [fV]) hl⟩
 |(.global g,r)::l,hh,h=>⟨by rw [hh.1];rfl,eL hh.2 λs r hs hl=>h s r (by simp_all [fV]) hl⟩
theorem F7{L:Array Bool}{a:Act}{u:Option (Nat×Bool)}(hu:∀k x,u=some (k,x)->eG L k 0 acc=false/\(64≤k->x=false->∀k',eG L k' 0 acc=false)):∃rest,(vL Δ acc L a).Perm (kZ Δ u++rest)/\
 ∀L' a',(∀k,eG L' k 0 acc=(eG L k 0 acc || (match u with |some (k',true)=>k' == k |_=>false)))->∀B,(gq L' a' 0 acc).Perm (B++gq L a 0 acc)->(vL Δ acc L' a').Perm ((kE Δ u++B)++rest):=by
 have same:∀L',(∀k,eG L' k 0 acc=eG L k 0 acc)->dJ (λk=> !eG L' k 0 acc) 0 Δ=dJ (λk=> !eG L k 0 acc) 0 Δ:=λL' h=>oN λj=>by rw [h]
 have plain:∀{u:Option (Nat×Bool)},kZ Δ u=[]->kE Δ u=[]->(∀k,k < Δ.length->(match u with |some (k',true)=>k' == k |_=>false)=false)->
  ∃rest,(vL Δ acc L a).Perm (kZ Δ u++rest)/\∀L' a',(∀k,eG L' k 0 acc=(eG L k 0 acc || (match u with |some (k',true)=>k' == k |_=>false)))->∀B,(gq L' a' 0 acc).Perm (B++gq L a 0 acc)->(vL Δ acc L' a').Perm ((kE Δ u++B)++rest):=by
  intro u h1 h2 h3
  refine⟨vL Δ acc L a,by simp_all,λL' a' hL B hB=>?_⟩
  rw [h2,nil_append]
  have hk:dJ (λk=> !eG L' k 0 acc) 0 Δ=dJ (λk=> !eG L k 0 acc) 0 Δ:=by
   have:∀(l:List D) (m:Nat),m+l.length≤Δ.length->dJ (λk=> !eG L' k 0 acc) m l=dJ (λk=> !eG L k 0 acc) m l:=by
    intro l
    induction l with
    |nil=>intro m _;rfl
    |cons x l ih=>
     intro m hm;simp only [length_cons] at hm;simp only [dJ,hL m,h3 m (by omega),Bool.or_false,ih (m+1) (by omega)]
   simp_all
  unfold vL
  rw [hk]
  refine(List.Perm.append_left _ hB).trans ?_
  grind [List.append_assoc,List.Perm.append_right,perm_append_comm]
 rcases u with _ |⟨k,x⟩
 .
  exact plain rfl rfl λ_ _=>rfl
 .
  cases hk:Δ[k]? with
  |none=>
   have hge:Δ.length≤k:=by simp_all
   by_cases hz:(x || blt k 64)=true\/Hj Δ k=[]
   .have hu0:kZ Δ (some (k,x))=[]:=by
     grind
    refine plain hu0 (by grind) λk' hk'=>?_;grind
   .have hx:x=false/\64≤k:=by
     grind
    obtain⟨rfl,hk64⟩:=hx
    have hu1:kZ Δ (some (k,false))=Hj Δ k:=by
     grind
    have hall:=(hu k false rfl).2 hk64 rfl;have hz2:Hj Δ k≠[]:=λh=>hz (.inr h)
    obtain⟨d,e,h1,h2,hne,h3⟩:∃d e,Δ[k / 64 - 1]? =some d/\Δ[k % 64]? =some e/\k / 64 - 1≠k % 64/\Hj Δ k=[d,e]:=by
     grind
    have hsp:=me (p:=λk=> !eG L k 0 acc) (l:=Δ) (i:=k / 64 - 1) (k:=0) h1 (by simp [hall]);have hsq:=me (p:=λj=> !eG L j 0 acc && j != (0+(k / 64 - 1))) (l:=Δ) (i:=k % 64) (k:=0) h2 (by grind);have hpp:=hsp.trans (List.Perm.cons _ hsq);refine⟨dJ (λj=>(!eG L j 0 acc && j != (0+(k / 64 - 1))) && j != (0+k % 64)) 0 Δ++gq L a 0 acc,?_,λL' a' hL B hB=>?_⟩
    .grind [vL,List.Perm.append_right]
    .unfold vL;have:dJ (λk=> !eG L' k 0 acc) 0 Δ=dJ (λk=> !eG L k 0 acc) 0 Δ:=same L' λj=>by rw [hL];simp
     rw [this];simp only [kE,hu1,h3];refine((List.Perm.append_right _ hpp).trans (List.Perm.append_left _ hB)).trans ?_;simp only [cons_append,nil_append];refine List.Perm.cons _ (List.Perm.cons _ ?_);grind [List.append_assoc,List.Perm.append_right,perm_append_comm]
  |some d=>
   have h0:=(hu k x rfl).1;have hsp:=me (p:=λk=> !eG L k 0 acc) (l:=Δ) (i:=k) (k:=0) hk (by simp [h0]);simp only [Nat.zero_add] at hsp;refine⟨dJ (λj=> !eG L j 0 acc && j != k) 0 Δ++gq L a 0 acc,?_,λL' a' hL B hB=>?_⟩
   .unfold vL;simp only [kZ,hk];exact List.Perm.append_right _ hsp
   .unfold vL;cases x with
    |false=>
     have:dJ (λk=> !eG L' k 0 acc) 0 Δ=dJ (λk=> !eG L k 0 acc) 0 Δ:=same L' λj=>by rw [hL];simp
     rw [this];simp only [kE,kZ,hk];refine((List.Perm.append_right _ hsp).trans (List.Perm.append_left _ hB)).trans ?_;simp only [cons_append,nil_append];refine List.Perm.cons _ ?_;grind [List.append_assoc,List.Perm.append_right,perm_append_comm]
    |true=>
     have:dJ (λk=> !eG L' k 0 acc) 0 Δ=dJ (λj=> !eG L j 0 acc && j != k) 0 Δ:=oN λj=>by
      grind
     rw [this];simp only [kE,nil_append];refine(List.Perm.append_left _ hB).trans ?_;grind [List.append_assoc,List.Perm.append_right,perm_append_comm]
theorem vQ.step(hfull:full=acc.map (·.o)++l)(hDR:EV c full.toArray Δ Γ0 acc)(hck:MZ full acc=true){L:Array Bool}{a:Act}{w:VW}(h:vQ c full Γ0 Δ acc L a w){i:Nat}(hi:i < acc.length)(hri:i∈Region.ready .any full.toArray L):
 nV c.M c.rd full.toArray Q i (λa' w'=>vQ c full Γ0 Δ acc (L.setIfInBounds i true) a' w') a w:=by
 unfold MZ at hck
 simp only [Bool.and_eq_true] at hck
 obtain⟨hc1,hc2⟩:=hck
 have hlt:∀j o,full[j]? =some o->∀i∈fJ o,i < j:=λj o ho i hi=>by
  have:=mem_zipIdx hc2 ho;simp_all
 obtain⟨e,he⟩:∃e,acc[i]? =some e:=⟨_,List.getElem?_eq_getElem hi⟩
 obtain⟨hDV,hHas⟩:=EV.nth acc hDR he
 have hone:=mem_zipIdx hc1 he
 simp only [tA] at hone
 have hother:∀(j:Nat) (e':DE),acc[j]? =some e'->j≠i->e'.d≠e.d/\(e'.d∈fV e.N->if j < i then((kN [] full).getD i 0).testBit j=true else((kN [] full).getD j 0).testBit i=true)/\
  (∀k x k' x',e.u=some (k,x)->e'.u=some (k',x')->(k≠k'/\k < 64/\k' < 64)\/(x=false/\x'=false)):=λj e' hj hne=>by
  have:=mem_zipIdx hone hj
  simp only [Bool.or_eq_true,beq_iff_eq,hne,false_or,Bool.and_eq_true,bne_iff_ne,Bool.not_eq_true'] at this
  obtain⟨⟨h1,h2⟩,h3⟩:=this
  refine⟨h1,λhm=>?_,λk x k' x' hu hu'=>?_⟩
  .
   grind
  .
   rw [hu,hu'] at h3;simp only [Bool.or_eq_true,bne_iff_ne,Bool.and_eq_true,Bool.not_eq_true',blt_eq] at h3;grind
 obtain⟨oi,hoi,hli,hpi⟩:=(dw h.size).1 hri
 have hoe:oi=e.o:=by
  grind
 subst hoe
 have hiL:i < L.size:=by rw [h.size,hfull];simp;omega
 have hahead:=rU h.closed hlt i i e.o (Nat.le_refl _) hoi hpi
 obtain⟨S,h3,h4,h5,h6,h7⟩:=h.ex
 have hsetL:∀j,j≠i->lst (L.setIfInBounds i true) j=lst L j:=λj hj=>by rw [cX hiL,if_neg (Ne.symm hj)]
 have hsetI:lst (L.setIfInBounds i true) i=true:=by rw [cX hiL,if_pos rfl]
 have hnot:∀(j:Nat) (e':DE),acc[j]? =some e'->((kN [] full).getD j 0).testBit i=true->lst L j=false:=λj e' hj hb=>by
  cases hl:lst L j with
  |false=>rfl
  |true=>
   obtain⟨oj,hoj⟩:∃oj,full[j]? =some oj:=⟨_,List.getElem?_eq_getElem (by grind)⟩;have:=rU h.closed hlt j j oj (Nat.le_refl _) hoj (h.closed j oj hoj hl) i hb;grind
 have hneeds:bI S w a e.N:=eL hHas λs r hs hl=>by
  rcases ui hl with⟨j,e',hj,hd,hr⟩ |⟨h8,h9⟩
  .have hji:j < i:=by
    grind
   have hj':acc[j]? =some e':=by
    grind
   have hb:=(hother j e' hj' (by omega)).2.1 (by grind);rw [if_pos hji] at hb;have:=h7 j e' hj' (hahead j hb);rw [hd,hr] at this;exact this
  .refine h6 s r h8 λj e' hj hlj hds=>?_;rcases Nat.lt_trichotomy j i with hh |hh |hh
   .exact h9 j e' (by grind) hds
   .grind
   grind
 have hup:∀k x,e.u=some (k,x)->eG L k 0 acc=false/\(64≤k->x=false->∀k',eG L k' 0 acc=false):=λk x hu=>by
  refine⟨k9 λj e' hj hlj=>?_,λhk hx k'=>k9 λj e' hj hlj=>?_⟩
  all_goals
   simp only [Nat.zero_add] at hlj
   have hne:j≠i:=λhh=>by grind
   have h3:=(hother j e' hj hne).2.2
   unfold tj
   split
   .
    grind
   .
    rfl
 obtain⟨rest,hp1,hp2⟩:=F7 (Δ:=Δ) (acc:=acc) (L:=L) (a:=a) hup
 have hown:=h5.perm hp1
 have hownU:aS (kZ Δ e.u) S w:=hown.part
 have hgo:=hDV.run S w a (λa' w'=>vQ c full Γ0 Δ acc (L.setIfInBounds i true) a' w') Q h3.dom hneeds hownU λS' w' v hs hr ho hf=>by
  have hdl:e.d < a.tmps.size:=by rw [h.tmps];exact hDV.lt
  have hput:∀s,(a.put (some e.d) v).tmps.getD s undef=if e.d=s then v else a.tmps.getD s undef:=λs=>lE hdl
  have hbl:(gq (L.setIfInBounds i true) (a.put (some e.d) v) 0 acc).Perm (e.E v++gq L a 0 acc):=
   AO hsetL hli hsetI (by rw [hput,if_pos rfl]) (Nat.zero_add i) he λj e' hj hne=>by
    rw [hput,if_neg (Ne.symm (hother j e' hj (by omega)).1)]
  have hperm:=hp2 (L.setIfInBounds i true) (a.put (some e.d) v) (λk=>Dz hsetL hli hsetI (Nat.zero_add i) he) _ hbl;have hin:∀b,av (kZ Δ e.u) b->av (vL Δ acc L a) b:=λb ⟨d,hd,hb⟩=>⟨d,hp1.mem_iff.2 (List.mem_append.2 (.inl hd)),hb⟩;have hK:gr S w w':=λb hb=>hs.keep b (h3.dom b hb) (h5.sees b hb) (λhx=>(h5.own b (hin b hx)).1 hb);have hfr:=hown.frame h3.dom hs ho hf;refine⟨by simpa using h.size,λj hj=>by rw [hsetL j (by omega)];exact h.past j hj,λj o hj hlj k hk=>?_,h.defers,by simpa [Act.put] using h.tmps,S',h3.trans hs λb hb=>h4 b (hin b hb),λb hb=>?_,hfr.perm hperm.symm,λs r hl hno=>?_,λj e' hj hlj=>?_⟩
  .rw [cX hiL];split
   .rfl
   .rw [cX hiL] at hlj;split at hlj
    .rename_i hij;subst hij;have:o=e.o:=by grind
     subst this;exact hpi k hk
    .exact h.closed j o hj hlj k hk
  .rw [nc hperm] at hb;obtain⟨d,hd,hbd⟩:=hb;rcases List.mem_append.1 hd with hd |hd
   .rcases hf b ⟨d,hd,hbd⟩ with hh |hh
    .exact h4 b (hin b hh)
    .exact .inr (Nat.le_trans h3.size hh)
   .exact h4 b ⟨d,hp1.mem_iff.2 (List.mem_append.2 (.inr hd)),hbd⟩
  .rw [hput,if_neg (hno i e he hsetI)];exact A.mono hs.sub hK r (h6 s r hl λj e' hj hlj=>hno j e' hj (by rw [cX hiL];split <;> first |rfl |exact hlj))
  .rw [hput];by_cases hji:j=i
   .grind
   .rw [if_neg (Ne.symm (hother j e' hj hji).1)];exact A.mono hs.sub hK e'.r (h7 j e' hj (by rw [hsetL j hji] at hlj;exact hlj))
 have hoi':full.toArray[i]? =some e.o:=by simpa using hoi
 unfold nV
 simp only [hoi']
 split
 .
  grind
 .
  rename_i hw;rw [if_neg hw] at hgo;rw [hDV.dst];exact hgo
theorem St.drew{a:Act}{w v1:VW}(h:St c Γ Δ a w)(hr:bu w v1):St c Γ Δ a (v1.upd { v1.toWorld with drawn:=v1.drawn+1 }):=(h.rely hr).rely (bu.drawn v1 _)
theorem sX{s:Nat}{r:A}{a:Act}:∀{acc:List DE},lk (nJ acc (acc.map λe=>a.tmps.getD e.d undef)++Γ) s=some r->r= .eq (a.tmps.getD s undef)\/lk Γ s=some r
 |[],h=>.inr h
 |e::es,h=>by
  simp only [map_cons,nJ] at h
  split at h
  .
   simp only [cons_append,lk] at h
   split at h
   .
    simp_all
   .
    exact sX h
  .
   exact sX h
theorem vQ.start{a:Act}{w1:VW}(hst':St c Γ0 Δ a w1):vQ c full Γ0 Δ acc (Array.replicate full.toArray.size false) a w1:=by
 refine⟨by simp,λj _=>?_,λj o _ hj=>?_,hst'.defers,hst'.size,?_⟩
 .simp [lst,getD_eq_getD_getElem?,Array.getElem?_replicate];split <;> rfl
 .exfalso;simp [lst,getD_eq_getD_getElem?,Array.getElem?_replicate] at hj;grind
 .obtain⟨h1,h2,S,h3,h4,h5,h6⟩:=hst'
  have hz:∀j,lst (Array.replicate full.toArray.size false) j=false:=λj=>by
   simp [lst,getD_eq_getD_getElem?,Array.getElem?_replicate];split <;> rfl
  have hD:vL Δ acc (Array.replicate full.toArray.size false) a=Δ:=by
   unfold vL
   have e1:∀(es:List DE) (m:Nat),gq (Array.replicate full.toArray.size false) a m es=[]:=by
    intro es
    induction es with
    |nil=>intro m;rfl
    |cons x es ih=>simp_all [gq]
   have e2:∀(l:List D) (k:Nat),dJ (λk=> !eG (Array.replicate full.toArray.size false) k 0 acc) k l=l:=by
    intro l
    induction l with
    |nil=>intro k;rfl
    |cons x l ih=>
     intro k;have:eG (Array.replicate full.toArray.size false) k 0 acc=false:=k9 λj e' _ hl=>by simp_all
     simp_all [dJ,Bool.not_false,if_true]
   simp_all
  grind
theorem DR.fin(hck:chk full acc=true)(hm:c.P.follows .mixedOrders=true)(h:∀vs:List Value,vs.length=acc.length->JO c full.toArray l Q (nJ acc vs++Γ) (oS Δ acc vs)):DR c id full Q Γ0 Δ acc l Γ:=by
 intro hfull hDR hΓ ops hren a w hst;refine pQ hren hm λv1 hv=>?_;have hst':=hst.drew hv;generalize (v1.upd { v1.toWorld with drawn:=v1.drawn+1 })=w1 at hst'⊢
 have hck0:MZ full acc=true:=by
  unfold chk at hck;simp only [Bool.and_eq_true] at hck;exact Bool.and_eq_true_iff.2 ⟨hck.1.1,hck.1.2⟩
 have hck':=hck;unfold chk at hck';simp only [Bool.and_eq_true] at hck';obtain⟨⟨hc1,hc2⟩,hc3⟩:=hck'
 have hlt:∀j o,full[j]? =some o->∀i∈fJ o,i < j:=λj o ho i hi=>by
  have:=mem_zipIdx hc2 ho;simp_all
 have hforced:∀m,acc.length≤m->m < full.length->∀i,i < m->((kN [] full).getD m 0).testBit i=true:=λm hm1 hm2 i hi=>by
  rw [List.all_eq_true] at hc3;have:=hc3 m (List.mem_range.2 hm2);grind
 have hlen:full.length=acc.length+l.length:=by grind
 have full_up:∀L a w,vQ c full Γ0 Δ acc L a w->cnt L acc.length=0->∀aL,l.length≤aL->fN c.M c.rd .any full.toArray Q aL L a w:=by
  intro L a w hI h0 aL hf;have hall:=lG h0;refine zA hlt l acc.length (by grind) hforced L hI.size (λi hi _=>hall i hi) hI.past a w ?_ aL hf;refine h (acc.map λe=>a.tmps.getD e.d undef) (by simp) a w ?_;obtain⟨S,h3,h4,h5,h6,h7⟩:=hI.ex
  have hD:oS Δ acc (acc.map λe=>a.tmps.getD e.d undef)=vL Δ acc L a:=by
   unfold oS vL
   have e1:∀(es:List DE) (m:Nat),(∀j (e:DE),es[j]? =some e->lst L (m+j)=true)->births es (es.map λe=>a.tmps.getD e.d undef)=gq L a m es:=by
    intro es
    induction es with
    |nil=>intro m _;rfl
    |cons x es ih=>
     intro m hh;have:=hh 0 x rfl;simp only [Nat.add_zero] at this;simp only [map_cons,births,gq,this,if_true];rw [ih (m+1) λj e he=>by have:=hh (j+1) e (by grind);grind]
   have e2:∀(k:Nat) (es:List DE) (m:Nat),(∀j (e:DE),es[j]? =some e->lst L (m+j)=true)->eG L k m es=pZ es k:=by
    intro k es
    induction es with
    |nil=>intro m _;rfl
    |cons x es ih=>
     intro m hh;have:=hh 0 x rfl;simp only [Nat.add_zero] at this;simp only [eG,pZ,any_cons,this,Bool.true_and];rw [ih (m+1) λj e he=>by have:=hh (j+1) e (by grind);grind];rfl
   have hl:∀j (e:DE),acc[j]? =some e->lst L (0+j)=true:=λj e he=>by
    grind
   rw [e1 acc 0 hl];congr 1
   have:∀(l:List D) (k:Nat),oS.keepFrom acc k l=dJ (λk=> !eG L k 0 acc) k l:=by
    intro l
    induction l with
    |nil=>intro k;rfl
    |cons x l ih=>
     intro k;simp only [oS.keepFrom,dJ,e2 k acc 0 hl,ih];grind
   grind
  rw [hD];refine⟨hI.defers,hI.tmps,S,h3,h4,h5,λs r hl=>?_⟩;rcases sX hl with rfl |hl
  .rfl
  .rw [hΓ] at hl;rcases ui hl with⟨j,e,hj,hd,hr⟩ |⟨h8,h9⟩
   .grind
   grind
 have key:∀aL L a w,vQ c full Γ0 Δ acc L a w->cnt L acc.length+l.length≤aL->fN c.M c.rd .any full.toArray Q aL L a w:=by
  intro aL
  induction aL with
  |zero=>intro L a w hI hf;exact full_up L a w hI (by omega) 0 (by omega)
  |succ n ih=>
   intro L a w hI hf;by_cases h0:cnt L acc.length=0
   .grind
   .obtain⟨j,hj1,hj2,hj3⟩:=pB h0;obtain⟨oj,hoj⟩:∃oj,full[j]? =some oj:=⟨_,List.getElem?_eq_getElem (by omega)⟩;have hrj:j∈Region.ready .any full.toArray L:=(dw hI.size).2 ⟨oj,hoj,hj2,λi hi=>hj3 i (hlt j oj hoj i hi)⟩;refine⟨λhh=>(by grind),λi hi=>?_⟩;obtain⟨oi,hoi,hli,hpi⟩:=(dw hI.size).1 hi
    have hil:i < full.length:=by
     grind
    have hit:i < acc.length:=by
     rcases Nat.lt_or_ge i acc.length with h |h
     .exact h
     .have:=rU hI.closed hlt i i oi (Nat.le_refl _) hoi hpi j (hforced i h hil j (by omega));grind
    refine kR (λa' w' hI'=>ih _ a' w' hI' ?_) (vQ.step hfull hDR hck0 hI hit hi);have hiL:i < L.size:=by rw [hI.size];exact hil
    have:=pA (L:=L) (L':=L.setIfInBounds i true) (i:=i) (λj hj=>by rw [cX hiL,if_neg (Ne.symm hj)]) hli (by rw [cX hiL,if_pos rfl]) hit;omega
 refine key full.toArray.size _ a w1 ⟨by simp,λj _=>?_,λj o _ hj=>?_,hst'.defers,hst'.size,?_⟩ ?_
 .simp [lst,getD_eq_getD_getElem?,Array.getElem?_replicate];split <;> rfl
 .exfalso;simp [lst,getD_eq_getD_getElem?,Array.getElem?_replicate] at hj;grind
 .obtain⟨h1,h2,S,h3,h4,h5,h6⟩:=hst'
  have hz:∀j,lst (Array.replicate full.toArray.size false) j=false:=λj=>by
   simp [lst,getD_eq_getD_getElem?,Array.getElem?_replicate];split <;> rfl
  have hD:vL Δ acc (Array.replicate full.toArray.size false) a=Δ:=by
   unfold vL
   have e1:∀(es:List DE) (m:Nat),gq (Array.replicate full.toArray.size false) a m es=[]:=by
    intro es
    induction es with
    |nil=>intro m;rfl
    |cons x es ih=>grind [gq]
   have e2:∀(l:List D) (k:Nat),dJ (λk=> !eG (Array.replicate full.toArray.size false) k 0 acc) k l=l:=by
    intro l
    induction l with
    |nil=>intro k;rfl
    |cons x l ih=>
     intro k;have:eG (Array.replicate full.toArray.size false) k 0 acc=false:=k9 λj e' _ hl=>by grind
     simp only [dJ,this,ih (k+1),Bool.not_false,if_true]
   grind
  rw [hD];exact⟨S,h3,h4,h5,λs r hl _=>h6 s r hl,λj e hj hl=>by grind⟩
 .have:cnt (Array.replicate full.toArray.size false) acc.length≤acc.length:=by
   have:∀t,cnt (Array.replicate full.toArray.size false) t≤t:=by
    intro t
    induction t with
    |zero=>exact Nat.le_refl _
    |succ t ih=>grind [cnt]
   exact this _
  grind
end
section
variable {α β γ ρ:Type}{K:β->Option ρ}{r:ρ}
theorem aa{X:Option α}{f:α->Option β}(h:(X.bind f).bind K=some r):∃x,X=some x/\(f x).bind K=some r:=by
 cases X with
 |none=>cases h
 |some x=>simp_all
theorem fo{p:Prop}[Decidable p]{X Y:Option β}(hp:p)(h:(if p then X else Y).bind K=some r):X.bind K=some r:=by simp_all
theorem di{p:Prop}[Decidable p]{X Y:Option β}(hp:¬p)(h:(if p then X else Y).bind K=some r):Y.bind K=some r:=by simp_all
theorem vI{p:Prop}[Decidable p](h:decide p=true):p:=of_decide_eq_true h
theorem vJ{p:Prop}[Decidable p](h:decide p=false):¬p:=by simp_all
theorem QD{p:Prop}[Decidable p](h:(!decide p)=true):¬p:=by simp_all
theorem OH{b:Bool}(h:b=false):¬b=true:=by simp [h]
theorem zR{b:Bool}(h:(!b)=true):¬b=true:=by simp_all
theorem bp{X:Option ρ}(h:X=some r):X.bind some=some r:=by rw [h];rfl
def bE{ε:Type}(X:Option (Except ε α))(g:ε->Option β)(f:α->Option β):Option β:=match X with
 |none=>none
 |some (.error e)=>g e
 |some (.ok x)=>f x
def cM(p:Prop)[Decidable p]:Option Unit:=if p then some () else none
theorem au{p:Prop}[Decidable p]{u:Unit}(h:cM p=some u):p:=by
 simp_all [cM]
end
section
variable {c:Cx}{ops:Array Oper}{o:Oper}{l:List Oper}{Q:Exit->Act->VW->Prop}{Γ Γ':Ga}{Δ Δ' F:List D}{N:List (Operand×A)}{d:Nat}{X:Type}{r r':A}{C C':Code}
theorem aJ{α β ρ Z:Type}{Y:Option α}{f:α->Option β}{K:β->Option ρ}{q:ρ}(G:Z->α->Ga)(E:Z->α->List D)(h:(Y.bind f).bind K=some q)
 (h1:∀K':α->Option ρ,Y.bind K'=some q->JC c C (bQ (λa w=>∃z:Z×α,K' z.2=some q/\St c (G z.1 z.2) (E z.1 z.2) a w) Q) Γ Δ)
 (h2:∀z x,(f x).bind K=some q->JC c C' Q (G z x) (E z x)):JC c (.seq C C') Q Γ Δ:=
 JZ (Z:=Z×α) (λz=>G z.1 z.2) (λz=>E z.1 z.2) (λz=>(f z.2).bind K=some q) (h1 (λx=>(f x).bind K) (by
  grind)) λz h=>h2 z.1 z.2 h
theorem dU{α β ρ ε Z:Type}{Y:Option (Except ε α)}{g:ε->Option β}{f:α->Option β}{K:β->Option ρ}{q:ρ}(G:Z->α->Ga)(E:Z->α->List D)(p:ε->Prop)(h:(bE Y g f).bind K=some q)(hg:∀e,(g e).bind K=some q->p e)
 (h1:∀K':Except ε α->Option ρ,(∀e,K' (.error e)=some q->p e)->Y.bind K'=some q->JC c C (bQ (λa w=>∃z:Z×α,K' (.ok z.2)=some q/\St c (G z.1 z.2) (E z.1 z.2) a w) Q) Γ Δ)
 (h2:∀z x,(f x).bind K=some q->JC c C' Q (G z x) (E z x)):JC c (.seq C C') Q Γ Δ:=
 JZ (Z:=Z×α) (λz=>G z.1 z.2) (λz=>E z.1 z.2) (λz=>(f z.2).bind K=some q) (h1 (λ| .error e=>(g e).bind K | .ok x=>(f x).bind K) hg (by
  cases Y with
  |none=>cases h
  |some x=>cases x with
   |error e=>exact h
   |ok x=>exact h)) λz h=>h2 z.1 z.2 h
def fx(Δ:List D):List Nat->Option (List D)
 |[]=>some []
 |k::ks=>match Δ[k]?,fx Δ ks with
  |some d,some l=>some (d::l)
  |_,_=>none
theorem je{Δ:List D}:∀{ks:List Nat} {Δ':List D},fx Δ ks=some Δ'->∀d∈Δ',∃k∈ks,Δ[k]? =some d
 |[],_,h,d,hd=>by cases h;simp at hd
 |k::ks,_,h,d,hd=>by
  simp only [fx] at h
  split at h
  .
   rename_i d' l h1 h2
   cases h
   rcases mem_cons.1 hd with rfl |hd
   .
    simp_all
   .
    obtain⟨k',h3,h4⟩:=je h2 d hd
    grind
  .
   cases h
theorem rl{α:Type}{R:α->α->Prop}(hR:∀a b,R a b->R b a):∀{l:List α},l.Pairwise R->∀{i j:Nat} {a b:α},i≠j->l[i]? =some a->l[j]? =some b->R a b
 |[],_,i,_,_,_,_,h,_=>by simp at h
 |x::l,hp,i,j,a,b,hne,hi,hj=>by
  obtain⟨h1,h2⟩:=pairwise_cons.1 hp
  cases i with
  |zero=>
   grind
  |succ i=>
   cases j with
   |zero=>
    grind
   |succ j=>exact rl hR h2 (i:=i) (j:=j) (by omega) (by simp_all) (by simp_all)
theorem iW{Δ:List D}{R:D->D->Prop}(hR:∀a b,R a b->R b a)(hp:Δ.Pairwise R):∀{ks:List Nat} {Δ':List D},ks.Nodup->fx Δ ks=some Δ'->Δ'.Pairwise R
 |[],_,_,h=>by cases h;simp_all
 |k::ks,_,hn,h=>by
  simp only [fx] at h
  split at h
  .
   rename_i d' l h1 h2
   cases h
   obtain⟨hn1,hn2⟩:=nodup_cons.1 hn
   refine pairwise_cons.2 ⟨λd hd=>?_,iW hR hp hn2 h2⟩
   grind [je,rl]
  .
   cases h
theorem SE.fin(ks:List Nat)(hs:GH Γ' Γ)(hk:fx Δ ks=some Δ')(hn:ks.Nodup:=by decide):SE c Γ Δ Γ' Δ':=λa w ⟨h1,h2,S,h3,h4,h5,h6⟩=>by
 have hm:∀d∈Δ',d∈Δ:=λd hd=>by
  grind [je,List.mem_of_getElem?]
 exact⟨h1,h2,S,h3,λb ⟨d,hd,e⟩=>h4 b ⟨d,hm d hd,e⟩,h5.re ⟨λd hd=>h5.holds d (hm d hd),λb ⟨d,hd,e⟩=>h5.own b ⟨d,hm d hd,e⟩,iW (λ_ _ h b e e'=>h b e' e) h5.apart hn hk⟩ (λb ⟨d,hd,e⟩=>⟨d,hm d hd,e⟩) (λ_ h=>.inl h),λs r hl=>h6 s r (hs.lk hl)⟩
theorem cU{s:Nat}{b:Bool}(hl:lk Γ s=some (.eq (.bool b)))(h1:b=true->JO c ops l Q ((s,.eq (.bool true))::Γ) Δ)(h2:b=false->JO c ops l Q ((s,.eq (.bool false))::Γ) Δ):JO c ops l Q Γ Δ:=by
 have key:∀b':Bool,b=b'->∀a w,St c Γ Δ a w->St c ((s,.eq (.bool b'))::Γ) Δ a w:=λb' e a w ⟨g1,g2,S,g3,g4,g5,g6⟩=>⟨g1,g2,S,g3,g4,g5,λs' q hq=>by
  grind [lk]⟩
 intro a w st;cases b
 .exact h2 rfl a w (key _ rfl a w st)
 .exact h1 rfl a w (key _ rfl a w st)
theorem jA{v:Value}{T T':TypeId}{t:Ty}{dd:List t.den}{b off:Nat}{a0 a1:A}(ss:List Nat)(hh:pI Γ v ss)(hg:a0.get off 1 false=some (.eq v))(hs:a0.set off 1 false (.rep (.slice t) dd)=some a1):
 SE c Γ (.sl v T t dd:: .obj b T' a0::F) (sB Γ (.rep (.slice t) dd) ss) (.obj b T' a1::F):=λa w h=>by
 have k1:=jk (F:=.obj b T' a0::F) ss hh a w h
 have k2:=JH hg hs a w h
 obtain⟨h1,h2,S,h3,h4,h5,h6,h7⟩:=rP h
 obtain⟨_,_,S2,p3,p4,p5,p6⟩:=k2
 have hK:gr S2 w w:=λ_ _=>rfl
 have hK1:gr S w w:=λ_ _=>rfl
 obtain⟨cs,q1,q2⟩:=h5.holds _ (mem_cons_self ..)
 obtain⟨g1,g2⟩:=iK a0 q2 hg
 have l0:=a0.cells_length q2
 have gv:mk false ((cs.drop off).take 1)=v:=g1
 have hlt:off < cs.length:=by omega
 have hc:(cs.drop off).take 1=[v]:=by
  have e9:(cs.drop off).take 1=[cs[off]]:=by grind [drop_eq_getElem_cons]
  rw [e9] at gv⊢;have e10:cs[off]=v:=gv;rw [e10]
 obtain⟨xs,e1,e2⟩:=h7
 have e3:xs=[v]:=by
  have l1:=aN (.slice t) e1;match xs,l1 with
  |[u],_=>simp_all [mk]
 subst e3
 obtain⟨m1,_⟩:=lN a0 q2 (r:=.rep (.slice t) dd) (new:=[v]) e1 rfl hs
 have e4:cs.take off++[v]++cs.drop (off+[v].length)=cs:=by
  show cs.take off++[v]++cs.drop (off+1)=cs;rw [<-hc,<-take_add,take_append_drop]
 rw [e4] at m1
 refine⟨h1,h2,S,h3,λx ⟨e,he,hb⟩=>?_,h5.re ⟨λe he=>?_,λx ⟨e,he,hb⟩=>?_,?_⟩ (λx ⟨e,he,hb⟩=>by
  rcases mem_cons.1 he with rfl |he
  .exact⟨_,mem_cons_self ..,hb⟩
  .exact⟨e,mem_cons_of_mem _ he,hb⟩) (λ_ h=>.inl h),λs q hq=>?_⟩
 .
  grind
 .
  rcases mem_cons.1 he with rfl |he
  .exact⟨cs,q1,m1⟩
  .exact h5.holds e (mem_cons_of_mem _ he)
 .
  rcases mem_cons.1 he with rfl |he
  .exact h5.own x ⟨_,mem_cons_self ..,hb⟩
  .exact h5.own x ⟨e,mem_cons_of_mem _ he,hb⟩
 .
  have hp:=pairwise_cons.1 h5.apart;exact pairwise_cons.2 ⟨λe he=>hp.1 e he,hp.2⟩
 .
  rcases sW hq with⟨hs',rfl⟩ |hq
  .have:=h6 s _ (hh.mem hs');have e:a.tmps.getD s undef=v:=this;rw [e];exact⟨_,e1,rfl⟩
  grind
theorem bh{op:Op}{ty:TypeId}{pos:String}{af:Array Edge}(hdN:blt d c.N=true)(ht:bB c.M ⟨some d,op,ty,pos,af,none⟩ N [] (λ_:Unit=>(r,[])))(hh:ek Γ N)(h:JO c ops l Q ((d,r)::Γ) Δ):
 JO c ops (⟨some d,op,ty,pos,af,none⟩::l) Q Γ Δ:=by grind [Qq]
theorem dh{t:Nat}{ty:TypeId}{pos:String}{af:Array Edge}(hdN:blt d c.N=true)(hl:lk Γ t=some r)(h:JO c ops l Q ((d,r)::Γ) Δ):
 JO c ops (⟨some d,.move (.tmp t),ty,pos,af,none⟩::l) Q Γ Δ:=bh hdN (bL rfl) ⟨hl,trivial⟩ h
theorem fy{v:Value}{ty:TypeId}{pos:String}{af:Array Edge}(hdN:blt d c.N=true)(h:JO c ops l Q ((d,.eq v)::Γ) Δ):
 JO c ops (⟨some d,.move (.const v),ty,pos,af,none⟩::l) Q Γ Δ:=bh hdN (bL rfl) ⟨rfl,trivial⟩ h
theorem nU{t:Nat}{ty:TypeId}{pos:String}{af:Array Edge}(hdN:blt d c.N=true)(hl:lk Γ t=some r)(h:JO c ops l Q ((d,r)::Γ) Δ):
 JO c ops (⟨some d,.assign (.tmp t),ty,pos,af,none⟩::l) Q Γ Δ:=bh hdN (ru rfl) ⟨hl,trivial⟩ h
theorem tY{v:Value}{ty:TypeId}{pos:String}{af:Array Edge}(hdN:blt d c.N=true)(h:JO c ops l Q ((d,.eq v)::Γ) Δ):
 JO c ops (⟨some d,.assign (.const v),ty,pos,af,none⟩::l) Q Γ Δ:=bh hdN (ru rfl) ⟨rfl,trivial⟩ h
end
theorem OG{b:Bool}(h:b=true):b=true:=h
theorem FA{p:Prop}[Decidable p](h:(!decide p)=false):¬¬p:=by simp_all
theorem tL{b:Bool}(h:(!b)=false):¬¬b=true:=by simp_all
section
variable {c:Cx}{ops:Array Oper}{o:Oper}{l:List Oper}{Q:Exit->Act->VW->Prop}{Γ Γ' Γ0:Ga}{Δ Δ' F:List D}{N N':List (Operand×A)}{d:Nat}{X:Type}{r r':A}{C C':Code}{P:Program}{M:Md P}
theorem aH{α β ρ Z:Type}{K:β->Option ρ}{q:ρ}(G:Z->α->Ga)(E:Z->α->List D)(L:Nat->α->Option β)(n:Nat)(z:Z)(x:α)(h0:∀x,L 0 x=none)(h:(L n x).bind K=some q)(hs:SE c Γ Δ (G z x) (E z x))
 (round:∀n z x,(L (n+1) x).bind K=some q->JC c C (bQ (λa w=>∃z':Z×α,(L n z'.2).bind K=some q/\St c (G z'.1 z'.2) (E z'.1 z'.2) a w) Q) (G z x) (E z x)):JC c (.loop C) Q Γ Δ:=by
 refine NA (Z:=Z×α) (λz=>G z.1 z.2) (λz=>E z.1 z.2) (λn z=>(L n z.2).bind K=some q) n (z,x) h hs ?_
 rintro n ⟨z,x⟩ h
 cases n with
 |zero=>simp_all
 |succ n=>
  intro a w st;refine nj (λe a w q=>?_) (round n z x h a w st);cases e with
  |normal=>obtain⟨z',hp,hs⟩:=q;exact⟨(n,z'),⟨lt_succ_self n,hp⟩,hs⟩
  |_=>exact q
def AE(a a':A):Prop:=∀S w cs,a.cells S w cs->a'.cells S w cs
theorem AE.rfl{a:A}:AE a a:=λ_ _ _ h=>h
theorem AE.trans{a b e:A}(h:AE a b)(h':AE b e):AE a e:=λS w cs q=>h' S w cs (h S w cs q)
theorem AE.pair{a a' b b':A}(h:AE a a')(h':AE b b'):AE (.pair a b) (.pair a' b'):=λS w _ ⟨c1,c2,e,q1,q2⟩=>⟨c1,c2,e,h S w c1 q1,h' S w c2 q2⟩
theorem AE.agg{a a':A}(h:AE a a'):AE (.agg a) (.agg a'):=λS w cs q=>h S w cs q
theorem Bh{t u:Ty}{x:(Ty.pair t u).den}:AE (.rep (.pair t u) x) (.pair (.rep t x.1) (.rep u x.2)):=λ_ _ _ h=>h
theorem EX{t:Ty}{x:t.den}:AE (.rep (.agg t) x) (.agg (.rep t x)):=λ_ _ _ h=>h
theorem jD{a:A}{t:Ty}{x:t.den}(h:pX a t x):AE a (.rep t x):=λ_ _ _ q=>h.cells q
theorem AE.int{k:IntKind}{n:Int}:AE (.rep (.int k) n) (.eq (.int k n)):=λ_ _ _ h=>⟨h,Eq.refl _⟩
theorem AE.bool{b:Bool}:AE (.rep .bool b) (.eq (.bool b)):=λ_ _ _ h=>⟨h,Eq.refl _⟩
theorem AE.ptr{t:Ty}{x:t.den}:AE (.rep (.ptr t) x) (.at t x):=λ_ _ _ h=>h
theorem AE.val{v:Value}:AE (.rep .val v) (.eq v):=λ_ _ _ h=>h
theorem ib{b:Nat}{T:TypeId}{a a':A}(h:AE a a'):SE c Γ (.obj b T a::F) Γ (.obj b T a'::F):=λact w ⟨h1,h2,S,h3,h4,h5,h6⟩=>by
 have hm:∀e,e∈(.obj b T a'::F:List D)->∃e',e'∈(.obj b T a::F:List D)/\e'.foot=e.foot:=λe he=>by
  rcases mem_cons.1 he with e' |he
  .
   subst e';exact⟨_,mem_cons_self ..,Eq.refl _⟩
  grind
 refine⟨h1,h2,S,h3,λx ⟨e,he,hb⟩=>?_,h5.re ⟨λe he=>?_,λx ⟨e,he,hb⟩=>?_,?_⟩ (λx ⟨e,he,hb⟩=>by obtain⟨e',q1,q2⟩:=hm e he;exact⟨e',q1,q2.trans hb⟩) (λ_ h=>.inl h),h6⟩
 .
  obtain⟨e',q1,q2⟩:=hm e he
  exact h4 x ⟨e',q1,q2.trans hb⟩
 .
  rcases mem_cons.1 he with e' |he
  .
   subst e'
   obtain⟨cs,q1,q2⟩:=h5.holds _ (mem_cons_self ..)
   exact⟨cs,q1,h S w cs q2⟩
  .
   exact h5.holds e (mem_cons_of_mem _ he)
 .
  obtain⟨e',q1,q2⟩:=hm e he
  exact h5.own x ⟨e',q1,q2.trans hb⟩
 .
  have hp:=pairwise_cons.1 h5.apart
  exact pairwise_cons.2 ⟨λe he=>hp.1 e he,hp.2⟩
theorem cf{R:X->A×List D}(h:bB M o N' Δ R)(hN:∀S w a,bI S w a N->bI S w a N'):bB M o N Δ R:=⟨h.1,λro S w a next Q hd hn hO k=>h.2 ro S w a next Q hd (hN S w a hn) hO k⟩
theorem aK{S:FS}{w:World}{a:A}{t:Ty}{x:t.den}{v:Value}(h:pX a t x)(hs:a.stor)(hg:a.isAgg=t.isAgg)(hv:a.holds S w v):(GF t x).holds S w v:=h.holds hs hg hv
theorem lend{S:FS}{w:World}{u v:Value}{r:A}(h1:(A.eq v).holds S w u)(hv:r.holds S w v):r.holds S w u:=by
 have e:u=v:=h1;simp_all
theorem oR:∀d∈([]:List D),d.flat=true:=by simp_all
def NB:List DE->Prop
 |[]=>True
 |e::es=>(e.b=false/\∀v,e.E v=e.E undef)/\NB es
@[reducible] def ml:List DE->List D
 |[]=>[]
 |e::es=>e.E undef++ml es
theorem xp:∀{es:List DE} {vs:List Value},NB es->vs.length=es.length->births es vs=ml es
 |[],[],_,_=>rfl
 |e::es,v::vs,h,hl=>by
  simp only [births,ml,h.1.2 v]
  rw [xp h.2 (by simp_all)]
 |[],_::_,_,h=>by simp at h
 |_::_,[],_,h=>by simp at h
theorem xq:∀{es:List DE} {vs:List Value},NB es->nJ es vs=[]
 |[],_,_=>by simp [nJ]
 |e::es,[],h=>by simp [nJ]
 |e::es,v::vs,h=>by
  simp only [nJ,h.1.1,Bool.false_eq_true,if_false]
  exact xq h.2
theorem EW{full:List Oper}{acc:List DE}{id:Nat}(hn:NB acc)(hck:chk full acc=true)(hm:c.P.follows .mixedOrders=true)(h:JO c full.toArray l Q Γ (oS.keepFrom acc 0 Δ++ml acc)):DR c id full Q Γ0 Δ acc l Γ:=
 by simp_all [DR.fin,xq,nil_append,oS,xp]
section
variable {full:List Oper}{acc:List DE}{id:Nat}{e e':D}{j s:Nat}{g b m:Bool}{oj:Oper}
def NM:List DE->Prop
 |[]=>True
 |e::es=>((∀k,tj e k=false)/\e.E undef=[])/\NM es
theorem NB.snoc{x:DE}:∀{es:List DE},NB es->(x.b=false/\∀v,x.E v=x.E undef)->NB (es++[x])
 |[],_,h=>⟨h,trivial⟩
 |_::_,⟨h1,h2⟩,h=>⟨h1,NB.snoc h2 h⟩
theorem NM.snoc{x:DE}:∀{es:List DE},NM es->((∀k,tj x k=false)/\x.E undef=[])->NM (es++[x])
 |[],_,h=>⟨h,trivial⟩
 |_::_,⟨h1,h2⟩,h=>⟨h1,NM.snoc h2 h⟩
theorem xF:∀{es:List DE},NM es->ml es=[]
 |[],_=>rfl
 |e::es,⟨h1,h2⟩=>by simp only [ml,h1.2,xF h2,append_nil]
theorem EN:∀{es:List DE} {k:Nat},NM es->pZ es k=false
 |[],_,_=>rfl
 |e::es,k,⟨h1,h2⟩=>by
  have:=EN (k:=k) h2
  unfold pZ at this⊢
  simp_all
theorem NM.keep{es:List DE}(h:NM es):∀{Δ:List D} {k:Nat},oS.keepFrom es k Δ=Δ
 |[],_=>rfl
 |d::Δ,k=>by
  unfold oS.keepFrom
  rw [EN h,if_neg (by simp),NM.keep h]
def DN(c:Cx)(id:Nat)(full:List Oper)(Q:Exit->Act->VW->Prop)(Γ0:Ga)(Δ:List D)(acc:List DE)(l:List Oper)(Γ:Ga)(m:Bool):Prop:=
 NB acc->(m=true->NM acc)->DR c id full Q Γ0 Δ acc l Γ
theorem cN(h:DN c id full Q Γ Δ [] full Γ true):JC c (.region id full.toArray true) Q Γ Δ:=ER (h trivial λ_=>trivial)
theorem Ds{m:Bool}(hck:chk full acc=true)(hm:c.P.follows .mixedOrders=true)(h:JO c full.toArray l Q Γ Δ)(ht:m=true:=by rfl):DN c id full Q Γ0 Δ acc l Γ m:=
 λh1 h2=>EW h1 hck hm (by simp_all [NM.keep,xF,append_nil])
theorem NJ{m:Bool}(hck:chk full acc=true)(hm:c.P.follows .mixedOrders=true)(h:JO c full.toArray l Q Γ (oS.keepFrom acc 0 Δ++ml acc)):DN c id full Q Γ0 Δ acc l Γ m:=
 λh1 _=>EW h1 hck hm h
theorem gh(hg:o.guard=none)(hd:o.dst=some d)(hdN:blt d c.N=true)(ht:bB c.M o N [] (λ_:Unit=>(r,[])))(hh:ek Γ N)
 (h:DN c id full Q Γ0 Δ (acc++[⟨o,d,N,r,none,false,λ_=>[]⟩]) l ((d,r)::Γ) m):DN c id full Q Γ0 Δ acc (o::l) Γ m:=
 λh1 h2=>DR.step rfl (EU hg hd hdN ht) hh (h (h1.snoc ⟨rfl,λ_=>rfl⟩) λe=>(h2 e).snoc ⟨λ_=>rfl,rfl⟩)
theorem yV(k:Nat)(hk:Δ[k]? =some e)(hg:o.guard=none)(hd:o.dst=some d)(hdN:blt d c.N=true)(ht:bB c.M o N [e] (λ_:Unit=>(r,[e])))(hh:ek Γ N)
 (h:DN c id full Q Γ0 Δ (acc++[⟨o,d,N,r,some (k,false),false,λ_=>[]⟩]) l ((d,r)::Γ) m):DN c id full Q Γ0 Δ acc (o::l) Γ m:=
 λh1 h2=>DR.step rfl (ET k hk hg hd hdN ht) hh (h (h1.snoc ⟨rfl,λ_=>rfl⟩) λe=>(h2 e).snoc ⟨λ_=>rfl,rfl⟩)
theorem Qx(i j:Nat)(hi:Δ[i]? =some e)(hj:Δ[j]? =some e')(hl:(blt j 64 && i != j && ble Δ.length 64)=true)(hg:o.guard=none)(hd:o.dst=some d)(hdN:blt d c.N=true)(ht:bB c.M o N [e,e'] (λ_:Unit=>(r,[e,e'])))(hh:ek Γ N)
 (h:DN c id full Q Γ0 Δ (acc++[⟨o,d,N,r,some (64 * (i+1)+j,false),false,λ_=>[]⟩]) l ((d,r)::Γ) m):DN c id full Q Γ0 Δ acc (o::l) Γ m:=
 λh1 h2=>DR.step rfl (NF i j hi hj hl hg hd hdN ht) hh (h (h1.snoc ⟨rfl,λ_=>rfl⟩) λe=>(h2 e).snoc ⟨λ_=>rfl,rfl⟩)
theorem yU(k:Nat)(hk:Δ[k]? =some e)(hg:o.guard=none)(hd:o.dst=some d)(hdN:blt d c.N=true)(ht:bB c.M o N [e] (λ_:Unit=>(r,[e'])))(hh:ek Γ N)
 (h:DN c id full Q Γ0 Δ (acc++[⟨o,d,N,r,some (k,true),false,λ_=>[e']⟩]) l ((d,r)::Γ) false):DN c id full Q Γ0 Δ acc (o::l) Γ m:=
 λh1 _=>DR.step rfl (J5 k hk hg hd hdN ht) hh (h (h1.snoc ⟨rfl,λ_=>rfl⟩) λe=>nomatch e)
theorem ee(hg:o.guard=some (j,g))(hj:full.toArray[j]? =some oj)(hs:oj.dst=some s)(hd:o.dst=some d)(hdN:blt d c.N=true)(ht:bB c.M o N [] (λ_:Unit=>(r,[])))(hh:ek Γ ((.tmp s,.eq (.bool g))::N))
 (h:DN c id full Q Γ0 Δ (acc++[⟨o,d,(.tmp s,.eq (.bool g))::N,r,none,false,λ_=>[]⟩]) l ((d,r)::Γ) m):DN c id full Q Γ0 Δ acc (o::l) Γ m:=
 λh1 h2=>DR.step rfl (Qw hg hj hs hd hdN ht) hh (h (h1.snoc ⟨rfl,λ_=>rfl⟩) λe=>(h2 e).snoc ⟨λ_=>rfl,rfl⟩)
theorem kQ(k:Nat)(hk:Δ[k]? =some e)(hg:o.guard=some (j,g))(hj:full.toArray[j]? =some oj)(hs:oj.dst=some s)(hd:o.dst=some d)(hdN:blt d c.N=true)(ht:bB c.M o N [e] (λ_:Unit=>(r,[e])))(hh:ek Γ ((.tmp s,.eq (.bool g))::N))
 (h:DN c id full Q Γ0 Δ (acc++[⟨o,d,(.tmp s,.eq (.bool g))::N,r,some (k,false),false,λ_=>[]⟩]) l ((d,r)::Γ) m):DN c id full Q Γ0 Δ acc (o::l) Γ m:=
 λh1 h2=>DR.step rfl (Qv k hk hg hj hs hd hdN ht) hh (h (h1.snoc ⟨rfl,λ_=>rfl⟩) λe=>(h2 e).snoc ⟨λ_=>rfl,rfl⟩)
theorem NH(hg:o.guard=some (j,g))(hj:full.toArray[j]? =some oj)(hs:oj.dst=some s)(hl:lk Γ s=some (.eq (.bool b)))(hb:(b == g)=false)(hd:o.dst=some d)(hdN:blt d c.N=true)
 (h:DN c id full Q Γ0 Δ (acc++[⟨o,d,[(.tmp s,.eq (.bool b))],.eq undef,none,false,λ_=>[]⟩]) l ((d,.eq undef)::Γ) m):DN c id full Q Γ0 Δ acc (o::l) Γ m:=
 λh1 h2=>DR.step rfl (Qu hg hj hs hb hd hdN) ⟨hl,trivial⟩ (h (h1.snoc ⟨rfl,λ_=>rfl⟩) λe=>(h2 e).snoc ⟨λ_=>rfl,rfl⟩)
theorem yW(hg:o.guard=none)(hd:o.dst=some d)(hdN:blt d c.N=true)(ht:bB c.M o N [] (λ_:Unit=>(.eq (.bool b),[])))(hh:ek Γ N)
 (h1:b=true->DN c id full Q Γ0 Δ (acc++[⟨o,d,N,.eq (.bool true),none,false,λ_=>[]⟩]) l ((d,.eq (.bool true))::Γ) m)
 (h2:b=false->DN c id full Q Γ0 Δ (acc++[⟨o,d,N,.eq (.bool false),none,false,λ_=>[]⟩]) l ((d,.eq (.bool false))::Γ) m):DN c id full Q Γ0 Δ acc (o::l) Γ m:=by
 cases b
 .
  grind [gh]
 grind [gh]
end
theorem L0{α:Type}{l:List α}{i:Int}{x:α}(h:aG l i=some x):l≠[]:=by
 rintro rfl;have:=(cP h).2.2;simp at this
theorem Ot{T:TypeId}{t:Ty}{d:t.den}{z0:Value}(h:(P.info? T).map (·.zero)=some (some z0))(hr:∀S w,rd S w t d z0.cells.toList):∀i z,P.info? T=some i->i.zero=some z->∀S w,rd S w t d z.cells.toList:=by
 grind
def Ol:List (Nat×Operand×A)->Prop
 |[]=>True
 |p::ps=>p.2.2.stor/\Ol ps
theorem jM:∀{ps:List (Nat×Operand×A)},Ol ps->∀p∈ps,p.2.2.stor
 |p::ps,h,q,hq=>by
  rcases mem_cons.1 hq with e |hq
  .
   rw [e];exact h.1
  .
   exact jM h.2 q hq
def td(a b:Int):Int:=if a < b then b else a
def IR(a b:Int):Int:=if b < a then b else a
end
@[reducible] def rR:(t:Ty)->t.den->List Value
 | .int k,n=>[.int k n]
 | .bool,b=>[.bool b]
 | .pair a b,x=>rR a x.1++rR b x.2
 | .agg t,x=>rR t x
 |_,_=>[]
@[reducible] def Ty.plain:Ty->Bool
 | .int _=>true
 | .bool=>true
 | .pair a b=>a.plain && b.plain
 | .agg t=>t.plain
 |_=>false
theorem uK{S:FS}{w:World}(t:Ty):∀{x:t.den} {cs:List Value},t.plain=true->rd S w t x cs->cs=rR t x:=by
 induction t with
 |int k=>intro x cs _ h;exact h
 |bool=>intro x cs _ h;exact h
 |pair a b iha ihb=>
  rintro x cs hp ⟨c1,c2,rfl,h1,h2⟩;grind
 |agg t ih=>intro x cs hp h;exact ih hp h
 |_=>simp_all
theorem Jb(t:Ty):∀(x:t.den),t.plain=true->(rR t x).all uQ=true:=by
 induction t with
 |int k=>intro x _;rfl
 |bool=>intro x _;rfl
 |pair a b iha ihb=>
  grind
 |agg t ih=>grind
 |_=>simp_all
theorem Lt{S:FS}{w:World}{t:Ty}{p:t.den}{v:Value}(hag:t.isAgg=true)(hp:t.plain=true)(h:(A.rep t p).holds S w v):kU v=true:=by
 obtain⟨c,h1,e⟩:=h;rw [uK t hp h1] at e;subst e;simp only [mk,hag,↓reduceIte];show(rR t p).toArray.toList.all uQ=true;grind [Jb]
theorem It{P:Program}{o:Oper}{x y:Operand}{T T':TypeId}{t:Ty}{p q:t.den}{b:BinOp}{S S':FS}{w w':World}{ρ:Operand->Value}(ho:o.op= .binOp b T x y T')(hag:t.isAgg=true)(hp:t.plain=true)(h1:(A.rep t p).holds S w (ρ x))(h2:(A.rep t q).holds S' w' (ρ y)):Ns P (execOp ρ o):=
 by grind [uh,uW,Lt]
structure ND(P:Program)(T:TypeId)(t:Ty):Prop where
 plain:t.plain=true
 guard:P.eqGuardType P.depth T=false
 eql:∀(w:World) (x y:t.den),∃r:Bool,(Op.equalIn 10000 T (.agg (rR t x).toArray) (.agg (rR t y).toArray)).run P w= .ok r w/\(r=true↔x=y)
section
variable {P:Program}{M:Md P}{o:Oper}{x y z:Operand}{T T' e:TypeId}{r r':A}{t u:Ty}
theorem Pj{p q:t.den}[Decidable (p=q)](ho:o.op= .binOp .eql T x y T')(h:ND P T t)(hag:t.isAgg=true):bB M o [(x,.rep t p),(y,.rep t q)] [] (λ_:Unit=>(.eq (.bool (decide (p=q))),[])):=
 bB.val0 (hns:=λ_ _ a hN=>It ho hag h.plain hN.1 hN.2.1) λS w a hN=>by
  obtain⟨c1,h1,e1⟩:=hN.1
  obtain⟨c2,h2,e2⟩:=hN.2.1
  have h1:=uK t h.plain h1
  have h2:=uK t h.plain h2
  subst h1 h2
  obtain⟨b,g1,g2⟩:=h.eql w p q
  have e1':a.eval x= .agg (rR t p).toArray:=by simp_all [mk]
  have e2':a.eval y= .agg (rR t q).toArray:=by simp_all [mk]
  refine⟨.bool b,by simp only [execOp,ho,e1',e2',Sem.run_bind,run_eqGuard_agg w _ _ _ _ _ _ h.guard,run_eql_struct,g1,Result.andThen_ok,Sem.run_pure],?_⟩
  show Value.bool b=_
  grind
theorem Pe{p q:t.den}[Decidable (p=q)](ho:o.op= .binOp .neq T x y T')(h:ND P T t)(hag:t.isAgg=true):bB M o [(x,.rep t p),(y,.rep t q)] [] (λ_:Unit=>(.eq (.bool (!decide (p=q))),[])):=
 bB.val0 (hns:=λ_ _ a hN=>It ho hag h.plain hN.1 hN.2.1) λS w a hN=>by
  obtain⟨c1,h1,e1⟩:=hN.1
  obtain⟨c2,h2,e2⟩:=hN.2.1
  have h1:=uK t h.plain h1
  have h2:=uK t h.plain h2
  subst h1 h2
  obtain⟨b,g1,g2⟩:=h.eql w p q
  have e1':a.eval x= .agg (rR t p).toArray:=by simp_all [mk]
  have e2':a.eval y= .agg (rR t q).toArray:=by simp_all [mk]
  refine⟨.bool (!b),by simp only [execOp,ho,e1',e2',Sem.run_bind,run_eqGuard_agg w _ _ _ _ _ _ h.guard,run_neq_struct,g1,Result.andThen_ok,Sem.run_pure],?_⟩
  show Value.bool (!b)=_
  grind
theorem H6{k:IntKind}{n m:Int}{c:Call}{ts:Array TypeId}(ho:o.op= .call c)(hc:c={ callee:=.builtin .max,args:= #[x,y],argTypes:=ts }):
 bB M o [(x,.eq (.int k n)),(y,.eq (.int k m))] [] (λ_:Unit=>(.eq (.int k (td n m)),[])):=
 .val0 λS w a h=>by
  have e1:a.eval x= .int k n:=h.1
  have e2:a.eval y= .int k m:=h.2.1
  refine⟨.int k (td n m),?_,rfl⟩
  simp_all [run_max_int2,execOp,resolve,invoke,builtin,td]
theorem Rb{k:IntKind}{n m:Int}{c:Call}{ts:Array TypeId}(ho:o.op= .call c)(hc:c={ callee:=.builtin .min,args:= #[x,y],argTypes:=ts }):
 bB M o [(x,.eq (.int k n)),(y,.eq (.int k m))] [] (λ_:Unit=>(.eq (.int k (IR n m)),[])):=
 .val0 λS w a h=>by
  have e1:a.eval x= .int k n:=h.1
  have e2:a.eval y= .int k m:=h.2.1
  refine⟨.int k (IR n m),?_,rfl⟩
  simp_all [run_min_int2,execOp,resolve,invoke,builtin,IR]
def yZ(P:Program)(T:TypeId)(places:Array (Nat×Nat)):Prop:=∃fs:Array Field,P.underlying T=some (.struct fs)/\∀w,(fs.mapM λf=>(do pure (f.offset,<-sizeOf f.type):Sem (Nat×Nat))).run P w= .ok places w
theorem eo{places:Array (Nat×Nat)}{zv:Value}{a0 a1:A}(ps:List (Nat×Operand×A))(ho:o.op= .build T (ps.map λp=>(p.1,p.2.1)).toArray)(hT:yZ P T places)
 (hz:∀w,(zeroValue T).run P w= .ok zv w) (ha:∀S w,a0.cells S w zv.cells.toList) (hs:∀p∈ps,p.2.2.stor) (hf:xk places a0 ps=some a1):bB M o (ps.map (·.2)) [] (λ_:Unit=>(.agg a1,[])):=by
 obtain⟨fs,h1,h2⟩:=hT
 exact Lm ps ho h1 h2 hz ha hs hf
theorem wZ{n m:Nat}{k:Nat}(hn:n=k)(h:ble (n * m) 16777216=true):k * m≤16777216:=by
 simp_all
theorem bf{bytes n:Nat}(ps:List (Operand×A))(l:List t.den)(ho:o.op= .buildSlice T n (ps.zipIdx.map λp=>(p.2,p.1.1)).toArray)(hn:n=ps.length)(hT:pN P T e t.cells bytes)(he:yT t ps l)
 (hb:ble (n * t.cells) 16777216=true) (hl:l.length=ps.length):bB M o ps [] (λ_:Unit=>(.rep (.slice t) l,[])):=by grind [Re,wZ]
theorem lu{bytes n:Nat}(ps:List (Operand×A))(l:List t.den)(ho:o.op= .buildSlice T n (ps.zipIdx.map λp=>(p.2,p.1.1)).toArray)(hn:n=ps.length)(hT:pN P T e t.cells bytes)(he:yT t ps l)
 (hb:ble (n * t.cells) 16777216=true) (hl:l.length=ps.length):bB M o ps [] (λv:Value=>(.eq v,[.sl v e t l])):=by grind [Fp,wZ]
theorem ko{α:Type}{R:α->List Value->Prop}{m:Nat}(hR:∀x cs,R x cs->cs.length=m):∀{l:List α} {cs:List Value} {i:Nat} {x':α} {new:List Value},dA R l cs->i < l.length->R x' new->
 dA R (l.set i x') (cs.take (i * m)++new++cs.drop (i * m+m))
 |[],_,i,_,_,_,hi,_=>by simp at hi
 |x0::l,_,i,x',new,⟨c1,c2,rfl,h1,h2⟩,hi,hx=>by
  have l1:=hR _ _ h1
  cases i with
  |zero=>
   rw [Nat.zero_mul,take_zero,nil_append,Nat.zero_add,drop_append,drop_eq_nil_of_le (by omega),nil_append,l1,Nat.sub_self,drop_zero]
   exact⟨new,c2,rfl,hx,h2⟩
  |succ i=>
   have ih:=ko hR h2 (i:=i) (by simp_all) hx
   refine⟨c1,_,?_,h1,ih⟩
   have e1:(i+1) * m=c1.length+i * m:=by grind
   rw [e1,take_append,take_of_length_le (by omega),Nat.add_sub_cancel_left,List.append_assoc,List.append_assoc,List.append_assoc,
    show c1.length+i * m+m=c1.length+(i * m+m) by omega,drop_append,drop_eq_nil_of_le (by omega),Nat.add_sub_cancel_left,nil_append]
theorem nv{b off n N k:Nat}{i:Int}{g:Bool}{T0:TypeId}{a0:A}{l:List t.den}{d:t.den}(ho:o.op= .load T x)(ht:eu P T n g)(hg:g=false->n=1)(hget:a0.get off (N * t.cells) true=some (.rep (.arr N t) l))
 (hn:t.cells=n) (hag:t.isAgg=g) (hk:k=off+i.toNat * t.cells) (hl:aG l i=some d):
 bB M o [(x,.eq (.pointer (some ⟨b,k,none⟩)))] [.obj b T0 a0] (λ_:Unit=>(GF t d,[.obj b T0 a0])):=
 .val1 λS w a h hs=>by
  have e:a.eval x= .pointer (some ⟨b,k,none⟩):=h.1
  obtain⟨cs,h1,h2⟩:=hs
  have l0:=a0.cells_length h2
  obtain⟨h3,h4⟩:=iK a0 h2 hget
  subst hn hk
  obtain⟨cs',⟨q1,q2⟩,q3⟩:=h3
  have q4:(cs.drop off).take (N * t.cells)=cs':=by simp_all [mk]
  subst q4
  obtain⟨g0,g1,g2⟩:=cP hl
  obtain⟨r1,r2⟩:=jq (λ_ _ h=>aN t h) q2 g2
  have hi:i.toNat < N:=by omega
  have hle:i.toNat * t.cells+t.cells≤N * t.cells:=by
   grind
  have r3:((cs.drop off).drop (i.toNat * t.cells)).take t.cells=(((cs.drop off).take (N * t.cells)).drop (i.toNat * t.cells)).take t.cells:=by
   grind [drop_take,Nat.min_eq_left]
  rw [<-r3,drop_drop] at r1;have hr:=fZ ht hg h1 (off:=off+i.toNat * t.cells) (by grind);rw [<-hag] at hr;refine⟨_,?_,ju r1⟩;simp_all [execOp,Instr.loadAt,Instr.sureAddr]
theorem gU{b off n N k:Nat}{i:Int}{g:Bool}{T0:TypeId}{a0 a1:A}{l:List t.den}{d:t.den}(ho:o.op= .store T x y)(ht:eu P T n g)(he:pX r t d)(hs:r.stor)(hget:a0.get off (N * t.cells) true=some (.rep (.arr N t) l))
 (hn:t.cells=n) (hk:k=off+i.toNat * t.cells) (h0:0≤i) (hi:i < N) (hset:a0.set off (N * t.cells) true (.rep (.arr N t) (l.set i.toNat d))=some a1):
 bB M o [(x,.eq (.pointer (some ⟨b,k,none⟩))),(y,r)] [.obj b T0 a0] (λ_:Unit=>(.eq undef,[.obj b T0 a1])):=by
 refine vP.T ⟨by grind [nd],λS w a next hd hN hO kk=>?_⟩ (λ_ _ a _ _=>iC (by grind [sP]) a.eval) (λd hd=>by first |(simp at hd;done) |(simp at hd;subst hd;trivial))
 subst hn hk
 have e1:a.eval x= .pointer (some ⟨b,off+i.toNat * t.cells,none⟩):=hN.1
 obtain⟨p1,p2,_⟩:=eF hN.2.1 hs
 have p3:=he.cells p1
 have l3:=aN t p3
 obtain⟨cs,h3,h4⟩:=hO.holds _ (by simp:D.obj b T0 a0∈[D.obj b T0 a0])
 obtain⟨hnb,hbs⟩:=hO.own b (jW.2 rfl)
 have l0:=a0.cells_length h4
 obtain⟨g1,g2⟩:=iK a0 h4 hget
 obtain⟨cs',⟨q1,q2⟩,q3⟩:=g1
 have q4:(cs.drop off).take (N * t.cells)=cs':=by grind [mk]
 subst q4
 have hi':i.toNat < N:=by omega
 have hle:i.toNat * t.cells+t.cells≤N * t.cells:=by
  rw [<-succ_mul];exact mul_le_mul_right _ hi'
 have hrow:=ko (λ_ _ h=>aN t h) q2 (i:=i.toNat) (by omega) p3
 have hlen:(((cs.drop off).take (N * t.cells)).take (i.toNat * t.cells)++(a.eval y).cells.toList++((cs.drop off).take (N * t.cells)).drop (i.toNat * t.cells+t.cells)).length=N * t.cells:=by
  simp only [length_append,length_take,length_drop];omega
 obtain⟨s1,s2⟩:=lN a0 h4 (r:=.rep (.arr N t) (l.set i.toNat d)) ⟨by grind,hrow⟩ hlen hset
 have hcs:cs.take off++(((cs.drop off).take (N * t.cells)).take (i.toNat * t.cells)++(a.eval y).cells.toList++((cs.drop off).take (N * t.cells)).drop (i.toNat * t.cells+t.cells))++cs.drop (off+N * t.cells)=
  cs.take (off+i.toNat * t.cells)++(a.eval y).cells.toList++cs.drop (off+i.toNat * t.cells+t.cells):=by
  rw [take_take,Nat.min_eq_left (by omega),take_add,drop_take,drop_drop]
  have e5:cs.drop (off+i.toNat * t.cells+t.cells)=(cs.drop (off+(i.toNat * t.cells+t.cells))).take (N * t.cells - (i.toNat * t.cells+t.cells))++cs.drop (off+N * t.cells):=by
   rw [<-Nat.add_assoc];conv=>lhs;rw [<-take_append_drop (N * t.cells - (i.toNat * t.cells+t.cells)) (cs.drop (off+i.toNat * t.cells+t.cells))]
   rw [drop_drop];congr 2;omega
  grind
 rw [hcs] at s1
 have hst:=ll P b T0 (off+i.toNat * t.cells) (a.eval y).cells.toList 0 w cs.toArray h3 (λv hv=>o9 r p1 v hv) (by grind)
 have hsz:(a.eval y).cells.size=t.cells:=by omega
 have hr:(execOp a.eval o).run P w= .ok .skip { w with heap:=w.heap.setIfInBounds b (.cells (cs.take (off+i.toNat * t.cells)++(a.eval y).cells.toList++cs.drop (off+i.toNat * t.cells+t.cells)).toArray T0 (0,0)) }:=by
  simp only [Nat.add_zero,l3] at hst;simp [execOp,ho,Instr.storeAt,e1,Instr.sureAddr,storeVar,ht.size,hsz,hst]
 rw [hr]
 have hK:gr S w { w with heap:=w.heap.setIfInBounds b (.cells (cs.take (off+i.toNat * t.cells)++(a.eval y).cells.toList++cs.drop (off+i.toNat * t.cells+t.cells)).toArray T0 (0,0)) }:=λb' hb'=>by
  grind [getElem?_setIfInBounds_ne]
 refine kk () S _ _ (qY hd (jW.2 rfl) _) rfl (gk ⟨_,by simp [hbs],A.cells_mono (λ_ h=>h) hK a1 s1⟩ ?_) (λb' hb'=>.inl ?_)
 .
  grind [D.foot,Option.some.injEq]
 grind [jW]
inductive Ko:(t:Ty)->t.den->(off n:Nat)->(u:Ty)->u.den->t.den->Prop
 |whole {t:Ty} {x y:t.den}:Ko t x 0 t.cells t y y
 |left {a b u:Ty} {x:(Ty.pair a b).den} {off n:Nat} {y:u.den} {x':a.den} (h:Ko a x.1 off n u y x'):Ko (.pair a b) x off n u y (x',x.2)
 |right {a b u:Ty} {x:(Ty.pair a b).den} {off k n:Nat} {y:u.den} {x':b.den} (h:Ko b x.2 off n u y x') (hk:k=a.cells+off):Ko (.pair a b) x k n u y (x.1,x')
 |agg {t u:Ty} {x:(Ty.agg t).den} {off n:Nat} {y:u.den} {x':t.den} (h:Ko t x off n u y x'):Ko (.agg t) x off n u y x'
theorem Ko.spec{S:FS}{w:World}{t u:Ty}{x x':t.den}{off n:Nat}{y:u.den}(h:Ko t x off n u y x'):∀{cs new:List Value},rd S w t x cs->rd S w u y new->rd S w t x' (cs.take off++new++cs.drop (off+n))/\off+n≤t.cells/\n=u.cells:=by
 induction h with
 | @whole t x y=>
  intro cs new h1 h2;have l1:=aN t h1;grind
 | @left a b u x off n y x' _ ih=>
  rintro cs new ⟨c1,c2,rfl,h1,h2⟩ h3;obtain⟨q1,q2,q3⟩:=ih h1 h3;have l1:=aN a h1;refine⟨⟨_,c2,?_,q1,h2⟩,by grind,q3⟩;rw [take_append_of_le_length (by omega),drop_append_of_le_length (by omega)];simp_all
 | @right a b u x off k n y x' _ hk ih=>
  rintro cs new ⟨c1,c2,rfl,h1,h2⟩ h3;obtain⟨q1,q2,q3⟩:=ih h2 h3;have l1:=aN a h1;refine⟨⟨c1,_,?_,h1,q1⟩,by grind,q3⟩
  rw [hk,<-l1,take_append,take_of_length_le (by omega),Nat.add_sub_cancel_left,List.append_assoc,List.append_assoc,List.append_assoc,show c1.length+off+n=c1.length+(off+n) by omega,
   drop_append,drop_eq_nil_of_le (by omega),Nat.add_sub_cancel_left,nil_append]
 |agg _ ih=>intro cs new h1 h2;exact ih h1 h2
theorem OU{α:Type}(C V:List α)(p off n m L:Nat)(hV:V.length=n)(h1:off+n≤m)(h2:p+m≤L)(h3:L≤C.length):
 (C.take (p+off)++V++C.drop (p+off+n)).take L=(C.take L).take p++((((C.take L).drop p).take m).take off++V++(((C.take L).drop p).take m).drop (off+n))++(C.take L).drop (p+m):=by
 have e1:(C.take L).take p=C.take p:=by grind
 have e2:(((C.take L).drop p).take m).take off=(C.drop p).take off:=by
  grind [Nat.min_eq_left,drop_take]
 have e3:(((C.take L).drop p).take m).drop (off+n)=(C.drop (p+(off+n))).take (m - (off+n)):=by
  grind [drop_take,drop_drop,Nat.min_eq_left]
 have e4:(C.take L).drop (p+m)=(C.drop (p+m)).take (L - (p+m)):=by rw [drop_take]
 rw [e1,e2,e3,e4]
 have e5:C.take (p+off)=C.take p++(C.drop p).take off:=take_add
 have e6:(C.drop (p+(off+n))).take (m - (off+n))++(C.drop (p+m)).take (L - (p+m))=(C.drop (p+off+n)).take (L - (p+off+n)):=by
  have:L - (p+off+n)=(m - (off+n))+(L - (p+m)):=by omega
  simp_all [take_add,drop_drop,Nat.add_assoc]
 rw [take_append,take_of_length_le (by grind),e5]
 grind
theorem uR{v:Value}{TE:TypeId}{u:Ty}{l:List t.den}{k i off n:Nat}{g:Bool}{d d':t.den}{z:u.den}(ho:o.op= .store T x y)(ht:eu P T n g)(hk:k=i * t.cells+off)(hl:l[i]? =some d)(he:pX r u z)(hs:r.stor)(hu:Ko t d off n u z d'):
 bB M o [(x,.eq (mj v k)),(y,r)] [.sl v TE t l] (λ_:Unit=>(.eq undef,[.sl v TE t (l.set i d')])):=by
 refine vP.T ⟨by grind [nd],λS w a next hd hN hO kk=>?_⟩ (λ_ _ a _ _=>iC (by grind [sP]) a.eval) (λd hd=>by first |(simp at hd;done) |(simp at hd;subst hd;trivial))
 have e1:a.eval x=mj v k:=hN.1
 obtain⟨p1,p2,_⟩:=eF hN.2.1 hs
 have p3:=he.cells p1
 have l3:=aN u p3
 have hi:i < l.length:=by
  grind
 rcases hO.holds _ (by simp:D.sl v TE t l∈[D.sl v TE t l]) with⟨rfl,rfl⟩ |⟨b,cap,c,rfl,q1,q1',q2,q3,q4⟩
 .
  simp at hi
 have hfoot:∀b',av [D.sl (.slice (some ⟨b,0,none⟩) l.length cap) TE t l] b'↔b'=b:=λb'=>by
  rw [iv];simp [D.foot,Value.ownBlock,eq_comm]
 obtain⟨hnb,hbs⟩:=hO.own b ((hfoot b).2 rfl)
 obtain⟨r1,r2⟩:=jq (λ_ _ h=>aN t h) q4 hl
 obtain⟨u1,u2,u3⟩:=hu.spec r1 p3
 have hrow:=ko (λ_ _ h=>aN t h) q4 hi u1
 have hle:i * t.cells+t.cells≤l.length * t.cells:=by
  grind
 have hcap:l.length * t.cells≤c.size:=by grind [mul_le_mul_right]
 have lc:c.toList.length=c.size:=length_toList
 have hc:c=c.toList.toArray:=(toArray_toList).symm
 rw [hc] at q2
 have hst:=ll P b TE k (a.eval y).cells.toList 0 w c.toList.toArray q2 (λv hv=>o9 r p1 v hv) (by grind)
 have hsz:(a.eval y).cells.size=n:=by grind
 have hr:(execOp a.eval o).run P w= .ok .skip { w with heap:=w.heap.setIfInBounds b (.cells (c.toList.take k++(a.eval y).cells.toList++c.toList.drop (k+n)).toArray TE (0,0)) }:=by
  have e1':a.eval x= .pointer (some ⟨b,k,none⟩):=by grind [mj]
  have l4:(a.eval y).cells.toList.length=n:=by omega
  simp only [Nat.add_zero,l4] at hst;simp only [execOp,ho,Instr.storeAt,e1',Instr.sureAddr,storeVar,Sem.run_bind,Sem.run_pure,ht.size,Result.andThen_ok,hsz,ne_eq,not_true,if_false];simpa using congrArg (λr:Result Unit=>r.andThen λ_ w'=>.ok Next.skip w') hst
 rw [hr]
 generalize hw':({ w with heap:=w.heap.setIfInBounds b (.cells (c.toList.take k++(a.eval y).cells.toList++c.toList.drop (k+n)).toArray TE (0,0)) }:World)=w'
 have hK:gr S w w':=λb' hb'=>by
  grind
 have hstep:j6 (av [D.sl (.slice (some ⟨b,0,none⟩) l.length cap) TE t l]) S w S w':=by
  grind [qY]
 refine kk () S _ _ hstep rfl (gk (.inr ⟨b,cap,(c.toList.take k++(a.eval y).cells.toList++c.toList.drop (k+n)).toArray,by grind,by grind,q1',by grind,?_,?_⟩) ?_) (λb' hb'=>.inl ?_)
 .
  simp only [size_toArray,length_append,length_take,length_drop];omega
 .
  rw [length_set,toList_toArray]
  have e6:(c.toList.take k++(a.eval y).cells.toList++c.toList.drop (k+n)).take (l.length * t.cells)=
   (c.toList.take (l.length * t.cells)).take (i * t.cells)++((((c.toList.take (l.length * t.cells)).drop (i * t.cells)).take t.cells).take off++(a.eval y).cells.toList++(((c.toList.take (l.length * t.cells)).drop (i * t.cells)).take t.cells).drop (off+n))++(c.toList.take (l.length * t.cells)).drop (i * t.cells+t.cells):=by
   subst hk
   exact OU _ _ _ _ _ _ _ (by omega) u2 hle (by omega)
  grind [cH,dS]
 .
  intro b' hb';have:b'=b:=by simpa [D.foot,Value.ownBlock,eq_comm] using hb'
  grind
 .
  rw [iv] at hb';have:b'=b:=by simpa [D.foot,Value.ownBlock,eq_comm] using hb'
  grind
theorem mg{α:Type}{l:List α}{i:Int}{x:α}(h:aG l i=some x):i.toNat < l.length:=by
 obtain⟨h0,h1,_⟩:=cP h;omega
theorem fO{v:Value}{TE:TypeId}{l:List t.den}{k i n:Nat}{g:Bool}{d':t.den}(ho:o.op= .store T x y)(ht:eu P T n g)(hk:k=i * t.cells)(hi:i < l.length)(hn:t.cells=n)(he:pX r t d')(hs:r.stor):
 bB M o [(x,.eq (mj v k)),(y,r)] [.sl v TE t l] (λ_:Unit=>(.eq undef,[.sl v TE t (l.set i d')])):=by
 subst hn
 exact uR (off:=0) ho ht hk (List.getElem?_eq_getElem hi) he hs .whole
end
section
variable {c:Cx}{full:List Oper}{Q:Exit->Act->VW->Prop}{Γ0 Γ Γt:Ga}{Δ Δr Δt F:List D}{acc:List DE}{l:List Oper}{id:Nat}{must:List Bool}{T:List Nat}{vs:List Value}{k:Nat}
def Fl(Δ Δr:List D):List DE->List Bool->Prop
 |[],_=>True
 |e::es,ms=>((ms.headD false=true/\(e.b=true->e.r= .any))\/(e.b=false/\(∀v,e.E v=[])/\(e.u=none\/∃k d,e.u=some (k,false)/\Δ[k]? =some d/\d∈Δr)))/\Fl Δ Δr es ms.tail
theorem Fl.nth:∀{acc:List DE} {must:List Bool} {i:Nat} {e:DE},Fl Δ Δr acc must->acc[i]? =some e->must.getD i false=false->e.b=false/\(∀v,e.E v=[])/\(e.u=none\/∃k d,e.u=some (k,false)/\Δ[k]? =some d/\d∈Δr)
 |[],_,_,_,_,h,_=>by simp at h
 |x::acc,must,0,e,h,he,hm=>by
  simp at he
  subst he
  rcases h.1 with h1 |h1
  .
   cases must <;> simp at h1 hm
   simp_all
  .
   exact h1
 |x::acc,must,i+1,e,h,he,hm=>by
  refine Fl.nth (acc:=acc) (must:=must.tail) (i:=i) h.2 (by simp_all) ?_
  simp_all
def C0(full:List Oper)(es:List DE)(must:List Bool)(T:List Nat):Bool:=
 let M:=kN [] full
 (es.zipIdx.all λ(e,i)=>tA M es i e) && (full.zipIdx.all λ(o,i)=>(fJ o).all (· < i)) &&
 ((List.range full.length).all λj=>j < es.length || (List.range j).all λi=>i < es.length || (M.getD j 0).testBit i) &&
 (es.zipIdx.all λ(_,i)=> !must.getD i false || (M.getD es.length 0).testBit i) &&
 (es.zipIdx.all λ(e,i)=>must.getD i false || (fV e.N).all λs=>es.zipIdx.all λ(e',j)=>e'.d != s || (M.getD i 0).testBit j) &&
 (es.zipIdx.all λ(e,i)=> !T.contains e.d && (must.getD i false || (fV e.N).all λs=> !T.contains s)) && decide (es.length < full.length)
@[reducible] def rB(e:DE)(v:Value):A:=if e.b then .eq v else e.r
@[reducible] def GB:List DE->List Value->Ga
 |e::es,v::vs=>(e.d,rB e v)::GB es vs
 |_,_=>[]
theorem D7{s:Nat}{r:A}:∀{acc:List DE} {vs:List Value},vs.length=acc.length->lk (GB acc vs++Γt) s=some r->
 (∃(j:Nat) (e:DE),acc[j]? =some e/\e.d=s/\r=rB e (vs.getD j undef))\/((∀(j:Nat) (e:DE),acc[j]? =some e->e.d≠s)/\lk Γt s=some r)
 |[],[],_,h=>.inr ⟨λj e h=>by simp at h,h⟩
 |e::es,v::vs,hl,h=>by
  simp only [GB,cons_append,lk] at h
  split at h
  .
   rename_i hd
   exact .inl ⟨0,e,rfl,hd,(Option.some.inj h).symm⟩
  .
   rename_i hd
   rcases D7 (acc:=es) (vs:=vs) (by simp_all) h with⟨j,e',h1,h2,h3⟩ |⟨h1,h2⟩
   .
    exact .inl ⟨j+1,e',by simp_all,h2,by simp_all⟩
   grind
 |[],_::_,hl,_=>by simp at hl
 |_::_,[],hl,_=>by simp at hl
structure TI(c:Cx)(full:List Oper)(Γ0:Ga)(acc:List DE)(must:List Bool)(T:List Nat)(vs:List Value)(Δr:List D)(k:Nat)(Γt:Ga)(Δt:List D)(L:Array Bool)(a:Act)(w:VW):Prop where
 size:L.size=full.length
 tail:∀j,acc.length≤j->lst L j=decide (j < acc.length+k)
 must:∀j,must.getD j false=true->j < acc.length->lst L j=true
 closed:∀j o,full[j]? =some o->lst L j=true->∀i∈fJ o,lst L i=true
 defers:a.defers=c.dfs
 tmps:a.tmps.size=c.N
 keep:∀s,T.contains s=false->lk Γt s=lk Γ0 s
 ex:∃S:FS,bD c.X c.S0 c.w0 S w/\(∀b,av (Δr++Δt) b->c.X b\/c.w0.heap.size≤b)/\aS (Δr++Δt) S w/\
  (∀s r,lk Γt s=some r->(∀(j:Nat) (e:DE),acc[j]? =some e->e.d≠s)->r.holds S w (a.tmps.getD s undef))/\
  (∀(j:Nat) (e:DE),acc[j]? =some e->lst L j=true->(rB e (vs.getD j undef)).holds S w (a.tmps.getD e.d undef))
theorem lH(h:C0 full acc must T=true):
 (∀(i:Nat) (e:DE),acc[i]? =some e->tA (kN [] full) acc i e=true)/\(∀(j:Nat) (o:Oper),full[j]? =some o->∀i∈fJ o,i < j)/\
 (∀j,acc.length≤j->j < full.length->∀i,acc.length≤i->i < j->((kN [] full).getD j 0).testBit i=true)/\
 (∀i,i < acc.length->must.getD i false=true->((kN [] full).getD acc.length 0).testBit i=true)/\
 (∀(i:Nat) (e:DE),acc[i]? =some e->must.getD i false=false->∀s∈fV e.N,∀(j:Nat) (e':DE),acc[j]? =some e'->e'.d=s->((kN [] full).getD i 0).testBit j=true)/\
 (∀(i:Nat) (e:DE),acc[i]? =some e->T.contains e.d=false/\(must.getD i false=false->∀s∈fV e.N,T.contains s=false))/\acc.length < full.length:=by
 unfold C0 at h
 simp only [Bool.and_eq_true,decide_eq_true_eq] at h
 obtain⟨⟨⟨⟨⟨⟨h1,h2⟩,h3⟩,h4⟩,h5⟩,h6⟩,h7⟩:=h
 refine⟨λi e he=>mem_zipIdx h1 he,λj o ho i hi=>?_,λj hj hjl i hi hij=>?_,λi hi hm=>?_,λi e he hm s hs j e' he' hd=>?_,λi e he=>?_,h7⟩
 .
  have:=mem_zipIdx h2 ho;grind
 .
  rw [List.all_eq_true] at h3;have:=h3 j (List.mem_range.2 hjl);grind
 .
  have:=mem_zipIdx h4 (List.getElem?_eq_getElem hi);grind
 .
  have:=mem_zipIdx h5 he;simp only [hm,Bool.false_or] at this;rw [List.all_eq_true] at this;have:=mem_zipIdx (this s hs) he';grind
 .
  have:=mem_zipIdx h6 he;grind
theorem Fl.any:∀{acc:List DE} {must:List Bool} {i:Nat} {e:DE},Fl Δ Δr acc must->acc[i]? =some e->e.b=true->e.r= .any
 |[],_,_,_,_,h,_=>by simp at h
 |x::acc,must,0,e,h,he,hb=>by
  simp at he
  subst he
  rcases h.1 with h1 |h1
  .
   simp_all
  simp_all
 |x::acc,must,i+1,e,h,he,hb=>Fl.any (acc:=acc) (must:=must.tail) (i:=i) h.2 (by simp_all) hb
theorem MV(hlt:∀(j:Nat) (o:Oper),full[j]? =some o->∀i∈fJ o,i < j):∀(n m:Nat) (o:Oper),m≤n->full[m]? =some o->∀q,((kN [] full).getD m 0).testBit q=true->q < m:=by
 intro n
 induction n with
 |zero=>
  intro m o hm ho q hq;have:m=0:=by omega
  subst this;obtain⟨M',g1,g2,g3⟩:=rT (M:=[]) ho;simp only [length_nil,Nat.zero_add] at g3;grind [jX]
 |succ n ih=>
  intro m o hm ho q hq;obtain⟨M',g1,g2,g3⟩:=rT (M:=[]) ho;simp only [length_nil,Nat.zero_add] at g1 g3;rw [getD_eq_getElem?_getD,g3,Option.getD_some] at hq;obtain⟨p,hp,hq⟩:=jX hq;have hpm:=hlt m o ho p hp;rcases hq with rfl |hq
  .exact hpm
  .have hml:m < full.length:=by
    grind
   have:=ih p _ (by omega) (List.getElem?_eq_getElem (by omega:p < full.length)) q (by
    grind)
   omega
theorem vv(hfull:full=acc.map (·.o)++l)(hDR:EV c full.toArray Δ Γ0 acc)(hck:C0 full acc must T=true)(hfl:Fl Δ Δr acc must){L:Array Bool}{a:Act}{w:VW}(h:TI c full Γ0 acc must T vs Δr k Γt Δt L a w){i:Nat}
 (hi:i < acc.length) (hri:i∈Region.ready .any full.toArray L):nV c.M c.rd full.toArray Q i (λa' w'=>TI c full Γ0 acc must T vs Δr k Γt Δt (L.setIfInBounds i true) a' w') a w:=by
 obtain⟨hc1,hlt,hc3,hc4,hc5,hc6,hc7⟩:=lH hck
 obtain⟨e,he⟩:∃e,acc[i]? =some e:=⟨_,List.getElem?_eq_getElem hi⟩
 obtain⟨hDV,hHas⟩:=EV.nth acc hDR he
 have hone:=hc1 i e he
 simp only [tA] at hone
 have hother:∀(j:Nat) (e':DE),acc[j]? =some e'->j≠i->e'.d≠e.d:=λj e' hj hne=>by
  have:=mem_zipIdx hone hj;grind
 obtain⟨oi,hoi,hli,hpi⟩:=(dw h.size).1 hri
 have hoe:oi=e.o:=by
  grind
 subst hoe
 have hiL:i < L.size:=by rw [h.size,hfull];simp;omega
 have hahead:=rU h.closed hlt i i e.o (Nat.le_refl _) hoi hpi
 have hmf:must.getD i false=false:=by
  cases hm:must.getD i false with
  |false=>rfl
  |true=>have:=h.must i hm hi;grind
 obtain⟨f1,f2,f3⟩:=hfl.nth he hmf
 obtain⟨S,h3,h4,h5,h6,h7⟩:=h.ex
 have hsetL:∀j,j≠i->lst (L.setIfInBounds i true) j=lst L j:=λj hj=>by rw [cX hiL,if_neg (Ne.symm hj)]
 have hsetI:lst (L.setIfInBounds i true) i=true:=by rw [cX hiL,if_pos rfl]
 have hrB:∀(j:Nat) (e':DE),acc[j]? =some e'->lst L j=true->e'.b=false->e'.r.holds S w (a.tmps.getD e'.d undef):=λj e' hj hl hb=>by
  grind
 have hneeds:bI S w a e.N:=eL hHas λs r hs hl=>by
  rcases ui hl with⟨j,e',hj,hd,hr⟩ |⟨h8,h9⟩
  .have hji:j < i:=by
    grind
   rw [getElem?_take_of_lt hji] at hj;have hlj:=hahead j (hc5 i e he hmf s hs j e' hj hd);subst hr hd;cases hb:e'.b with
   |false=>grind
   |true=>
    rw [hfl.any hj hb];trivial
  .refine h6 s r ?_ λj e' hj hd=>?_
   .rw [h.keep s ((hc6 i e he).2 hmf s hs)];exact h8
   .have hb:=hc5 i e he hmf s hs j e' hj hd;have hji:=MV hlt i i _ (Nat.le_refl _) hoi j hb;exact h9 j e' (by grind) hd
 obtain⟨rest,hp1,hk1⟩:∃rest,(Δr++Δt).Perm (kZ Δ e.u++rest)/\kE Δ e.u=kZ Δ e.u:=by
  rcases f3 with hu |⟨kk,d,hu,hkd,hd⟩
  .rw [hu];exact⟨_,List.Perm.refl _,rfl⟩
  .rw [hu];obtain⟨q,hq⟩:=List.getElem?_of_mem (List.mem_append_left Δt hd);exact⟨_,by simp only [kZ,hkd];exact f6 q d hq,by grind⟩
 have hown:=h5.perm hp1
 have hownU:aS (kZ Δ e.u) S w:=hown.part
 have hgo:=hDV.run S w a (λa' w'=>TI c full Γ0 acc must T vs Δr k Γt Δt (L.setIfInBounds i true) a' w') Q h3.dom hneeds hownU λS' w' v hs hr ho hf=>by
  have hdl:e.d < a.tmps.size:=by rw [h.tmps];exact hDV.lt
  have hput:∀s,(a.put (some e.d) v).tmps.getD s undef=if e.d=s then v else a.tmps.getD s undef:=λs=>lE hdl;have hin:∀b,av (kZ Δ e.u) b->av (Δr++Δt) b:=λb ⟨d,hd,hb⟩=>⟨d,hp1.mem_iff.2 (List.mem_append.2 (.inl hd)),hb⟩;have hK:gr S w w':=λb hb=>hs.keep b (h3.dom b hb) (h5.sees b hb) (λhx=>(h5.own b (hin b hx)).1 hb);rw [f2 v,append_nil,hk1] at ho;have hfr:=hown.frame h3.dom hs ho (λb hb=>.inl hb);refine⟨by simpa using h.size,λj hj=>by rw [hsetL j (by omega)];exact h.tail j hj,λj hj hjl=>?_,λj o hj hlj kk hkk=>?_,h.defers,by simpa [Act.put] using h.tmps,h.keep,S',h3.trans hs λb hb=>h4 b (hin b hb),h4,hfr.perm hp1.symm,λs r hl hno=>?_,λj e' hj hlj=>?_⟩
  .rw [cX hiL];split
   .rfl
   .exact h.must j hj hjl
  .rw [cX hiL];split
   .rfl
   .rw [cX hiL] at hlj;split at hlj
    .rename_i hij;subst hij;have:o=e.o:=by grind
     subst this;grind
    .exact h.closed j o hj hlj kk hkk
  .rw [hput,if_neg (hno i e he)];exact A.mono hs.sub hK r (h6 s r hl hno)
  .rw [hput];by_cases hji:j=i
   .grind
   .rw [if_neg (Ne.symm (hother j e' hj hji))];exact A.mono hs.sub hK _ (h7 j e' hj (by rw [hsetL j hji] at hlj;exact hlj))
 have hoi':full.toArray[i]? =some e.o:=by grind
 unfold nV
 simp only [hoi']
 split
 .
  grind
 .
  rename_i hw;rw [if_neg hw] at hgo;rw [hDV.dst];exact hgo
def JT(c:Cx)(full:List Oper)(Q:Exit->Act->VW->Prop)(Γ0:Ga)(Δ:List D)(acc:List DE)(must:List Bool)(T:List Nat)(vs:List Value)(Δr:List D)(k:Nat)(l:List Oper)(Γt:Ga)(Δt:List D):Prop:=
 full=acc.map (·.o)++full.drop acc.length->full.drop (acc.length+k)=l->EV c full.toArray Δ Γ0 acc->C0 full acc must T=true->Fl Δ Δr acc must->vs.length=acc.length->
  ∀aL L a w,TI c full Γ0 acc must T vs Δr k Γt Δt L a w->cnt L acc.length+l.length≤aL->fN c.M c.rd .any full.toArray Q aL L a w
theorem yR(h:JN c (Q .normal) (GB acc vs++Γt) (Δr++Δt)):JT c full Q Γ0 Δ acc must T vs Δr k [] Γt Δt:=by
 intro hfull hdr hDR hck hfl hvs aL;obtain⟨hc1,hlt,hc3,hc4,hc5,hc6,hc7⟩:=lH hck;have hlen:full.length≤acc.length+k:=by grind
 have fin:∀L a w,TI c full Γ0 acc must T vs Δr k Γt Δt L a w->cnt L acc.length=0->Region.ready .any full.toArray L=[]/\Q .normal a w:=by
  intro L a w hI h0;have hall:=lG h0;constructor
  .rw [eq_nil_iff_forall_not_mem];intro i hi;obtain⟨o,h3,h4,_⟩:=(dw hI.size).1 hi
   have hil:i < full.length:=by
    grind
   rcases Nat.lt_or_ge i acc.length with h |h
   .grind
   .rw [hI.tail i h] at h4;grind
  .obtain⟨S,h3,h4,h5,h6,h7⟩:=hI.ex;refine h a w ⟨hI.defers,hI.tmps,S,h3,h4,h5,λs r hl=>?_⟩;rcases D7 hvs hl with⟨j,e,hj,hd,hr⟩ |⟨h8,h9⟩
   .have hjl:j < acc.length:=by
     grind
    subst hd hr;grind
   .exact h6 s r h9 h8
 induction aL with
 |zero=>
  intro L a w hI hf;exact fin L a w hI (by omega)
 |succ n ih=>
  intro L a w hI hf;refine⟨λhr=>?_,λi hi=>?_⟩
  .by_cases h0:cnt L acc.length=0
   .grind
   .obtain⟨j,hj1,hj2,hj3⟩:=pB h0;obtain⟨oj,hoj⟩:∃oj,full[j]? =some oj:=⟨_,List.getElem?_eq_getElem (by omega)⟩;have:j∈Region.ready .any full.toArray L:=(dw hI.size).2 ⟨oj,hoj,hj2,λi hi=>hj3 i (hlt j oj hoj i hi)⟩;grind
  .obtain⟨oi,hoi,hli,hpi⟩:=(dw hI.size).1 hi
   have hil:i < full.length:=by
    grind
   have hia:i < acc.length:=by
    rcases Nat.lt_or_ge i acc.length with h |h
    .exact h
    .rw [hI.tail i h] at hli;grind
   refine kR (λa' w' hI'=>ih _ a' w' hI' ?_) (vv hfull hDR hck hfl hI hia hi);have hiL:i < L.size:=by rw [hI.size];exact hil
   have:=pA (L:=L) (L':=L.setIfInBounds i true) (i:=i) (λj hj=>by rw [cX hiL,if_neg (Ne.symm hj)]) hli (by rw [cX hiL,if_pos rfl]) hia;omega
def F4(full:List Oper)(acc:List DE)(i:Nat)(N:List (Operand×A)):Bool:=
 (fV N).all λs=>acc.zipIdx.all λ(e',j)=>e'.d != s || ((kN [] full).getD i 0).testBit j
section
variable {o:Oper}{N:List (Operand×A)}{Δu:List D}{X:Type}{R:X->A×List D}{r:A}{d:Nat}
theorem EP(hg:o.guard=none)(ht:bB c.M o N Δu R)(hh:ek (GB acc vs++Γt) N)(hN:F4 full acc (acc.length+k) N=true)
 (G':X->Ga) (hG:∀x (a:Act) (v:Value) (S':FS) (w':World),a.tmps.size=c.N->(R x).1.holds S' w' v->(∀s r,lk Γt s=some r->(∀(j:Nat) (e:DE),acc[j]? =some e->e.d≠s)->r.holds S' w' (a.tmps.getD s undef))->
  (∀s r,lk (G' x) s=some r->(∀(j:Nat) (e:DE),acc[j]? =some e->e.d≠s)->r.holds S' w' ((a.put o.dst v).tmps.getD s undef)))
 (hK:∀x,(∀s,T.contains s=false->lk Γt s=lk Γ0 s)->∀s,T.contains s=false->lk (G' x) s=lk Γ0 s)
 (hD:∀(a:Act) (v:Value) (e:DE),a.tmps.size=c.N->e∈acc->T.contains e.d=false->(a.put o.dst v).tmps.getD e.d undef=a.tmps.getD e.d undef)
 (h:∀x,JT c full Q Γ0 Δ acc must T vs Δr (k+1) l (G' x) ((R x).2++F)):JT c full Q Γ0 Δ acc must T vs Δr k (o::l) Γt (Δu++F):=by
 intro hfull hdr hDR hck hfl hvs aL
 obtain⟨hc1,hlt,hc3,hc4,hc5,hc6,hc7⟩:=lH hck
 have hjl:acc.length+k < full.length:=by
  grind [Nat.lt_or_ge,drop_eq_nil_of_le]
 have hdr0:=hdr
 rw [drop_eq_getElem_cons hjl] at hdr
 simp only [List.cons.injEq] at hdr
 obtain⟨hd1,hd2⟩:=hdr
 have ho:full[acc.length+k]? =some o:=by grind
 induction aL with
 |zero=>
  grind
 |succ n ih=>
  intro L a w hI hf;simp only [length_cons] at hf
  have hne:Region.ready .any full.toArray L≠[]:=by
   by_cases h0:cnt L acc.length=0
   .have hall:=lG h0
    have hrj:acc.length+k∈Region.ready .any full.toArray L:=(dw hI.size).2 ⟨o,ho,by rw [hI.tail _ (by omega)];simp,λi hi=>by
     have:=hlt _ o ho i hi;rcases Nat.lt_or_ge i acc.length with h |h
     .grind
     .rw [hI.tail i h];grind⟩
    grind
   .obtain⟨j,hj1,hj2,hj3⟩:=pB h0;obtain⟨oj,hoj⟩:∃oj,full[j]? =some oj:=⟨_,List.getElem?_eq_getElem (by omega)⟩;have:j∈Region.ready .any full.toArray L:=(dw hI.size).2 ⟨oj,hoj,hj2,λi hi=>hj3 i (hlt j oj hoj i hi)⟩;grind
  refine⟨λhr=>absurd hr hne,λi hi=>?_⟩;obtain⟨oi,hoi,hli,hpi⟩:=(dw hI.size).1 hi
  have hil:i < full.length:=by
   grind
  have hiL:i < L.size:=by rw [hI.size];exact hil
  rcases Nat.lt_or_ge i acc.length with hia |hia
  .refine kR (λa' w' hI'=>ih _ a' w' hI' ?_) (vv hfull hDR hck hfl hI hia hi);have:=pA (L:=L) (L':=L.setIfInBounds i true) (i:=i) (λj hj=>by rw [cX hiL,if_neg (Ne.symm hj)]) hli (by rw [cX hiL,if_pos rfl]) hia;grind
  .have hle:acc.length+k≤i:=by
    rw [hI.tail i hia] at hli;grind
   have hik:i=acc.length+k:=by
    rcases Nat.lt_or_ge (acc.length+k) i with hh |hh
    .exfalso;have:=rU hI.closed hlt i i oi (Nat.le_refl _) hoi hpi (acc.length+k) (hc3 i hia hil _ (by omega) hh);rw [hI.tail _ (by omega)] at this;grind
    .omega
   subst hik;have hoe:oi=o:=by grind
   subst hoe;have hahead:=rU hI.closed hlt _ _ oi (Nat.le_refl _) ho hpi;obtain⟨S,h3,h4,h5,h6,h7⟩:=hI.ex
   have hneeds:bI S w a N:=eL hh λs r hs hl=>by
    rcases D7 hvs hl with⟨j,e,hj,hd,hr⟩ |⟨h8,h9⟩
    .unfold F4 at hN;rw [List.all_eq_true] at hN;have:=mem_zipIdx (hN s hs) hj;simp only [hd,bne_self_eq_false,Bool.false_or] at this;subst hd hr;grind
    .exact h6 s r h9 h8
   have hp1:(Δr++(Δu++F)).Perm (Δu++(Δr++F)):=by
    rw [<-List.append_assoc,<-List.append_assoc];exact List.Perm.append_right _ perm_append_comm
   have hown:=h5.perm hp1;have hownU:aS Δu S w:=hown.part
   have hgo:oi.wk c.M c.rd a w (λa' w'=>fN c.M c.rd .any full.toArray Q n (L.setIfInBounds (acc.length+k) true) a' w') Q:=ht.run c.rd S w a _ Q h3.dom hneeds hownU λx S' w' v hs hr ho' hf'=>by
    have hin:∀b,av Δu b->av (Δr++(Δu++F)) b:=λb ⟨d,hd,hb⟩=>⟨d,hp1.mem_iff.2 (List.mem_append.2 (.inl hd)),hb⟩;have hKp:gr S w w':=λb hb=>hs.keep b (h3.dom b hb) (h5.sees b hb) (λhx=>(h5.own b (hin b hx)).1 hb);have hfr:=hown.frame h3.dom hs ho' hf'
    have hp2:((R x).2++(Δr++F)).Perm (Δr++((R x).2++F)):=by
     rw [<-List.append_assoc,<-List.append_assoc];exact List.Perm.append_right _ perm_append_comm
    refine h x hfull (by omega) hDR hck hfl hvs n _ _ w' ⟨by simpa using hI.size,λj hj=>?_,λj hj hjl=>?_,λj o' hj hlj kk hkk=>?_,(by cases oi.dst <;> simpa [Act.put] using hI.defers),by simpa [Act.put] using (by cases oi.dst <;> simpa [Act.put] using hI.tmps:(a.put oi.dst v).tmps.size=c.N),hK x hI.keep,S',h3.trans hs λb hb=>h4 b (hin b hb),λb hb=>?_,hfr.perm hp2,hG x a v S' w' hI.tmps hr (λs r hl hno=>A.mono hs.sub hKp r (h6 s r hl hno)),λj e hj hlj=>?_⟩ ?_
    .rw [cX hiL];split
     .grind
     .rename_i hh;rw [hI.tail j hj];rw [decide_eq_decide];omega
    .rw [cX hiL];split
     .rfl
     .exact hI.must j hj hjl
    .rw [cX hiL];split
     .rfl
     .rw [cX hiL] at hlj;split at hlj
      .grind
      .exact hI.closed j o' hj hlj kk hkk
    .rw [nc hp2.symm] at hb;obtain⟨d',hd',hbd⟩:=hb;rcases List.mem_append.1 hd' with hd' |hd'
     .rcases hf' b ⟨d',hd',hbd⟩ with hh |hh
      .grind
      .exact .inr (Nat.le_trans h3.size hh)
     .exact h4 b ⟨d',hp1.mem_iff.2 (List.mem_append.2 (.inr hd')),hbd⟩
    .rw [hD a v e hI.tmps (List.mem_of_getElem? hj) (hc6 j e hj).1];refine A.mono hs.sub hKp _ (h7 j e hj ?_)
     rw [cX hiL,if_neg (by
      grind)] at hlj
     exact hlj
    .have:=vn (L:=L) (L':=L.setIfInBounds (acc.length+k) true) (i:=acc.length+k) (λj hj=>by rw [cX hiL,if_neg (Ne.symm hj)]) (t:=acc.length) (by omega);omega
   have ho2:full.toArray[acc.length+k]? =some oi:=by grind
   unfold nV;simp only [ho2];rw [if_pos (ag hg _)];exact hgo
theorem U0(hg:o.guard=none)(hd:o.dst=none)(ht:bB c.M o N Δu R)(hh:ek (GB acc vs++Γt) N)(hN:F4 full acc (acc.length+k) N=true)
 (h:∀x,JT c full Q Γ0 Δ acc must T vs Δr (k+1) l Γt ((R x).2++F)):JT c full Q Γ0 Δ acc must T vs Δr k (o::l) Γt (Δu++F):=
 EP hg ht hh hN (λ_=>Γt) (λx a v S' w' _ _ hs=>by rw [hd];exact hs) (λ_ h=>h) (λa v e _ _ _=>by rw [hd];rfl) h
theorem UZ(hg:o.guard=none)(hd:o.dst=some d)(hdN:blt d c.N=true)(hdT:T.contains d=true)(ht:bB c.M o N Δu R)(hh:ek (GB acc vs++Γt) N)(hN:F4 full acc (acc.length+k) N=true)
 (h:∀x,JT c full Q Γ0 Δ acc must T vs Δr (k+1) l ((d,(R x).1)::Γt) ((R x).2++F)):JT c full Q Γ0 Δ acc must T vs Δr k (o::l) Γt (Δu++F):=by
 have hlt:d < c.N:=blt_eq▸hdN
 refine EP hg ht hh hN (λx=>(d,(R x).1)::Γt) (λx a v S' w' hsz hr hs s r hl hno=>?_) (λx hk s hsT=>?_) (λa v e hsz he hT=>?_) h
 .
  rw [hd,lE (by omega)];simp only [lk] at hl;grind
 .
  simp only [lk];grind
 .
  rw [hd,lE (by omega),if_neg (λe'=>by simp_all)]
def BH:List DE->List Value->Prop
 |e::es,v::vs=>(∀d∈e.E v,∃S w,d.holds S w)/\BH es vs
 |_,_=>True
theorem BH.of:∀{es:List DE} {vs:List Value},(∀d∈births es vs,∃S w,d.holds S w)->BH es vs
 |e::es,v::vs,h=>⟨λd hd=>h d (List.mem_append.2 (.inl hd)),BH.of λd hd=>h d (List.mem_append.2 (.inr hd))⟩
 |[],_,_=>by simp_all [BH]
 |_::_,[],_=>by simp_all [BH]
theorem NG(must:List Bool)(T:List Nat)(Δr:List D)(hck:C0 full acc must T=true)(hfl:Fl Δ Δr acc must)(hm:c.P.follows .mixedOrders=true)
 (h:∀vs:List Value,vs.length=acc.length->BH acc vs->∃ks Δt,fx (oS Δ acc vs) ks=some (Δr++Δt)/\ks.Nodup/\JT c full Q Γ0 Δ acc must T vs Δr 0 l Γ0 Δt):DR c id full Q Γ0 Δ acc l Γ:=by
 intro hfull hDR hΓ ops hren a w hst
 refine pQ hren hm λv1 hv=>?_
 have hst':=hst.drew hv
 generalize (v1.upd { v1.toWorld with drawn:=v1.drawn+1 })=w1 at hst'⊢
 have hck0:MZ full acc=true:=by
  unfold C0 at hck;simp only [Bool.and_eq_true] at hck;exact Bool.and_eq_true_iff.2 ⟨hck.1.1.1.1.1.1,hck.1.1.1.1.1.2⟩
 obtain⟨hc1,hlt,hc3,hc4,hc5,hc6,hc7⟩:=lH hck
 have hdrop:full.drop acc.length=l:=by
  grind
 have hlen:full.length=acc.length+l.length:=by grind
 have conv:∀L a w,vQ c full Γ0 Δ acc L a w->(∀j,must.getD j false=true->j < acc.length->lst L j=true)->∀aL,cnt L acc.length+l.length≤aL->fN c.M c.rd .any full.toArray Q aL L a w:=by
  intro L a w hI hmu aL hf;obtain⟨S,h3,h4,h5,h6,h7⟩:=hI.ex
  have hund:∀(j:Nat) (e:DE),acc[j]? =some e->lst L j=false->(∀v,e.E v=[])/\∀k,tj e k=false:=λj e he hl=>by
   have hjl:j < acc.length:=by
    grind
   have hmf:must.getD j false=false:=by
    grind
   obtain⟨f1,f2,f3⟩:=hfl.nth he hmf;refine⟨f2,λk=>?_⟩;rcases f3 with hu |⟨kk,d,hu,_⟩ <;> simp [tj,hu]
  have hD:oS Δ acc (acc.map λe=>a.tmps.getD e.d undef)=vL Δ acc L a:=by
   unfold oS vL
   have e1:∀(es:List DE) (m:Nat),(∀(j:Nat) (e:DE),es[j]? =some e->lst L (m+j)=false->∀v,e.E v=[])->births es (es.map λe=>a.tmps.getD e.d undef)=gq L a m es:=by
    intro es
    induction es with
    |nil=>intro m _;rfl
    |cons x es ih=>
     intro m hh;simp only [map_cons,births,gq];rw [ih (m+1) λj e he hl=>hh (j+1) e (by grind) (by grind)];cases hl:lst L m with
     |true=>rfl
     |false=>rw [hh 0 x rfl (by omega)];rfl
   have e2:∀(k:Nat) (es:List DE) (m:Nat),(∀(j:Nat) (e:DE),es[j]? =some e->lst L (m+j)=false->tj e k=false)->eG L k m es=pZ es k:=by
    intro k es
    induction es with
    |nil=>intro m _;rfl
    |cons x es ih=>
     intro m hh;simp only [eG,pZ,any_cons];rw [ih (m+1) λj e he hl=>hh (j+1) e (by grind) (by grind)];cases hl:lst L m with
     |true=>rfl
     |false=>rw [hh 0 x rfl (by omega)];rfl
   rw [e1 acc 0 λj e he hl=>(hund j e he (by grind)).1];congr 1
   have:∀(l:List D) (k:Nat),oS.keepFrom acc k l=dJ (λk=> !eG L k 0 acc) k l:=by
    intro l
    induction l with
    |nil=>intro k;rfl
    |cons x l ih=>
     intro k;simp only [oS.keepFrom,dJ,e2 k acc 0 (λj e he hl=>(hund j e he (by grind)).2 k),ih];grind
   grind
  have hBH:BH acc (acc.map λe=>a.tmps.getD e.d undef):=BH.of λd hd=>⟨S,w,h5.holds d (by rw [<-hD];exact List.mem_append.2 (.inr hd))⟩;obtain⟨ks,Δt,hk,hn,hj⟩:=h (acc.map λe=>a.tmps.getD e.d undef) (by simp) hBH;refine hj (by grind) (by omega) hDR hck hfl (by simp) aL L a w ?_ hf;rw [hD] at hk
  have hm':∀d∈Δr++Δt,d∈vL Δ acc L a:=λd hd=>by
   grind [je,List.mem_of_getElem?]
  refine⟨hI.size,λj hj=>by rw [hI.past j hj];simp;omega,hmu,hI.closed,hI.defers,hI.tmps,λ_ _=>rfl,S,h3,λb ⟨d,hd,e⟩=>h4 b ⟨d,hm' d hd,e⟩,
   h5.re ⟨λd hd=>h5.holds d (hm' d hd),λb ⟨d,hd,e⟩=>h5.own b ⟨d,hm' d hd,e⟩,iW (λ_ _ h b e e'=>h b e' e) h5.apart hn hk⟩ (λb ⟨d,hd,e⟩=>⟨d,hm' d hd,e⟩) (λ_ h=>.inl h),
   λs r hl hno=>h6 s r hl λj e hj _=>hno j e hj,λj e hj hlj=>?_⟩
  have:=h7 j e hj hlj;unfold rB;split
  .have hv:(acc.map λe=>a.tmps.getD e.d undef).getD j undef=a.tmps.getD e.d undef:=by
    rw [getD_eq_getElem?_getD,List.getElem?_map,hj];rfl
   rw [hv];exact rfl
  omega
 have key:∀aL L a w,vQ c full Γ0 Δ acc L a w->cnt L acc.length+l.length≤aL->fN c.M c.rd .any full.toArray Q aL L a w:=by
  intro aL
  induction aL with
  |zero=>
   omega
  |succ n ih=>
   intro L a w hI hf;by_cases hmu:∀j,must.getD j false=true->j < acc.length->lst L j=true
   .grind
   .have h0:cnt L acc.length≠0:=λh0=>hmu λj _ hj=>lG h0 j hj;obtain⟨j,hj1,hj2,hj3⟩:=pB h0;obtain⟨oj,hoj⟩:∃oj,full[j]? =some oj:=⟨_,List.getElem?_eq_getElem (by omega)⟩;have hrj:j∈Region.ready .any full.toArray L:=(dw hI.size).2 ⟨oj,hoj,hj2,λi hi=>hj3 i (hlt j oj hoj i hi)⟩;refine⟨λhh=>(by grind),λi hi=>?_⟩;obtain⟨oi,hoi,hli,hpi⟩:=(dw hI.size).1 hi
    have hil:i < full.length:=by
     grind
    have hahead:=rU hI.closed hlt i i oi (Nat.le_refl _) hoi hpi
    have hit:i < acc.length:=by
     rcases Nat.lt_or_ge i acc.length with h |h
     .exact h
     .exfalso;by_cases hip:i=acc.length
      .grind
      .have:=hahead acc.length (hc3 i h hil _ (Nat.le_refl _) (by omega));rw [hI.past _ (Nat.le_refl _)] at this;cases this
    refine kR (λa' w' hI'=>ih _ a' w' hI' ?_) (vQ.step hfull hDR hck0 hI hit hi);have hiL:i < L.size:=by rw [hI.size];exact hil
    have:=pA (L:=L) (L':=L.setIfInBounds i true) (i:=i) (λj hj=>by rw [cX hiL,if_neg (Ne.symm hj)]) hli (by rw [cX hiL,if_pos rfl]) hit;omega
 refine key full.toArray.size _ a w1 (vQ.start hst') ?_
 have:∀t,cnt (Array.replicate full.toArray.size false) t≤t:=by
  intro t
  induction t with
  |zero=>exact Nat.le_refl _
  |succ t ih=>grind [cnt]
 grind
end
end
end K
