import Derived.Test.YtcpbmhgakdeceaaGreatVRB2
import Derived.Laws.StructEq
open Nat
open List hiding mem_of_getElem?
open Array hiding mem_of_getElem? mk
set_option linter.unusedVariables false
set_option linter.unusedSimpArgs false
namespace Go.Proofs.YtcpbmhgakdeceaaGreat
namespace K
open Go
def ww(p:Nat->Nat)(o:Oper):Oper:={ o with after:=o.after.map λe=>{ e with on:=p e.on },guard:=o.guard.map λg=>(p g.1,g.2) }
def LD(ops ops':Array Oper):Prop:=ops'.size=ops.size/\∃p q:Nat->Nat,(∀i,q (p i)=i)/\(∀j,p (q j)=j)/\∀i,ops'[p i]? =(ops[i]?).map (ww p)
theorem Nu(o:Oper):ww id o=o:=by
 simp_all [ww]
theorem LD.refl(ops:Array Oper):LD ops ops:=⟨rfl,id,id,λ_=>rfl,λ_=>rfl,λi=>by
 grind [Nu]⟩
section
variable {P:Program}{M:Md P}{M:Md P}{rd:Option Nat}{ops ops':Array Oper}{Q:Exit->Act->VW->Prop}{p q:Nat->Nat}
theorem yR{L L':Array Bool}(hL:∀i,L'[p i]? =L[i]?)(i:Nat)(b:Bool):L'.getD (p i) b=L.getD i b:=by
 simp_all
theorem t9(hp:∀i,ops'[p i]? =(ops[i]?).map (ww p)){L L':Array Bool}(hL:∀i,L'[p i]? =L[i]?)(i:Nat):p i∈Region.ready .any ops' L'↔i∈Region.ready .any ops L:=by
 have hs:p i < ops'.size↔i < ops.size:=by
  grind
 unfold Region.ready;simp only [List.mem_filter,List.mem_range,hs,yR hL,hp i,Option.map_map,Bool.and_eq_true];refine and_congr Iff.rfl (and_congr Iff.rfl ?_);cases ops[i]? with
 |none=>simp_all
 |some o=>
  simp_all [Option.map_some,Function.comp_apply,Option.getD_some,ww,Array.all_map,Region.binds,yR]
theorem AZ(hp:∀i,ops'[p i]? =(ops[i]?).map (ww p)){tm:Array Value}(j:Nat):yielded ops' tm (p j)=yielded ops tm j:=by
 unfold yielded;rw [hp j];cases ops[j]? <;> rfl
theorem Io(hp:∀i,ops'[p i]? =(ops[i]?).map (ww p)){K K':Act->VW->Prop}(hK:∀a w,K' a w->K a w){i:Nat}{a:Act}{w:VW}(h:pC M rd ops' Q (p i) K' a w):pC M rd ops Q i K a w:=by
 unfold pC at h⊢;rw [hp i] at h;cases ho:ops[i]? with
 |none=>simp_all
 |some o=>
  rw [ho] at h;simp only [Option.map_some] at h
  have hw:Region.wanted (ww p o) (yielded ops' a.tmps)=Region.wanted o (yielded ops a.tmps):=by
   unfold Region.wanted ww;cases hg:o.guard with
   |none=>simp
   |some g=>simp [AZ hp]
  rw [hw] at h;simp only;split at h
  .rename_i hh;rw [if_pos hh];have h':o.wk M rd a w K' Q:=h;exact qg hK h'
  .rename_i hh;rw [if_neg hh];exact hK _ _ h
theorem O7(hqp:∀i,q (p i)=i)(hpq:∀j,p (q j)=j)(hp:∀i,ops'[p i]? =(ops[i]?).map (ww p)):∀(aM:Nat) {L L':Array Bool} {a:Act} {w:VW},(∀i,L'[p i]? =L[i]?)->ip M rd .any ops' Q aM L' a w->ip M rd .any ops Q aM L a w:=by
 have hnil:∀{L L':Array Bool},(∀i,L'[p i]? =L[i]?)->Region.ready .any ops L=[]->Region.ready .any ops' L'=[]:=λ{L L'} hL h=>by
  rw [eq_nil_iff_forall_not_mem];intro j hj;rw [<-hpq j,t9 hp hL] at hj;simp_all
 have hnil':∀{L L':Array Bool},(∀i,L'[p i]? =L[i]?)->Region.ready .any ops' L'=[]->Region.ready .any ops L=[]:=λ{L L'} hL h=>by
  rw [eq_nil_iff_forall_not_mem];intro j hj;rw [<-t9 hp hL,h] at hj;cases hj
 intro aM
 induction aM with
 |zero=>intro L L' a w hL h;exact⟨hnil' hL h.1,h.2⟩
 |succ aM ih=>
  intro L L' a w hL h;refine⟨λh0=>h.1 (hnil hL h0),λi hi=>?_⟩;refine Io hp (λa w h'=>ih ?_ h') (h.2 (p i) ((t9 hp hL i).2 hi));grind
def CU(xs:List Nat)(o:Oper):Oper:={ o with after:=o.after.filter λe=> !xs.contains e.on }
def LZ(ops ops':Array Oper):Prop:=ops'.size=ops.size/\(∀(i:Nat) o,ops[i]? =some o->∀e∈o.after,e.on < i)/\∃f:Nat->List Nat,∀i,ops'[i]? =(ops[i]?).map (CU (f i))
def SX(ops ops':Array Oper):Prop:=∃ops1,(ops1=ops\/LZ ops ops1)/\LD ops1 ops'
theorem SX.refl(ops:Array Oper):SX ops ops:=⟨ops,.inl rfl,LD.refl ops⟩
theorem sF{L:Array Bool}{i:Nat}:i∈Region.ready .any ops L↔i < ops.size/\L.getD i true=false/\∀o,ops[i]? =some o->∀e∈o.after,Region.binds .any e=true->L.getD e.on false=true:=by
 unfold Region.ready;simp only [List.mem_filter,List.mem_range,Bool.and_eq_true,Bool.not_eq_true'];refine and_congr_right λhi=>and_congr Iff.rfl ?_;grind [Array.getElem?_eq_getElem,Option.some.injEq,all_eq_true_iff_forall_mem,Region.binds]
theorem xd{L:Array Bool}{i:Nat}(hd:LZ ops ops')(h:i∈Region.ready .any ops L):i∈Region.ready .any ops' L:=by
 obtain⟨hs,_,f,hf⟩:=hd;rw [sF] at h⊢;refine⟨by omega,h.2.1,λo ho e he hb=>?_⟩;rw [hf] at ho;cases h2:ops[i]? with
 |none=>simp_all
 |some o'=>
  rw [h2] at ho;cases ho;exact h.2.2 o' h2 e (Array.mem_filter.1 he).1 hb
theorem KU{L:Array Bool}(hd:LZ ops ops')(hL:L.size=ops.size)(h:Region.ready .any ops L=[]):Region.ready .any ops' L=[]:=by
 obtain⟨hs,hw,f,hf⟩:=hd;rw [eq_nil_iff_forall_not_mem] at h⊢
 have key:∀i,i < ops.size->L.getD i false=true:=by
  intro i
  induction i using Nat.strongRecOn with
  |_ i ih=>
   intro hi;cases hb:L.getD i false with
   |true=>rfl
   |false=>
    have hb':L.getD i true=false:=by
     simp_all
    exact absurd (sF.2 ⟨hi,hb',λo ho e he _=>ih e.on (hw i o ho e he) (by grind)⟩) (h i)
 intro i hi;rw [sF] at hi;grind
theorem zp{f:Nat->List Nat}(hf:∀i,ops'[i]? =(ops[i]?).map (CU (f i))){tm:Array Value}(j:Nat):yielded ops' tm j=yielded ops tm j:=by
 unfold yielded;rw [hf j];cases ops[j]? <;> rfl
theorem K6(hd:LZ ops ops'):∀(aM:Nat) {L:Array Bool} {a:Act} {w:VW},L.size=ops.size->ip M rd .any ops' Q aM L a w->ip M rd .any ops Q aM L a w:=by
 obtain⟨hs,hw,f,hf⟩:=hd;have hd:LZ ops ops':=⟨hs,hw,f,hf⟩
 have hnil':∀{L:Array Bool},Region.ready .any ops' L=[]->Region.ready .any ops L=[]:=λ{L} h=>by
  rw [eq_nil_iff_forall_not_mem] at h⊢;exact λi hi=>h i (xd hd hi)
 intro aM
 induction aM with
 |zero=>intro L a w _ h;exact⟨hnil' h.1,h.2⟩
 |succ aM ih=>
  intro L a w hL h;refine⟨λh0=>h.1 (KU hd hL h0),λi hi=>?_⟩;have h2:=h.2 i (xd hd hi);unfold pC at h2⊢;rw [hf i] at h2;cases ho:ops[i]? with
  |none=>simp_all
  |some o=>
   rw [ho] at h2;simp only [Option.map_some] at h2
   have hw:Region.wanted (CU (f i) o) (yielded ops' a.tmps)=Region.wanted o (yielded ops a.tmps):=by
    unfold Region.wanted CU;cases hg:o.guard with
    |none=>simp
    |some g=>simp [zp hf]
   rw [hw] at h2;simp only;split at h2
   .rename_i hh;rw [if_pos hh];have h':o.wk M rd a w (ip M rd .any ops' Q aM (L.setIfInBounds i true)) Q:=h2;grind [qg]
   .rename_i hh;rw [if_neg hh];exact ih (by simp_all) h2
theorem rF{id:Nat}{a:Act}{w:VW}(hr:SX ops ops')(hm:P.follows .mixedOrders=true)
 (h:∀v1,bz w v1->ip M rd .any ops' Q ops'.size (Array.replicate ops'.size false) a (v1.upd { v1.toWorld with drawn:=v1.drawn+1 })):(Code.region id ops true).wk M rd Q a w:=by
 obtain⟨ops1,hx,hs,p,q,h1,h2,h3⟩:=hr
 have hs1:ops1.size=ops.size:=by
  rcases hx with rfl |hx
  .rfl
  .exact hx.1
 have fin:(∀v1,bz w v1->ip M rd .any ops1 Q ops1.size (Array.replicate ops1.size false) a (v1.upd { v1.toWorld with drawn:=v1.drawn+1 }))->(Code.region id ops true).wk M rd Q a w:=λh=>by
  grind [xO,K6]
 rw [hs] at h
 refine fin λv1 hv=>O7 h1 h2 h3 _ (λi=>?_) (h v1 hv)
 grind
end
@[reducible] def BX(ps:List Nat)(i:Nat):Nat:=if i < ps.length then ps.idxOf i else i
@[reducible] def Js(ps:List Nat)(j:Nat):Nat:=if j < ps.length then ps.getD j 0 else j
@[reducible] def BL(ps:List Nat)(l:List Oper):List Oper:=ps.map λi=>ww (BX ps) (l.getD i default)
def OY(ps:List Nat)(n:Nat):Bool:=ps.length == n && (List.range n).all λi=>blt (ps.idxOf i) n && ps.getD (ps.idxOf i) 0 == i && blt (ps.getD i 0) n && ps.idxOf (ps.getD i 0) == i
theorem G7{ps:List Nat}{l:List Oper}(h:OY ps l.length=true):LD l.toArray (BL ps l).toArray:=by
 unfold OY at h;simp only [Bool.and_eq_true,beq_iff_eq,List.all_eq_true,List.mem_range] at h;obtain⟨hl,h⟩:=h
 have h':∀i,i < ps.length->ps.idxOf i < ps.length/\ps.getD (ps.idxOf i) 0=i/\ps.getD i 0 < ps.length/\ps.idxOf (ps.getD i 0)=i:=λi hi=>by
  simp_all
 refine⟨by simp_all,BX ps,Js ps,λi=>?_,λj=>?_,λi=>?_⟩
 .unfold BX Js;by_cases hi:i < ps.length
  .simp_all
  grind
 .unfold BX Js;by_cases hj:j < ps.length
  .simp_all
  grind
 .simp only [List.getElem?_toArray];unfold BX;by_cases hi:i < ps.length
  .rw [if_pos hi];obtain⟨a,b,_,_⟩:=h' i hi;have hi':i < l.length:=by omega
   unfold BL;rw [List.getElem?_map,List.getElem?_eq_getElem a,List.getElem?_eq_getElem hi',Option.map_some,Option.map_some];grind
  grind
theorem I8{ps:List Nat}{l:List Oper}(h:OY ps l.length=true):SX l.toArray (BL ps l).toArray:=⟨_,.inl rfl,G7 h⟩
@[reducible] def XP(ds:List (List Nat))(l:List Oper):List Oper:=(List.range l.length).map λi=>CU (ds.getD i []) (l.getD i default)
structure DE where
 o:Oper
 d:Nat
 N:List (Operand×A)
 r:A
 u:Option (Nat×Bool)
 b:Bool
 E:Value->List D
@[reducible] def IL(Δ:List D)(k:Nat):List D:=match Δ[k / 64 - 1]?,Δ[k % 64]? with |some d,some e=>if k / 64 - 1=k % 64 then [] else [d,e] |_,_=>[]
@[reducible] def ml(Δ:List D):Option (Nat×Bool)->List D
 |none=>[]
 |some (k,x)=>match Δ[k]? with |some d=>[d] |none=>if x || blt k 64 then [] else IL Δ k
@[reducible] def lJ(Δ:List D):Option (Nat×Bool)->List D
 |some (k,false)=>ml Δ (some (k,false))
 |_=>[]
structure DV(c:Cx)(ops:Array Oper)(Δ:List D)(e:DE):Prop where
 dst:e.o.dst=some e.d
 lt:e.d < c.N
 run:∀(S:FS) (w:VW) (a:Act) (K:Act->VW->Prop) (Q:Exit->Act->VW->Prop),(∀b,S b->b < w.heap.size)->bM S w a e.N->ba (ml Δ e.u) S w->
  (∀S' w' v,bI (ay (ml Δ e.u)) S w S' w'->e.r.holds S' w' v->ba (lJ Δ e.u++e.E v) S' w'->(∀b,ay (lJ Δ e.u++e.E v) b->ay (ml Δ e.u) b\/w.heap.size≤b)->K (a.put (some e.d) v) w')->
  if Region.wanted e.o (yielded ops a.tmps) then e.o.wk c.M c.rd a w K Q else K (a.put (some e.d) undef) w
def GO(c:Cx)(ops:Array Oper)(Δ:List D):Ga->List DE->Prop
 |_,[]=>True
 |Γ,e::es=>DV c ops Δ e/\ew Γ e.N/\GO c ops Δ ((e.d,e.r)::Γ) es
def EN:Ga->List DE->Ga
 |Γ,[]=>Γ
 |Γ,e::es=>EN ((e.d,e.r)::Γ) es
def pj:List DE->List Value->Ga
 |e::es,v::vs=>if e.b then(e.d,.eq v)::pj es vs else pj es vs
 |_,_=>[]
def tN(e:DE)(k:Nat):Bool:=match e.u with |some (k',true)=>k' == k |_=>false
def mj(es:List DE)(k:Nat):Bool:=es.any λe=>tN e k
def births:List DE->List Value->List D
 |e::es,v::vs=>e.E v++births es vs
 |_,_=>[]
def j8(Δ:List D)(es:List DE)(vs:List Value):List D:=keepFrom 0 Δ++births es vs
where
 keepFrom (k:Nat):List D->List D
 |[]=>[]
 |d::l=>if mj es k then keepFrom (k+1) l else d::keepFrom (k+1) l
def f9(o:Oper):List Nat:=(o.after.toList.filter (Region.binds .any)).map (·.on)
def sQ(masks:List Nat):List Nat->Nat
 |[]=>0
 |j::js=>(1 <<< j |||masks.getD j 0) |||sQ masks js
def lV:List Nat->List Oper->List Nat
 |masks,[]=>masks
 |masks,o::l=>lV (masks++[sQ masks (f9 o)]) l
def gz:List (Operand×A)->List Nat
 |[]=>[]
 |(.tmp t,_)::l=>t::gz l
 |_::l=>gz l
def uM(M:List Nat)(es:List DE)(i:Nat)(e:DE):Bool:=
 es.zipIdx.all λ(e',j)=>j == i ||
  (e'.d != e.d && (!(gz e.N).contains e'.d || (if j < i then(M.getD i 0).testBit j else(M.getD j 0).testBit i)) &&
   (match e.u,e'.u with |some (k,x),some (k',x')=>(k != k' && blt k 64 && blt k' 64) || (!x && !x') |_,_=>true))
def OZ(full:List Oper)(es:List DE):Bool:=
 let M:=lV [] full
 (es.zipIdx.all λ(e,i)=>uM M es i e) && (full.zipIdx.all λ(o,i)=>(f9 o).all (· < i))
def chk(full:List Oper)(es:List DE):Bool:=
 let M:=lV [] full
 (es.zipIdx.all λ(e,i)=>uM M es i e) && (full.zipIdx.all λ(o,i)=>(f9 o).all (· < i)) &&
 ((List.range full.length).all λj=>j < es.length || (List.range j).all λi=>(M.getD j 0).testBit i)
section
variable {c:Cx}{full:List Oper}{Q:Exit->Act->VW->Prop}{Γ0 Γ:Ga}{Δ:List D}{acc:List DE}{o:Oper}{l:List Oper}{N:List (Operand×A)}{r:A}{d:Nat}{id:Nat}
def DR(c:Cx)(id:Nat)(full:List Oper)(Q:Exit->Act->VW->Prop)(Γ0:Ga)(Δ:List D)(acc:List DE)(l:List Oper)(Γ:Ga):Prop:=
 full=acc.map (·.o)++l->GO c full.toArray Δ Γ0 acc->Γ=EN Γ0 acc->∀ops,SX ops full.toArray->JC c (.region id ops true) Q Γ0 Δ
theorem GO.snoc{ops:Array Oper}{e:DE}:∀{acc:List DE} {Γ0:Ga},GO c ops Δ Γ0 acc->DV c ops Δ e->ew (EN Γ0 acc) e.N->GO c ops Δ Γ0 (acc++[e])
 |[],_,_,h,h'=>⟨h,h',trivial⟩
 |_::_,_,⟨h1,h2,h3⟩,h,h'=>⟨h1,h2,GO.snoc h3 h h'⟩
theorem Hu{e:DE}(acc:List DE):∀{Γ0:Ga},EN Γ0 (acc++[e])=(e.d,e.r)::EN Γ0 acc:=by
 induction acc with
 |nil=>intro Γ0;rfl
 |cons x acc ih=>intro Γ0;exact ih
theorem DR.step{e:DE}(ho:e.o=o)(hv:DV c full.toArray Δ e)(hh:ew Γ e.N)(h:DR c id full Q Γ0 Δ (acc++[e]) l ((e.d,e.r)::Γ)):DR c id full Q Γ0 Δ acc (o::l) Γ:=by
 intro h1 h2 h3;subst h3;exact h (by simp_all) (GO.snoc h2 hv hh) (Hu acc).symm
theorem GK(h:DR c id full Q Γ Δ [] full Γ):JC c (.region id full.toArray true) Q Γ Δ:=h rfl trivial rfl _ (SX.refl _)
theorem LR{l0:List Oper}(hr:SX l0.toArray full.toArray)(h:DR c id full Q Γ Δ [] full Γ):JC c (.region id l0.toArray true) Q Γ Δ:=h rfl trivial rfl _ hr
theorem GN{ops:Array Oper}(hg:o.guard=none)(hd:o.dst=some d)(hdN:blt d c.N=true)(ht:bu c.M o N [] (λ_:Unit=>(r,[]))):DV c ops Δ ⟨o,d,N,r,none,false,λ_=>[]⟩:=
 ⟨hd,blt_eq▸hdN,λS w a K Q hdm hN hO k=>by
  rw [if_pos (aj hg _)]
  exact ht.run c.rd S w a K Q hdm hN hO λ_ S' w' v h1 h2 h3 h4=>by grind⟩
theorem GM{ops:Array Oper}{e:D}(k:Nat)(hk:Δ[k]? =some e)(hg:o.guard=none)(hd:o.dst=some d)(hdN:blt d c.N=true)(ht:bu c.M o N [e] (λ_:Unit=>(r,[e]))):DV c ops Δ ⟨o,d,N,r,some (k,false),false,λ_=>[]⟩:=
 ⟨hd,blt_eq▸hdN,λS w a K Q hdm hN hO kk=>by
  rw [if_pos (aj hg _)]
  simp only [ml,lJ,hk,append_nil] at hO kk
  exact ht.run c.rd S w a K Q hdm hN hO λ_ S' w' v h1 h2 h3 h4=>by grind⟩
theorem PT{ops:Array Oper}{e e':D}(i j:Nat)(hi:Δ[i]? =some e)(hj:Δ[j]? =some e')(hl:(blt j 64 && i != j && ble Δ.length 64)=true)(hg:o.guard=none)(hd:o.dst=some d)(hdN:blt d c.N=true)(ht:bu c.M o N [e,e'] (λ_:Unit=>(r,[e,e']))):DV c ops Δ ⟨o,d,N,r,some (64 * (i+1)+j,false),false,λ_=>[]⟩:=by
 simp only [Bool.and_eq_true,blt_eq,bne_iff_ne,ble_eq] at hl
 have hu:ml Δ (some (64 * (i+1)+j,false))=[e,e']:=by
  have h1:Δ[64 * (i+1)+j]? =none:=List.getElem?_eq_none (by omega);have h2:blt (64 * (i+1)+j) 64=false:=by rw [Bool.eq_false_iff];simp;omega
  grind
 exact⟨hd,blt_eq▸hdN,λS w a K Q hdm hN hO kk=>by
  rw [if_pos (aj hg _)];simp only [lJ,hu,append_nil] at hO kk;exact ht.run c.rd S w a K Q hdm hN hO λ_ S' w' v h1 h2 h3 h4=>by grind⟩
theorem L1{ops:Array Oper}{e e':D}(k:Nat)(hk:Δ[k]? =some e)(hg:o.guard=none)(hd:o.dst=some d)(hdN:blt d c.N=true)(ht:bu c.M o N [e] (λ_:Unit=>(r,[e']))):DV c ops Δ ⟨o,d,N,r,some (k,true),false,λ_=>[e']⟩:=
 ⟨hd,blt_eq▸hdN,λS w a K Q hdm hN hO kk=>by
  rw [if_pos (aj hg _)]
  simp only [ml,lJ,hk,nil_append] at hO kk
  exact ht.run c.rd S w a K Q hdm hN hO λ_ S' w' v h1 h2 h3 h4=>by grind⟩
theorem L0{ops:Array Oper}{X:Type}{f:X->Value}{E:X->List D}(E':Value->List D)(hE:∀x,E' (f x)=E x)(hg:o.guard=none)(hd:o.dst=some d)(hdN:blt d c.N=true)(ht:bu c.M o N [] (λx=>(.eq (f x),E x))):
 DV c ops Δ ⟨o,d,N,.any,none,true,E'⟩:=
 ⟨hd,blt_eq▸hdN,λS w a K Q hdm hN hO k=>by
  rw [if_pos (aj hg _)]
  exact ht.run c.rd S w a K Q hdm hN hO λx S' w' v h1 h2 h3 h4=>by
   have e:v=f x:=h2
   subst e
   rw [hd]
   exact k S' w' _ h1 trivial (by simp_all) (by simp_all)⟩
theorem H9{ops:Array Oper}{X:Type}{f:X->Value}{e:D}{E:X->List D}(k:Nat)(hk:Δ[k]? =some e)(E':Value->List D)(hE:∀x,E' (f x)=E x)(hg:o.guard=none)(hd:o.dst=some d)(hdN:blt d c.N=true)
 (ht:bu c.M o N [e] (λx=>(.eq (f x),E x))):DV c ops Δ ⟨o,d,N,.any,some (k,true),true,E'⟩:=
 ⟨hd,blt_eq▸hdN,λS w a K Q hdm hN hO kk=>by
  rw [if_pos (aj hg _)]
  simp only [ml,lJ,hk] at hO kk
  exact ht.run c.rd S w a K Q hdm hN hO λx S' w' v h1 h2 h3 h4=>by
   have e:v=f x:=h2
   subst e
   rw [hd]
   exact kk S' w' _ h1 trivial (by simp_all) (by simp_all)⟩
theorem pM{ops:Array Oper}{j s:Nat}{g b:Bool}{oj:Oper}(hg:o.guard=some (j,g))(hj:ops[j]? =some oj)(hs:oj.dst=some s){a:Act}(h:a.tmps.getD s undef= .bool b):Region.wanted o (yielded ops a.tmps)=(b == g):=by
 have h8:yielded ops a.tmps j=some b:=by
  unfold yielded;simp only [hj,Option.bind_some,hs];rw [getD_eq_getD_getElem?] at h;grind [undef]
 simp_all [Region.wanted]
theorem Tn{ops:Array Oper}{j s:Nat}{g:Bool}{oj:Oper}(hg:o.guard=some (j,g))(hj:ops[j]? =some oj)(hs:oj.dst=some s)(hd:o.dst=some d)(hdN:blt d c.N=true)(ht:bu c.M o N [] (λ_:Unit=>(r,[]))):
 DV c ops Δ ⟨o,d,(.tmp s,.eq (.bool g))::N,r,none,false,λ_=>[]⟩:=
 ⟨hd,blt_eq▸hdN,λS w a K Q hdm hN hO k=>by
  have hb:a.tmps.getD s undef= .bool g:=hN.1
  rw [if_pos (by grind [pM])]
  exact ht.run c.rd S w a K Q hdm hN.2 hO λ_ S' w' v h1 h2 h3 h4=>by grind⟩
theorem Tm{ops:Array Oper}{e:D}(k:Nat)(hk:Δ[k]? =some e){j s:Nat}{g:Bool}{oj:Oper}(hg:o.guard=some (j,g))(hj:ops[j]? =some oj)(hs:oj.dst=some s)(hd:o.dst=some d)(hdN:blt d c.N=true)(ht:bu c.M o N [e] (λ_:Unit=>(r,[e]))):
 DV c ops Δ ⟨o,d,(.tmp s,.eq (.bool g))::N,r,some (k,false),false,λ_=>[]⟩:=
 ⟨hd,blt_eq▸hdN,λS w a K Q hdm hN hO kk=>by
  have hb:a.tmps.getD s undef= .bool g:=hN.1
  rw [if_pos (by grind [pM])]
  simp only [ml,lJ,hk,append_nil] at hO kk
  exact ht.run c.rd S w a K Q hdm hN.2 hO λ_ S' w' v h1 h2 h3 h4=>by grind⟩
theorem Tj{ops:Array Oper}{j s:Nat}{g b:Bool}{oj:Oper}(hg:o.guard=some (j,g))(hj:ops[j]? =some oj)(hs:oj.dst=some s)(hb:(b == g)=false)(hd:o.dst=some d)(hdN:blt d c.N=true):
 DV c ops Δ ⟨o,d,[(.tmp s,.eq (.bool b))],.eq undef,none,false,λ_=>[]⟩:=
 ⟨hd,blt_eq▸hdN,λS w a K Q hdm hN hO k=>by
  have hb':a.tmps.getD s undef= .bool b:=hN.1
  rw [if_neg (by grind [pM])]
  exact k S w undef (bI.refl hdm) rfl (by simp_all) (λb hb=>(cG (by simpa [lJ] using hb)).elim)⟩
def lst(L:Array Bool)(j:Nat):Bool:=L.getD j false
def eU(L:Array Bool)(k:Nat):Nat->List DE->Bool
 |_,[]=>false
 |j,e::es=>(lst L j && tN e k) || eU L k (j+1) es
def dX(p:Nat->Bool):Nat->List D->List D
 |_,[]=>[]
 |k,d::l=>if p k then d::dX p (k+1) l else dX p (k+1) l
def g9(L:Array Bool)(a:Act):Nat->List DE->List D
 |_,[]=>[]
 |j,e::es=>(if lst L j then e.E (a.tmps.getD e.d undef) else [])++g9 L a (j+1) es
def xH(Δ:List D)(es:List DE)(L:Array Bool)(a:Act):List D:=dX (λk=> !eU L k 0 es) 0 Δ++g9 L a 0 es
theorem qz{p q:Nat->Bool}:∀{l:List D} {k:Nat},(∀j,p j=q j)->dX p k l=dX q k l
 |[],_,_=>rfl
 |d::l,k,h=>by simp only [dX,h k,qz h]
theorem nI{p:Nat->Bool}{d:D}:∀{l:List D} {i k:Nat},l[i]? =some d->p (k+i)=true->(dX p k l).Perm (d::dX (λj=>p j && j != k+i) k l)
 |[],_,_,h,_=>by simp at h
 |x::l,0,k,h,hp=>by
  simp at h
  subst h
  have e:dX p (k+1) l=dX (λj=>p j && j != k) (k+1) l:=by
   have:∀(l:List D) (m:Nat),k < m->dX p m l=dX (λj=>p j && j != k) m l:=by
    intro l
    induction l with
    |nil=>intro m _;rfl
    |cons y l ih=>
     intro m hm;have:(m != k)=true:=by simp;omega
     simp only [dX,this,Bool.and_true,ih (m+1) (by omega)]
   simp_all
  simp_all [Nat.add_zero,dX,if_true,bne_self_eq_false,Bool.and_false,Bool.false_eq_true,if_false]
 |x::l,i+1,k,h,hp=>by
  have ih:=nI (l:=l) (i:=i) (k:=k+1) (by simpa using h) (by rw [<-hp];congr 1;omega);have e1:k+1+i=k+(i+1):=by omega
  rw [e1] at ih;have hne:(k != k+(i+1))=true:=by simp
  simp only [dX,hne,Bool.and_true];split
  .exact(ih.cons x).trans (List.Perm.swap _ _ _)
  .exact ih
end
section
variable {L L':Array Bool}{a a':Act}{i:Nat}{e:DE}{v:Value}
theorem xg(hL:∀j,j≠i->lst L' j=lst L j):∀{es:List DE} {m:Nat},i < m->(∀(j:Nat) (e':DE),es[j]? =some e'->a'.tmps.getD e'.d undef=a.tmps.getD e'.d undef)->g9 L' a' m es=g9 L a m es
 |[],_,_,_=>rfl
 |x::es,m,hm,hs=>by
  simp only [g9,hL m (by omega),hs 0 x rfl]
  rw [xg hL (by omega) (λj e' h=>hs (j+1) e' (by simpa using h))]
theorem Da(hL:∀j,j≠i->lst L' j=lst L j)(hi:lst L i=false)(hi':lst L' i=true)(hv:a'.tmps.getD e.d undef=v):
 ∀{es:List DE} {m k:Nat},m+k=i->es[k]? =some e->(∀(j:Nat) (e':DE),es[j]? =some e'->m+j≠i->a'.tmps.getD e'.d undef=a.tmps.getD e'.d undef)->(g9 L' a' m es).Perm (e.E v++g9 L a m es)
 |[],_,_,_,h,_=>by simp at h
 |x::es,m,0,hm,h,hs=>by
  simp at h hm
  subst h hm
  simp only [g9,hi,hi',if_true,Bool.false_eq_true,if_false,nil_append,hv]
  rw [xg hL (by omega) (λj e' h=>hs (j+1) e' (by simpa using h) (by omega))]
 |x::es,m,k+1,hm,h,hs=>by
  have ih:=Da hL hi hi' hv (es:=es) (m:=m+1) (k:=k) (by omega) (by simpa using h) (λj e' h hj=>hs (j+1) e' (by simpa using h) (by omega))
  simp only [g9,hL m (by omega),hs 0 x rfl (by omega)]
  refine(List.Perm.append_left _ ih).trans ?_
  grind [List.append_assoc,List.Perm.append_right,perm_append_comm]
theorem yr(hL:∀j,j≠i->lst L' j=lst L j){k:Nat}:∀{es:List DE} {m:Nat},i < m->eU L' k m es=eU L k m es
 |[],_,_=>rfl
 |x::es,m,hm=>by simp only [eU,hL m (by omega),yr hL (es:=es) (m:=m+1) (by omega)]
theorem Fh(hL:∀j,j≠i->lst L' j=lst L j)(hi:lst L i=false)(hi':lst L' i=true){k:Nat}:∀{es:List DE} {m q:Nat},m+q=i->es[q]? =some e->eU L' k m es=(eU L k m es || tN e k)
 |[],_,_,_,h=>by simp at h
 |x::es,m,0,hm,h=>by
  simp at h hm
  subst h hm
  simp only [eU,hi,hi',Bool.true_and,Bool.false_and,Bool.false_or,yr hL (es:=es) (m:=m+1) (by omega)]
  grind
 |x::es,m,q+1,hm,h=>by
  simp only [eU,hL m (by omega),Fh hL hi hi' (k:=k) (es:=es) (m:=m+1) (q:=q) (by omega) (by simpa using h),Bool.or_assoc]
theorem mm{k:Nat}:∀{es:List DE} {m:Nat},(∀(j:Nat) (e':DE),es[j]? =some e'->lst L (m+j)=true->tN e' k=false)->eU L k m es=false
 |[],_,_=>rfl
 |x::es,m,h=>by
  simp only [eU]
  rw [mm (es:=es) (m:=m+1) (λj e' he hl=>h (j+1) e' (by simp_all) (by grind))]
  have h0:=h 0 x rfl
  simp_all
theorem cZ{L:Array Bool}{i j:Nat}(hi:i < L.size):lst (L.setIfInBounds i true) j=if i=j then true else lst L j:=by
 simp only [lst,getD_eq_getD_getElem?,getElem?_setIfInBounds];grind
def cnt(L:Array Bool):Nat->Nat
 |0=>0
 |t+1=>cnt L t+if lst L t then 0 else 1
theorem xf(hL:∀j,j≠i->lst L' j=lst L j):∀{t:Nat},t≤i->cnt L' t=cnt L t
 |0,_=>rfl
 |t+1,h=>by simp only [cnt,hL t (by omega),xf hL (t:=t) (by omega)]
theorem rj(hL:∀j,j≠i->lst L' j=lst L j)(hi:lst L i=false)(hi':lst L' i=true):∀{t:Nat},i < t->cnt L' t+1=cnt L t
 |0,h=>by omega
 |t+1,h=>by
  simp only [cnt]
  rcases Nat.lt_or_ge i t with hlt |hge
  .
   have:=rj hL hi hi' (t:=t) hlt
   grind
  .
   have e:i=t:=by omega
   subst e
   rw [xf hL (Nat.le_refl _),hi,hi']
   simp
theorem mZ:∀{t:Nat},cnt L t=0->∀j,j < t->lst L j=true
 |0,_,_,h=>by omega
 |t+1,h0,j,h=>by
  simp only [cnt] at h0
  rcases Nat.lt_or_ge j t with hlt |hge
  .
   exact mZ (t:=t) (by omega) j hlt
  grind
theorem rl:∀{t:Nat},cnt L t≠0->∃j,j < t/\lst L j=false/\∀k,k < j->lst L k=true
 |0,h=>absurd rfl h
 |t+1,h=>by
  by_cases h0:cnt L t=0
  .
   grind [mZ,lst,cnt]
  .
   obtain⟨j,h1,h2,h3⟩:=rl h0
   grind
end
theorem li{M:List Nat}{k:Nat}:∀{js:List Nat},(sQ M js).testBit k=true->∃j∈js,k=j\/(M.getD j 0).testBit k=true
 |[],h=>by simp [sQ] at h
 |j::js,h=>by
  simp only [sQ,testBit_or,Bool.or_eq_true] at h
  rcases h with(h |h) |h
  .
   simp_all [mem_cons_self,one_shiftLeft,testBit_two_pow]
  .
   simp_all
  .
   obtain⟨j',h1,h2⟩:=li h
   grind
theorem qF:∀{l:List Oper} {M:List Nat} {j:Nat},j < M.length->(lV M l)[j]? =M[j]?
 |[],_,_,_=>rfl
 |o::l,M,j,h=>by
  rw [lV,qF (by simp;omega),List.getElem?_append_left h]
theorem tP:∀{l:List Oper} {M:List Nat} {q:Nat} {o:Oper},l[q]? =some o->∃M',M'.length=M.length+q/\(∀j,j < M'.length->(lV M l)[j]? =M'[j]?)/\(lV M l)[M.length+q]? =some (sQ M' (f9 o))
 |[],_,_,_,h=>by simp at h
 |o::l,M,0,o',h=>by
  simp at h
  subst h
  refine⟨M,rfl,λj hj=>qF hj,?_⟩
  simp_all [lV,Nat.add_zero,qF]
 |x::l,M,q+1,o,h=>by
  obtain⟨M',h1,h2,h3⟩:=tP (l:=l) (M:=M++[sQ M (f9 x)]) (q:=q) (by simpa using h)
  grind [lV]
theorem tR{full:List Oper}{L:Array Bool}(hcl:∀j o,full[j]? =some o->lst L j=true->∀i∈f9 o,lst L i=true)(hlt:∀j o,full[j]? =some o->∀i∈f9 o,i < j):
 ∀(n j:Nat) (o:Oper),j≤n->full[j]? =some o->(∀i∈f9 o,lst L i=true)->∀k,((lV [] full).getD j 0).testBit k=true->lst L k=true:=by
 intro n
 induction n with
 |zero=>
  intro j o hj ho hp k hk;have:j=0:=by omega
  subst this;obtain⟨M',h1,h2,h3⟩:=tP (M:=[]) ho;simp only [length_nil,Nat.zero_add] at h3;grind [li]
 |succ n ih=>
  intro j o hj ho hp k hk;obtain⟨M',h1,h2,h3⟩:=tP (M:=[]) ho;simp only [length_nil,Nat.zero_add] at h1 h3;rw [getD_eq_getElem?_getD,h3,Option.getD_some] at hk;obtain⟨i,hi,hk⟩:=li hk;rcases hk with rfl |hk
  .exact hp k hi
  .have hij:=hlt j o ho i hi
   have hjl:j < full.length:=by
    grind
   obtain⟨oi,hoi⟩:∃oi,full[i]? =some oi:=⟨_,List.getElem?_eq_getElem (by omega)⟩;refine ih i oi (by omega) hoi (hcl i oi hoi (hp i hi)) k ?_;grind
theorem dE{full:List Oper}{L:Array Bool}(hs:L.size=full.length){i:Nat}:i∈Region.ready .any full.toArray L↔∃o,full[i]? =some o/\lst L i=false/\∀j∈f9 o,lst L j=true:=by
 rw [mem_ready];constructor
 .rintro⟨h1,o,h2,h3⟩;have h2':full[i]? =some o:=by simp_all
  have hi:i < L.size:=by
   grind
  refine⟨o,h2',?_,λj hj=>?_⟩
  .simp_all [lst,getD_eq_getD_getElem?,Array.getElem?_eq_getElem,Option.getD_some]
  .simp only [f9,List.mem_map,List.mem_filter,mem_toList_iff] at hj;obtain⟨ed,⟨h4,h5⟩,rfl⟩:=hj;exact h3 ed h4 h5
 .rintro⟨o,h1,h2,h3⟩
  have hi:i < L.size:=by
   grind
  refine⟨?_,o,by simp_all,λed h4 h5=>h3 ed.on ?_⟩
  .simp_all [lst,getD_eq_getD_getElem?,Array.getElem?_eq_getElem,Option.getD_some]
  grind [f9]
theorem eH{α:Type}{l:List α}{p:α×Nat->Bool}(h:l.zipIdx.all p=true){i:Nat}{x:α}(hx:l[i]? =some x):p (x,i)=true:=by
 grind
section
variable {c:Cx}{full:List Oper}{Q:Exit->Act->VW->Prop}{Γ0 Γ:Ga}{Δ:List D}{acc:List DE}{l:List Oper}{id:Nat}
theorem Bm{P:Program}{M:Md P}{rd:Option Nat}(hlt:∀j o,full[j]? =some o->∀i∈f9 o,i < j):∀(l:List Oper) (j:Nat),full.drop j=l->(∀m,j≤m->m < full.length->∀i,i < m->((lV [] full).getD m 0).testBit i=true)->
 ∀(L:Array Bool),L.size=full.length->(∀i,i < j->i < full.length->lst L i=true)->(∀i,j≤i->lst L i=false)->∀(a:Act) (w:VW),GZ M rd full.toArray Q l a w->∀aM,l.length≤aM->ip M rd .any full.toArray Q aM L a w:=by
 intro l
 induction l with
 |nil=>
  intro j hd _ L hs h1 h2 a w hw aM _
  have hr:Region.ready .any full.toArray L=[]:=by
   rw [eq_nil_iff_forall_not_mem];grind [dE,Nat.lt_or_ge,List.getElem?_eq_none]
  cases aM with
  |zero=>exact⟨hr,hw⟩
  |succ n=>exact⟨λ_=>hw,by rw [hr];simp⟩
 |cons o l ih=>
  intro j hd hf L hs h1 h2 a w hw aM hfuel
  have hjl:j < full.length:=by
   grind
  rw [drop_eq_getElem_cons hjl] at hd;simp only [List.cons.injEq] at hd;obtain⟨hd1,hd2⟩:=hd;have ho:full[j]? =some o:=by simp_all
  have hcl:∀j o,full[j]? =some o->lst L j=true->∀i∈f9 o,lst L i=true:=λj' o' h3 h4 i hi=>by
   grind
  have hrj:j∈Region.ready .any full.toArray L:=(dE hs).2 ⟨o,ho,h2 j (Nat.le_refl _),λi hi=>h1 i (hlt j o ho i hi) (by grind)⟩;obtain⟨m,rfl⟩:∃m,aM=m+1:=⟨aM - 1,by grind⟩;refine⟨λh0=>(by simp_all),λi hi=>?_⟩;obtain⟨oi,h3,h4,h5⟩:=(dE hs).1 hi
  have hij:i=j:=by
   have hil:i < full.length:=by
    grind
   rcases Nat.lt_trichotomy i j with h |h |h
   .simp_all
   .exact h
   .have:=tR hcl hlt i i oi (Nat.le_refl _) h3 h5 j (hf i (by omega) hil j h);grind
  subst hij;have ho':full.toArray[i]? =some o:=by simp_all
  unfold pC;simp only [ho']
  have hnext:∀a' w',GZ M rd full.toArray Q l a' w'->ip M rd .any full.toArray Q m (L.setIfInBounds i true) a' w':=λa' w' h=>by
   have hsz:i < L.size:=by omega
   refine ih (i+1) hd2 (λm hm=>hf m (by omega)) _ (by grind) (λk hk hk2=>?_) (λk hk=>?_) a' w' h m (by grind)
   .rw [cZ hsz];grind
   .rw [cZ hsz,if_neg (by omega)];grind
  unfold GZ at hw;split
  .rename_i hwt;rw [if_pos hwt] at hw;exact qg hnext hw
  grind
structure sV(c:Cx)(full:List Oper)(Γ0:Ga)(Δ:List D)(acc:List DE)(L:Array Bool)(a:Act)(w:VW):Prop where
 size:L.size=full.length
 past:∀j,acc.length≤j->lst L j=false
 closed:∀j o,full[j]? =some o->lst L j=true->∀i∈f9 o,lst L i=true
 defers:a.defers=c.dfs
 tmps:a.tmps.size=c.N
 ex:∃S:FS,bI c.X c.S0 c.w0 S w/\(∀b,ay (xH Δ acc L a) b->c.X b\/c.w0.heap.size≤b)/\ba (xH Δ acc L a) S w/\
  (∀s r,lk Γ0 s=some r->(∀j (e:DE),acc[j]? =some e->lst L j=true->e.d≠s)->r.holds S w (a.tmps.getD s undef))/\
  (∀j (e:DE),acc[j]? =some e->lst L j=true->e.r.holds S w (a.tmps.getD e.d undef))
theorem GO.nth{ops:Array Oper}(acc:List DE):∀{Γ0:Ga} {i:Nat} {e:DE},GO c ops Δ Γ0 acc->acc[i]? =some e->DV c ops Δ e/\ew (EN Γ0 (acc.take i)) e.N:=by
 induction acc with
 |nil=>simp_all
 |cons x acc ih=>
  rintro Γ0 i e ⟨h1,h2,h3⟩ h;cases i with
  |zero=>simp at h;subst h;exact⟨h1,h2⟩
  |succ i=>exact ih h3 (by simpa using h)
theorem vM{s:Nat}{r:A}:∀{acc:List DE} {Γ0:Ga},lk (EN Γ0 acc) s=some r->(∃(j:Nat) (e:DE),acc[j]? =some e/\e.d=s/\e.r=r)\/(lk Γ0 s=some r/\∀(j:Nat) (e:DE),acc[j]? =some e->e.d≠s)
 |[],Γ0,h=>.inr ⟨h,λj e h=>by simp at h⟩
 |x::acc,Γ0,h=>by
  rcases vM (acc:=acc) h with⟨j,e,h1,h2⟩ |⟨h1,h2⟩
  .
   exact .inl ⟨j+1,e,by simp_all,h2⟩
  .
   simp only [lk] at h1
   split at h1
   .
    rename_i e;cases h1;exact .inl ⟨0,x,rfl,e,rfl⟩
   grind
theorem eX{S:FS}{w:VW}{a:Act}{Γ:Ga}:∀{N:List (Operand×A)},ew Γ N->(∀s r,s∈gz N->lk Γ s=some r->r.holds S w (a.tmps.getD s undef))->bM S w a N
 |[],_,_=>trivial
 |(.tmp t,r)::l,hh,h=>⟨h t r (by simp [gz]) hh.1,eX hh.2 λs r hs hl=>h s r (by simp [gz,hs]) hl⟩
 |(.const v,r)::l,hh,h=>⟨by rw [hh.1];rfl,eX hh.2 λs r hs hl=>h s r (by simp_all [gz]) hl⟩
 |(.func f,r)::l,hh,h=>⟨by rw [hh.1];rfl,eX hh.2 λs r hs hl=>h s r (by simp_all [gz]) hl⟩
 |(.global g,r)::l,hh,h=>⟨by rw [hh.1];rfl,eX hh.2 λs r hs hl=>h s r (by simp_all [gz]) hl⟩
theorem HQ{L:Array Bool}{a:Act}{u:Option (Nat×Bool)}(hu:∀k x,u=some (k,x)->eU L k 0 acc=false/\(64≤k->x=false->∀k',eU L k' 0 acc=false)):∃rest,(xH Δ acc L a).Perm (ml Δ u++rest)/\
 ∀L' a',(∀k,eU L' k 0 acc=(eU L k 0 acc || (match u with |some (k',true)=>k' == k |_=>false)))->∀B,(g9 L' a' 0 acc).Perm (B++g9 L a 0 acc)->(xH Δ acc L' a').Perm ((lJ Δ u++B)++rest):=by
 have same:∀L',(∀k,eU L' k 0 acc=eU L k 0 acc)->dX (λk=> !eU L' k 0 acc) 0 Δ=dX (λk=> !eU L k 0 acc) 0 Δ:=λL' h=>qz λj=>by rw [h]
 have plain:∀{u:Option (Nat×Bool)},ml Δ u=[]->lJ Δ u=[]->(∀k,k < Δ.length->(match u with |some (k',true)=>k' == k |_=>false)=false)->
  ∃rest,(xH Δ acc L a).Perm (ml Δ u++rest)/\∀L' a',(∀k,eU L' k 0 acc=(eU L k 0 acc || (match u with |some (k',true)=>k' == k |_=>false)))->∀B,(g9 L' a' 0 acc).Perm (B++g9 L a 0 acc)->(xH Δ acc L' a').Perm ((lJ Δ u++B)++rest):=by
  intro u h1 h2 h3
  refine⟨xH Δ acc L a,by simp_all,λL' a' hL B hB=>?_⟩
  rw [h2,nil_append]
  have hk:dX (λk=> !eU L' k 0 acc) 0 Δ=dX (λk=> !eU L k 0 acc) 0 Δ:=by
   have:∀(l:List D) (m:Nat),m+l.length≤Δ.length->dX (λk=> !eU L' k 0 acc) m l=dX (λk=> !eU L k 0 acc) m l:=by
    intro l
    induction l with
    |nil=>intro m _;rfl
    |cons x l ih=>
     intro m hm;simp only [length_cons] at hm;simp only [dX,hL m,h3 m (by omega),Bool.or_false,ih (m+1) (by omega)]
   simp_all
  unfold xH
  rw [hk]
  refine(List.Perm.append_left _ hB).trans ?_
  grind [List.append_assoc,List.Perm.append_right,perm_append_comm]
 rcases u with _ |⟨k,x⟩
 .
  exact plain rfl rfl λ_ _=>rfl
 .
  cases hk:Δ[k]? with
  |none=>
   have hge:Δ.length≤k:=by simp_all
   by_cases hz:(x || blt k 64)=true\/IL Δ k=[]
   .have hu0:ml Δ (some (k,x))=[]:=by
     grind
    refine plain hu0 (by grind) λk' hk'=>?_;grind
   .have hx:x=false/\64≤k:=by
     grind
    obtain⟨rfl,hk64⟩:=hx
    have hu1:ml Δ (some (k,false))=IL Δ k:=by
     grind
    have hall:=(hu k false rfl).2 hk64 rfl;have hz2:IL Δ k≠[]:=λh=>hz (.inr h)
    obtain⟨d,e,h1,h2,hne,h3⟩:∃d e,Δ[k / 64 - 1]? =some d/\Δ[k % 64]? =some e/\k / 64 - 1≠k % 64/\IL Δ k=[d,e]:=by
     grind
    have hsp:=nI (p:=λk=> !eU L k 0 acc) (l:=Δ) (i:=k / 64 - 1) (k:=0) h1 (by simp [hall]);have hsq:=nI (p:=λj=> !eU L j 0 acc && j != (0+(k / 64 - 1))) (l:=Δ) (i:=k % 64) (k:=0) h2 (by grind);have hpp:=hsp.trans (List.Perm.cons _ hsq);refine⟨dX (λj=>(!eU L j 0 acc && j != (0+(k / 64 - 1))) && j != (0+k % 64)) 0 Δ++g9 L a 0 acc,?_,λL' a' hL B hB=>?_⟩
    .grind [xH,List.Perm.append_right]
    .unfold xH;have:dX (λk=> !eU L' k 0 acc) 0 Δ=dX (λk=> !eU L k 0 acc) 0 Δ:=same L' λj=>by rw [hL];simp
     rw [this];simp only [lJ,hu1,h3];refine((List.Perm.append_right _ hpp).trans (List.Perm.append_left _ hB)).trans ?_;simp only [cons_append,nil_append];refine List.Perm.cons _ (List.Perm.cons _ ?_);grind [List.append_assoc,List.Perm.append_right,perm_append_comm]
  |some d=>
   have h0:=(hu k x rfl).1;have hsp:=nI (p:=λk=> !eU L k 0 acc) (l:=Δ) (i:=k) (k:=0) hk (by simp [h0]);simp only [Nat.zero_add] at hsp;refine⟨dX (λj=> !eU L j 0 acc && j != k) 0 Δ++g9 L a 0 acc,?_,λL' a' hL B hB=>?_⟩
   .unfold xH;simp only [ml,hk];exact List.Perm.append_right _ hsp
   .unfold xH;cases x with
    |false=>
     have:dX (λk=> !eU L' k 0 acc) 0 Δ=dX (λk=> !eU L k 0 acc) 0 Δ:=same L' λj=>by rw [hL];simp
     rw [this];simp only [lJ,ml,hk];refine((List.Perm.append_right _ hsp).trans (List.Perm.append_left _ hB)).trans ?_;simp only [cons_append,nil_append];refine List.Perm.cons _ ?_;grind [List.append_assoc,List.Perm.append_right,perm_append_comm]
    |true=>
     have:dX (λk=> !eU L' k 0 acc) 0 Δ=dX (λj=> !eU L j 0 acc && j != k) 0 Δ:=qz λj=>by
      grind
     rw [this];simp only [lJ,nil_append];refine(List.Perm.append_left _ hB).trans ?_;grind [List.append_assoc,List.Perm.append_right,perm_append_comm]
theorem sV.step(hfull:full=acc.map (·.o)++l)(hDR:GO c full.toArray Δ Γ0 acc)(hck:OZ full acc=true){L:Array Bool}{a:Act}{w:VW}(h:sV c full Γ0 Δ acc L a w){i:Nat}(hi:i < acc.length)(hri:i∈Region.ready .any full.toArray L):
 pC c.M c.rd full.toArray Q i (λa' w'=>sV c full Γ0 Δ acc (L.setIfInBounds i true) a' w') a w:=by
 unfold OZ at hck
 simp only [Bool.and_eq_true] at hck
 obtain⟨hc1,hc2⟩:=hck
 have hlt:∀j o,full[j]? =some o->∀i∈f9 o,i < j:=λj o ho i hi=>by
  have:=eH hc2 ho;simp_all
 obtain⟨e,he⟩:∃e,acc[i]? =some e:=⟨_,List.getElem?_eq_getElem hi⟩
 obtain⟨hDV,hHas⟩:=GO.nth acc hDR he
 have hone:=eH hc1 he
 simp only [uM] at hone
 have hother:∀(j:Nat) (e':DE),acc[j]? =some e'->j≠i->e'.d≠e.d/\(e'.d∈gz e.N->if j < i then((lV [] full).getD i 0).testBit j=true else((lV [] full).getD j 0).testBit i=true)/\
  (∀k x k' x',e.u=some (k,x)->e'.u=some (k',x')->(k≠k'/\k < 64/\k' < 64)\/(x=false/\x'=false)):=λj e' hj hne=>by
  have:=eH hone hj
  simp only [Bool.or_eq_true,beq_iff_eq,hne,false_or,Bool.and_eq_true,bne_iff_ne,Bool.not_eq_true'] at this
  obtain⟨⟨h1,h2⟩,h3⟩:=this
  refine⟨h1,λhm=>?_,λk x k' x' hu hu'=>?_⟩
  .
   grind
  .
   rw [hu,hu'] at h3;simp only [Bool.or_eq_true,bne_iff_ne,Bool.and_eq_true,Bool.not_eq_true',blt_eq] at h3;grind
 obtain⟨oi,hoi,hli,hpi⟩:=(dE h.size).1 hri
 have hoe:oi=e.o:=by
  grind
 subst hoe
 have hiL:i < L.size:=by rw [h.size,hfull];simp;omega
 have hahead:=tR h.closed hlt i i e.o (Nat.le_refl _) hoi hpi
 obtain⟨S,h3,h4,h5,h6,h7⟩:=h.ex
 have hsetL:∀j,j≠i->lst (L.setIfInBounds i true) j=lst L j:=λj hj=>by rw [cZ hiL,if_neg (Ne.symm hj)]
 have hsetI:lst (L.setIfInBounds i true) i=true:=by rw [cZ hiL,if_pos rfl]
 have hnot:∀(j:Nat) (e':DE),acc[j]? =some e'->((lV [] full).getD j 0).testBit i=true->lst L j=false:=λj e' hj hb=>by
  cases hl:lst L j with
  |false=>rfl
  |true=>
   obtain⟨oj,hoj⟩:∃oj,full[j]? =some oj:=⟨_,List.getElem?_eq_getElem (by grind)⟩;have:=tR h.closed hlt j j oj (Nat.le_refl _) hoj (h.closed j oj hoj hl) i hb;grind
 have hneeds:bM S w a e.N:=eX hHas λs r hs hl=>by
  rcases vM hl with⟨j,e',hj,hd,hr⟩ |⟨h8,h9⟩
  .have hji:j < i:=by
    grind
   have hj':acc[j]? =some e':=by
    grind
   have hb:=(hother j e' hj' (by omega)).2.1 (by grind);rw [if_pos hji] at hb;have:=h7 j e' hj' (hahead j hb);rw [hd,hr] at this;exact this
  .refine h6 s r h8 λj e' hj hlj hds=>?_;rcases Nat.lt_trichotomy j i with hh |hh |hh
   .exact h9 j e' (by grind) hds
   .grind
   grind
 have hup:∀k x,e.u=some (k,x)->eU L k 0 acc=false/\(64≤k->x=false->∀k',eU L k' 0 acc=false):=λk x hu=>by
  refine⟨mm λj e' hj hlj=>?_,λhk hx k'=>mm λj e' hj hlj=>?_⟩
  all_goals
   simp only [Nat.zero_add] at hlj
   have hne:j≠i:=λhh=>by grind
   have h3:=(hother j e' hj hne).2.2
   unfold tN
   split
   .
    grind
   .
    rfl
 obtain⟨rest,hp1,hp2⟩:=HQ (Δ:=Δ) (acc:=acc) (L:=L) (a:=a) hup
 have hown:=h5.perm hp1
 have hownU:ba (ml Δ e.u) S w:=hown.part
 have hgo:=hDV.run S w a (λa' w'=>sV c full Γ0 Δ acc (L.setIfInBounds i true) a' w') Q h3.dom hneeds hownU λS' w' v hs hr ho hf=>by
  have hdl:e.d < a.tmps.size:=by rw [h.tmps];exact hDV.lt
  have hput:∀s,(a.put (some e.d) v).tmps.getD s undef=if e.d=s then v else a.tmps.getD s undef:=λs=>mX hdl
  have hbl:(g9 (L.setIfInBounds i true) (a.put (some e.d) v) 0 acc).Perm (e.E v++g9 L a 0 acc):=
   Da hsetL hli hsetI (by rw [hput,if_pos rfl]) (Nat.zero_add i) he λj e' hj hne=>by
    rw [hput,if_neg (Ne.symm (hother j e' hj (by omega)).1)]
  have hperm:=hp2 (L.setIfInBounds i true) (a.put (some e.d) v) (λk=>Fh hsetL hli hsetI (Nat.zero_add i) he) _ hbl;have hin:∀b,ay (ml Δ e.u) b->ay (xH Δ acc L a) b:=λb ⟨d,hd,hb⟩=>⟨d,hp1.mem_iff.2 (List.mem_append.2 (.inl hd)),hb⟩;have hK:gf S w w':=λb hb=>hs.keep b (h3.dom b hb) (h5.sees b hb) (λhx=>(h5.own b (hin b hx)).1 hb);have hfr:=hown.frame h3.dom hs ho hf;refine⟨by simpa using h.size,λj hj=>by rw [hsetL j (by omega)];exact h.past j hj,λj o hj hlj k hk=>?_,h.defers,by simpa [Act.put] using h.tmps,S',h3.trans hs λb hb=>h4 b (hin b hb),λb hb=>?_,hfr.perm hperm.symm,λs r hl hno=>?_,λj e' hj hlj=>?_⟩
  .rw [cZ hiL];split
   .rfl
   .rw [cZ hiL] at hlj;split at hlj
    .rename_i hij;subst hij;have:o=e.o:=by grind
     subst this;exact hpi k hk
    .exact h.closed j o hj hlj k hk
  .rw [kH hperm] at hb;obtain⟨d,hd,hbd⟩:=hb;rcases List.mem_append.1 hd with hd |hd
   .rcases hf b ⟨d,hd,hbd⟩ with hh |hh
    .exact h4 b (hin b hh)
    .exact .inr (Nat.le_trans h3.size hh)
   .exact h4 b ⟨d,hp1.mem_iff.2 (List.mem_append.2 (.inr hd)),hbd⟩
  .rw [hput,if_neg (hno i e he hsetI)];exact A.mono hs.sub hK r (h6 s r hl λj e' hj hlj=>hno j e' hj (by rw [cZ hiL];split <;> first |rfl |exact hlj))
  .rw [hput];by_cases hji:j=i
   .grind
   .rw [if_neg (Ne.symm (hother j e' hj hji).1)];exact A.mono hs.sub hK e'.r (h7 j e' hj (by rw [hsetL j hji] at hlj;exact hlj))
 have hoi':full.toArray[i]? =some e.o:=by simpa using hoi
 unfold pC
 simp only [hoi']
 split
 .
  grind
 .
  rename_i hw;rw [if_neg hw] at hgo;rw [hDV.dst];exact hgo
theorem St.drew{a:Act}{w v1:VW}(h:St c Γ Δ a w)(hr:bz w v1):St c Γ Δ a (v1.upd { v1.toWorld with drawn:=v1.drawn+1 }):=(h.rely hr).rely (bz.drawn v1 _)
theorem uv{s:Nat}{r:A}{a:Act}:∀{acc:List DE},lk (pj acc (acc.map λe=>a.tmps.getD e.d undef)++Γ) s=some r->r= .eq (a.tmps.getD s undef)\/lk Γ s=some r
 |[],h=>.inr h
 |e::es,h=>by
  simp only [map_cons,pj] at h
  split at h
  .
   simp only [cons_append,lk] at h
   split at h
   .
    simp_all
   .
    exact uv h
  .
   exact uv h
theorem sV.start{a:Act}{w1:VW}(hst':St c Γ0 Δ a w1):sV c full Γ0 Δ acc (Array.replicate full.toArray.size false) a w1:=by
 refine⟨by simp,λj _=>?_,λj o _ hj=>?_,hst'.defers,hst'.size,?_⟩
 .simp [lst,getD_eq_getD_getElem?,Array.getElem?_replicate];split <;> rfl
 .exfalso;simp [lst,getD_eq_getD_getElem?,Array.getElem?_replicate] at hj;grind
 .obtain⟨h1,h2,S,h3,h4,h5,h6⟩:=hst'
  have hz:∀j,lst (Array.replicate full.toArray.size false) j=false:=λj=>by
   simp [lst,getD_eq_getD_getElem?,Array.getElem?_replicate];split <;> rfl
  have hD:xH Δ acc (Array.replicate full.toArray.size false) a=Δ:=by
   unfold xH
   have e1:∀(es:List DE) (m:Nat),g9 (Array.replicate full.toArray.size false) a m es=[]:=by
    intro es
    induction es with
    |nil=>intro m;rfl
    |cons x es ih=>simp_all [g9]
   have e2:∀(l:List D) (k:Nat),dX (λk=> !eU (Array.replicate full.toArray.size false) k 0 acc) k l=l:=by
    intro l
    induction l with
    |nil=>intro k;rfl
    |cons x l ih=>
     intro k;have:eU (Array.replicate full.toArray.size false) k 0 acc=false:=mm λj e' _ hl=>by simp_all
     simp_all [dX,Bool.not_false,if_true]
   simp_all
  grind
theorem DR.fin(hck:chk full acc=true)(hm:c.P.follows .mixedOrders=true)(h:∀vs:List Value,vs.length=acc.length->JO c full.toArray l Q (pj acc vs++Γ) (j8 Δ acc vs)):DR c id full Q Γ0 Δ acc l Γ:=by
 intro hfull hDR hΓ ops hren a w hst;refine rF hren hm λv1 hv=>?_;have hst':=hst.drew hv;generalize (v1.upd { v1.toWorld with drawn:=v1.drawn+1 })=w1 at hst'⊢
 have hck0:OZ full acc=true:=by
  unfold chk at hck;simp only [Bool.and_eq_true] at hck;exact Bool.and_eq_true_iff.2 ⟨hck.1.1,hck.1.2⟩
 have hck':=hck;unfold chk at hck';simp only [Bool.and_eq_true] at hck';obtain⟨⟨hc1,hc2⟩,hc3⟩:=hck'
 have hlt:∀j o,full[j]? =some o->∀i∈f9 o,i < j:=λj o ho i hi=>by
  have:=eH hc2 ho;simp_all
 have hforced:∀m,acc.length≤m->m < full.length->∀i,i < m->((lV [] full).getD m 0).testBit i=true:=λm hm1 hm2 i hi=>by
  rw [List.all_eq_true] at hc3;have:=hc3 m (List.mem_range.2 hm2);grind
 have hlen:full.length=acc.length+l.length:=by grind
 have full_up:∀L a w,sV c full Γ0 Δ acc L a w->cnt L acc.length=0->∀aM,l.length≤aM->ip c.M c.rd .any full.toArray Q aM L a w:=by
  intro L a w hI h0 aM hf;have hall:=mZ h0;refine Bm hlt l acc.length (by grind) hforced L hI.size (λi hi _=>hall i hi) hI.past a w ?_ aM hf;refine h (acc.map λe=>a.tmps.getD e.d undef) (by simp) a w ?_;obtain⟨S,h3,h4,h5,h6,h7⟩:=hI.ex
  have hD:j8 Δ acc (acc.map λe=>a.tmps.getD e.d undef)=xH Δ acc L a:=by
   unfold j8 xH
   have e1:∀(es:List DE) (m:Nat),(∀j (e:DE),es[j]? =some e->lst L (m+j)=true)->births es (es.map λe=>a.tmps.getD e.d undef)=g9 L a m es:=by
    intro es
    induction es with
    |nil=>intro m _;rfl
    |cons x es ih=>
     intro m hh;have:=hh 0 x rfl;simp only [Nat.add_zero] at this;simp only [map_cons,births,g9,this,if_true];rw [ih (m+1) λj e he=>by have:=hh (j+1) e (by grind);grind]
   have e2:∀(k:Nat) (es:List DE) (m:Nat),(∀j (e:DE),es[j]? =some e->lst L (m+j)=true)->eU L k m es=mj es k:=by
    intro k es
    induction es with
    |nil=>intro m _;rfl
    |cons x es ih=>
     intro m hh;have:=hh 0 x rfl;simp only [Nat.add_zero] at this;simp only [eU,mj,any_cons,this,Bool.true_and];rw [ih (m+1) λj e he=>by have:=hh (j+1) e (by grind);grind];rfl
   have hl:∀j (e:DE),acc[j]? =some e->lst L (0+j)=true:=λj e he=>by
    grind
   rw [e1 acc 0 hl];congr 1
   have:∀(l:List D) (k:Nat),j8.keepFrom acc k l=dX (λk=> !eU L k 0 acc) k l:=by
    intro l
    induction l with
    |nil=>intro k;rfl
    |cons x l ih=>
     intro k;simp only [j8.keepFrom,dX,e2 k acc 0 hl,ih];grind
   grind
  rw [hD];refine⟨hI.defers,hI.tmps,S,h3,h4,h5,λs r hl=>?_⟩;rcases uv hl with rfl |hl
  .rfl
  .rw [hΓ] at hl;rcases vM hl with⟨j,e,hj,hd,hr⟩ |⟨h8,h9⟩
   .grind
   grind
 have key:∀aM L a w,sV c full Γ0 Δ acc L a w->cnt L acc.length+l.length≤aM->ip c.M c.rd .any full.toArray Q aM L a w:=by
  intro aM
  induction aM with
  |zero=>intro L a w hI hf;exact full_up L a w hI (by omega) 0 (by omega)
  |succ n ih=>
   intro L a w hI hf;by_cases h0:cnt L acc.length=0
   .grind
   .obtain⟨j,hj1,hj2,hj3⟩:=rl h0;obtain⟨oj,hoj⟩:∃oj,full[j]? =some oj:=⟨_,List.getElem?_eq_getElem (by omega)⟩;have hrj:j∈Region.ready .any full.toArray L:=(dE hI.size).2 ⟨oj,hoj,hj2,λi hi=>hj3 i (hlt j oj hoj i hi)⟩;refine⟨λhh=>(by grind),λi hi=>?_⟩;obtain⟨oi,hoi,hli,hpi⟩:=(dE hI.size).1 hi
    have hil:i < full.length:=by
     grind
    have hit:i < acc.length:=by
     rcases Nat.lt_or_ge i acc.length with h |h
     .exact h
     .have:=tR hI.closed hlt i i oi (Nat.le_refl _) hoi hpi j (hforced i h hil j (by omega));grind
    refine lZ (λa' w' hI'=>ih _ a' w' hI' ?_) (sV.step hfull hDR hck0 hI hit hi);have hiL:i < L.size:=by rw [hI.size];exact hil
    have:=rj (L:=L) (L':=L.setIfInBounds i true) (i:=i) (λj hj=>by rw [cZ hiL,if_neg (Ne.symm hj)]) hli (by rw [cZ hiL,if_pos rfl]) hit;omega
 refine key full.toArray.size _ a w1 ⟨by simp,λj _=>?_,λj o _ hj=>?_,hst'.defers,hst'.size,?_⟩ ?_
 .simp [lst,getD_eq_getD_getElem?,Array.getElem?_replicate];split <;> rfl
 .exfalso;simp [lst,getD_eq_getD_getElem?,Array.getElem?_replicate] at hj;grind
 .obtain⟨h1,h2,S,h3,h4,h5,h6⟩:=hst'
  have hz:∀j,lst (Array.replicate full.toArray.size false) j=false:=λj=>by
   simp [lst,getD_eq_getD_getElem?,Array.getElem?_replicate];split <;> rfl
  have hD:xH Δ acc (Array.replicate full.toArray.size false) a=Δ:=by
   unfold xH
   have e1:∀(es:List DE) (m:Nat),g9 (Array.replicate full.toArray.size false) a m es=[]:=by
    intro es
    induction es with
    |nil=>intro m;rfl
    |cons x es ih=>grind [g9]
   have e2:∀(l:List D) (k:Nat),dX (λk=> !eU (Array.replicate full.toArray.size false) k 0 acc) k l=l:=by
    intro l
    induction l with
    |nil=>intro k;rfl
    |cons x l ih=>
     intro k;have:eU (Array.replicate full.toArray.size false) k 0 acc=false:=mm λj e' _ hl=>by grind
     simp only [dX,this,ih (k+1),Bool.not_false,if_true]
   grind
  rw [hD];exact⟨S,h3,h4,h5,λs r hl _=>h6 s r hl,λj e hj hl=>by grind⟩
 .have:cnt (Array.replicate full.toArray.size false) acc.length≤acc.length:=by
   have:∀t,cnt (Array.replicate full.toArray.size false) t≤t:=by
    intro t
    induction t with
    |zero=>exact Nat.le_refl _
    |succ t ih=>grind [cnt]
   exact this _
  grind
end
section
variable {α β γ ρ:Type}{K:β->Option ρ}{r:ρ}
theorem aa{X:Option α}{f:α->Option β}(h:(X.bind f).bind K=some r):∃x,X=some x/\(f x).bind K=some r:=by
 cases X with
 |none=>cases h
 |some x=>simp_all
theorem dY{p:Prop}[Decidable p]{X Y:Option β}(hp:p)(h:(if p then X else Y).bind K=some r):X.bind K=some r:=by simp_all
theorem cz{p:Prop}[Decidable p]{X Y:Option β}(hp:¬p)(h:(if p then X else Y).bind K=some r):Y.bind K=some r:=by simp_all
theorem vz{p:Prop}[Decidable p](h:decide p=true):p:=of_decide_eq_true h
theorem vA{p:Prop}[Decidable p](h:decide p=false):¬p:=by simp_all
theorem Qf{p:Prop}[Decidable p](h:(!decide p)=true):¬p:=by simp_all
theorem MA{b:Bool}(h:b=false):¬b=true:=by simp [h]
theorem ti{b:Bool}(h:(!b)=true):¬b=true:=by simp_all
theorem aY{X:Option ρ}(h:X=some r):X.bind some=some r:=by rw [h];rfl
def bE{ε:Type}(X:Option (Except ε α))(g:ε->Option β)(f:α->Option β):Option β:=match X with
 |none=>none
 |some (.error e)=>g e
 |some (.ok x)=>f x
def bO(p:Prop)[Decidable p]:Option Unit:=if p then some () else none
theorem ap{p:Prop}[Decidable p]{u:Unit}(h:bO p=some u):p:=by
 simp_all [bO]
end
section
variable {c:Cx}{ops:Array Oper}{o:Oper}{l:List Oper}{Q:Exit->Act->VW->Prop}{Γ Γ':Ga}{Δ Δ' F:List D}{N:List (Operand×A)}{d:Nat}{X:Type}{r r':A}{C C':Code}
theorem aJ{α β ρ Z:Type}{Y:Option α}{f:α->Option β}{K:β->Option ρ}{q:ρ}(G:Z->α->Ga)(E:Z->α->List D)(h:(Y.bind f).bind K=some q)
 (h1:∀K':α->Option ρ,Y.bind K'=some q->JC c C (cD (λa w=>∃z:Z×α,K' z.2=some q/\St c (G z.1 z.2) (E z.1 z.2) a w) Q) Γ Δ)
 (h2:∀z x,(f x).bind K=some q->JC c C' Q (G z x) (E z x)):JC c (.seq C C') Q Γ Δ:=
 LV (Z:=Z×α) (λz=>G z.1 z.2) (λz=>E z.1 z.2) (λz=>(f z.2).bind K=some q) (h1 (λx=>(f x).bind K) (by
  grind)) λz h=>h2 z.1 z.2 h
theorem cF{α β ρ ε Z:Type}{Y:Option (Except ε α)}{g:ε->Option β}{f:α->Option β}{K:β->Option ρ}{q:ρ}(G:Z->α->Ga)(E:Z->α->List D)(p:ε->Prop)(h:(bE Y g f).bind K=some q)(hg:∀e,(g e).bind K=some q->p e)
 (h1:∀K':Except ε α->Option ρ,(∀e,K' (.error e)=some q->p e)->Y.bind K'=some q->JC c C (cD (λa w=>∃z:Z×α,K' (.ok z.2)=some q/\St c (G z.1 z.2) (E z.1 z.2) a w) Q) Γ Δ)
 (h2:∀z x,(f x).bind K=some q->JC c C' Q (G z x) (E z x)):JC c (.seq C C') Q Γ Δ:=
 LV (Z:=Z×α) (λz=>G z.1 z.2) (λz=>E z.1 z.2) (λz=>(f z.2).bind K=some q) (h1 (λ| .error e=>(g e).bind K | .ok x=>(f x).bind K) hg (by
  cases Y with
  |none=>cases h
  |some x=>cases x with
   |error e=>exact h
   |ok x=>exact h)) λz h=>h2 z.1 z.2 h
def dF(Δ:List D):List Nat->Option (List D)
 |[]=>some []
 |k::ks=>match Δ[k]?,dF Δ ks with
  |some d,some l=>some (d::l)
  |_,_=>none
theorem jX{Δ:List D}:∀{ks:List Nat} {Δ':List D},dF Δ ks=some Δ'->∀d∈Δ',∃k∈ks,Δ[k]? =some d
 |[],_,h,d,hd=>by cases h;simp at hd
 |k::ks,_,h,d,hd=>by
  simp only [dF] at h
  split at h
  .
   rename_i d' l h1 h2
   cases h
   rcases mem_cons.1 hd with rfl |hd
   .
    simp_all
   .
    obtain⟨k',h3,h4⟩:=jX h2 d hd
    grind
  .
   cases h
theorem tf{α:Type}{R:α->α->Prop}(hR:∀a b,R a b->R b a):∀{l:List α},l.Pairwise R->∀{i j:Nat} {a b:α},i≠j->l[i]? =some a->l[j]? =some b->R a b
 |[],_,i,_,_,_,_,h,_=>by simp at h
 |x::l,hp,i,j,a,b,hne,hi,hj=>by
  obtain⟨h1,h2⟩:=pairwise_cons.1 hp
  cases i with
  |zero=>
   grind
  |succ i=>
   cases j with
   |zero=>
    grind
   |succ j=>exact tf hR h2 (i:=i) (j:=j) (by omega) (by simp_all) (by simp_all)
theorem jR{Δ:List D}{R:D->D->Prop}(hR:∀a b,R a b->R b a)(hp:Δ.Pairwise R):∀{ks:List Nat} {Δ':List D},ks.Nodup->dF Δ ks=some Δ'->Δ'.Pairwise R
 |[],_,_,h=>by cases h;simp_all
 |k::ks,_,hn,h=>by
  simp only [dF] at h
  split at h
  .
   rename_i d' l h1 h2
   cases h
   obtain⟨hn1,hn2⟩:=nodup_cons.1 hn
   refine pairwise_cons.2 ⟨λd hd=>?_,jR hR hp hn2 h2⟩
   grind [jX,tf]
  .
   cases h
theorem SE.fin(ks:List Nat)(hs:PE Γ' Γ)(hk:dF Δ ks=some Δ')(hn:ks.Nodup:=by decide):SE c Γ Δ Γ' Δ':=λa w ⟨h1,h2,S,h3,h4,h5,h6⟩=>by
 have hm:∀d∈Δ',d∈Δ:=λd hd=>by
  grind [jX,List.mem_of_getElem?]
 exact⟨h1,h2,S,h3,λb ⟨d,hd,e⟩=>h4 b ⟨d,hm d hd,e⟩,h5.re ⟨λd hd=>h5.holds d (hm d hd),λb ⟨d,hd,e⟩=>h5.own b ⟨d,hm d hd,e⟩,jR (λ_ _ h b e e'=>h b e' e) h5.apart hn hk⟩ (λb ⟨d,hd,e⟩=>⟨d,hm d hd,e⟩) (λ_ h=>.inl h),λs r hl=>h6 s r (hs.lk hl)⟩
theorem bV{s:Nat}{b:Bool}(hl:lk Γ s=some (.eq (.bool b)))(h1:b=true->JO c ops l Q ((s,.eq (.bool true))::Γ) Δ)(h2:b=false->JO c ops l Q ((s,.eq (.bool false))::Γ) Δ):JO c ops l Q Γ Δ:=by
 have key:∀b':Bool,b=b'->∀a w,St c Γ Δ a w->St c ((s,.eq (.bool b'))::Γ) Δ a w:=λb' e a w ⟨g1,g2,S,g3,g4,g5,g6⟩=>⟨g1,g2,S,g3,g4,g5,λs' q hq=>by
  grind [lk]⟩
 intro a w st;cases b
 .exact h2 rfl a w (key _ rfl a w st)
 .exact h1 rfl a w (key _ rfl a w st)
theorem gU{v:Value}{T T':TypeId}{t:Ty}{dd:List t.den}{b off:Nat}{a0 a1:A}(ss:List Nat)(hh:rC Γ v ss)(hg:a0.get off 1 false=some (.eq v))(hs:a0.set off 1 false (.rep (.slice t) dd)=some a1):
 SE c Γ (.sl v T t dd:: .obj b T' a0::F) (t5 Γ (.rep (.slice t) dd) ss) (.obj b T' a1::F):=λa w h=>by
 have k1:=fV (F:=.obj b T' a0::F) ss hh a w h
 have k2:=LC hg hs a w h
 obtain⟨h1,h2,S,h3,h4,h5,h6,h7⟩:=wZ h
 obtain⟨_,_,S2,p3,p4,p5,p6⟩:=k2
 have hK:gf S2 w w:=λ_ _=>rfl
 have hK1:gf S w w:=λ_ _=>rfl
 obtain⟨cs,q1,q2⟩:=h5.holds _ (mem_cons_self ..)
 obtain⟨g1,g2⟩:=jC a0 q2 hg
 have l0:=a0.cells_length q2
 have gv:mk false ((cs.drop off).take 1)=v:=g1
 have hlt:off < cs.length:=by omega
 have hc:(cs.drop off).take 1=[v]:=by
  have e9:(cs.drop off).take 1=[cs[off]]:=by grind [drop_eq_getElem_cons]
  rw [e9] at gv⊢;have e10:cs[off]=v:=gv;rw [e10]
 obtain⟨xs,e1,e2⟩:=h7
 have e3:xs=[v]:=by
  have l1:=aU (.slice t) e1;match xs,l1 with
  |[u],_=>simp_all [mk]
 subst e3
 obtain⟨m1,_⟩:=nn a0 q2 (r:=.rep (.slice t) dd) (new:=[v]) e1 rfl hs
 have e4:cs.take off++[v]++cs.drop (off+[v].length)=cs:=by
  show cs.take off++[v]++cs.drop (off+1)=cs;rw [<-hc,<-take_add,take_append_drop]
 rw [e4] at m1
 refine⟨h1,h2,S,h3,λx ⟨e,he,hb⟩=>?_,h5.re ⟨λe he=>?_,λx ⟨e,he,hb⟩=>?_,?_⟩ (λx ⟨e,he,hb⟩=>by
  rcases mem_cons.1 he with rfl |he
  .exact⟨_,mem_cons_self ..,hb⟩
  .exact⟨e,mem_cons_of_mem _ he,hb⟩) (λ_ h=>.inl h),λs q hq=>?_⟩
 .
  grind
 .
  rcases mem_cons.1 he with rfl |he
  .exact⟨cs,q1,m1⟩
  .exact h5.holds e (mem_cons_of_mem _ he)
 .
  rcases mem_cons.1 he with rfl |he
  .exact h5.own x ⟨_,mem_cons_self ..,hb⟩
  .exact h5.own x ⟨e,mem_cons_of_mem _ he,hb⟩
 .
  have hp:=pairwise_cons.1 h5.apart;exact pairwise_cons.2 ⟨λe he=>hp.1 e he,hp.2⟩
 .
  rcases uu hq with⟨hs',rfl⟩ |hq
  .have:=h6 s _ (hh.mem hs');have e:a.tmps.getD s undef=v:=this;rw [e];exact⟨_,e1,rfl⟩
  grind
theorem bU{op:Op}{ty:TypeId}{pos:String}{af:Array Edge}(hdN:blt d c.N=true)(ht:bu c.M ⟨some d,op,ty,pos,af,none⟩ N [] (λ_:Unit=>(r,[])))(hh:ew Γ N)(h:JO c ops l Q ((d,r)::Γ) Δ):
 JO c ops (⟨some d,op,ty,pos,af,none⟩::l) Q Γ Δ:=by grind [S9]
theorem iY{t:Nat}{ty:TypeId}{pos:String}{af:Array Edge}(hdN:blt d c.N=true)(hl:lk Γ t=some r)(h:JO c ops l Q ((d,r)::Γ) Δ):
 JO c ops (⟨some d,.move (.tmp t),ty,pos,af,none⟩::l) Q Γ Δ:=bU hdN (aP rfl) ⟨hl,trivial⟩ h
theorem fM{v:Value}{ty:TypeId}{pos:String}{af:Array Edge}(hdN:blt d c.N=true)(h:JO c ops l Q ((d,.eq v)::Γ) Δ):
 JO c ops (⟨some d,.move (.const v),ty,pos,af,none⟩::l) Q Γ Δ:=bU hdN (aP rfl) ⟨rfl,trivial⟩ h
theorem xz{t:Nat}{ty:TypeId}{pos:String}{af:Array Edge}(hdN:blt d c.N=true)(hl:lk Γ t=some r)(h:JO c ops l Q ((d,r)::Γ) Δ):
 JO c ops (⟨some d,.assign (.tmp t),ty,pos,af,none⟩::l) Q Γ Δ:=bU hdN (ox rfl) ⟨hl,trivial⟩ h
theorem GH{v:Value}{ty:TypeId}{pos:String}{af:Array Edge}(hdN:blt d c.N=true)(h:JO c ops l Q ((d,.eq v)::Γ) Δ):
 JO c ops (⟨some d,.assign (.const v),ty,pos,af,none⟩::l) Q Γ Δ:=bU hdN (ox rfl) ⟨rfl,trivial⟩ h
end
theorem Me{b:Bool}(h:b=true):b=true:=h
theorem BY{p:Prop}[Decidable p](h:(!decide p)=false):¬¬p:=by simp_all
theorem nC{b:Bool}(h:(!b)=false):¬¬b=true:=by simp_all
section
variable {c:Cx}{ops:Array Oper}{o:Oper}{l:List Oper}{Q:Exit->Act->VW->Prop}{Γ Γ' Γ0:Ga}{Δ Δ' F:List D}{N N':List (Operand×A)}{d:Nat}{X:Type}{r r':A}{C C':Code}{P:Program}{M:Md P}
theorem aF{α β ρ Z:Type}{K:β->Option ρ}{q:ρ}(G:Z->α->Ga)(E:Z->α->List D)(L:Nat->α->Option β)(n:Nat)(z:Z)(x:α)(h0:∀x,L 0 x=none)(h:(L n x).bind K=some q)(hs:SE c Γ Δ (G z x) (E z x))
 (round:∀n z x,(L (n+1) x).bind K=some q->JC c C (cD (λa w=>∃z':Z×α,(L n z'.2).bind K=some q/\St c (G z'.1 z'.2) (E z'.1 z'.2) a w) Q) (G z x) (E z x)):JC c (.loop C) Q Γ Δ:=by
 refine PQ (Z:=Z×α) (λz=>G z.1 z.2) (λz=>E z.1 z.2) (λn z=>(L n z.2).bind K=some q) n (z,x) h hs ?_
 rintro n ⟨z,x⟩ h
 cases n with
 |zero=>simp_all
 |succ n=>
  intro a w st;refine lK (λe a w q=>?_) (round n z x h a w st);cases e with
  |normal=>obtain⟨z',hp,hs⟩:=q;exact⟨(n,z'),⟨lt_succ_self n,hp⟩,hs⟩
  |_=>exact q
def AE(a a':A):Prop:=∀S w cs,a.cells S w cs->a'.cells S w cs
theorem AE.rfl{a:A}:AE a a:=λ_ _ _ h=>h
theorem AE.trans{a b e:A}(h:AE a b)(h':AE b e):AE a e:=λS w cs q=>h' S w cs (h S w cs q)
theorem AE.pair{a a' b b':A}(h:AE a a')(h':AE b b'):AE (.pair a b) (.pair a' b'):=λS w _ ⟨c1,c2,e,q1,q2⟩=>⟨c1,c2,e,h S w c1 q1,h' S w c2 q2⟩
theorem AE.agg{a a':A}(h:AE a a'):AE (.agg a) (.agg a'):=λS w cs q=>h S w cs q
theorem Dw{t u:Ty}{x:(Ty.pair t u).den}:AE (.rep (.pair t u) x) (.pair (.rep t x.1) (.rep u x.2)):=λ_ _ _ h=>h
theorem GT{t:Ty}{x:t.den}:AE (.rep (.agg t) x) (.agg (.rep t x)):=λ_ _ _ h=>h
theorem dZ{a:A}{t:Ty}{x:t.den}(h:rL a t x):AE a (.rep t x):=λ_ _ _ q=>h.cells q
theorem AE.int{k:IntKind}{n:Int}:AE (.rep (.int k) n) (.eq (.int k n)):=λ_ _ _ h=>⟨h,Eq.refl _⟩
theorem AE.bool{b:Bool}:AE (.rep .bool b) (.eq (.bool b)):=λ_ _ _ h=>⟨h,Eq.refl _⟩
theorem AE.ptr{t:Ty}{x:t.den}:AE (.rep (.ptr t) x) (.at t x):=λ_ _ _ h=>h
theorem AE.val{v:Value}:AE (.rep .val v) (.eq v):=λ_ _ _ h=>h
theorem c6{b:Nat}{T:TypeId}{a a':A}(h:AE a a'):SE c Γ (.obj b T a::F) Γ (.obj b T a'::F):=λact w ⟨h1,h2,S,h3,h4,h5,h6⟩=>by
 have hm:∀e,e∈(.obj b T a'::F:List D)->∃e',e'∈(.obj b T a::F:List D)/\e'.foot=e.foot:=λe he=>by
  rcases mem_cons.1 he with e' |he
  .
   subst e';exact⟨_,mem_cons_self ..,Eq.refl _⟩
  grind
 refine⟨h1,h2,S,h3,λx ⟨e,he,hb⟩=>?_,h5.re ⟨λe he=>?_,λx ⟨e,he,hb⟩=>?_,?_⟩ (λx ⟨e,he,hb⟩=>by obtain⟨e',q1,q2⟩:=hm e he;exact⟨e',q1,q2.trans hb⟩) (λ_ h=>.inl h),h6⟩
 .
  obtain⟨e',q1,q2⟩:=hm e he
  exact h4 x ⟨e',q1,q2.trans hb⟩
 .
  rcases mem_cons.1 he with e' |he
  .
   subst e'
   obtain⟨cs,q1,q2⟩:=h5.holds _ (mem_cons_self ..)
   exact⟨cs,q1,h S w cs q2⟩
  .
   exact h5.holds e (mem_cons_of_mem _ he)
 .
  obtain⟨e',q1,q2⟩:=hm e he
  exact h5.own x ⟨e',q1,q2.trans hb⟩
 .
  have hp:=pairwise_cons.1 h5.apart
  exact pairwise_cons.2 ⟨λe he=>hp.1 e he,hp.2⟩
theorem bv{R:X->A×List D}(h:bu M o N' Δ R)(hN:∀S w a,bM S w a N->bM S w a N'):bu M o N Δ R:=⟨h.1,λro S w a next Q hd hn hO k=>h.2 ro S w a next Q hd (hN S w a hn) hO k⟩
theorem aE{S:FS}{w:World}{a:A}{t:Ty}{x:t.den}{v:Value}(h:rL a t x)(hs:a.stor)(hg:a.isAgg=t.isAgg)(hv:a.holds S w v):(Ic t x).holds S w v:=h.holds hs hg hv
theorem lend{S:FS}{w:World}{u v:Value}{r:A}(h1:(A.eq v).holds S w u)(hv:r.holds S w v):r.holds S w u:=by
 have e:u=v:=h1;simp_all
theorem oL:∀d∈([]:List D),d.flat=true:=by simp_all
theorem KN{l:List D}(h:∀d∈l,d.flat=true):∀d∈l,d.flat=true:=h
def NB:List DE->Prop
 |[]=>True
 |e::es=>(e.b=false/\∀v,e.E v=e.E undef)/\NB es
@[reducible] def nK:List DE->List D
 |[]=>[]
 |e::es=>e.E undef++nK es
theorem zc:∀{es:List DE} {vs:List Value},NB es->vs.length=es.length->births es vs=nK es
 |[],[],_,_=>rfl
 |e::es,v::vs,h,hl=>by
  simp only [births,nK,h.1.2 v]
  rw [zc h.2 (by simp_all)]
 |[],_::_,_,h=>by simp at h
 |_::_,[],_,h=>by simp at h
theorem zd:∀{es:List DE} {vs:List Value},NB es->pj es vs=[]
 |[],_,_=>by simp [pj]
 |e::es,[],h=>by simp [pj]
 |e::es,v::vs,h=>by
  simp only [pj,h.1.1,Bool.false_eq_true,if_false]
  exact zd h.2
theorem GP{full:List Oper}{acc:List DE}{id:Nat}(hn:NB acc)(hck:chk full acc=true)(hm:c.P.follows .mixedOrders=true)(h:JO c full.toArray l Q Γ (j8.keepFrom acc 0 Δ++nK acc)):DR c id full Q Γ0 Δ acc l Γ:=
 by simp_all [DR.fin,zd,nil_append,j8,zc]
section
variable {full:List Oper}{acc:List DE}{id:Nat}{e e':D}{j s:Nat}{g b m:Bool}{oj:Oper}
def NM:List DE->Prop
 |[]=>True
 |e::es=>((∀k,tN e k=false)/\e.E undef=[])/\NM es
theorem NB.snoc{x:DE}:∀{es:List DE},NB es->(x.b=false/\∀v,x.E v=x.E undef)->NB (es++[x])
 |[],_,h=>⟨h,trivial⟩
 |_::_,⟨h1,h2⟩,h=>⟨h1,NB.snoc h2 h⟩
theorem NM.snoc{x:DE}:∀{es:List DE},NM es->((∀k,tN x k=false)/\x.E undef=[])->NM (es++[x])
 |[],_,h=>⟨h,trivial⟩
 |_::_,⟨h1,h2⟩,h=>⟨h1,NM.snoc h2 h⟩
theorem zm:∀{es:List DE},NM es->nK es=[]
 |[],_=>rfl
 |e::es,⟨h1,h2⟩=>by simp only [nK,h1.2,zm h2,append_nil]
theorem GE:∀{es:List DE} {k:Nat},NM es->mj es k=false
 |[],_,_=>rfl
 |e::es,k,⟨h1,h2⟩=>by
  have:=GE (k:=k) h2
  unfold mj at this⊢
  simp_all
theorem NM.keep{es:List DE}(h:NM es):∀{Δ:List D} {k:Nat},j8.keepFrom es k Δ=Δ
 |[],_=>rfl
 |d::Δ,k=>by
  unfold j8.keepFrom
  rw [GE h,if_neg (by simp),NM.keep h]
def DN(c:Cx)(id:Nat)(full:List Oper)(Q:Exit->Act->VW->Prop)(Γ0:Ga)(Δ:List D)(acc:List DE)(l:List Oper)(Γ:Ga)(m:Bool):Prop:=
 NB acc->(m=true->NM acc)->DR c id full Q Γ0 Δ acc l Γ
theorem bD(h:DN c id full Q Γ Δ [] full Γ true):JC c (.region id full.toArray true) Q Γ Δ:=GK (h trivial λ_=>trivial)
theorem E8{m:Bool}(hck:chk full acc=true)(hm:c.P.follows .mixedOrders=true)(h:JO c full.toArray l Q Γ Δ)(ht:m=true:=by rfl):DN c id full Q Γ0 Δ acc l Γ m:=
 λh1 h2=>GP h1 hck hm (by simp_all [NM.keep,zm,append_nil])
theorem PX{m:Bool}(hck:chk full acc=true)(hm:c.P.follows .mixedOrders=true)(h:JO c full.toArray l Q Γ (j8.keepFrom acc 0 Δ++nK acc)):DN c id full Q Γ0 Δ acc l Γ m:=
 λh1 _=>GP h1 hck hm h
theorem ge(hg:o.guard=none)(hd:o.dst=some d)(hdN:blt d c.N=true)(ht:bu c.M o N [] (λ_:Unit=>(r,[])))(hh:ew Γ N)
 (h:DN c id full Q Γ0 Δ (acc++[⟨o,d,N,r,none,false,λ_=>[]⟩]) l ((d,r)::Γ) m):DN c id full Q Γ0 Δ acc (o::l) Γ m:=
 λh1 h2=>DR.step rfl (GN hg hd hdN ht) hh (h (h1.snoc ⟨rfl,λ_=>rfl⟩) λe=>(h2 e).snoc ⟨λ_=>rfl,rfl⟩)
theorem xC(k:Nat)(hk:Δ[k]? =some e)(hg:o.guard=none)(hd:o.dst=some d)(hdN:blt d c.N=true)(ht:bu c.M o N [e] (λ_:Unit=>(r,[e])))(hh:ew Γ N)
 (h:DN c id full Q Γ0 Δ (acc++[⟨o,d,N,r,some (k,false),false,λ_=>[]⟩]) l ((d,r)::Γ) m):DN c id full Q Γ0 Δ acc (o::l) Γ m:=
 λh1 h2=>DR.step rfl (GM k hk hg hd hdN ht) hh (h (h1.snoc ⟨rfl,λ_=>rfl⟩) λe=>(h2 e).snoc ⟨λ_=>rfl,rfl⟩)
theorem To(i j:Nat)(hi:Δ[i]? =some e)(hj:Δ[j]? =some e')(hl:(blt j 64 && i != j && ble Δ.length 64)=true)(hg:o.guard=none)(hd:o.dst=some d)(hdN:blt d c.N=true)(ht:bu c.M o N [e,e'] (λ_:Unit=>(r,[e,e'])))(hh:ew Γ N)
 (h:DN c id full Q Γ0 Δ (acc++[⟨o,d,N,r,some (64 * (i+1)+j,false),false,λ_=>[]⟩]) l ((d,r)::Γ) m):DN c id full Q Γ0 Δ acc (o::l) Γ m:=
 λh1 h2=>DR.step rfl (PT i j hi hj hl hg hd hdN ht) hh (h (h1.snoc ⟨rfl,λ_=>rfl⟩) λe=>(h2 e).snoc ⟨λ_=>rfl,rfl⟩)
theorem GQ(k:Nat)(hk:Δ[k]? =some e)(hg:o.guard=none)(hd:o.dst=some d)(hdN:blt d c.N=true)(ht:bu c.M o N [e] (λ_:Unit=>(r,[e'])))(hh:ew Γ N)
 (h:DN c id full Q Γ0 Δ (acc++[⟨o,d,N,r,some (k,true),false,λ_=>[e']⟩]) l ((d,r)::Γ) false):DN c id full Q Γ0 Δ acc (o::l) Γ m:=
 λh1 _=>DR.step rfl (L1 k hk hg hd hdN ht) hh (h (h1.snoc ⟨rfl,λ_=>rfl⟩) λe=>nomatch e)
theorem bo(hg:o.guard=some (j,g))(hj:full.toArray[j]? =some oj)(hs:oj.dst=some s)(hd:o.dst=some d)(hdN:blt d c.N=true)(ht:bu c.M o N [] (λ_:Unit=>(r,[])))(hh:ew Γ ((.tmp s,.eq (.bool g))::N))
 (h:DN c id full Q Γ0 Δ (acc++[⟨o,d,(.tmp s,.eq (.bool g))::N,r,none,false,λ_=>[]⟩]) l ((d,r)::Γ) m):DN c id full Q Γ0 Δ acc (o::l) Γ m:=
 λh1 h2=>DR.step rfl (Tn hg hj hs hd hdN ht) hh (h (h1.snoc ⟨rfl,λ_=>rfl⟩) λe=>(h2 e).snoc ⟨λ_=>rfl,rfl⟩)
theorem fW(k:Nat)(hk:Δ[k]? =some e)(hg:o.guard=some (j,g))(hj:full.toArray[j]? =some oj)(hs:oj.dst=some s)(hd:o.dst=some d)(hdN:blt d c.N=true)(ht:bu c.M o N [e] (λ_:Unit=>(r,[e])))(hh:ew Γ ((.tmp s,.eq (.bool g))::N))
 (h:DN c id full Q Γ0 Δ (acc++[⟨o,d,(.tmp s,.eq (.bool g))::N,r,some (k,false),false,λ_=>[]⟩]) l ((d,r)::Γ) m):DN c id full Q Γ0 Δ acc (o::l) Γ m:=
 λh1 h2=>DR.step rfl (Tm k hk hg hj hs hd hdN ht) hh (h (h1.snoc ⟨rfl,λ_=>rfl⟩) λe=>(h2 e).snoc ⟨λ_=>rfl,rfl⟩)
theorem PW(hg:o.guard=some (j,g))(hj:full.toArray[j]? =some oj)(hs:oj.dst=some s)(hl:lk Γ s=some (.eq (.bool b)))(hb:(b == g)=false)(hd:o.dst=some d)(hdN:blt d c.N=true)
 (h:DN c id full Q Γ0 Δ (acc++[⟨o,d,[(.tmp s,.eq (.bool b))],.eq undef,none,false,λ_=>[]⟩]) l ((d,.eq undef)::Γ) m):DN c id full Q Γ0 Δ acc (o::l) Γ m:=
 λh1 h2=>DR.step rfl (Tj hg hj hs hb hd hdN) ⟨hl,trivial⟩ (h (h1.snoc ⟨rfl,λ_=>rfl⟩) λe=>(h2 e).snoc ⟨λ_=>rfl,rfl⟩)
theorem lY(hg:o.guard=none)(hd:o.dst=some d)(hdN:blt d c.N=true)(ht:bu c.M o N [] (λ_:Unit=>(.eq (.bool b),[])))(hh:ew Γ N)
 (h1:b=true->DN c id full Q Γ0 Δ (acc++[⟨o,d,N,.eq (.bool true),none,false,λ_=>[]⟩]) l ((d,.eq (.bool true))::Γ) m)
 (h2:b=false->DN c id full Q Γ0 Δ (acc++[⟨o,d,N,.eq (.bool false),none,false,λ_=>[]⟩]) l ((d,.eq (.bool false))::Γ) m):DN c id full Q Γ0 Δ acc (o::l) Γ m:=by
 cases b
 .
  grind [ge]
 grind [ge]
theorem L6(hg:o.guard=some (j,g))(hj:full.toArray[j]? =some oj)(hs:oj.dst=some s)(hd:o.dst=some d)(hdN:blt d c.N=true)(ht:bu c.M o N [] (λ_:Unit=>(.eq (.bool b),[])))(hh:ew Γ ((.tmp s,.eq (.bool g))::N))
 (h1:b=true->DN c id full Q Γ0 Δ (acc++[⟨o,d,(.tmp s,.eq (.bool g))::N,.eq (.bool true),none,false,λ_=>[]⟩]) l ((d,.eq (.bool true))::Γ) m)
 (h2:b=false->DN c id full Q Γ0 Δ (acc++[⟨o,d,(.tmp s,.eq (.bool g))::N,.eq (.bool false),none,false,λ_=>[]⟩]) l ((d,.eq (.bool false))::Γ) m):DN c id full Q Γ0 Δ acc (o::l) Γ m:=by
 cases b
 .
  grind [bo]
 grind [bo]
end
theorem Qy{T:TypeId}{t:Ty}{d:t.den}{z0:Value}(h:(P.info? T).map (·.zero)=some (some z0))(hr:∀S w,rd S w t d z0.cells.toList):∀i z,P.info? T=some i->i.zero=some z->∀S w,rd S w t d z.cells.toList:=by
 grind
def Qs:List (Nat×Operand×A)->Prop
 |[]=>True
 |p::ps=>p.2.2.stor/\Qs ps
theorem fX:∀{ps:List (Nat×Operand×A)},Qs ps->∀p∈ps,p.2.2.stor
 |p::ps,h,q,hq=>by
  rcases mem_cons.1 hq with e |hq
  .
   rw [e];exact h.1
  .
   exact fX h.2 q hq
def uC(a b:Int):Int:=if a < b then b else a
def Kw(a b:Int):Int:=if b < a then b else a
end
@[reducible] def sO:(t:Ty)->t.den->List Value
 | .int k,n=>[.int k n]
 | .bool,b=>[.bool b]
 | .pair a b,x=>sO a x.1++sO b x.2
 | .agg t,x=>sO t x
 |_,_=>[]
@[reducible] def Ty.plain:Ty->Bool
 | .int _=>true
 | .bool=>true
 | .pair a b=>a.plain && b.plain
 | .agg t=>t.plain
 |_=>false
theorem wx{S:FS}{w:World}(t:Ty):∀{x:t.den} {cs:List Value},t.plain=true->rd S w t x cs->cs=sO t x:=by
 induction t with
 |int k=>intro x cs _ h;exact h
 |bool=>intro x cs _ h;exact h
 |pair a b iha ihb=>
  rintro x cs hp ⟨c1,c2,rfl,h1,h2⟩;grind
 |agg t ih=>intro x cs hp h;exact ih hp h
 |_=>simp_all
theorem KP(t:Ty):∀(x:t.den),t.plain=true->(sO t x).all wF=true:=by
 induction t with
 |int k=>intro x _;rfl
 |bool=>intro x _;rfl
 |pair a b iha ihb=>
  grind
 |agg t ih=>grind
 |_=>simp_all
theorem NU{S:FS}{w:World}{t:Ty}{p:t.den}{v:Value}(hag:t.isAgg=true)(hp:t.plain=true)(h:(A.rep t p).holds S w v):ma v=true:=by
 obtain⟨c,h1,e⟩:=h;rw [wx t hp h1] at e;subst e;simp only [mk,hag,↓reduceIte];show(sO t p).toArray.toList.all wF=true;grind [KP]
theorem JU{P:Program}{o:Oper}{x y:Operand}{T T':TypeId}{t:Ty}{p q:t.den}{b:BinOp}{S S':FS}{w w':World}{ρ:Operand->Value}(ho:o.op= .binOp b T x y T')(hag:t.isAgg=true)(hp:t.plain=true)(h1:(A.rep t p).holds S w (ρ x))(h2:(A.rep t q).holds S' w' (ρ y)):Ns P (execOp ρ o):=
 by grind [vL,wK,NU]
structure LY(P:Program)(T:TypeId)(t:Ty):Prop where
 plain:t.plain=true
 guard:P.eqGuardType P.depth T=false
 eql:∀(w:World) (x y:t.den),∃r:Bool,(Op.equalIn 10000 T (.agg (sO t x).toArray) (.agg (sO t y).toArray)).run P w= .ok r w/\(r=true↔x=y)
section
variable {P:Program}{M:Md P}{o:Oper}{x y z:Operand}{T T' e:TypeId}{r r':A}{t u:Ty}
theorem Rq{p q:t.den}[Decidable (p=q)](ho:o.op= .binOp .eql T x y T')(h:LY P T t)(hag:t.isAgg=true):bu M o [(x,.rep t p),(y,.rep t q)] [] (λ_:Unit=>(.eq (.bool (decide (p=q))),[])):=
 bu.val0 (hns:=λ_ _ a hN=>JU ho hag h.plain hN.1 hN.2.1) λS w a hN=>by
  obtain⟨c1,h1,e1⟩:=hN.1
  obtain⟨c2,h2,e2⟩:=hN.2.1
  have h1:=wx t h.plain h1
  have h2:=wx t h.plain h2
  subst h1 h2
  obtain⟨b,g1,g2⟩:=h.eql w p q
  have e1':a.eval x= .agg (sO t p).toArray:=by simp_all [mk]
  have e2':a.eval y= .agg (sO t q).toArray:=by simp_all [mk]
  refine⟨.bool b,by simp only [execOp,ho,e1',e2',Sem.run_bind,run_eqGuard_agg w _ _ _ _ _ _ h.guard,run_eql_struct,g1,Result.andThen_ok,Sem.run_pure],?_⟩
  show Value.bool b=_
  grind
theorem Jv{p q:t.den}[Decidable (p=q)](ho:o.op= .binOp .neq T x y T')(h:LY P T t)(hag:t.isAgg=true):bu M o [(x,.rep t p),(y,.rep t q)] [] (λ_:Unit=>(.eq (.bool (!decide (p=q))),[])):=
 bu.val0 (hns:=λ_ _ a hN=>JU ho hag h.plain hN.1 hN.2.1) λS w a hN=>by
  obtain⟨c1,h1,e1⟩:=hN.1
  obtain⟨c2,h2,e2⟩:=hN.2.1
  have h1:=wx t h.plain h1
  have h2:=wx t h.plain h2
  subst h1 h2
  obtain⟨b,g1,g2⟩:=h.eql w p q
  have e1':a.eval x= .agg (sO t p).toArray:=by simp_all [mk]
  have e2':a.eval y= .agg (sO t q).toArray:=by simp_all [mk]
  refine⟨.bool (!b),by simp only [execOp,ho,e1',e2',Sem.run_bind,run_eqGuard_agg w _ _ _ _ _ _ h.guard,run_neq_struct,g1,Result.andThen_ok,Sem.run_pure],?_⟩
  show Value.bool (!b)=_
  grind
theorem Jw{k:IntKind}{n m:Int}{c:Call}{ts:Array TypeId}(ho:o.op= .call c)(hc:c={ callee:=.builtin .max,args:= #[x,y],argTypes:=ts }):
 bu M o [(x,.eq (.int k n)),(y,.eq (.int k m))] [] (λ_:Unit=>(.eq (.int k (uC n m)),[])):=
 .val0 λS w a h=>by
  have e1:a.eval x= .int k n:=h.1
  have e2:a.eval y= .int k m:=h.2.1
  refine⟨.int k (uC n m),?_,rfl⟩
  simp_all [run_max_int2,execOp,resolve,invoke,builtin,uC]
theorem Uk{k:IntKind}{n m:Int}{c:Call}{ts:Array TypeId}(ho:o.op= .call c)(hc:c={ callee:=.builtin .min,args:= #[x,y],argTypes:=ts }):
 bu M o [(x,.eq (.int k n)),(y,.eq (.int k m))] [] (λ_:Unit=>(.eq (.int k (Kw n m)),[])):=
 .val0 λS w a h=>by
  have e1:a.eval x= .int k n:=h.1
  have e2:a.eval y= .int k m:=h.2.1
  refine⟨.int k (Kw n m),?_,rfl⟩
  simp_all [run_min_int2,execOp,resolve,invoke,builtin,Kw]
def AT(P:Program)(T:TypeId)(places:Array (Nat×Nat)):Prop:=∃fs:Array Field,P.underlying T=some (.struct fs)/\∀w,(fs.mapM λf=>(do pure (f.offset,<-sizeOf f.type):Sem (Nat×Nat))).run P w= .ok places w
theorem cN{places:Array (Nat×Nat)}{zv:Value}{a0 a1:A}(ps:List (Nat×Operand×A))(ho:o.op= .build T (ps.map λp=>(p.1,p.2.1)).toArray)(hT:AT P T places)
 (hz:∀w,(zeroValue T).run P w= .ok zv w) (ha:∀S w,a0.cells S w zv.cells.toList) (hs:∀p∈ps,p.2.2.stor) (hf:yX places a0 ps=some a1):bu M o (ps.map (·.2)) [] (λ_:Unit=>(.agg a1,[])):=by
 obtain⟨fs,h1,h2⟩:=hT
 exact NN ps ho h1 h2 hz ha hs hf
theorem yP{n m:Nat}{k:Nat}(hn:n=k)(h:ble (n * m) 16777216=true):k * m≤16777216:=by
 simp_all
theorem aX{bytes n:Nat}(ps:List (Operand×A))(l:List t.den)(ho:o.op= .buildSlice T n (ps.zipIdx.map λp=>(p.2,p.1.1)).toArray)(hn:n=ps.length)(hT:pm P T e t.cells bytes)(he:AQ t ps l)
 (hb:ble (n * t.cells) 16777216=true) (hl:l.length=ps.length):bu M o ps [] (λ_:Unit=>(.rep (.slice t) l,[])):=by grind [Ul,yP]
theorem fQ{bytes n:Nat}(ps:List (Operand×A))(l:List t.den)(ho:o.op= .buildSlice T n (ps.zipIdx.map λp=>(p.2,p.1.1)).toArray)(hn:n=ps.length)(hT:pm P T e t.cells bytes)(he:AQ t ps l)
 (hb:ble (n * t.cells) 16777216=true) (hl:l.length=ps.length):bu M o ps [] (λv:Value=>(.eq v,[.sl v e t l])):=by grind [Hg,yP]
theorem lB{α:Type}{R:α->List Value->Prop}{m:Nat}(hR:∀x cs,R x cs->cs.length=m):∀{l:List α} {cs:List Value} {i:Nat} {x':α} {new:List Value},dy R l cs->i < l.length->R x' new->
 dy R (l.set i x') (cs.take (i * m)++new++cs.drop (i * m+m))
 |[],_,i,_,_,_,hi,_=>by simp at hi
 |x0::l,_,i,x',new,⟨c1,c2,rfl,h1,h2⟩,hi,hx=>by
  have l1:=hR _ _ h1
  cases i with
  |zero=>
   rw [Nat.zero_mul,take_zero,nil_append,Nat.zero_add,drop_append,drop_eq_nil_of_le (by omega),nil_append,l1,Nat.sub_self,drop_zero]
   exact⟨new,c2,rfl,hx,h2⟩
  |succ i=>
   have ih:=lB hR h2 (i:=i) (by simp_all) hx
   refine⟨c1,_,?_,h1,ih⟩
   have e1:(i+1) * m=c1.length+i * m:=by grind
   rw [e1,take_append,take_of_length_le (by omega),Nat.add_sub_cancel_left,List.append_assoc,List.append_assoc,List.append_assoc,
    show c1.length+i * m+m=c1.length+(i * m+m) by omega,drop_append,drop_eq_nil_of_le (by omega),Nat.add_sub_cancel_left,nil_append]
theorem oS{b off n N k:Nat}{i:Int}{g:Bool}{T0:TypeId}{a0:A}{l:List t.den}{d:t.den}(ho:o.op= .load T x)(ht:eE P T n g)(hg:g=false->n=1)(hget:a0.get off (N * t.cells) true=some (.rep (.arr N t) l))
 (hn:t.cells=n) (hag:t.isAgg=g) (hk:k=off+i.toNat * t.cells) (hl:aK l i=some d):
 bu M o [(x,.eq (.pointer (some ⟨b,k,none⟩)))] [.obj b T0 a0] (λ_:Unit=>(Ic t d,[.obj b T0 a0])):=
 .val1 λS w a h hs=>by
  have e:a.eval x= .pointer (some ⟨b,k,none⟩):=h.1
  obtain⟨cs,h1,h2⟩:=hs
  have l0:=a0.cells_length h2
  obtain⟨h3,h4⟩:=jC a0 h2 hget
  subst hn hk
  obtain⟨cs',⟨q1,q2⟩,q3⟩:=h3
  have q4:(cs.drop off).take (N * t.cells)=cs':=by simp_all [mk]
  subst q4
  obtain⟨g0,g1,g2⟩:=dR hl
  obtain⟨r1,r2⟩:=kz (λ_ _ h=>aU t h) q2 g2
  have hi:i.toNat < N:=by omega
  have hle:i.toNat * t.cells+t.cells≤N * t.cells:=by
   grind
  have r3:((cs.drop off).drop (i.toNat * t.cells)).take t.cells=(((cs.drop off).take (N * t.cells)).drop (i.toNat * t.cells)).take t.cells:=by
   grind [drop_take,Nat.min_eq_left]
  rw [<-r3,drop_drop] at r1;have hr:=gG ht hg h1 (off:=off+i.toNat * t.cells) (by grind);rw [<-hag] at hr;refine⟨_,?_,kD r1⟩;simp_all [execOp,Instr.loadAt,Instr.sureAddr]
theorem iE{b off n N k:Nat}{i:Int}{g:Bool}{T0:TypeId}{a0 a1:A}{l:List t.den}{d:t.den}(ho:o.op= .store T x y)(ht:eE P T n g)(he:rL r t d)(hs:r.stor)(hget:a0.get off (N * t.cells) true=some (.rep (.arr N t) l))
 (hn:t.cells=n) (hk:k=off+i.toNat * t.cells) (h0:0≤i) (hi:i < N) (hset:a0.set off (N * t.cells) true (.rep (.arr N t) (l.set i.toNat d))=some a1):
 bu M o [(x,.eq (.pointer (some ⟨b,k,none⟩))),(y,r)] [.obj b T0 a0] (λ_:Unit=>(.eq undef,[.obj b T0 a1])):=by
 refine vV.T ⟨by grind [nd],λS w a next hd hN hO kk=>?_⟩ (λ_ _ a _ _=>jm (by grind [uk]) a.eval) (λd hd=>by first |(simp at hd;done) |(simp at hd;subst hd;trivial))
 subst hn hk
 have e1:a.eval x= .pointer (some ⟨b,off+i.toNat * t.cells,none⟩):=hN.1
 obtain⟨p1,p2,_⟩:=eT hN.2.1 hs
 have p3:=he.cells p1
 have l3:=aU t p3
 obtain⟨cs,h3,h4⟩:=hO.holds _ (by simp:D.obj b T0 a0∈[D.obj b T0 a0])
 obtain⟨hnb,hbs⟩:=hO.own b (lg.2 rfl)
 have l0:=a0.cells_length h4
 obtain⟨g1,g2⟩:=jC a0 h4 hget
 obtain⟨cs',⟨q1,q2⟩,q3⟩:=g1
 have q4:(cs.drop off).take (N * t.cells)=cs':=by grind [mk]
 subst q4
 have hi':i.toNat < N:=by omega
 have hle:i.toNat * t.cells+t.cells≤N * t.cells:=by
  rw [<-succ_mul];exact mul_le_mul_right _ hi'
 have hrow:=lB (λ_ _ h=>aU t h) q2 (i:=i.toNat) (by omega) p3
 have hlen:(((cs.drop off).take (N * t.cells)).take (i.toNat * t.cells)++(a.eval y).cells.toList++((cs.drop off).take (N * t.cells)).drop (i.toNat * t.cells+t.cells)).length=N * t.cells:=by
  simp only [length_append,length_take,length_drop];omega
 obtain⟨s1,s2⟩:=nn a0 h4 (r:=.rep (.arr N t) (l.set i.toNat d)) ⟨by grind,hrow⟩ hlen hset
 have hcs:cs.take off++(((cs.drop off).take (N * t.cells)).take (i.toNat * t.cells)++(a.eval y).cells.toList++((cs.drop off).take (N * t.cells)).drop (i.toNat * t.cells+t.cells))++cs.drop (off+N * t.cells)=
  cs.take (off+i.toNat * t.cells)++(a.eval y).cells.toList++cs.drop (off+i.toNat * t.cells+t.cells):=by
  rw [take_take,Nat.min_eq_left (by omega),take_add,drop_take,drop_drop]
  have e5:cs.drop (off+i.toNat * t.cells+t.cells)=(cs.drop (off+(i.toNat * t.cells+t.cells))).take (N * t.cells - (i.toNat * t.cells+t.cells))++cs.drop (off+N * t.cells):=by
   rw [<-Nat.add_assoc];conv=>lhs;rw [<-take_append_drop (N * t.cells - (i.toNat * t.cells+t.cells)) (cs.drop (off+i.toNat * t.cells+t.cells))]
   rw [drop_drop];congr 2;omega
  grind
 rw [hcs] at s1
 have hst:=mB P b T0 (off+i.toNat * t.cells) (a.eval y).cells.toList 0 w cs.toArray h3 (λv hv=>qQ r p1 v hv) (by grind)
 have hsz:(a.eval y).cells.size=t.cells:=by omega
 have hr:(execOp a.eval o).run P w= .ok .skip { w with heap:=w.heap.setIfInBounds b (.cells (cs.take (off+i.toNat * t.cells)++(a.eval y).cells.toList++cs.drop (off+i.toNat * t.cells+t.cells)).toArray T0 (0,0)) }:=by
  simp only [Nat.add_zero,l3] at hst;simp [execOp,ho,Instr.storeAt,e1,Instr.sureAddr,storeVar,ht.size,hsz,hst]
 rw [hr]
 have hK:gf S w { w with heap:=w.heap.setIfInBounds b (.cells (cs.take (off+i.toNat * t.cells)++(a.eval y).cells.toList++cs.drop (off+i.toNat * t.cells+t.cells)).toArray T0 (0,0)) }:=λb' hb'=>by
  grind [getElem?_setIfInBounds_ne]
 refine kk () S _ _ (s7 hd (lg.2 rfl) _) rfl (fY ⟨_,by simp [hbs],A.cells_mono (λ_ h=>h) hK a1 s1⟩ ?_) (λb' hb'=>.inl ?_)
 .
  grind [D.foot,Option.some.injEq]
 grind [lg]
inductive MD:(t:Ty)->t.den->(off n:Nat)->(u:Ty)->u.den->t.den->Prop
 |whole {t:Ty} {x y:t.den}:MD t x 0 t.cells t y y
 |left {a b u:Ty} {x:(Ty.pair a b).den} {off n:Nat} {y:u.den} {x':a.den} (h:MD a x.1 off n u y x'):MD (.pair a b) x off n u y (x',x.2)
 |right {a b u:Ty} {x:(Ty.pair a b).den} {off k n:Nat} {y:u.den} {x':b.den} (h:MD b x.2 off n u y x') (hk:k=a.cells+off):MD (.pair a b) x k n u y (x.1,x')
 |agg {t u:Ty} {x:(Ty.agg t).den} {off n:Nat} {y:u.den} {x':t.den} (h:MD t x off n u y x'):MD (.agg t) x off n u y x'
theorem MD.spec{S:FS}{w:World}{t u:Ty}{x x':t.den}{off n:Nat}{y:u.den}(h:MD t x off n u y x'):∀{cs new:List Value},rd S w t x cs->rd S w u y new->rd S w t x' (cs.take off++new++cs.drop (off+n))/\off+n≤t.cells/\n=u.cells:=by
 induction h with
 | @whole t x y=>
  intro cs new h1 h2;have l1:=aU t h1;grind
 | @left a b u x off n y x' _ ih=>
  rintro cs new ⟨c1,c2,rfl,h1,h2⟩ h3;obtain⟨q1,q2,q3⟩:=ih h1 h3;have l1:=aU a h1;refine⟨⟨_,c2,?_,q1,h2⟩,by grind,q3⟩;rw [take_append_of_le_length (by omega),drop_append_of_le_length (by omega)];simp_all
 | @right a b u x off k n y x' _ hk ih=>
  rintro cs new ⟨c1,c2,rfl,h1,h2⟩ h3;obtain⟨q1,q2,q3⟩:=ih h2 h3;have l1:=aU a h1;refine⟨⟨c1,_,?_,h1,q1⟩,by grind,q3⟩
  rw [hk,<-l1,take_append,take_of_length_le (by omega),Nat.add_sub_cancel_left,List.append_assoc,List.append_assoc,List.append_assoc,show c1.length+off+n=c1.length+(off+n) by omega,
   drop_append,drop_eq_nil_of_le (by omega),Nat.add_sub_cancel_left,nil_append]
 |agg _ ih=>intro cs new h1 h2;exact ih h1 h2
theorem QY{α:Type}(C V:List α)(p off n m L:Nat)(hV:V.length=n)(h1:off+n≤m)(h2:p+m≤L)(h3:L≤C.length):
 (C.take (p+off)++V++C.drop (p+off+n)).take L=(C.take L).take p++((((C.take L).drop p).take m).take off++V++(((C.take L).drop p).take m).drop (off+n))++(C.take L).drop (p+m):=by
 have e1:(C.take L).take p=C.take p:=by grind
 have e2:(((C.take L).drop p).take m).take off=(C.drop p).take off:=by
  grind [Nat.min_eq_left,drop_take]
 have e3:(((C.take L).drop p).take m).drop (off+n)=(C.drop (p+(off+n))).take (m - (off+n)):=by
  grind [drop_take,drop_drop,Nat.min_eq_left]
 have e4:(C.take L).drop (p+m)=(C.drop (p+m)).take (L - (p+m)):=by rw [drop_take]
 rw [e1,e2,e3,e4]
 have e5:C.take (p+off)=C.take p++(C.drop p).take off:=take_add
 have e6:(C.drop (p+(off+n))).take (m - (off+n))++(C.drop (p+m)).take (L - (p+m))=(C.drop (p+off+n)).take (L - (p+off+n)):=by
  have:L - (p+off+n)=(m - (off+n))+(L - (p+m)):=by omega
  simp_all [take_add,drop_drop,Nat.add_assoc]
 rw [take_append,take_of_length_le (by grind),e5]
 grind
theorem Eh{v:Value}{TE:TypeId}{u:Ty}{l:List t.den}{k i off n:Nat}{g:Bool}{d d':t.den}{z:u.den}(ho:o.op= .store T x y)(ht:eE P T n g)(hk:k=i * t.cells+off)(hl:l[i]? =some d)(he:rL r u z)(hs:r.stor)(hu:MD t d off n u z d'):
 bu M o [(x,.eq (tL v k)),(y,r)] [.sl v TE t l] (λ_:Unit=>(.eq undef,[.sl v TE t (l.set i d')])):=by
 refine vV.T ⟨by grind [nd],λS w a next hd hN hO kk=>?_⟩ (λ_ _ a _ _=>jm (by grind [uk]) a.eval) (λd hd=>by first |(simp at hd;done) |(simp at hd;subst hd;trivial))
 have e1:a.eval x=tL v k:=hN.1
 obtain⟨p1,p2,_⟩:=eT hN.2.1 hs
 have p3:=he.cells p1
 have l3:=aU u p3
 have hi:i < l.length:=by
  grind
 rcases hO.holds _ (by simp:D.sl v TE t l∈[D.sl v TE t l]) with⟨rfl,rfl⟩ |⟨b,cap,c,rfl,q1,q1',q2,q3,q4⟩
 .
  simp at hi
 have hfoot:∀b',ay [D.sl (.slice (some ⟨b,0,none⟩) l.length cap) TE t l] b'↔b'=b:=λb'=>by
  rw [g7];simp [D.foot,Value.ownBlock,eq_comm]
 obtain⟨hnb,hbs⟩:=hO.own b ((hfoot b).2 rfl)
 obtain⟨r1,r2⟩:=kz (λ_ _ h=>aU t h) q4 hl
 obtain⟨u1,u2,u3⟩:=hu.spec r1 p3
 have hrow:=lB (λ_ _ h=>aU t h) q4 hi u1
 have hle:i * t.cells+t.cells≤l.length * t.cells:=by
  grind
 have hcap:l.length * t.cells≤c.size:=by grind [mul_le_mul_right]
 have lc:c.toList.length=c.size:=length_toList
 have hc:c=c.toList.toArray:=(toArray_toList).symm
 rw [hc] at q2
 have hst:=mB P b TE k (a.eval y).cells.toList 0 w c.toList.toArray q2 (λv hv=>qQ r p1 v hv) (by grind)
 have hsz:(a.eval y).cells.size=n:=by grind
 have hr:(execOp a.eval o).run P w= .ok .skip { w with heap:=w.heap.setIfInBounds b (.cells (c.toList.take k++(a.eval y).cells.toList++c.toList.drop (k+n)).toArray TE (0,0)) }:=by
  have e1':a.eval x= .pointer (some ⟨b,k,none⟩):=by grind [tL]
  have l4:(a.eval y).cells.toList.length=n:=by omega
  simp only [Nat.add_zero,l4] at hst;simp only [execOp,ho,Instr.storeAt,e1',Instr.sureAddr,storeVar,Sem.run_bind,Sem.run_pure,ht.size,Result.andThen_ok,hsz,ne_eq,not_true,if_false];simpa using congrArg (λr:Result Unit=>r.andThen λ_ w'=>.ok Next.skip w') hst
 rw [hr]
 generalize hw':({ w with heap:=w.heap.setIfInBounds b (.cells (c.toList.take k++(a.eval y).cells.toList++c.toList.drop (k+n)).toArray TE (0,0)) }:World)=w'
 have hK:gf S w w':=λb' hb'=>by
  grind
 have hstep:lr (ay [D.sl (.slice (some ⟨b,0,none⟩) l.length cap) TE t l]) S w S w':=by
  grind [s7]
 refine kk () S _ _ hstep rfl (fY (.inr ⟨b,cap,(c.toList.take k++(a.eval y).cells.toList++c.toList.drop (k+n)).toArray,by grind,by grind,q1',by grind,?_,?_⟩) ?_) (λb' hb'=>.inl ?_)
 .
  simp only [size_toArray,length_append,length_take,length_drop];omega
 .
  rw [length_set,toList_toArray]
  have e6:(c.toList.take k++(a.eval y).cells.toList++c.toList.drop (k+n)).take (l.length * t.cells)=
   (c.toList.take (l.length * t.cells)).take (i * t.cells)++((((c.toList.take (l.length * t.cells)).drop (i * t.cells)).take t.cells).take off++(a.eval y).cells.toList++(((c.toList.take (l.length * t.cells)).drop (i * t.cells)).take t.cells).drop (off+n))++(c.toList.take (l.length * t.cells)).drop (i * t.cells+t.cells):=by
   subst hk
   exact QY _ _ _ _ _ _ _ (by omega) u2 hle (by omega)
  grind [bS,dp]
 .
  intro b' hb';have:b'=b:=by simpa [D.foot,Value.ownBlock,eq_comm] using hb'
  grind
 .
  rw [g7] at hb';have:b'=b:=by simpa [D.foot,Value.ownBlock,eq_comm] using hb'
  grind
theorem o8{α:Type}{l:List α}{i:Int}{x:α}(h:aK l i=some x):i.toNat < l.length:=by
 obtain⟨h0,h1,_⟩:=dR h;omega
theorem iD{v:Value}{TE:TypeId}{l:List t.den}{k i n:Nat}{g:Bool}{d':t.den}(ho:o.op= .store T x y)(ht:eE P T n g)(hk:k=i * t.cells)(hi:i < l.length)(hn:t.cells=n)(he:rL r t d')(hs:r.stor):
 bu M o [(x,.eq (tL v k)),(y,r)] [.sl v TE t l] (λ_:Unit=>(.eq undef,[.sl v TE t (l.set i d')])):=by
 subst hn
 exact Eh (off:=0) ho ht hk (List.getElem?_eq_getElem hi) he hs .whole
end
section
variable {c:Cx}{full:List Oper}{Q:Exit->Act->VW->Prop}{Γ0 Γ Γt:Ga}{Δ Δr Δt F:List D}{acc:List DE}{l:List Oper}{id:Nat}{must:List Bool}{T:List Nat}{vs:List Value}{k:Nat}
def Fl(Δ Δr:List D):List DE->List Bool->Prop
 |[],_=>True
 |e::es,ms=>((ms.headD false=true/\(e.b=true->e.r= .any))\/(e.b=false/\(∀v,e.E v=[])/\(e.u=none\/∃k d,e.u=some (k,false)/\Δ[k]? =some d/\d∈Δr)))/\Fl Δ Δr es ms.tail
theorem Fl.nth:∀{acc:List DE} {must:List Bool} {i:Nat} {e:DE},Fl Δ Δr acc must->acc[i]? =some e->must.getD i false=false->e.b=false/\(∀v,e.E v=[])/\(e.u=none\/∃k d,e.u=some (k,false)/\Δ[k]? =some d/\d∈Δr)
 |[],_,_,_,_,h,_=>by simp at h
 |x::acc,must,0,e,h,he,hm=>by
  simp at he
  subst he
  rcases h.1 with h1 |h1
  .
   cases must <;> simp at h1 hm
   simp_all
  .
   exact h1
 |x::acc,must,i+1,e,h,he,hm=>by
  refine Fl.nth (acc:=acc) (must:=must.tail) (i:=i) h.2 (by simp_all) ?_
  simp_all
def C4(full:List Oper)(es:List DE)(must:List Bool)(T:List Nat):Bool:=
 let M:=lV [] full
 (es.zipIdx.all λ(e,i)=>uM M es i e) && (full.zipIdx.all λ(o,i)=>(f9 o).all (· < i)) &&
 ((List.range full.length).all λj=>j < es.length || (List.range j).all λi=>i < es.length || (M.getD j 0).testBit i) &&
 (es.zipIdx.all λ(_,i)=> !must.getD i false || (M.getD es.length 0).testBit i) &&
 (es.zipIdx.all λ(e,i)=>must.getD i false || (gz e.N).all λs=>es.zipIdx.all λ(e',j)=>e'.d != s || (M.getD i 0).testBit j) &&
 (es.zipIdx.all λ(e,i)=> !T.contains e.d && (must.getD i false || (gz e.N).all λs=> !T.contains s)) && decide (es.length < full.length)
@[reducible] def rB(e:DE)(v:Value):A:=if e.b then .eq v else e.r
@[reducible] def GB:List DE->List Value->Ga
 |e::es,v::vs=>(e.d,rB e v)::GB es vs
 |_,_=>[]
theorem FU{s:Nat}{r:A}:∀{acc:List DE} {vs:List Value},vs.length=acc.length->lk (GB acc vs++Γt) s=some r->
 (∃(j:Nat) (e:DE),acc[j]? =some e/\e.d=s/\r=rB e (vs.getD j undef))\/((∀(j:Nat) (e:DE),acc[j]? =some e->e.d≠s)/\lk Γt s=some r)
 |[],[],_,h=>.inr ⟨λj e h=>by simp at h,h⟩
 |e::es,v::vs,hl,h=>by
  simp only [GB,cons_append,lk] at h
  split at h
  .
   rename_i hd
   exact .inl ⟨0,e,rfl,hd,(Option.some.inj h).symm⟩
  .
   rename_i hd
   rcases FU (acc:=es) (vs:=vs) (by simp_all) h with⟨j,e',h1,h2,h3⟩ |⟨h1,h2⟩
   .
    exact .inl ⟨j+1,e',by simp_all,h2,by simp_all⟩
   grind
 |[],_::_,hl,_=>by simp at hl
 |_::_,[],hl,_=>by simp at hl
structure TI(c:Cx)(full:List Oper)(Γ0:Ga)(acc:List DE)(must:List Bool)(T:List Nat)(vs:List Value)(Δr:List D)(k:Nat)(Γt:Ga)(Δt:List D)(L:Array Bool)(a:Act)(w:VW):Prop where
 size:L.size=full.length
 tail:∀j,acc.length≤j->lst L j=decide (j < acc.length+k)
 must:∀j,must.getD j false=true->j < acc.length->lst L j=true
 closed:∀j o,full[j]? =some o->lst L j=true->∀i∈f9 o,lst L i=true
 defers:a.defers=c.dfs
 tmps:a.tmps.size=c.N
 keep:∀s,T.contains s=false->lk Γt s=lk Γ0 s
 ex:∃S:FS,bI c.X c.S0 c.w0 S w/\(∀b,ay (Δr++Δt) b->c.X b\/c.w0.heap.size≤b)/\ba (Δr++Δt) S w/\
  (∀s r,lk Γt s=some r->(∀(j:Nat) (e:DE),acc[j]? =some e->e.d≠s)->r.holds S w (a.tmps.getD s undef))/\
  (∀(j:Nat) (e:DE),acc[j]? =some e->lst L j=true->(rB e (vs.getD j undef)).holds S w (a.tmps.getD e.d undef))
theorem m9(h:C4 full acc must T=true):
 (∀(i:Nat) (e:DE),acc[i]? =some e->uM (lV [] full) acc i e=true)/\(∀(j:Nat) (o:Oper),full[j]? =some o->∀i∈f9 o,i < j)/\
 (∀j,acc.length≤j->j < full.length->∀i,acc.length≤i->i < j->((lV [] full).getD j 0).testBit i=true)/\
 (∀i,i < acc.length->must.getD i false=true->((lV [] full).getD acc.length 0).testBit i=true)/\
 (∀(i:Nat) (e:DE),acc[i]? =some e->must.getD i false=false->∀s∈gz e.N,∀(j:Nat) (e':DE),acc[j]? =some e'->e'.d=s->((lV [] full).getD i 0).testBit j=true)/\
 (∀(i:Nat) (e:DE),acc[i]? =some e->T.contains e.d=false/\(must.getD i false=false->∀s∈gz e.N,T.contains s=false))/\acc.length < full.length:=by
 unfold C4 at h
 simp only [Bool.and_eq_true,decide_eq_true_eq] at h
 obtain⟨⟨⟨⟨⟨⟨h1,h2⟩,h3⟩,h4⟩,h5⟩,h6⟩,h7⟩:=h
 refine⟨λi e he=>eH h1 he,λj o ho i hi=>?_,λj hj hjl i hi hij=>?_,λi hi hm=>?_,λi e he hm s hs j e' he' hd=>?_,λi e he=>?_,h7⟩
 .
  have:=eH h2 ho;grind
 .
  rw [List.all_eq_true] at h3;have:=h3 j (List.mem_range.2 hjl);grind
 .
  have:=eH h4 (List.getElem?_eq_getElem hi);grind
 .
  have:=eH h5 he;simp only [hm,Bool.false_or] at this;rw [List.all_eq_true] at this;have:=eH (this s hs) he';grind
 .
  have:=eH h6 he;grind
theorem Fl.any:∀{acc:List DE} {must:List Bool} {i:Nat} {e:DE},Fl Δ Δr acc must->acc[i]? =some e->e.b=true->e.r= .any
 |[],_,_,_,_,h,_=>by simp at h
 |x::acc,must,0,e,h,he,hb=>by
  simp at he
  subst he
  rcases h.1 with h1 |h1
  .
   simp_all
  simp_all
 |x::acc,must,i+1,e,h,he,hb=>Fl.any (acc:=acc) (must:=must.tail) (i:=i) h.2 (by simp_all) hb
theorem OX(hlt:∀(j:Nat) (o:Oper),full[j]? =some o->∀i∈f9 o,i < j):∀(n m:Nat) (o:Oper),m≤n->full[m]? =some o->∀q,((lV [] full).getD m 0).testBit q=true->q < m:=by
 intro n
 induction n with
 |zero=>
  intro m o hm ho q hq;have:m=0:=by omega
  subst this;obtain⟨M',g1,g2,g3⟩:=tP (M:=[]) ho;simp only [length_nil,Nat.zero_add] at g3;grind [li]
 |succ n ih=>
  intro m o hm ho q hq;obtain⟨M',g1,g2,g3⟩:=tP (M:=[]) ho;simp only [length_nil,Nat.zero_add] at g1 g3;rw [getD_eq_getElem?_getD,g3,Option.getD_some] at hq;obtain⟨p,hp,hq⟩:=li hq;have hpm:=hlt m o ho p hp;rcases hq with rfl |hq
  .exact hpm
  .have hml:m < full.length:=by
    grind
   have:=ih p _ (by omega) (List.getElem?_eq_getElem (by omega:p < full.length)) q (by
    grind)
   omega
theorem xm(hfull:full=acc.map (·.o)++l)(hDR:GO c full.toArray Δ Γ0 acc)(hck:C4 full acc must T=true)(hfl:Fl Δ Δr acc must){L:Array Bool}{a:Act}{w:VW}(h:TI c full Γ0 acc must T vs Δr k Γt Δt L a w){i:Nat}
 (hi:i < acc.length) (hri:i∈Region.ready .any full.toArray L):pC c.M c.rd full.toArray Q i (λa' w'=>TI c full Γ0 acc must T vs Δr k Γt Δt (L.setIfInBounds i true) a' w') a w:=by
 obtain⟨hc1,hlt,hc3,hc4,hc5,hc6,hc7⟩:=m9 hck
 obtain⟨e,he⟩:∃e,acc[i]? =some e:=⟨_,List.getElem?_eq_getElem hi⟩
 obtain⟨hDV,hHas⟩:=GO.nth acc hDR he
 have hone:=hc1 i e he
 simp only [uM] at hone
 have hother:∀(j:Nat) (e':DE),acc[j]? =some e'->j≠i->e'.d≠e.d:=λj e' hj hne=>by
  have:=eH hone hj;grind
 obtain⟨oi,hoi,hli,hpi⟩:=(dE h.size).1 hri
 have hoe:oi=e.o:=by
  grind
 subst hoe
 have hiL:i < L.size:=by rw [h.size,hfull];simp;omega
 have hahead:=tR h.closed hlt i i e.o (Nat.le_refl _) hoi hpi
 have hmf:must.getD i false=false:=by
  cases hm:must.getD i false with
  |false=>rfl
  |true=>have:=h.must i hm hi;grind
 obtain⟨f1,f2,f3⟩:=hfl.nth he hmf
 obtain⟨S,h3,h4,h5,h6,h7⟩:=h.ex
 have hsetL:∀j,j≠i->lst (L.setIfInBounds i true) j=lst L j:=λj hj=>by rw [cZ hiL,if_neg (Ne.symm hj)]
 have hsetI:lst (L.setIfInBounds i true) i=true:=by rw [cZ hiL,if_pos rfl]
 have hrB:∀(j:Nat) (e':DE),acc[j]? =some e'->lst L j=true->e'.b=false->e'.r.holds S w (a.tmps.getD e'.d undef):=λj e' hj hl hb=>by
  grind
 have hneeds:bM S w a e.N:=eX hHas λs r hs hl=>by
  rcases vM hl with⟨j,e',hj,hd,hr⟩ |⟨h8,h9⟩
  .have hji:j < i:=by
    grind
   rw [getElem?_take_of_lt hji] at hj;have hlj:=hahead j (hc5 i e he hmf s hs j e' hj hd);subst hr hd;cases hb:e'.b with
   |false=>grind
   |true=>
    rw [hfl.any hj hb];trivial
  .refine h6 s r ?_ λj e' hj hd=>?_
   .rw [h.keep s ((hc6 i e he).2 hmf s hs)];exact h8
   .have hb:=hc5 i e he hmf s hs j e' hj hd;have hji:=OX hlt i i _ (Nat.le_refl _) hoi j hb;exact h9 j e' (by grind) hd
 obtain⟨rest,hp1,hk1⟩:∃rest,(Δr++Δt).Perm (ml Δ e.u++rest)/\lJ Δ e.u=ml Δ e.u:=by
  rcases f3 with hu |⟨kk,d,hu,hkd,hd⟩
  .rw [hu];exact⟨_,List.Perm.refl _,rfl⟩
  .rw [hu];obtain⟨q,hq⟩:=List.getElem?_of_mem (List.mem_append_left Δt hd);exact⟨_,by simp only [ml,hkd];exact iC q d hq,by grind⟩
 have hown:=h5.perm hp1
 have hownU:ba (ml Δ e.u) S w:=hown.part
 have hgo:=hDV.run S w a (λa' w'=>TI c full Γ0 acc must T vs Δr k Γt Δt (L.setIfInBounds i true) a' w') Q h3.dom hneeds hownU λS' w' v hs hr ho hf=>by
  have hdl:e.d < a.tmps.size:=by rw [h.tmps];exact hDV.lt
  have hput:∀s,(a.put (some e.d) v).tmps.getD s undef=if e.d=s then v else a.tmps.getD s undef:=λs=>mX hdl;have hin:∀b,ay (ml Δ e.u) b->ay (Δr++Δt) b:=λb ⟨d,hd,hb⟩=>⟨d,hp1.mem_iff.2 (List.mem_append.2 (.inl hd)),hb⟩;have hK:gf S w w':=λb hb=>hs.keep b (h3.dom b hb) (h5.sees b hb) (λhx=>(h5.own b (hin b hx)).1 hb);rw [f2 v,append_nil,hk1] at ho;have hfr:=hown.frame h3.dom hs ho (λb hb=>.inl hb);refine⟨by simpa using h.size,λj hj=>by rw [hsetL j (by omega)];exact h.tail j hj,λj hj hjl=>?_,λj o hj hlj kk hkk=>?_,h.defers,by simpa [Act.put] using h.tmps,h.keep,S',h3.trans hs λb hb=>h4 b (hin b hb),h4,hfr.perm hp1.symm,λs r hl hno=>?_,λj e' hj hlj=>?_⟩
  .rw [cZ hiL];split
   .rfl
   .exact h.must j hj hjl
  .rw [cZ hiL];split
   .rfl
   .rw [cZ hiL] at hlj;split at hlj
    .rename_i hij;subst hij;have:o=e.o:=by grind
     subst this;grind
    .exact h.closed j o hj hlj kk hkk
  .rw [hput,if_neg (hno i e he)];exact A.mono hs.sub hK r (h6 s r hl hno)
  .rw [hput];by_cases hji:j=i
   .grind
   .rw [if_neg (Ne.symm (hother j e' hj hji))];exact A.mono hs.sub hK _ (h7 j e' hj (by rw [hsetL j hji] at hlj;exact hlj))
 have hoi':full.toArray[i]? =some e.o:=by grind
 unfold pC
 simp only [hoi']
 split
 .
  grind
 .
  rename_i hw;rw [if_neg hw] at hgo;rw [hDV.dst];exact hgo
def JT(c:Cx)(full:List Oper)(Q:Exit->Act->VW->Prop)(Γ0:Ga)(Δ:List D)(acc:List DE)(must:List Bool)(T:List Nat)(vs:List Value)(Δr:List D)(k:Nat)(l:List Oper)(Γt:Ga)(Δt:List D):Prop:=
 full=acc.map (·.o)++full.drop acc.length->full.drop (acc.length+k)=l->GO c full.toArray Δ Γ0 acc->C4 full acc must T=true->Fl Δ Δr acc must->vs.length=acc.length->
  ∀aM L a w,TI c full Γ0 acc must T vs Δr k Γt Δt L a w->cnt L acc.length+l.length≤aM->ip c.M c.rd .any full.toArray Q aM L a w
theorem uQ(h:JN c (Q .normal) (GB acc vs++Γt) (Δr++Δt)):JT c full Q Γ0 Δ acc must T vs Δr k [] Γt Δt:=by
 intro hfull hdr hDR hck hfl hvs aM;obtain⟨hc1,hlt,hc3,hc4,hc5,hc6,hc7⟩:=m9 hck;have hlen:full.length≤acc.length+k:=by grind
 have fin:∀L a w,TI c full Γ0 acc must T vs Δr k Γt Δt L a w->cnt L acc.length=0->Region.ready .any full.toArray L=[]/\Q .normal a w:=by
  intro L a w hI h0;have hall:=mZ h0;constructor
  .rw [eq_nil_iff_forall_not_mem];intro i hi;obtain⟨o,h3,h4,_⟩:=(dE hI.size).1 hi
   have hil:i < full.length:=by
    grind
   rcases Nat.lt_or_ge i acc.length with h |h
   .grind
   .rw [hI.tail i h] at h4;grind
  .obtain⟨S,h3,h4,h5,h6,h7⟩:=hI.ex;refine h a w ⟨hI.defers,hI.tmps,S,h3,h4,h5,λs r hl=>?_⟩;rcases FU hvs hl with⟨j,e,hj,hd,hr⟩ |⟨h8,h9⟩
   .have hjl:j < acc.length:=by
     grind
    subst hd hr;grind
   .exact h6 s r h9 h8
 induction aM with
 |zero=>
  intro L a w hI hf;exact fin L a w hI (by omega)
 |succ n ih=>
  intro L a w hI hf;refine⟨λhr=>?_,λi hi=>?_⟩
  .by_cases h0:cnt L acc.length=0
   .grind
   .obtain⟨j,hj1,hj2,hj3⟩:=rl h0;obtain⟨oj,hoj⟩:∃oj,full[j]? =some oj:=⟨_,List.getElem?_eq_getElem (by omega)⟩;have:j∈Region.ready .any full.toArray L:=(dE hI.size).2 ⟨oj,hoj,hj2,λi hi=>hj3 i (hlt j oj hoj i hi)⟩;grind
  .obtain⟨oi,hoi,hli,hpi⟩:=(dE hI.size).1 hi
   have hil:i < full.length:=by
    grind
   have hia:i < acc.length:=by
    rcases Nat.lt_or_ge i acc.length with h |h
    .exact h
    .rw [hI.tail i h] at hli;grind
   refine lZ (λa' w' hI'=>ih _ a' w' hI' ?_) (xm hfull hDR hck hfl hI hia hi);have hiL:i < L.size:=by rw [hI.size];exact hil
   have:=rj (L:=L) (L':=L.setIfInBounds i true) (i:=i) (λj hj=>by rw [cZ hiL,if_neg (Ne.symm hj)]) hli (by rw [cZ hiL,if_pos rfl]) hia;omega
def C5(full:List Oper)(acc:List DE)(i:Nat)(N:List (Operand×A)):Bool:=
 (gz N).all λs=>acc.zipIdx.all λ(e',j)=>e'.d != s || ((lV [] full).getD i 0).testBit j
section
variable {o:Oper}{N:List (Operand×A)}{Δu:List D}{X:Type}{R:X->A×List D}{r:A}{d:Nat}
theorem GG(hg:o.guard=none)(ht:bu c.M o N Δu R)(hh:ew (GB acc vs++Γt) N)(hN:C5 full acc (acc.length+k) N=true)
 (G':X->Ga) (hG:∀x (a:Act) (v:Value) (S':FS) (w':World),a.tmps.size=c.N->(R x).1.holds S' w' v->(∀s r,lk Γt s=some r->(∀(j:Nat) (e:DE),acc[j]? =some e->e.d≠s)->r.holds S' w' (a.tmps.getD s undef))->
  (∀s r,lk (G' x) s=some r->(∀(j:Nat) (e:DE),acc[j]? =some e->e.d≠s)->r.holds S' w' ((a.put o.dst v).tmps.getD s undef)))
 (hK:∀x,(∀s,T.contains s=false->lk Γt s=lk Γ0 s)->∀s,T.contains s=false->lk (G' x) s=lk Γ0 s)
 (hD:∀(a:Act) (v:Value) (e:DE),a.tmps.size=c.N->e∈acc->T.contains e.d=false->(a.put o.dst v).tmps.getD e.d undef=a.tmps.getD e.d undef)
 (h:∀x,JT c full Q Γ0 Δ acc must T vs Δr (k+1) l (G' x) ((R x).2++F)):JT c full Q Γ0 Δ acc must T vs Δr k (o::l) Γt (Δu++F):=by
 intro hfull hdr hDR hck hfl hvs aM
 obtain⟨hc1,hlt,hc3,hc4,hc5,hc6,hc7⟩:=m9 hck
 have hjl:acc.length+k < full.length:=by
  grind [Nat.lt_or_ge,drop_eq_nil_of_le]
 have hdr0:=hdr
 rw [drop_eq_getElem_cons hjl] at hdr
 simp only [List.cons.injEq] at hdr
 obtain⟨hd1,hd2⟩:=hdr
 have ho:full[acc.length+k]? =some o:=by grind
 induction aM with
 |zero=>
  grind
 |succ n ih=>
  intro L a w hI hf;simp only [length_cons] at hf
  have hne:Region.ready .any full.toArray L≠[]:=by
   by_cases h0:cnt L acc.length=0
   .have hall:=mZ h0
    have hrj:acc.length+k∈Region.ready .any full.toArray L:=(dE hI.size).2 ⟨o,ho,by rw [hI.tail _ (by omega)];simp,λi hi=>by
     have:=hlt _ o ho i hi;rcases Nat.lt_or_ge i acc.length with h |h
     .grind
     .rw [hI.tail i h];grind⟩
    grind
   .obtain⟨j,hj1,hj2,hj3⟩:=rl h0;obtain⟨oj,hoj⟩:∃oj,full[j]? =some oj:=⟨_,List.getElem?_eq_getElem (by omega)⟩;have:j∈Region.ready .any full.toArray L:=(dE hI.size).2 ⟨oj,hoj,hj2,λi hi=>hj3 i (hlt j oj hoj i hi)⟩;grind
  refine⟨λhr=>absurd hr hne,λi hi=>?_⟩;obtain⟨oi,hoi,hli,hpi⟩:=(dE hI.size).1 hi
  have hil:i < full.length:=by
   grind
  have hiL:i < L.size:=by rw [hI.size];exact hil
  rcases Nat.lt_or_ge i acc.length with hia |hia
  .refine lZ (λa' w' hI'=>ih _ a' w' hI' ?_) (xm hfull hDR hck hfl hI hia hi);have:=rj (L:=L) (L':=L.setIfInBounds i true) (i:=i) (λj hj=>by rw [cZ hiL,if_neg (Ne.symm hj)]) hli (by rw [cZ hiL,if_pos rfl]) hia;grind
  .have hle:acc.length+k≤i:=by
    rw [hI.tail i hia] at hli;grind
   have hik:i=acc.length+k:=by
    rcases Nat.lt_or_ge (acc.length+k) i with hh |hh
    .exfalso;have:=tR hI.closed hlt i i oi (Nat.le_refl _) hoi hpi (acc.length+k) (hc3 i hia hil _ (by omega) hh);rw [hI.tail _ (by omega)] at this;grind
    .omega
   subst hik;have hoe:oi=o:=by grind
   subst hoe;have hahead:=tR hI.closed hlt _ _ oi (Nat.le_refl _) ho hpi;obtain⟨S,h3,h4,h5,h6,h7⟩:=hI.ex
   have hneeds:bM S w a N:=eX hh λs r hs hl=>by
    rcases FU hvs hl with⟨j,e,hj,hd,hr⟩ |⟨h8,h9⟩
    .unfold C5 at hN;rw [List.all_eq_true] at hN;have:=eH (hN s hs) hj;simp only [hd,bne_self_eq_false,Bool.false_or] at this;subst hd hr;grind
    .exact h6 s r h9 h8
   have hp1:(Δr++(Δu++F)).Perm (Δu++(Δr++F)):=by
    rw [<-List.append_assoc,<-List.append_assoc];exact List.Perm.append_right _ perm_append_comm
   have hown:=h5.perm hp1;have hownU:ba Δu S w:=hown.part
   have hgo:oi.wk c.M c.rd a w (λa' w'=>ip c.M c.rd .any full.toArray Q n (L.setIfInBounds (acc.length+k) true) a' w') Q:=ht.run c.rd S w a _ Q h3.dom hneeds hownU λx S' w' v hs hr ho' hf'=>by
    have hin:∀b,ay Δu b->ay (Δr++(Δu++F)) b:=λb ⟨d,hd,hb⟩=>⟨d,hp1.mem_iff.2 (List.mem_append.2 (.inl hd)),hb⟩;have hKp:gf S w w':=λb hb=>hs.keep b (h3.dom b hb) (h5.sees b hb) (λhx=>(h5.own b (hin b hx)).1 hb);have hfr:=hown.frame h3.dom hs ho' hf'
    have hp2:((R x).2++(Δr++F)).Perm (Δr++((R x).2++F)):=by
     rw [<-List.append_assoc,<-List.append_assoc];exact List.Perm.append_right _ perm_append_comm
    refine h x hfull (by omega) hDR hck hfl hvs n _ _ w' ⟨by simpa using hI.size,λj hj=>?_,λj hj hjl=>?_,λj o' hj hlj kk hkk=>?_,(by cases oi.dst <;> simpa [Act.put] using hI.defers),by simpa [Act.put] using (by cases oi.dst <;> simpa [Act.put] using hI.tmps:(a.put oi.dst v).tmps.size=c.N),hK x hI.keep,S',h3.trans hs λb hb=>h4 b (hin b hb),λb hb=>?_,hfr.perm hp2,hG x a v S' w' hI.tmps hr (λs r hl hno=>A.mono hs.sub hKp r (h6 s r hl hno)),λj e hj hlj=>?_⟩ ?_
    .rw [cZ hiL];split
     .grind
     .rename_i hh;rw [hI.tail j hj];rw [decide_eq_decide];omega
    .rw [cZ hiL];split
     .rfl
     .exact hI.must j hj hjl
    .rw [cZ hiL];split
     .rfl
     .rw [cZ hiL] at hlj;split at hlj
      .grind
      .exact hI.closed j o' hj hlj kk hkk
    .rw [kH hp2.symm] at hb;obtain⟨d',hd',hbd⟩:=hb;rcases List.mem_append.1 hd' with hd' |hd'
     .rcases hf' b ⟨d',hd',hbd⟩ with hh |hh
      .grind
      .exact .inr (Nat.le_trans h3.size hh)
     .exact h4 b ⟨d',hp1.mem_iff.2 (List.mem_append.2 (.inr hd')),hbd⟩
    .rw [hD a v e hI.tmps (List.mem_of_getElem? hj) (hc6 j e hj).1];refine A.mono hs.sub hKp _ (h7 j e hj ?_)
     rw [cZ hiL,if_neg (by
      grind)] at hlj
     exact hlj
    .have:=xf (L:=L) (L':=L.setIfInBounds (acc.length+k) true) (i:=acc.length+k) (λj hj=>by rw [cZ hiL,if_neg (Ne.symm hj)]) (t:=acc.length) (by omega);omega
   have ho2:full.toArray[acc.length+k]? =some oi:=by grind
   unfold pC;simp only [ho2];rw [if_pos (aj hg _)];exact hgo
theorem XC(hg:o.guard=none)(hd:o.dst=none)(ht:bu c.M o N Δu R)(hh:ew (GB acc vs++Γt) N)(hN:C5 full acc (acc.length+k) N=true)
 (h:∀x,JT c full Q Γ0 Δ acc must T vs Δr (k+1) l Γt ((R x).2++F)):JT c full Q Γ0 Δ acc must T vs Δr k (o::l) Γt (Δu++F):=
 GG hg ht hh hN (λ_=>Γt) (λx a v S' w' _ _ hs=>by rw [hd];exact hs) (λ_ h=>h) (λa v e _ _ _=>by rw [hd];rfl) h
theorem S5(hg:o.guard=none)(hd:o.dst=some d)(hdN:blt d c.N=true)(hdT:T.contains d=true)(ht:bu c.M o N Δu R)(hh:ew (GB acc vs++Γt) N)(hN:C5 full acc (acc.length+k) N=true)
 (h:∀x,JT c full Q Γ0 Δ acc must T vs Δr (k+1) l ((d,(R x).1)::Γt) ((R x).2++F)):JT c full Q Γ0 Δ acc must T vs Δr k (o::l) Γt (Δu++F):=by
 have hlt:d < c.N:=blt_eq▸hdN
 refine GG hg ht hh hN (λx=>(d,(R x).1)::Γt) (λx a v S' w' hsz hr hs s r hl hno=>?_) (λx hk s hsT=>?_) (λa v e hsz he hT=>?_) h
 .
  rw [hd,mX (by omega)];simp only [lk] at hl;grind
 .
  simp only [lk];grind
 .
  rw [hd,mX (by omega),if_neg (λe'=>by simp_all)]
def BH:List DE->List Value->Prop
 |e::es,v::vs=>(∀d∈e.E v,∃S w,d.holds S w)/\BH es vs
 |_,_=>True
theorem BH.of:∀{es:List DE} {vs:List Value},(∀d∈births es vs,∃S w,d.holds S w)->BH es vs
 |e::es,v::vs,h=>⟨λd hd=>h d (List.mem_append.2 (.inl hd)),BH.of λd hd=>h d (List.mem_append.2 (.inr hd))⟩
 |[],_,_=>by simp_all [BH]
 |_::_,[],_=>by simp_all [BH]
theorem PV(must:List Bool)(T:List Nat)(Δr:List D)(hck:C4 full acc must T=true)(hfl:Fl Δ Δr acc must)(hm:c.P.follows .mixedOrders=true)
 (h:∀vs:List Value,vs.length=acc.length->BH acc vs->∃ks Δt,dF (j8 Δ acc vs) ks=some (Δr++Δt)/\ks.Nodup/\JT c full Q Γ0 Δ acc must T vs Δr 0 l Γ0 Δt):DR c id full Q Γ0 Δ acc l Γ:=by
 intro hfull hDR hΓ ops hren a w hst
 refine rF hren hm λv1 hv=>?_
 have hst':=hst.drew hv
 generalize (v1.upd { v1.toWorld with drawn:=v1.drawn+1 })=w1 at hst'⊢
 have hck0:OZ full acc=true:=by
  unfold C4 at hck;simp only [Bool.and_eq_true] at hck;exact Bool.and_eq_true_iff.2 ⟨hck.1.1.1.1.1.1,hck.1.1.1.1.1.2⟩
 obtain⟨hc1,hlt,hc3,hc4,hc5,hc6,hc7⟩:=m9 hck
 have hdrop:full.drop acc.length=l:=by
  grind
 have hlen:full.length=acc.length+l.length:=by grind
 have conv:∀L a w,sV c full Γ0 Δ acc L a w->(∀j,must.getD j false=true->j < acc.length->lst L j=true)->∀aM,cnt L acc.length+l.length≤aM->ip c.M c.rd .any full.toArray Q aM L a w:=by
  intro L a w hI hmu aM hf;obtain⟨S,h3,h4,h5,h6,h7⟩:=hI.ex
  have hund:∀(j:Nat) (e:DE),acc[j]? =some e->lst L j=false->(∀v,e.E v=[])/\∀k,tN e k=false:=λj e he hl=>by
   have hjl:j < acc.length:=by
    grind
   have hmf:must.getD j false=false:=by
    grind
   obtain⟨f1,f2,f3⟩:=hfl.nth he hmf;refine⟨f2,λk=>?_⟩;rcases f3 with hu |⟨kk,d,hu,_⟩ <;> simp [tN,hu]
  have hD:j8 Δ acc (acc.map λe=>a.tmps.getD e.d undef)=xH Δ acc L a:=by
   unfold j8 xH
   have e1:∀(es:List DE) (m:Nat),(∀(j:Nat) (e:DE),es[j]? =some e->lst L (m+j)=false->∀v,e.E v=[])->births es (es.map λe=>a.tmps.getD e.d undef)=g9 L a m es:=by
    intro es
    induction es with
    |nil=>intro m _;rfl
    |cons x es ih=>
     intro m hh;simp only [map_cons,births,g9];rw [ih (m+1) λj e he hl=>hh (j+1) e (by grind) (by grind)];cases hl:lst L m with
     |true=>rfl
     |false=>rw [hh 0 x rfl (by omega)];rfl
   have e2:∀(k:Nat) (es:List DE) (m:Nat),(∀(j:Nat) (e:DE),es[j]? =some e->lst L (m+j)=false->tN e k=false)->eU L k m es=mj es k:=by
    intro k es
    induction es with
    |nil=>intro m _;rfl
    |cons x es ih=>
     intro m hh;simp only [eU,mj,any_cons];rw [ih (m+1) λj e he hl=>hh (j+1) e (by grind) (by grind)];cases hl:lst L m with
     |true=>rfl
     |false=>rw [hh 0 x rfl (by omega)];rfl
   rw [e1 acc 0 λj e he hl=>(hund j e he (by grind)).1];congr 1
   have:∀(l:List D) (k:Nat),j8.keepFrom acc k l=dX (λk=> !eU L k 0 acc) k l:=by
    intro l
    induction l with
    |nil=>intro k;rfl
    |cons x l ih=>
     intro k;simp only [j8.keepFrom,dX,e2 k acc 0 (λj e he hl=>(hund j e he (by grind)).2 k),ih];grind
   grind
  have hBH:BH acc (acc.map λe=>a.tmps.getD e.d undef):=BH.of λd hd=>⟨S,w,h5.holds d (by rw [<-hD];exact List.mem_append.2 (.inr hd))⟩;obtain⟨ks,Δt,hk,hn,hj⟩:=h (acc.map λe=>a.tmps.getD e.d undef) (by simp) hBH;refine hj (by grind) (by omega) hDR hck hfl (by simp) aM L a w ?_ hf;rw [hD] at hk
  have hm':∀d∈Δr++Δt,d∈xH Δ acc L a:=λd hd=>by
   grind [jX,List.mem_of_getElem?]
  refine⟨hI.size,λj hj=>by rw [hI.past j hj];simp;omega,hmu,hI.closed,hI.defers,hI.tmps,λ_ _=>rfl,S,h3,λb ⟨d,hd,e⟩=>h4 b ⟨d,hm' d hd,e⟩,
   h5.re ⟨λd hd=>h5.holds d (hm' d hd),λb ⟨d,hd,e⟩=>h5.own b ⟨d,hm' d hd,e⟩,jR (λ_ _ h b e e'=>h b e' e) h5.apart hn hk⟩ (λb ⟨d,hd,e⟩=>⟨d,hm' d hd,e⟩) (λ_ h=>.inl h),
   λs r hl hno=>h6 s r hl λj e hj _=>hno j e hj,λj e hj hlj=>?_⟩
  have:=h7 j e hj hlj;unfold rB;split
  .have hv:(acc.map λe=>a.tmps.getD e.d undef).getD j undef=a.tmps.getD e.d undef:=by
    rw [getD_eq_getElem?_getD,List.getElem?_map,hj];rfl
   rw [hv];exact rfl
  omega
 have key:∀aM L a w,sV c full Γ0 Δ acc L a w->cnt L acc.length+l.length≤aM->ip c.M c.rd .any full.toArray Q aM L a w:=by
  intro aM
  induction aM with
  |zero=>
   omega
  |succ n ih=>
   intro L a w hI hf;by_cases hmu:∀j,must.getD j false=true->j < acc.length->lst L j=true
   .grind
   .have h0:cnt L acc.length≠0:=λh0=>hmu λj _ hj=>mZ h0 j hj;obtain⟨j,hj1,hj2,hj3⟩:=rl h0;obtain⟨oj,hoj⟩:∃oj,full[j]? =some oj:=⟨_,List.getElem?_eq_getElem (by omega)⟩;have hrj:j∈Region.ready .any full.toArray L:=(dE hI.size).2 ⟨oj,hoj,hj2,λi hi=>hj3 i (hlt j oj hoj i hi)⟩;refine⟨λhh=>(by grind),λi hi=>?_⟩;obtain⟨oi,hoi,hli,hpi⟩:=(dE hI.size).1 hi
    have hil:i < full.length:=by
     grind
    have hahead:=tR hI.closed hlt i i oi (Nat.le_refl _) hoi hpi
    have hit:i < acc.length:=by
     rcases Nat.lt_or_ge i acc.length with h |h
     .exact h
     .exfalso;by_cases hip:i=acc.length
      .grind
      .have:=hahead acc.length (hc3 i h hil _ (Nat.le_refl _) (by omega));rw [hI.past _ (Nat.le_refl _)] at this;cases this
    refine lZ (λa' w' hI'=>ih _ a' w' hI' ?_) (sV.step hfull hDR hck0 hI hit hi);have hiL:i < L.size:=by rw [hI.size];exact hil
    have:=rj (L:=L) (L':=L.setIfInBounds i true) (i:=i) (λj hj=>by rw [cZ hiL,if_neg (Ne.symm hj)]) hli (by rw [cZ hiL,if_pos rfl]) hit;omega
 refine key full.toArray.size _ a w1 (sV.start hst') ?_
 have:∀t,cnt (Array.replicate full.toArray.size false) t≤t:=by
  intro t
  induction t with
  |zero=>exact Nat.le_refl _
  |succ t ih=>grind [cnt]
 grind
end
end
end K
