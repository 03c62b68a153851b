import Derived.Test.YtlmopgkkijhllaaGreatVBB4
import Derived.Carry
import Derived.Laws.Externs
import Derived.Laws.OwnMore
import Derived.Conc.Events
import Derived.Lib.UnsafeStr
import Derived.Lib.Builder
import Derived.Lib.BytesEntry
import Derived.Lib.AppendStr
import Derived.Lib.MakeNoZero
import Derived.Laws.Strings
import Derived.Laws.Strings2
import Derived.Laws.Strings3
import Derived.Laws.DeepStrings4
import Derived.Laws.RangeString
import Derived.Laws.BytesString
set_option linter.unusedVariables false
set_option linter.unusedSimpArgs false
namespace Go.Proofs.YtlmopgkkijhllaaGreat
namespace K
open Go Go.ChangeShapes Go.WideShapes Go.ChangeAt Go.RowKit
def MT(P:Program):Ty→TypeId ⊕ (List Field×Nat)→Prop
 | .int k,.inl T=>P.underlying T=some (.int k)
 | .bool,.inl T=>P.underlying T=some .bool
 | .str,.inl T=>P.underlying T=some .string
 | .slice t,.inl T=>∃e,P.underlying T=some (.slice e)∧P.cellsOf e=t.cells∧MT P t (.inl e)
 | .agg t,.inl T=>∃fs:Array Field,P.underlying T=some (.struct fs)∧P.cellsOf T=t.cells∧MT P t (.inr (fs.toList,0))
 | .pair t u,.inr (f::fs,off)=>f.offset=off∧P.cellsOf f.type=t.cells∧MT P t (.inl f.type)∧
  ((∃g,fs=[g]∧g.offset=off+t.cells∧P.cellsOf g.type=u.cells∧MT P u (.inl g.type))∨MT P u (.inr (fs,off+t.cells)))
 |_,_=>False
theorem MT.pos{P:Program}:∀(t:Ty) {s:TypeId ⊕ (List Field×Nat)},MT P t s→0 < t.cells
 | .int _,_,_=>by simp [Ty.cells]
 | .bool,_,_=>by simp [Ty.cells]
 | .slice _,_,_=>by simp [Ty.cells]
 | .agg t,.inl T,⟨_,_,_,h⟩=>MT.pos t h
 | .pair t u,.inr (f::fs,off),⟨_,_,h,_⟩=>by have:=MT.pos t h;simp only [Ty.cells];omega
 | .agg _,.inr _,h=>h.elim
 | .pair _ _,.inl _,h=>h.elim
 | .pair _ _,.inr ([],_),h=>h.elim
 | .val,.inl _,h=>h.elim
 | .val,.inr _,h=>h.elim
 | .arr _ _,.inl _,h=>h.elim
 | .arr _ _,.inr _,h=>h.elim
 | .ptr _,.inl _,h=>h.elim
 | .ptr _,.inr _,h=>h.elim
 | .tag _ _,.inl _,h=>h.elim
 | .tag _ _,.inr _,h=>h.elim
 | .ign,.inl _,h=>h.elim
 | .ign,.inr _,h=>h.elim
 | .alt _,.inl _,h=>h.elim
 | .alt _,.inr _,h=>h.elim
 | .lst _,.inl _,h=>h.elim
 | .lst _,.inr _,h=>h.elim
 | .mo _ _ _,.inl _,h=>h.elim
 | .mo _ _ _,.inr _,h=>h.elim
 | .pl _ _ _,.inl _,h=>h.elim
 | .pl _ _ _,.inr _,h=>h.elim
 | .str,_,_=>by simp [Ty.cells]
theorem add_mk{b off i:Nat}:Addr.add ⟨b,off,none⟩ i=⟨b,off+i,none⟩:=by
 unfold Addr.add;by_cases h:i=0
 ·subst h;simp
 ·simp [h]
theorem LK{a:Addr}{b off i:Nat}(h:a.add (0 * i)=⟨b,off,none⟩):a=⟨b,off,none⟩:=by
 unfold Addr.add at h;rwa [if_pos (Nat.zero_mul i)] at h
theorem wT{W:World}{base n:Nat}{a:Addr}{kA:List Value}(hn:0 < n)(h:W.cells? base a n=some kA):
 ∃b off c T fz,a=⟨b,off,none⟩∧W.heap[b]? =some (.cells c T fz)∧kA=(c.toList.drop off).take n:=by
 unfold World.cells? at h
 split at h
 ·
  have hl:=mapM_some_length h;have hg:=mapM_some_get h;rw [List.length_range] at hl;have h0:=hg 0 0 (by simp [hn]);obtain⟨b,off,sp⟩:=a;rw [List.getElem?_eq_getElem (by omega)] at h0;unfold World.cell? at h0;split at h0
  ·rename_i c T fz hb;split at h0
   ·cases h0
   rename_i hsp
   have hsp':sp=none:=by cases sp with
    |none=>rfl
    |some x=>simp [Addr.add] at hsp
   subst hsp';have hb':W.heap[b]? =some (.cells c T fz):=hb;refine⟨b,off,c,T,fz,rfl,hb',?_⟩;apply List.ext_getElem?;intro i;by_cases hi:i < n
   ·have:=hg i i (by simp [hi]);rw [←this,List.getElem?_take,if_pos hi,List.getElem?_drop,Array.getElem?_toList];rw [add_mk];simp [World.cell?,hb']
   ·rw [List.getElem?_take,if_neg hi,List.getElem?_eq_none (by omega)]
  ·cases h0
 ·
  cases h
theorem CV{α:Type}{R:α→List Value→Prop}{m:Nat}{cl:List Value}:∀{len off:Nat},(∀i,i < len→∃d,R d ((cl.drop (off+i * m)).take m))→∃l:List α,l.length=len∧dH R l ((cl.drop off).take (len * m))
 |0,_,_=>⟨[],rfl,by simp [dH]⟩
 |len+1,off,h=>by
  obtain⟨d,hd⟩:=h 0 (by omega)
  obtain⟨l,hl,hr⟩:=CV (R:=R) (m:=m) (cl:=cl) (len:=len) (off:=off+m) (fun i hi=>by
   have:=h (i+1) (by omega)
   rwa [Nat.succ_mul,show off+(i * m+m)=off+m+i * m from by omega] at this)
  refine⟨d::l,by simp [hl],_,_,?_,hd,hr⟩
  rw [Nat.succ_mul,Nat.add_comm (len * m) m,List.take_add,List.drop_drop]
  simp
section
variable {H:Type}{enc:TypeId×Value→H}{P:Program}{M:Md P}
theorem A9{W:World}{S:FS}:∀(t:Ty),
 (∀T aF cs (x:DataW H×List MemPlace),MT P t (.inl T)→DataW.trod enc P W 0 (fun _=>true) true aF T cs=some x→(∀p∈x.2,S p.block)→∃d:t.den,rd S W t d cs)∧
 (∀(fs:List Field) (off n:Nat) (cs:List Value) (xs:List (DataW H×List MemPlace)),MT P t (.inr (fs,off))→cs.length=off+t.cells→xs.length=fs.length→
  (∀(i:Nat) f,fs[i]? =some f→DataW.trod enc P W 0 (fun _=>true) true n f.type ((cs.drop f.offset).take (P.cellsOf f.type))=xs[i]?)→(∀y∈xs,∀p∈y.2,S p.block)→∃d:t.den,rd S W t d (cs.drop off)):=by
 intro t
 induction t with
 |int k=>
  refine⟨fun T aF cs x hm h _=>?_,fun fs off n cs xs hm=>by cases fs <;> exact hm.elim⟩;obtain⟨n,rfl,_,_⟩:=DataW.trod_int hm h;exact⟨n,rfl⟩
 |bool=>
  refine⟨fun T aF cs x hm h _=>?_,fun fs off n cs xs hm=>by cases fs <;> exact hm.elim⟩;obtain⟨n,rfl,_⟩:=DataW.trod_bool hm h;exact⟨n,rfl⟩
 |slice t ih=>
  refine⟨fun T aF cs x hm h hS=>?_,fun fs off n cs xs hm=>by cases fs <;> exact hm.elim⟩;obtain⟨e,he,hce,hme⟩:=hm;have hpos:=MT.pos t hme;rcases DataW.trod_slice he h with⟨rfl,_⟩ |⟨a,len,cap,elems,rest,n,_,rfl,rfl,_,hl,_,hlen,hel,_,_⟩
  ·exact⟨[],.inl ⟨none,0,rfl,rfl⟩⟩
  ·cases len with
   |zero=>exact⟨[],.inl ⟨some a,cap,rfl,rfl⟩⟩
   |succ len=>
    rw [hce] at hel
    have kA:∀i,i < len+1→∃r y,W.cells? 0 (a.add (i * t.cells)) t.cells=some r∧DataW.trod enc P W 0 (fun _=>true) true n e r=some y∧y∈elems:=fun i hi=>by
     have:=hel i hi;rw [List.getElem?_eq_getElem (by omega)] at this;obtain⟨r,e1,e2⟩:=Option.bind_eq_some_iff.1 this;exact⟨r,_,e1,e2,List.getElem_mem _⟩
    obtain⟨r0,y0,e0,_,_⟩:=kA 0 (by omega);obtain⟨b,off,c,T',fz,ha,hb,_⟩:=wT hpos e0;have ha':=LK ha;subst ha'
    obtain⟨l,hl1,hl2⟩:=CV (R:=rd S W t) (m:=t.cells) (cl:=c.toList) (len:=len+1) (off:=off) (fun i hi=>by
     obtain⟨r,y,e1,e2,hy⟩:=kA i hi;obtain⟨b',off',c',T2,fz',ha2,hb2,hr⟩:=wT hpos e1;rw [add_mk,Addr.mk.injEq] at ha2;obtain⟨rfl,rfl,_⟩:=ha2;rw [hb] at hb2;cases hb2;subst hr;exact ih.1 e n _ y hme e2 (fun p hp=>hS p (List.mem_append.2 (.inr (List.mem_flatMap.2 ⟨y,List.mem_append.2 (.inl hy),hp⟩)))))
    refine⟨l,.inr ⟨b,off,cap,c,T',fz,by rw [hl1],by rw [hl1];exact hl,?_,hb,by rw [hl1];exact hl2⟩⟩;have:=hS (.cell b (off+0)) (List.mem_append.2 (.inl (MemPlace.mem_row.2 ⟨0,Nat.mul_pos (by omega) (by omega),rfl⟩)));exact this
 |agg t ih=>
  refine⟨fun T aF cs x hm h hS=>?_,fun fs off n cs xs hm=>by cases fs <;> exact hm.elim⟩;obtain⟨fs,hf,hc,hmf⟩:=hm;obtain⟨xs,n,_,rfl,hl,hxl,hx⟩:=DataW.trod_struct hf h;obtain⟨d,hd⟩:=ih.2 fs.toList 0 n cs xs hmf (by omega) (by simpa using hxl) (fun i f hi=>hx i f (by simpa using hi)) (fun y hy p hp=>hS p (List.mem_flatMap.2 ⟨y,hy,hp⟩));exact⟨d,by simpa [rd] using hd⟩
 |pair t u iht ihu=>
  refine⟨fun T aF cs x hm=>hm.elim,fun fs off n cs xs hm hl hxl hx hS=>?_⟩;cases fs with
  |nil=>exact hm.elim
  |cons f fs=>
   obtain⟨h1,h2,h3,h4⟩:=hm;simp only [Ty.cells] at hl;cases xs with
   |nil=>simp at hxl
   |cons y ys=>
    have e0:=hx 0 f rfl;rw [h1,h2] at e0;obtain⟨d1,hd1⟩:=iht.1 f.type n _ y h3 e0 (hS y (by simp))
    have hrest:∃d:u.den,rd S W u d (cs.drop (off+t.cells)):=by
     rcases h4 with⟨g,rfl,g1,g2,g3⟩ |h4
     ·cases ys with
      |nil=>simp at hxl
      |cons z zs=>
       have e1:=hx 1 g rfl;rw [g1,g2] at e1;obtain⟨d2,hd2⟩:=ihu.1 g.type n _ z g3 e1 (hS z (by simp));rw [List.take_of_length_le (by rw [List.length_drop];omega)] at hd2;exact⟨d2,hd2⟩
     ·exact ihu.2 fs (off+t.cells) n cs ys h4 (by omega) (by simpa using hxl) (fun i g hi=>hx (i+1) g hi) (fun z hz=>hS z (by simp [hz]))
    obtain⟨d2,hd2⟩:=hrest;refine⟨(d1,d2),_,_,?_,hd1,hd2⟩;rw [←List.drop_drop,List.take_append_drop]
 |val=>exact⟨fun T aF cs x hm=>hm.elim,fun fs off n cs xs hm=>by cases fs <;> exact hm.elim⟩
 |arr _ _ _=>exact⟨fun T aF cs x hm=>hm.elim,fun fs off n cs xs hm=>by cases fs <;> exact hm.elim⟩
 |ptr _ _=>exact⟨fun T aF cs x hm=>hm.elim,fun fs off n cs xs hm=>by cases fs <;> exact hm.elim⟩
 |tag _ _=>exact⟨fun T aF cs x hm=>hm.elim,fun fs off n cs xs hm=>by cases fs <;> exact hm.elim⟩
 |ign=>exact⟨fun T aF cs x hm=>hm.elim,fun fs off n cs xs hm=>by cases fs <;> exact hm.elim⟩
 |alt _ _=>exact⟨fun T aF cs x hm=>hm.elim,fun fs off n cs xs hm=>by cases fs <;> exact hm.elim⟩
 |lst _ _=>exact⟨fun T aF cs x hm=>hm.elim,fun fs off n cs xs hm=>by cases fs <;> exact hm.elim⟩
 |mo _ _ _ _=>exact⟨fun T aF cs x hm=>hm.elim,fun fs off n cs xs hm=>by cases fs <;> exact hm.elim⟩
 |pl _ _ _ _=>exact⟨fun T aF cs x hm=>hm.elim,fun fs off n cs xs hm=>by cases fs <;> exact hm.elim⟩
 |str=>
  refine⟨fun T aF cs x hm h _=>?_,fun fs off n cs xs hm=>by cases fs <;> exact hm.elim⟩;obtain⟨s,rfl,_,_⟩:=DataW.trod_string hm h;exact⟨s,rfl⟩
theorem H6{W:World}{S:FS}{base:Nat}{t:Ty}{T:TypeId}{v:Value}{d:t.den}(hm:MT P t (.inl T))(hv:Value.okWide P W .any base T v)(h:rd S W t d v.cells.toList):(A.rep t d).holds S W v:=by
 refine⟨_,h,?_⟩;cases t with
 |int k=>obtain⟨n,rfl⟩:=okWide_int hm hv;rfl
 |bool=>obtain⟨n,rfl⟩:=okWide_bool hm hv;rfl
 |slice t=>obtain⟨e,he,_⟩:=hm;obtain⟨a,l,c,rfl⟩:=okWide_slice he hv;rfl
 |agg t=>obtain⟨fs,hf,_⟩:=hm;obtain⟨cs,rfl,_⟩:=okWide_struct hf hv;simp [mk,Ty.isAgg,Value.cells]
 |val=>exact hm.elim
 |pair _ _=>exact hm.elim
 |arr _ _=>exact hm.elim
 |ptr _=>exact hm.elim
 |tag _ _=>exact hm.elim
 |ign=>exact hm.elim
 |alt _=>exact hm.elim
 |lst _=>exact hm.elim
 |mo _ _ _=>exact hm.elim
 |pl _ _ _=>exact hm.elim
 |str=>obtain⟨s,rfl⟩:=okWide_string hm hv;rfl
theorem yQ{W:World}{sp:Nat→Bool}:∀{ts:List TypeId} {vs:List Value} {ds:List (DataW H)} {ps:List MemPlace},DataW.TrodAll enc P W 0 sp true ts vs ds ps→ds.length=ts.length
 |[],[],[],_,_=>rfl
 |_::_,_::_,_::_,_,h=>by
  obtain⟨q,r,h1,h2,_⟩:=h
  simp [yQ h2]
 |[],_::_,_,_,h=>h.elim
 |[],[],_::_,_,h=>h.elim
 |_::_,[],_,_,h=>h.elim
 |_::_,_::_,[],_,h=>h.elim
def Lk:List (TypeId×Ty)→List A→Prop
 |[],as=>as=[]
 |p::l,as=>∃d as',as= .rep p.2 d::as'∧Lk l as'
theorem DT{W:World}{S:FS}{base:Nat}:∀{ts:List (TypeId×Ty)} {vs:List Value} {ds:List (DataW H)} {ps:List MemPlace},(∀p∈ts,MT P p.2 (.inl p.1))→(∀(j:Nat) t v,(ts.map (·.1))[j]? =some t→vs[j]? =some v→Value.okWide P W .any base t v)→
 DataW.TrodAll enc P W 0 (fun _=>true) true (ts.map (·.1)) vs ds ps→(∀p∈ps,S p.block)→∃as,Lk ts as∧fy S W as vs
 |[],[],[],_,_,_,_,_=>⟨[],rfl,rfl⟩
 |p::ts,v::vs,d::ds,ps,hm,hv,h,hS=>by
  obtain⟨q,r,⟨aF,h1⟩,h2,rfl⟩:=h
  obtain⟨a,ha⟩:=(A9 p.2).1 p.1 aF _ _ (hm p (by simp)) h1 (fun x hx=>hS x (List.mem_append.2 (.inl hx)))
  obtain⟨as,hl,h3⟩:=DT (ts:=ts) (fun x hx=>hm x (by simp [hx])) (fun j t w h h'=>hv (j+1) t w h h') h2 (fun x hx=>hS x (List.mem_append.2 (.inr hx)))
  exact⟨.rep p.2 a::as,⟨a,as,rfl,hl⟩,v,vs,rfl,H6 (hm p (by simp)) (hv 0 _ _ rfl rfl) ha,h3⟩
 |[],_::_,_,_,_,_,h,_=>h.elim
 |[],[],_::_,_,_,_,h,_=>h.elim
 |_::_,[],_,_,_,_,h,_=>h.elim
 |_::_,_::_,[],_,_,_,h,_=>h.elim
theorem Ai(EL:laidOutB P=true){W W':World}{sp:Nat→Bool}(hk:∀b,b < W.heap.size→W'.heap[b]? =W.heap[b]?):∀{ts:List TypeId} {vs:List Value} {ds:List (DataW H)} {ps:List MemPlace},(∀T∈ts,P.readableRec T=true∧T < P.types.size)→
 DataW.TrodAll enc P W 0 (fun _=>true) true ts vs ds ps→(∀p∈ps,p.block < W.heap.size∧sp p.block=true)→DataW.TrodAll enc P W' 0 sp true ts vs ds ps
 |[],[],[],_,_,h,_=>h
 |T::ts,v::vs,d::ds,ps,hT,h,hp=>by
  obtain⟨q,r,h1,h2,rfl⟩:=h
  obtain⟨t1,t2⟩:=hT T (by simp)
  refine⟨q,r,WideElems.Trod_stays EL t1 t2 h1 (fun p hq=>?_) (fun p hq=>(hp p (List.mem_append.2 (.inl hq))).2),Ai EL hk (fun x hx=>hT x (by simp [hx])) h2 (fun p hq=>hp p (List.mem_append.2 (.inr hq))),rfl⟩
  have hb:=hk _ (hp p (List.mem_append.2 (.inl hq))).1
  cases p with
  |cell b off=>have hb:W'.heap[b]? =W.heap[b]? :=hb;simp only [World.sameAt,World.cell?,hb]
  |map b=>exact hb
 |[],_::_,_,_,_,h,_=>h.elim
 |[],[],_::_,_,_,h,_=>h.elim
 |_::_,[],_,_,_,h,_=>h.elim
 |_::_,_::_,[],_,_,h,_=>h.elim
theorem E4{M:Md P}{f:Nat}{fn:Func}{B:TypeId}{s:ChangeSpec}(ts:List (TypeId×Ty))(hp:fn.params.toList=ts.map (·.1))(hr:fn.resultTypes= #[B])(hB:P.underlying B=some .bool)
 (hm:∀p∈ts,MT P p.2 (.inl p.1)) (EL:laidOutB P=true) (hT:∀T∈ts.map (·.1),P.readableRec T=true∧T < P.types.size)
 (hs:∀ds:List (DataW H),ds.length=ts.length→s.fn H ds={ results:=[.lit (.bool true)],args:=ds }) (hv:s.vars=[])
 (law:∀as,Lk ts as→bQ M f as [] (fun _:Unit=>(bv [.eq (.bool true)],[])))
 (W:World) (base:Nat) (args:Array Value) (ds gs:List (DataW H)) (before:List MemPlace)
 (hval:∀(j:Nat) t v,fn.params[j]? =some t→args[j]? =some v→Value.okWide P W .any base t v)
 (hW:DataW.Whole enc P fn.params.toList s.vars false W args.toList ds gs before):
 jA M .normal f args (vw W) fun e W'=>∃v,e= .returned v∧∀v1,bh W' v1→s.post enc P fn false true false false W args v { v1.toWorld with os:=W.os }∧j6 v1.os W.os:=by
 have hW':=hW
 obtain⟨p,q,hA,hV,rfl,_,_⟩:=hW
 rw [hv] at hV
 obtain⟨rfl,rfl⟩:=trodVars_none hV
 have hlt:∀x∈p,x.block < W.heap.size:=hA.lt
 have hlen:=yQ hA
 rw [hp,List.length_map] at hlen
 rw [hp] at hA
 obtain⟨as,hL,h2⟩:=DT (S:=fun b=>b < W.heap.size) (base:=base) hm (fun j t v h1 h2=>hval j t v (by rw [←hp] at h1;simpa using h1) (by simpa using h2)) hA hlt
 have:=law as hL .normal (fun e=>nomatch e) (fun b=>b < W.heap.size) (vw W) args.toList (fun _ h=>h) h2 G5
 rw [Array.toArray_toList] at this
 refine this.mono ?_
 rintro e' W' ⟨_,S',v,rfl,h1,h2,_,_⟩
 obtain rfl:v= .bool true:=h2
 refine⟨_,rfl,fun v1 hrel=>?_⟩
 replace h1:=h1.trans (bp.rely (X:=ap []) h1.dom hrel) fun b hb=>.inl hb
 obtain⟨k1,k2⟩:=Ew (may:=(· ∈p++[])) h1
 have hk:∀b,b < W.heap.size→({ v1.toWorld with os:=W.os }:World).heap[b]? =W.heap[b]? :=fun b hb=>h1.keep b hb (fun hx=>hx) (fun hx=>bW hx)
 refine⟨?_,h1.os⟩
 refine G2 (pa:=p) (pv:=[]) hW' (fun _ _ _=>?_) (fun sp hsp=>?_) (fun _ _=>?_) rfl k1 k2 (ok_one hr rfl (okWide_bool_mk hB _))
 ·
  rw [hr,List.append_nil,hs ds hlen];exact trodAll_mk1 (shut_bool hB _)
 ·
  rw [hp,List.append_nil,hs ds hlen];exact Ai EL hk hT hA (fun x hx=>⟨hlt x hx,hsp x (by simpa using hx)⟩)
 ·
  rw [hv,List.append_nil,hs ds hlen];rfl
end
end K
end Go.Proofs.YtlmopgkkijhllaaGreat
namespace Go.Proofs.YtlmopgkkijhllaaGreat
namespace K
open Go
section
variable {c:Cx}{ops:Array Oper}{l:List Oper}{Q:Exit→Act→VW→Prop}{Γ:Ga}{Δ:List D}{r:A}{d s j:Nat}{C':Code}{o oj:Oper}{b g:Bool}{x y z:Operand}
theorem nt(h:JC c C' Q Γ Δ):JO c ops [] (bS (C'.wk c.M c.rd Q) Q) Γ Δ:=be (ax h)
theorem sr{id:Nat}{l:List Oper}(h:JO c l.toArray l (bS (C'.wk c.M c.rd Q) Q) Γ Δ):JC c (.seq (.region id l.toArray false) C') Q Γ Δ:=cg (ae h)
theorem sk(h:JC c C' Q Γ Δ):JC c .skip (bS (C'.wk c.M c.rd Q) Q) Γ Δ:=je (ax h)
theorem tn(h:JC c C' Q Γ Δ):JN c (bS (C'.wk c.M c.rd Q) Q .normal) Γ Δ:=ax h
theorem fr(k:Nat){e:D}(hj:JO c ops l Q Γ (e::Δ.eraseIdx k))(h:Δ[k]? =some e:=by exact rfl):JO c ops l Q Γ Δ:=j7 k h hj
section
variable {C1 C2:Code}{p:Prop}[Decidable p]{α β:Type}{X Y:Option α}{K:α→Option β}{v:β}
theorem ci(h:(if p then X else Y).bind K=some v)(ht:X.bind K=some v→JC c C1 Q Γ Δ)(hf:Y.bind K=some v→JC c C2 Q Γ Δ)(hl:lk Γ s=some (.eq (.bool (decide p))):=by exact rfl):JC c (.cond (.tmp s) C1 C2) Q Γ Δ:=jg hl (fun hb=>ht (fe (tU hb) h)) (fun hb=>hf (cS (tV hb) h))
theorem cn(h:(if¬p then X else Y).bind K=some v)(ht:X.bind K=some v→JC c C1 Q Γ Δ)(hf:Y.bind K=some v→JC c C2 Q Γ Δ)(hl:lk Γ s=some (.eq (.bool (!decide p))):=by exact rfl):JC c (.cond (.tmp s) C1 C2) Q Γ Δ:=jg hl (fun hb=>ht (fe (RU hb) h)) (fun hb=>hf (cS (Og hb) h))
theorem cv(h:(if b=true then X else Y).bind K=some v)(ht:X.bind K=some v→JC c C1 Q Γ Δ)(hf:Y.bind K=some v→JC c C2 Q Γ Δ)(hl:lk Γ s=some (.eq (.bool b)):=by exact rfl):JC c (.cond (.tmp s) C1 C2) Q Γ Δ:=jg hl (fun hb=>ht (fe (MI hb) h)) (fun hb=>hf (cS (MK hb) h))
theorem cw(h:(if¬(b=true) then X else Y).bind K=some v)(ht:X.bind K=some v→JC c C1 Q Γ Δ)(hf:Y.bind K=some v→JC c C2 Q Γ Δ)(hl:lk Γ s=some (.eq (.bool (!b))):=by exact rfl):JC c (.cond (.tmp s) C1 C2) Q Γ Δ:=jg hl (fun hb=>ht (fe (Bl hb) h)) (fun hb=>hf (cS (uw hb) h))
end
theorem mq{t:Nat}{ty:TypeId}{pos:String}{af:Array Edge}(h:JO c ops l Q ((d,r)::Γ) Δ)(hdN:Nat.blt d c.N=true:=by exact rfl)(hl:lk Γ t=some r:=by exact rfl):JO c ops (⟨some d,.move (.tmp t),ty,pos,af,none⟩::l) Q Γ Δ:=gU hdN hl h
theorem aq{t:Nat}{ty:TypeId}{pos:String}{af:Array Edge}(h:JO c ops l Q ((d,r)::Γ) Δ)(hdN:Nat.blt d c.N=true:=by exact rfl)(hl:lk Γ t=some r:=by exact rfl):JO c ops (⟨some d,.assign (.tmp t),ty,pos,af,none⟩::l) Q Γ Δ:=vo hdN hl h
theorem gn(h:JO c ops l Q ((d,.eq undef)::Γ) Δ)(hg:o.guard=some (j,g):=by exact rfl)(hj:ops[j]? =some oj:=by exact rfl)(hs:oj.dst=some s:=by exact rfl)(hl:lk Γ s=some (.eq (.bool b)):=by exact rfl)(hb:(b == g)=false:=by exact rfl)(hd:o.dst=some d:=by exact rfl)(hdN:Nat.blt d c.N=true:=by exact rfl):JO c ops (o::l) Q Γ Δ:=O4 hg hj hs hl hb hd hdN h
theorem cq{v:Value}{ty:TypeId}{pos:String}{af:Array Edge}(h:JO c ops l Q ((d,.eq v)::Γ) Δ)(hdN:Nat.blt d c.N=true:=by exact rfl):JO c ops (⟨some d,.assign (.const v),ty,pos,af,none⟩::l) Q Γ Δ:=D9 hdN h
theorem pf{ty:TypeId}{pos:String}{af:Array Edge}(h:JO c ops l Q ((d,r)::Γ) Δ)(hdN:Nat.blt d c.N=true:=by exact rfl)(hh:dO Γ [(x,.eq (.bool false)),(z,r)]:=by exact⟨rfl,rfl,trivial⟩):JO c ops (⟨some d,.pick x y z,ty,pos,af,none⟩::l) Q Γ Δ:=bY hdN (He rfl) hh h
theorem pt{ty:TypeId}{pos:String}{af:Array Edge}(h:JO c ops l Q ((d,r)::Γ) Δ)(hdN:Nat.blt d c.N=true:=by exact rfl)(hh:dO Γ [(x,.eq (.bool true)),(y,r)]:=by exact⟨rfl,rfl,trivial⟩):JO c ops (⟨some d,.pick x y z,ty,pos,af,none⟩::l) Q Γ Δ:=bY hdN (Ha rfl) hh h
theorem gm(h:JO c ops l Q ((d,r)::Γ) Δ)(hg:o.guard=some (j,g):=by exact rfl)(hj:ops[j]? =some oj:=by exact rfl)(hs:oj.dst=some s:=by exact rfl)(hl:lk Γ s=some (.eq (.bool g)):=by exact rfl)(hd:o.dst=some d:=by exact rfl)(hdN:Nat.blt d c.N=true:=by exact rfl)(ho:o.op= .move x:=by exact rfl)(hh:dO Γ [(x,r)]:=by exact⟨rfl,trivial⟩):JO c ops (o::l) Q Γ Δ:=kw hg hj hs hl hd hdN (bz ho) hh h
theorem ja{N:List (Operand×A)}{op:Op}{ty:TypeId}{pos:String}{af:Array Edge}(ht:bo c.M ⟨some d,op,ty,pos,af,none⟩ N [] (fun _:Unit=>(r,[])))(h:JO c ops l Q ((d,r)::Γ) Δ)(hdN:Nat.blt d c.N=true:=by exact rfl)(hh:dO Γ N:=by exact⟨rfl,trivial⟩):JO c ops (⟨some d,op,ty,pos,af,none⟩::l) Q Γ Δ:=bY hdN ht hh h
theorem ka{N:List (Operand×A)}{F:List D}{e e':D}(ht:bo c.M o N [e] (fun _:Unit=>(r,[e'])))(h:JO c ops l Q ((d,r)::Γ) (e'::F))(hg:o.guard=none:=by exact rfl)(hd:o.dst=some d:=by exact rfl)(hdN:Nat.blt d c.N=true:=by exact rfl)(hh:dO Γ N:=by exact⟨rfl,trivial⟩):JO c ops (o::l) Q Γ (e::F):=mf hg hd hdN ht hh h
theorem ga{N:List (Operand×A)}(ht:bo c.M o N [] (fun _:Unit=>(r,[])))(h:JO c ops l Q ((d,r)::Γ) Δ)(hg:o.guard=some (j,g):=by exact rfl)(hj:ops[j]? =some oj:=by exact rfl)(hs:oj.dst=some s:=by exact rfl)(hl:lk Γ s=some (.eq (.bool g)):=by exact rfl)(hd:o.dst=some d:=by exact rfl)(hdN:Nat.blt d c.N=true:=by exact rfl)(hh:dO Γ N:=by exact⟨rfl,trivial⟩):JO c ops (o::l) Q Γ Δ:=kw hg hj hs hl hd hdN ht hh h
theorem jb{N:List (Operand×A)}{op:Op}{ty:TypeId}{pos:String}{af:Array Edge}(ht:bo c.M ⟨some d,op,ty,pos,af,none⟩ N [] (fun _:Unit=>(r,[])))(h:JO c ops l Q ((d,r)::Γ) Δ)(hdN:Nat.blt d c.N=true:=by exact rfl)(hh:dO Γ N:=by exact⟨rfl,rfl,trivial⟩):JO c ops (⟨some d,op,ty,pos,af,none⟩::l) Q Γ Δ:=bY hdN ht hh h
theorem kb{N:List (Operand×A)}{F:List D}{e e':D}(ht:bo c.M o N [e] (fun _:Unit=>(r,[e'])))(h:JO c ops l Q ((d,r)::Γ) (e'::F))(hg:o.guard=none:=by exact rfl)(hd:o.dst=some d:=by exact rfl)(hdN:Nat.blt d c.N=true:=by exact rfl)(hh:dO Γ N:=by exact⟨rfl,rfl,trivial⟩):JO c ops (o::l) Q Γ (e::F):=mf hg hd hdN ht hh h
theorem gb{N:List (Operand×A)}(ht:bo c.M o N [] (fun _:Unit=>(r,[])))(h:JO c ops l Q ((d,r)::Γ) Δ)(hg:o.guard=some (j,g):=by exact rfl)(hj:ops[j]? =some oj:=by exact rfl)(hs:oj.dst=some s:=by exact rfl)(hl:lk Γ s=some (.eq (.bool g)):=by exact rfl)(hd:o.dst=some d:=by exact rfl)(hdN:Nat.blt d c.N=true:=by exact rfl)(hh:dO Γ N:=by exact⟨rfl,rfl,trivial⟩):JO c ops (o::l) Q Γ Δ:=kw hg hj hs hl hd hdN ht hh h
theorem jc{N:List (Operand×A)}{op:Op}{ty:TypeId}{pos:String}{af:Array Edge}(ht:bo c.M ⟨some d,op,ty,pos,af,none⟩ N [] (fun _:Unit=>(r,[])))(h:JO c ops l Q ((d,r)::Γ) Δ)(hdN:Nat.blt d c.N=true:=by exact rfl)(hh:dO Γ N:=by exact⟨rfl,rfl,rfl,trivial⟩):JO c ops (⟨some d,op,ty,pos,af,none⟩::l) Q Γ Δ:=bY hdN ht hh h
theorem kc{N:List (Operand×A)}{F:List D}{e e':D}(ht:bo c.M o N [e] (fun _:Unit=>(r,[e'])))(h:JO c ops l Q ((d,r)::Γ) (e'::F))(hg:o.guard=none:=by exact rfl)(hd:o.dst=some d:=by exact rfl)(hdN:Nat.blt d c.N=true:=by exact rfl)(hh:dO Γ N:=by exact⟨rfl,rfl,rfl,trivial⟩):JO c ops (o::l) Q Γ (e::F):=mf hg hd hdN ht hh h
theorem gc{N:List (Operand×A)}(ht:bo c.M o N [] (fun _:Unit=>(r,[])))(h:JO c ops l Q ((d,r)::Γ) Δ)(hg:o.guard=some (j,g):=by exact rfl)(hj:ops[j]? =some oj:=by exact rfl)(hs:oj.dst=some s:=by exact rfl)(hl:lk Γ s=some (.eq (.bool g)):=by exact rfl)(hd:o.dst=some d:=by exact rfl)(hdN:Nat.blt d c.N=true:=by exact rfl)(hh:dO Γ N:=by exact⟨rfl,rfl,rfl,trivial⟩):JO c ops (o::l) Q Γ Δ:=kw hg hj hs hl hd hdN ht hh h
end
section
variable {c:Cx}{Q:Exit→Act→VW→Prop}{Γ Γ0:Ga}{Δ:List D}{full l:List Oper}{acc:List DE}{id d j s:Nat}{r:A}{g b m:Bool}{o oj:Oper}{x:Operand}
theorem dg(h:DN c id full Q Γ0 Δ (acc++[⟨o,d,[(.tmp s,.eq (.bool b))],.eq undef,none,false,fun _=>[]⟩]) l ((d,.eq undef)::Γ) m)(hg:o.guard=some (j,g):=by exact rfl)(hj:full.toArray[j]? =some oj:=by exact rfl)(hs:oj.dst=some s:=by exact rfl)(hl:lk Γ s=some (.eq (.bool b)):=by exact rfl)(hb:(b == g)=false:=by exact rfl)(hd:o.dst=some d:=by exact rfl)(hdN:Nat.blt d c.N=true:=by exact rfl):DN c id full Q Γ0 Δ acc (o::l) Γ m:=Mc hg hj hs hl hb hd hdN h
theorem dm(h:DN c id full Q Γ0 Δ (acc++[⟨o,d,[(x,r)],r,none,false,fun _=>[]⟩]) l ((d,r)::Γ) m)(hg:o.guard=none:=by exact rfl)(hd:o.dst=some d:=by exact rfl)(hdN:Nat.blt d c.N=true:=by exact rfl)(ho:o.op= .move x:=by exact rfl)(hh:dO Γ [(x,r)]:=by exact⟨rfl,trivial⟩):DN c id full Q Γ0 Δ acc (o::l) Γ m:=fx hg hd hdN (bz ho) hh h
theorem da{N:List (Operand×A)}(ht:bo c.M o N [] (fun _:Unit=>(r,[])))(h:DN c id full Q Γ0 Δ (acc++[⟨o,d,N,r,none,false,fun _=>[]⟩]) l ((d,r)::Γ) m)(hg:o.guard=none:=by exact rfl)(hd:o.dst=some d:=by exact rfl)(hdN:Nat.blt d c.N=true:=by exact rfl)(hh:dO Γ N:=by exact⟨rfl,trivial⟩):DN c id full Q Γ0 Δ acc (o::l) Γ m:=fx hg hd hdN ht hh h
theorem ea(k:Nat){e:D}{N:List (Operand×A)}(ht:bo c.M o N [e] (fun _:Unit=>(r,[e])))(h:DN c id full Q Γ0 Δ (acc++[⟨o,d,N,r,some (k,false),false,fun _=>[]⟩]) l ((d,r)::Γ) m)(hk:Δ[k]? =some e:=by exact rfl)(hg:o.guard=none:=by exact rfl)(hd:o.dst=some d:=by exact rfl)(hdN:Nat.blt d c.N=true:=by exact rfl)(hh:dO Γ N:=by exact⟨rfl,trivial⟩):DN c id full Q Γ0 Δ acc (o::l) Γ m:=yw k hk hg hd hdN ht hh h
theorem db{N:List (Operand×A)}(ht:bo c.M o N [] (fun _:Unit=>(r,[])))(h:DN c id full Q Γ0 Δ (acc++[⟨o,d,N,r,none,false,fun _=>[]⟩]) l ((d,r)::Γ) m)(hg:o.guard=none:=by exact rfl)(hd:o.dst=some d:=by exact rfl)(hdN:Nat.blt d c.N=true:=by exact rfl)(hh:dO Γ N:=by exact⟨rfl,rfl,trivial⟩):DN c id full Q Γ0 Δ acc (o::l) Γ m:=fx hg hd hdN ht hh h
theorem eb(k:Nat){e:D}{N:List (Operand×A)}(ht:bo c.M o N [e] (fun _:Unit=>(r,[e])))(h:DN c id full Q Γ0 Δ (acc++[⟨o,d,N,r,some (k,false),false,fun _=>[]⟩]) l ((d,r)::Γ) m)(hk:Δ[k]? =some e:=by exact rfl)(hg:o.guard=none:=by exact rfl)(hd:o.dst=some d:=by exact rfl)(hdN:Nat.blt d c.N=true:=by exact rfl)(hh:dO Γ N:=by exact⟨rfl,rfl,trivial⟩):DN c id full Q Γ0 Δ acc (o::l) Γ m:=yw k hk hg hd hdN ht hh h
theorem dc{N:List (Operand×A)}(ht:bo c.M o N [] (fun _:Unit=>(r,[])))(h:DN c id full Q Γ0 Δ (acc++[⟨o,d,N,r,none,false,fun _=>[]⟩]) l ((d,r)::Γ) m)(hg:o.guard=none:=by exact rfl)(hd:o.dst=some d:=by exact rfl)(hdN:Nat.blt d c.N=true:=by exact rfl)(hh:dO Γ N:=by exact⟨rfl,rfl,rfl,trivial⟩):DN c id full Q Γ0 Δ acc (o::l) Γ m:=fx hg hd hdN ht hh h
theorem Ei{Δ':List D}(hck:chk full acc=true)(hm:c.P.follows .mixedOrders=true)(hΔ:oG.keepFrom acc 0 Δ++lW acc=Δ')(h:JO c full.toArray l Q Γ Δ'):DN c id full Q Γ0 Δ acc l Γ m:=Me hck hm (hΔ▸h)
end
abbrev I(e:Int):A:=.eq (.int .i64 e)
abbrev Pt(b:Nat):A:=.eq (.pointer (some ⟨b,0,none⟩))
section
variable {c:Cx}{ops:Array Oper}{l:List Oper}{Q:Exit→Act→VW→Prop}{Γ:Ga}{Δ F:List D}{r:A}{d s j:Nat}{C C':Code}{o oj:Oper}{b g m:Bool}{x y z:Operand}{T U:TypeId}{M M1 M2 M3:Act→VW→Prop}{id:Nat}{acc:List DE}{full:List Oper}{Γ0:Ga}
theorem jz{Z:Type}{G:Z→Ga}{E:Z→List D}{p:Z→Prop}(z:Z)(hp:p z)(ks:List Nat)(hs:Jj (G z) Γ:=by repeat (first |exact trivial |refine⟨rfl,?_⟩))(hk:fg Δ ks=some (E z):=by exact rfl)(hn:ks.Nodup:=by decide):JN c (fun a w=>∃z,p z∧St c (G z) (E z) a w) Γ Δ:=vp z hp (SE.fin ks hs hk hn)
theorem nl(h:JN c M Γ Δ):JO c ops [] (bS M Q) Γ Δ:=be (ax h)
theorem rx(h:JN c (Q .ret) Γ Δ):JC c .ret (bS M Q) Γ Δ:=dw (jy h)
theorem br(h:JN c (Q .ret) Γ Δ):JN c (Ex.blk id (bS M (bS M1 Q)) .ret) Γ Δ:=oO (jy (jy h))
theorem gu(h:JO c ops l Q ((d,.eq undef)::Γ) Δ)(hg:o.guard=some (j,g):=by exact rfl)(hj:ops[j]? =some oj:=by exact rfl)(hs:oj.dst=some s:=by exact rfl)(hl:lk Γ s=some (.eq undef):=by exact rfl)(hd:o.dst=some d:=by exact rfl)(hdN:Nat.blt d c.N=true:=by exact rfl):JO c ops (o::l) Q Γ Δ:=LY hg hj hs hl hd hdN h
theorem df(hm:c.P.follows .mixedOrders=true)(h:JO c full.toArray l Q Γ Δ)(hck:chk full acc=true:=by kernel_rfl)(ht:m=true:=by rfl):DN c id full Q Γ0 Δ acc l Γ m:=CG hck hm h ht
theorem bx(h:∀b:Nat,JO c ops l Q ((d,.eq (.pointer (some ⟨b,0,none⟩)))::Γ) (.obj b T r::Δ))(hg:o.guard=none:=by exact rfl)(hd:o.dst=some d:=by exact rfl)(hdN:Nat.blt d c.N=true:=by exact rfl)(ho:o.op= .box T x:=by exact rfl)(hh:dO Γ [(x,r)]:=by exact⟨rfl,trivial⟩)(hs:r.stor:=by exact rfl):JO c ops (o::l) Q Γ Δ:=aW hg hd hdN (wB ho hs) hh h
theorem lo{k off n:Nat}{T0:TypeId}{a0:A}(ht:dY c.P T n b)(h:JO c ops l Q ((d,r)::Γ) (.obj k T0 a0::F))(hg:o.guard=none:=by exact rfl)(hd:o.dst=some d:=by exact rfl)(hdN:Nat.blt d c.N=true:=by exact rfl)(ho:o.op= .load T x:=by exact rfl)(hh:dO Γ [(x,.eq (.pointer (some ⟨k,off,none⟩)))]:=by exact⟨rfl,trivial⟩)(hget:a0.get off n b=some r:=by exact rfl)(hn:b=false→n=1:=by first |exact fun _=>rfl |exact fun h=>nomatch h):JO c ops (o::l) Q Γ (.obj k T0 a0::F):=mf hg hd hdN (aA ho ht hn hget) hh h
theorem fl{k off n f:Nat}{ty:TypeId}{pos:String}{af:Array Edge}(hf:aU c.P T f n)(h:JO c ops l Q ((d,.eq (.pointer (some ⟨k,off+n,none⟩)))::Γ) Δ)(hdN:Nat.blt d c.N=true:=by exact rfl)(hh:dO Γ [(x,.eq (.pointer (some ⟨k,off,none⟩)))]:=by exact⟨rfl,trivial⟩):JO c ops (⟨some d,.fieldAddr T x f,ty,pos,af,none⟩::l) Q Γ Δ:=bY hdN (aG rfl hf) hh h
theorem xr{i t:Nat}{a0:A}{ty:TypeId}{pos:String}{af:Array Edge}(h:JO c ops l Q ((d,r)::Γ) Δ)(hdN:Nat.blt d c.N=true:=by exact rfl)(hl:lk Γ t=some (.tup a0):=by exact rfl)(hi:rO a0 i=some r:=by exact rfl):JO c ops (⟨some d,.extract (.tmp t) i,ty,pos,af,none⟩::l) Q Γ Δ:=bY hdN (jl rfl hi) ⟨hl,trivial⟩ h
theorem ol{t:Ty}{q:List t.den}{e:TypeId}{ty:TypeId}{pos:String}{af:Array Edge}(hT:c.P.underlying T=some (.slice e))(h:JO c ops l Q ((d,.eq (.int .i64 q.length))::Γ) Δ)(hdN:Nat.blt d c.N=true:=by exact rfl)(hh:dO Γ [(x,.rep (.slice t) q)]:=by exact⟨rfl,trivial⟩):JO c ops (⟨some d,.call { callee:=.builtin .len,args:= #[x],argTypes:= #[T] },ty,pos,af,none⟩::l) Q Γ Δ:=bY hdN (ta rfl rfl hT) hh h
end
section
variable {P:Program}{M:Md P}{S:FS}{w0:VW}{Γ:Ga}{Δ Δ0:List D}{N:Nat}{fn:Func}{R:Unit→A×List D}{r r':A}
theorem ra(hr:xa P Γ Δ fn.results.toList [r]:=by exact⟨rfl,trivial⟩)(hR:R ()=(bv [r],Δ.take 0):=by exact rfl):JN ⟨P,N,S,w0,ap Δ0,none,[],M⟩ (bR P fn (dr S w0 Δ0 R) .ret) Γ Δ:=aM () [_] 0 hr hR
theorem rb(hr:xa P Γ Δ fn.results.toList [r,r']:=by exact⟨rfl,rfl,trivial⟩)(hR:R ()=(bv [r,r'],Δ.take 0):=by exact rfl):JN ⟨P,N,S,w0,ap Δ0,none,[],M⟩ (bR P fn (dr S w0 Δ0 R) .ret) Γ Δ:=aM () [_,_] 0 hr hR
end
def nI(vs:Nat→Value):Nat→List (List Int)→List D
 |_,[]=>[]
 |j,l::ls=>.sl (vs j) 3 (.int .i64) l::nI vs (j+1) ls
def nR(vs:Nat→Value):Nat→List (List Int)→List Value
 |_,[]=>[]
 |j,_::ls=>vs j::nR vs (j+1) ls
def A5(vs:Nat→Value)(i:Nat)(v:Value):Nat→Value:=fun j=>if j=i then v else vs j
theorem oU{vs:Nat→Value}:∀{ls:List (List Int)} {j:Nat},(nR vs j ls).length=ls.length
 |[],_=>rfl
 |_::ls,_=>by rw [nR,List.length_cons,oU,List.length_cons]
theorem xA{vs:Nat→Value}:∀{ls:List (List Int)} {j:Nat},(nI vs j ls).length=ls.length
 |[],_=>rfl
 |_::ls,_=>by rw [nI,List.length_cons,xA,List.length_cons]
theorem tJ{vs:Nat→Value}:∀{ls:List (List Int)} {j i:Nat},(nR vs j ls)[i]? =(ls[i]?).map fun _=>vs (j+i)
 |[],_,_=>by simp [nR]
 |_::ls,j,0=>by simp [nR]
 |_::ls,j,i+1=>by
  rw [nR,List.getElem?_cons_succ,List.getElem?_cons_succ,tJ,show j+1+i=j+(i+1) by omega]
theorem tN{vs:Nat→Value}:∀{ls:List (List Int)} {j i:Nat},(nI vs j ls)[i]? =(ls[i]?).map fun x=>D.sl (vs (j+i)) 3 (.int .i64) x
 |[],_,_=>by simp [nI]
 |_::ls,j,0=>by simp [nI]
 |_::ls,j,i+1=>by
  rw [nI,List.getElem?_cons_succ,List.getElem?_cons_succ,tN,show j+1+i=j+(i+1) by omega]
theorem GL{L:List D}{a:Nat}{y:D}(h:a < L.length):(L.set a y).Perm (y::L.eraseIdx a):=by
 have:=gk (Δ:=L.set a y) a y (by rw [List.getElem?_set];simp [h]);rw [List.eraseIdx_set_eq] at this;exact this
section
variable {c:Cx}{ops:Array Oper}{l:List Oper}{Q:Exit→Act→VW→Prop}{Γ Γ':Ga}{Δ Δ' F:List D}
theorem jd{junk:List D}(hs:Jj Γ' Γ)(hp:Δ.Perm (Δ'++junk)):SE c Γ Δ Γ' Δ':=fun a w h=>by
 obtain⟨h1,h2,S,h3,h4,h5,h6⟩:=h.perm hp
 have hm:∀d∈Δ',d∈Δ'++junk:=fun d hd=>List.mem_append.2 (.inl hd)
 exact⟨h1,h2,S,h3,fun b ⟨d,hd,e⟩=>h4 b ⟨d,hm d hd,e⟩,h5.part,fun s r hl=>h6 s r (hs.lk hl)⟩
theorem SE.pp(hp:Δ.Perm Δ'):SE c Γ Δ Γ Δ':=fun _ _ h=>h.perm hp
theorem Gj{S S':FS}{w:World}{vs:Nat→Value}(hSS:∀b,S b→S' b):∀{ls:List (List Int)} {j:Nat} {cs:List Value},(∀d∈nI vs j ls,d.holds S w∧∀b,d.foot=some b→S' b)→dH (rd S w .val) (nR vs j ls) cs→dH (rd S' w (.slice (.int .i64))) ls cs
 |[],_,_,_,h=>h
 |l::ls,j,cs,hd,h=>by
  obtain⟨c1,c2,rfl,⟨rfl,_⟩,h2⟩:=h
  refine⟨[vs j],c2,rfl,?_,Gj hSS (fun d hm=>hd d (List.mem_cons_of_mem _ hm)) h2⟩
  obtain⟨g1,g2⟩:=hd _ (List.mem_cons_self ..)
  rcases g1 with⟨e,rfl⟩ |⟨b,cap,cc,e,q1,q1',q2,q3,q4⟩
  ·
   rw [e];exact .inl ⟨none,0,rfl,rfl⟩
  ·
   have hb:S' b:=g2 b (by rw [D.foot,e];rfl)
   rw [e]
   refine .inr ⟨b,0,cap,cc,3,(0,0),rfl,q1,hb,q2,?_⟩
   rw [List.drop_zero]
   exact cu (fun _ _ h=>dP hSS (fun _ _=>rfl) (.int .i64) h) q4
theorem Fg{z:Value}{vs:Nat→Value}{ls:List (List Int)}{T:TypeId}:SE c Γ (.sl z T .val (nR vs 0 ls)::(nI vs 0 ls++F)) Γ (.sl z T (.slice (.int .i64)) ls::F):=fun a w h=>by
 obtain⟨h1,h2,S,h3,h4,h5,h6⟩:=h
 have hK:fW S w w:=fun _ _=>rfl
 have hp:=List.pairwise_cons.1 h5.apart
 obtain⟨pO,pF,pOF⟩:=List.pairwise_append.1 hp.2
 have hmO:∀d∈nI vs 0 ls,d∈D.sl z T .val (nR vs 0 ls)::(nI vs 0 ls++F):=fun d hd=>List.mem_cons_of_mem _ (List.mem_append.2 (.inl hd))
 have hmF:∀d∈F,d∈D.sl z T .val (nR vs 0 ls)::(nI vs 0 ls++F):=fun d hd=>List.mem_cons_of_mem _ (List.mem_append.2 (.inr hd))
 have hft:∀b,ap (nI vs 0 ls) b→ap (D.sl z T .val (nR vs 0 ls)::(nI vs 0 ls++F)) b:=fun b ⟨d,hd,e⟩=>⟨d,hmO d hd,e⟩
 refine⟨h1,h2,fun x=>S x∨ap (nI vs 0 ls) x,⟨fun x hx=>.inl (h3.sub x hx),fun x hx=>?_,fun x hx=>?_,h3.size,h3.keep,h3.os,h3.tape,h3.output,h3.subA,h3.oldA,h3.Z⟩,fun x ⟨e,he,hb⟩=>?_,h5.re ⟨fun e he=>?_,fun x ⟨e,he,hb⟩=>?_,?_⟩ (fun x ⟨e,he,hb⟩=>by
  rcases List.mem_cons.1 he with rfl |he
  ·
   exact⟨_,List.mem_cons_self ..,hb⟩
  ·
   exact⟨e,hmF e he,hb⟩) (fun x (hx:S x∨ap (nI vs 0 ls) x)=>hx.imp id (hft x)),fun s r hl=>A.mono (fun _ h=>.inl h) hK r (h6 s r hl)⟩
 ·
  rcases hx with hx |hx
  ·
   exact h3.new x hx
  ·
   exact .inr ((h4 x (hft x hx)).symm)
 ·
  rcases hx with hx |hx
  ·
   exact h3.dom x hx
  ·
   exact(h5.own x (hft x hx)).2
 ·
  rcases List.mem_cons.1 he with rfl |he
  ·
   exact h4 x ⟨_,List.mem_cons_self ..,hb⟩
  ·
   exact h4 x ⟨e,hmF e he,hb⟩
 ·
  rcases List.mem_cons.1 he with rfl |he
  ·
   rcases h5.holds _ (List.mem_cons_self ..) with⟨e,hl⟩ |⟨b,cap,cc,e,q1,q1',q2,q3,q4⟩
   ·
    refine .inl ⟨e,?_⟩
    have:=congrArg List.length hl
    rw [oU] at this
    exact List.eq_nil_of_length_eq_zero this
   ·
    rw [oU] at e q1 q4
    refine .inr ⟨b,cap,cc,e,q1,q1',q2,q3,?_⟩
    exact Gj (S:=S) (fun _ h=>.inl h) (fun d hd=>⟨h5.holds d (hmO d hd),fun b hb=>.inr ⟨d,hd,hb⟩⟩) q4
  ·
   exact bU (fun _ h=>.inl h) hK e (fun _ _=>rfl) (h5.holds e (hmF e he))
 ·
  have hx:ap (D.sl z T .val (nR vs 0 ls)::(nI vs 0 ls++F)) x∧¬ap (nI vs 0 ls) x:=by
   rcases List.mem_cons.1 he with rfl |he
   ·exact⟨⟨_,List.mem_cons_self ..,hb⟩,fun⟨d,hd,hb'⟩=>hp.1 d (List.mem_append.2 (.inl hd)) x hb hb'⟩
   ·exact⟨⟨e,hmF e he,hb⟩,fun⟨d,hd,hb'⟩=>pOF d hd e he x hb' hb⟩
  have h7:=h5.own x hx.1;exact⟨fun h=>h.elim h7.1 hx.2,h7.2⟩
 ·exact List.pairwise_cons.2 ⟨fun d hd b e=>hp.1 d (List.mem_append.2 (.inr hd)) b e,pF⟩
end
theorem Ic{z:Value}{vs:Nat→Value}{ls:List (List Int)}{T:TypeId}{S:FS}{w:World}(h5:gg (.sl z T .val (nR vs 0 ls)::nI vs 0 ls) S w):gg [.sl z T (.slice (.int .i64)) ls] (fun x=>S x∨ap (nI vs 0 ls) x) w:=by
 have hp:=List.pairwise_cons.1 h5.apart;refine⟨fun e he=>?_,fun x ⟨e,he,hb⟩=>?_,List.pairwise_singleton _ _⟩
 ·simp only [List.mem_cons,List.not_mem_nil,or_false] at he;subst he;rcases h5.holds _ (List.mem_cons_self ..) with⟨e,hl⟩ |⟨b,cap,cc,e,q1,q1',q2,q3,q4⟩
  ·refine .inl ⟨e,?_⟩;have:=congrArg List.length hl;rw [oU] at this;exact List.eq_nil_of_length_eq_zero this
  ·rw [oU] at e q1 q4;refine .inr ⟨b,cap,cc,e,q1,q1',q2,q3,?_⟩;exact Gj (S:=S) (fun _ h=>.inl h) (fun d hd=>⟨h5.holds d (List.mem_cons_of_mem _ hd),fun b hb=>.inr ⟨d,hd,hb⟩⟩) q4
 ·simp only [List.mem_cons,List.not_mem_nil,or_false] at he;subst he;have h7:=h5.own x ⟨_,List.mem_cons_self ..,hb⟩;exact⟨fun h=>h.elim h7.1 fun⟨d,hd,hb'⟩=>hp.1 d hd x hb hb',h7.2⟩
theorem Pe{P:Program}{f:Nat}{as:List A}{T:TypeId}{r:List (List Int)}(h:de P f as [] (fun z:Value×(Nat→Value)=>(bv [.eq z.1],.sl z.1 T .val (nR z.2 0 r)::nI z.2 0 r))):
 de P f as [] (fun z:Value=>(bv [.eq z],[.sl z T (.slice (.int .i64)) r])):=fun M k ke S w vs hd hall hO=>(h M k ke S w vs hd hall hO).mono fun _ _ hh=>by
 obtain⟨x,S',v,he,g1,g2,g3,g4⟩:=hh
 have hft:∀b,ap (nI x.2 0 r) b→ap (.sl x.1 T .val (nR x.2 0 r)::nI x.2 0 r) b:=fun b ⟨d,hd,e⟩=>⟨d,List.mem_cons_of_mem _ hd,e⟩
 refine⟨x.1,fun b=>S' b∨ap (nI x.2 0 r) b,v,he,⟨fun b hb=>.inl (g1.sub b hb),fun b hb=>?_,fun b hb=>?_,g1.size,g1.keep,g1.os,g1.tape,g1.output,g1.subA,g1.oldA,g1.Z⟩,g2,g3.re (Ic g3.p) (fun b ⟨d,hd,e⟩=>by
  rw [List.mem_singleton.1 hd] at e
  exact⟨_,List.mem_cons_self ..,e⟩) (fun b (hb:S' b∨ap (nI x.2 0 r) b)=>hb.imp id (hft b)),fun b ⟨d,hd,e⟩=>?_⟩
 ·
  rcases hb with hb |hb
  ·
   exact g1.new b hb
  ·
   exact .inr ((g4 b (hft b hb)).symm)
 ·
  rcases hb with hb |hb
  ·
   exact g1.dom b hb
  ·
   exact(g3.own b (hft b hb)).2
 ·
  simp only [List.mem_cons,List.not_mem_nil,or_false] at hd
  subst hd
  exact g4 b ⟨_,List.mem_cons_self ..,e⟩
theorem tI{vs:Nat→Value}{ls:List (List Int)}{i:Int}{x:List Int}(h:aO ls i=some x):aO (nR vs 0 ls) i=some (vs i.toNat):=by
 unfold aO at h⊢;split
 ·rename_i h0;rw [if_pos h0] at h;rw [tJ,h,Nat.zero_add];rfl
 ·rename_i h0;rw [if_neg h0] at h;cases h
theorem Do{α:Type}{l:List α}{i:Int}{x:α}(h:aO l i=some x):0≤i∧l[i.toNat]? =some x:=by
 unfold aO at h;split at h
 ·exact⟨‹_›,h⟩
 ·cases h
theorem um{L:List D}:L.Perm (L++[]):=by rw [List.append_nil]
section
variable {P:Program}{M:Md P}{o:Oper}{x y:Operand}{T T':TypeId}
end
section
variable {P:Program}{M:Md P}{o:Oper}{x y:Operand}{T e:TypeId}{t:Ty}
end
section
variable {c:Cx}{ops:Array Oper}{Q:Exit→Act→VW→Prop}{Γ:Ga}{Δ:List D}{n:Nat}{L:List Bool}
theorem Jz{P:Program}{M:Md P}{v:VW}{a:Act}{o:Oper}{K:Act→VW→Prop}{r:Result Next}(hh:FC M v o a K (bS K Q) r):FC M v o a K Q r:=by
 cases r with
 |ok x w'=>
  cases x <;> simp only [FC] at hh⊢ <;> first
   |exact hh
   |exact jA.mono hh (fun e v'' he=>by cases e <;> exact he)
   |exact oP.mono hh (fun e v'' he=>by cases e <;> exact he)
 |halt x w'=>cases x <;> simp only [FC] at hh⊢ <;> exact hh
theorem AT{o:Oper}{i:Nat}{K:Act→VW→Prop}{a:Act}{w:VW}(ho:ops[i]? =some o)(st:St c Γ Δ a w)(h:JO c ops [o] (bS K Q) Γ Δ):nG c.M c.rd ops Q i K a w:=by
 have h1:=h a w st;unfold nG;rw [ho];simp only [Es] at h1⊢;split
 ·rename_i hw;rw [if_pos hw] at h1;have h2:o.wk c.M c.rd a w K (bS K Q):=h1;exact fun v1 hr hk=>⟨(h2 v1 hr hk).1,Jz (h2 v1 hr hk).2⟩
 ·rename_i hw;rw [if_neg hw] at h1;exact h1
def JD(c:Cx)(ops:Array Oper)(Q:Exit→Act→VW→Prop)(n:Nat)(L:List Bool)(Γ:Ga)(Δ:List D):Prop:=∀a w,St c Γ Δ a w→fQ c.M c.rd .any ops Q n L.toArray a w
def O5(c:Cx)(ops:Array Oper)(Q:Exit→Act→VW→Prop)(n:Nat)(L:List Bool)(Γ:Ga)(Δ:List D):List Nat→Prop
 |[]=>True
 |i::l=>(∃o,ops[i]? =some o∧JO c ops [o] (bS (fun a w=>fQ c.M c.rd .any ops Q n (L.set i true).toArray a w) Q) Γ Δ)∧O5 c ops Q n L Γ Δ l
theorem O5.mem{l:List Nat}(h:O5 c ops Q n L Γ Δ l):∀i∈l,∃o,ops[i]? =some o∧JO c ops [o] (bS (fun a w=>fQ c.M c.rd .any ops Q n (L.set i true).toArray a w) Q) Γ Δ:=by
 induction l with
 |nil=>intro i hi;simp at hi
 |cons x l ih=>
  intro i hi;rcases List.mem_cons.1 hi with rfl |hi
  ·exact h.1
  ·exact ih h.2 i hi
theorem I3{id:Nat}(hm:c.P.follows .mixedOrders=true)(hn:ops.size=n)(h:JD c ops Q n (List.replicate n false) Γ Δ):JC c (.region id ops true) Q Γ Δ:=fun a w st=>l6 hm fun v1 hr=>by
 have:=h a _ (st.drew hr)
 rw [hn]
 rwa [List.toArray_replicate] at this
theorem JD.step(rdy:List Nat)(hr:Region.ready .any ops L.toArray=rdy)(hne:rdy.isEmpty=false)(h:O5 c ops Q n L Γ Δ rdy):JD c ops Q (n+1) L Γ Δ:=fun a w st=>by
 subst hr
 refine⟨fun e=>(by rw [e] at hne;simp at hne),fun i hi=>?_⟩
 obtain⟨o,ho,hj⟩:=h.mem i hi
 have:=AT ho st hj
 simpa using this
theorem JD.nil(hr:Region.ready .any ops L.toArray=[])(h:JN c (Q .normal) Γ Δ):JD c ops Q 0 L Γ Δ:=fun a w st=>⟨hr,h a w st⟩
theorem I5{I:Type}{Ge:I→Ga}{De:I→List D}{id:Nat}(hm:c.P.follows .mixedOrders=true)(hn:ops.size=n)
 (h:∀J:Nat→List Bool→Ga→List D→Prop,J=JD c ops Q→(∀i,J 0 L (Ge i) (De i))→J n (List.replicate n false) Γ Δ) (hr:Region.ready .any ops L.toArray=[]) (he:∀i,JN c (Q .normal) (Ge i) (De i)):JC c (.region id ops true) Q Γ Δ:=
 I3 hm hn (h _ rfl fun i=>JD.nil hr (he i))
theorem O5.cons{i:Nat}{o:Oper}{l:List Nat}(ho:ops[i]? =some o)(h:JO c ops [o] (bS (fun a w=>fQ c.M c.rd .any ops Q n (L.set i true).toArray a w) Q) Γ Δ)(hl:O5 c ops Q n L Γ Δ l):O5 c ops Q n L Γ Δ (i::l):=⟨⟨o,ho,h⟩,hl⟩
theorem JD.to{M:Exit→Act→VW→Prop}(h:JD c ops Q n L Γ Δ):JN c (bS (fun a w=>fQ c.M c.rd .any ops Q n L.toArray a w) M .normal) Γ Δ:=fun a w st=>h a w st
theorem Rj{M:Exit→Act→VW→Prop}{Γ':Ga}{Δ':List D}(j:JD c ops Q n L Γ' Δ')(ks:List Nat)(hs:Jj Γ' Γ)(hk:fg Δ ks=some Δ':=by rfl)(hn:ks.Nodup:=by decide):JO c ops [] (bS (fun a w=>fQ c.M c.rd .any ops Q n L.toArray a w) M) Γ Δ:=be (bL (SE.fin ks hs hk hn) j.to)
end
end K
end Go.Proofs.YtlmopgkkijhllaaGreat
set_option linter.unusedVariables false
namespace Go.Proofs.YtlmopgkkijhllaaGreat
namespace K
open Go
section
variable {P:Program}{M:Md P}{o:Oper}{x y:Operand}{T T' e:TypeId}{t:Ty}
theorem d5{N m:Nat}{g:Bool}{l:List t.den}{k:IntKind}{i:Int}{d:t.den}(ho:o.op= .index T x y)(hT:P.underlying T=some (.array N e))(hz:dY P e m g)(hm:t.cells=m)(hag:t.isAgg=g)(hg:g=false→m=1)(hl:aO l i=some d):
 bo M o [(x,.rep (.arr N t) l),(y,.eq (.int k i))] [] (fun _:Unit=>(FG t d,[])):=
 .val0 fun S w a hN=>by
  subst hm
  obtain⟨cs,⟨h1,h2⟩,h3⟩:=hN.1
  have e1:a.eval x= .agg cs.toArray:=h3
  have e2:a.eval y= .int k i:=hN.2.1
  obtain⟨g0,g1,g2⟩:=dA hl
  rw [h1] at g1
  obtain⟨r1,r2⟩:=ji (fun _ _ h=>aN t h) h2 g2
  have r3:=aN t r1
  refine⟨mk g ((cs.drop (i.toNat * t.cells)).take t.cells),?_,?_⟩
  ·
   have hp:(part e cs.toArray (i.toNat * t.cells)).run P w= .ok (mk g ((cs.drop (i.toNat * t.cells)).take t.cells)) w:=by
    unfold part;cases g with
    |true=>
     simp only [Sem.run_bind,hz.agg,Result.andThen_ok,if_true,hz.size,Sem.run_pure];simp only [mk,if_true,Result.ok.injEq,and_true,Value.agg.injEq];apply Array.ext';simp [List.extract_eq_take_drop,Nat.add_sub_cancel_left]
    |false=>
     have h1c:=hg rfl;have hlt:i.toNat * t.cells < cs.length:=by omega
     have e9:(cs.drop (i.toNat * t.cells)).take t.cells=[cs[i.toNat * t.cells]]:=by rw [List.drop_eq_getElem_cons hlt,List.take_cons (by omega),show t.cells - 1=0 by omega,List.take_zero]
     have e8:cs.toArray[i.toNat * t.cells]? =some cs[i.toNat * t.cells]:=by simp [hlt]
     rw [e9];simp only [Sem.run_bind,hz.agg,Result.andThen_ok,e8];rfl
   have h1':(Instr.index T (.agg cs.toArray) (.int k i)).run P w= .ok (mk g ((cs.drop (i.toNat * t.cells)).take t.cells)) w:=by
    unfold Instr.index;simp only [asIntOf,Sem.run_bind,Sem.run_pure,Result.andThen_ok,run_underlying hT,g0,g1,and_self,if_true,hz.size,hp]
   simp only [execOp,ho,e1,e2,Sem.run_bind,h1',Result.andThen_ok,Sem.run_pure]
  ·rw [←hag];exact jp r1
end
end K
end Go.Proofs.YtlmopgkkijhllaaGreat
set_option linter.unusedVariables false
namespace Go.Proofs.YtlmopgkkijhllaaGreat
namespace K
open Go
section
variable {P:Program}{M:Md P}{o:Oper}{x y:Operand}{T T' e:TypeId}{t:Ty}
end
end K
end Go.Proofs.YtlmopgkkijhllaaGreat
set_option linter.unusedVariables false
namespace Go.Proofs.YtlmopgkkijhllaaGreat
namespace K
open Go
section
variable {P:Program}{M:Md P}{o:Oper}{x y:Operand}{Δ:List D}{X:Type}{R:X→A×List D}
theorem fy.app{S:FS}{w:World}:∀{a1 a2:List A} {v1 v2:List Value},fy S w a1 v1→fy S w a2 v2→fy S w (a1++a2) (v1++v2)
 |[],_,v1,_,h1,h2=>by
  have:v1=[]:=h1
  subst this
  exact h2
 |_::_,_,_,_,⟨v,vs',e,h1,h3⟩,h2=>by
  subst e
  exact⟨v,_,rfl,h1,fy.app h3 h2⟩
end
end K
end Go.Proofs.YtlmopgkkijhllaaGreat
set_option linter.unusedVariables false
namespace Go.Proofs.YtlmopgkkijhllaaGreat
namespace K
open Go
structure Nc(P:Program)(f:Nat)(e:Array Value→Sem Value):Prop where
 run:∀args w,(callFunc f args).run P w=((e args).run P w).andThen fun v w'=>.ok (.value v) w'
 ns:∀args,Ns P (e args)→Ns P (callFunc f args)
theorem Nc.of{P:Program}{f:Nat}{fn:Func}{e:Array Value→Sem Value}(hf:P.funcs[f]? =some fn)(hname:(fn.name == "runtime.NumGoroutine")=false)(hb:fn.body.isNone=true)(hn:Extern.findNext fn=none)(he:Extern.find fn=some e):Nc P f e:=by
 refine⟨run_callFunc_extern hf hname hb hn he,fun args h=>?_⟩
 show Ns P ((match P.funcs[f]? with
  |none=>stuck "call: no such function"
  |some fn=>_:Sem Next))
 rw [hf];simp only [hname,hb,Bool.false_eq_true,if_false,if_true,hn,he];exact ai (⟨rfl,trivial⟩:Ns P (mark (.extern f))) fun _=>ai h fun _=>trivial
section
variable {P:Program}{M:Md P}{o:Oper}{x y:Operand}{T:TypeId}{Δ:List D}{X:Type}{R:X→A×List D}{f:Nat}{e:Array Value→Sem Value}{c:Call}{ts:Array TypeId}
end
end K
end Go.Proofs.YtlmopgkkijhllaaGreat
set_option linter.unusedVariables false
namespace Go.Proofs.YtlmopgkkijhllaaGreat
namespace K
open Go
section
variable {P:Program}{M:Md P}{o:Oper}{x y z q:Operand}{T T' e:TypeId}{r r':A}{t:Ty}
section
variable {a:Option Addr}{n cap m:Nat}{k k' k'':IntKind}{i j i':Int}{g:Bool}
end
end
end K
end Go.Proofs.YtlmopgkkijhllaaGreat
set_option linter.unusedVariables false
namespace Go.Proofs.YtlmopgkkijhllaaGreat
namespace K
open Go
theorem I2{c:Cx}{C:Code}{Q:Exit→Act→VW→Prop}{Γ:Ga}{Δ F:List D}{Z:Type}(G:Z→Ga)(E:Z→List D)
 (h:∀S w,JC ⟨c.P,c.N,S,w,ap Δ,c.rd,c.dfs,c.M⟩ C (fun e a v=>e= .normal∧∃z,St ⟨c.P,c.N,S,w,ap Δ,c.rd,c.dfs,c.M⟩ (G z) (E z) a v) Γ Δ)
 (k:∀z,JN c (Q .normal) (G z) (E z++F)):JC c C Q Γ (Δ++F):=by
 intro a w st
 obtain⟨h1,h2,S,h3,h4,h5,h6⟩:=st
 have hin:∀b,ap Δ b→ap (Δ++F) b:=fun b ⟨e,he,hb⟩=>⟨e,List.mem_append.2 (.inl he),hb⟩
 have hX:∀b,ap Δ b→c.X b∨c.w0.heap.size≤b:=fun b hb=>h4 b (hin b hb)
 refine mP (fun e a' v' q=>?_) (h S w a w ⟨h1,h2,S,bp.refl h3.dom,fun b hb=>.inl hb,h5.part,h6⟩)
 obtain⟨rfl,z,g1,g2,S',g3,g4,g5,g6⟩:=q
 refine k z a' v' ⟨g1,g2,S',h3.trans g3 hX,fun b ⟨e,he,hb⟩=>?_,h5.frame h3.dom g3 g5 g4,g6⟩
 rcases List.mem_append.1 he with he |he
 ·
  rcases g4 b ⟨e,he,hb⟩ with hh |hh
  ·exact hX b hh
  ·exact .inr (Nat.le_trans h3.size hh)
 ·
  exact h4 b ⟨e,List.mem_append.2 (.inr he),hb⟩
def xz(T:TypeId)(z:Value×(Nat→Value))(ls:List (List Int)):List D:=.sl z.1 T .val (nR z.2 0 ls)::nI z.2 0 ls
theorem G6{n j:Nat}:nR (fun _=>.slice none 0 0) j (List.replicate n [])=List.replicate n (.slice none 0 0):=by
 induction n generalizing j with
 |zero=>rfl
 |succ n ih=>rw [List.replicate_succ,List.replicate_succ,nR,ih]
theorem Jy{vs:Nat→Value}{ls:List (List Int)}{i:Nat}{v:Value}{l:List Int}(h:i < ls.length):nR (A5 vs i v) 0 (ls.set i l)=(nR vs 0 ls).set i v:=by
 apply List.ext_getElem?;intro j;rw [tJ,Nat.zero_add,List.getElem?_set,List.getElem?_set,oU,tJ,Nat.zero_add];unfold A5;by_cases e:i=j
 ·subst e;simp [h]
 ·rw [if_neg e,if_neg e,if_neg (fun e'=>e e'.symm)]
theorem J4{vs:Nat→Value}{ls:List (List Int)}{i:Nat}{v:Value}{l:List Int}(h:i < ls.length):nI (A5 vs i v) 0 (ls.set i l)=(nI vs 0 ls).set i (.sl v 3 (.int .i64) l):=by
 apply List.ext_getElem?;intro j;rw [tN,Nat.zero_add,List.getElem?_set,List.getElem?_set,xA,tN,Nat.zero_add];unfold A5;by_cases e:i=j
 ·subst e;simp [h]
 ·rw [if_neg e,if_neg e,if_neg (fun e'=>e e'.symm)]
section
variable {c:Cx}{Γ Γ':Ga}{Δ Δ' F pre:List D}{T:TypeId}{z:Value×(Nat→Value)}{ls:List (List Int)}{i:Nat}{l l':List Int}{v v':Value}
theorem LV(n:Nat):∀j,SE c Γ Δ Γ (nI (fun _=>.slice none 0 0) j (List.replicate n [])++Δ):=by
 induction n with
 |zero=>exact fun _=>fun _ _ h=>h
 |succ n ih=>exact fun j=>SE.trans (ih (j+1)) (SE.nil 3 (.int .i64))
theorem IR{n:Nat}:SE c Γ (.sl v T .val (List.replicate n (.slice none 0 0))::F) Γ (F++xz T (v,fun _=>.slice none 0 0) (List.replicate n [])):=by
 refine SE.trans (LV n 0) (SE.pp ?_);unfold xz;rw [G6];exact(List.perm_middle.trans (List.Perm.cons _ List.perm_append_comm)).trans List.perm_middle.symm
theorem Ff(h:ls[i]? =some l):SE c Γ (pre++xz T z ls) Γ (.sl (z.2 i) 3 (.int .i64) l:: .sl z.1 T .val (nR z.2 0 ls)::(pre++(nI z.2 0 ls).eraseIdx i)):=by
 refine SE.pp ?_;have h1:=gk (Δ:=nI z.2 0 ls) i (.sl (z.2 i) 3 (.int .i64) l) (by rw [tN,h,Nat.zero_add];rfl);unfold xz;refine(List.Perm.append_left pre (List.Perm.cons _ h1)).trans ?_;refine List.perm_middle.trans ?_;refine(List.Perm.cons _ List.perm_middle).trans ?_;exact List.Perm.swap _ _ _
theorem HZ{L:List D}{d:D}{e:D}(hi:i < L.length):(d::e::(pre++L.eraseIdx i)).Perm (pre++e::L.set i d):=by
 refine(List.Perm.swap _ _ _).trans ?_;refine List.Perm.trans ?_ List.perm_middle.symm;refine List.Perm.cons _ ?_;refine List.perm_middle.symm.trans ?_;exact List.Perm.append_left pre (GL hi).symm
theorem Cm(h:ls[i]? =some l):SE c Γ (.sl v' 3 (.int .i64) l':: .sl z.1 T .val ((nR z.2 0 ls).set i v')::(pre++(nI z.2 0 ls).eraseIdx i)) Γ (pre++xz T (z.1,A5 z.2 i v') (ls.set i l')):=by
 have hi:=(List.getElem?_eq_some_iff.1 h).1;refine SE.pp ?_;unfold xz;rw [Jy hi,J4 hi];exact HZ (by rw [xA];exact hi)
theorem IS:SE c Γ (pre++xz T z ls) Γ (.sl z.1 T (.slice (.int .i64)) ls::pre):=by
 refine SE.trans (SE.pp ?_) (Fg (z:=z.1) (vs:=z.2) (ls:=ls) (F:=pre));unfold xz;exact List.perm_middle.trans (List.Perm.cons _ List.perm_append_comm)
end
end K
end Go.Proofs.YtlmopgkkijhllaaGreat
set_option linter.unusedVariables false
set_option linter.unusedSimpArgs false
namespace Go.Proofs.YtlmopgkkijhllaaGreat
namespace K
open Go
section
variable {P:Program}{M:Md P}{o:Oper}{x y z:Operand}{T T' e:TypeId}{r r':A}{t:Ty}
end
theorem GI{S:FS}{w:World}{v:Value}{T:TypeId}{t:Ty}{l:List t.den}(h:(D.sl v T t l).holds S w):bD v=true:=by
 rcases h with⟨rfl,_⟩ |⟨b,cap,c,rfl,_⟩ <;> rfl
theorem Ri{c:Cx}{ops:Array Oper}{l:List Oper}{Q:Exit→Act→VW→Prop}{Γ:Ga}{F:List D}{v:Value}{T:TypeId}{t:Ty}{d:List t.den}(h:bD v=true→JO c ops l Q Γ (.sl v T t d::F)):JO c ops l Q Γ (.sl v T t d::F):=by
 intro a w st;obtain⟨_,_,S,_,_,h5,_⟩:=id st;exact h (GI (h5.holds _ (List.mem_cons_self ..))) a w st
theorem Rm{c:Cx}{C:Code}{Q:Exit→Act→VW→Prop}{Γ:Ga}{F:List D}{v:Value}{T:TypeId}{t:Ty}{d:List t.den}(k:Nat)(hk:F[k]? =some (.sl v T t d))(h:bD v=true→JC c C Q Γ F):JC c C Q Γ F:=by
 intro a w st;obtain⟨_,_,S,_,_,h5,_⟩:=id st;exact h (GI (h5.holds _ (List.mem_of_getElem? hk))) a w st
end K
end Go.Proofs.YtlmopgkkijhllaaGreat
set_option linter.unusedVariables false
namespace Go.Proofs.YtlmopgkkijhllaaGreat
namespace K
open Go
section
variable {P:Program}{M:Md P}{o:Oper}{Δ:List D}{X:Type}{R:X→A×List D}
theorem Re{L:List D}{N N':List (Operand×A)}(h:bo M o N' Δ R)(hN:∀S w a,(∀d∈L,d.holds S w∧∀b,d.foot=some b→S b)→bC S w a N→bC S w a N')
 (hf:∀x,(R x).1.flat=true∧∀d∈(R x).2,d.flat=true):bo M o N (L++Δ) (fun x=>((R x).1,L++(R x).2)):=by
 refine⟨h.1,fun ro S w a next Q hd hNN hO k=>?_⟩
 have hap:=List.pairwise_append.1 hO.apart
 have hK:fW S w w:=fun _ _=>rfl
 have hmL:∀d∈L,d∈L++Δ:=fun d hd=>List.mem_append.2 (.inl hd)
 have hmΔ:∀d∈Δ,d∈L++Δ:=fun d hd=>List.mem_append.2 (.inr hd)
 have hfL:∀b,ap L b→ap (L++Δ) b:=fun b ⟨d,hd,e⟩=>⟨d,hmL d hd,e⟩
 have hfΔ:∀b,ap Δ b→ap (L++Δ) b:=fun b ⟨d,hd,e⟩=>⟨d,hmΔ d hd,e⟩
 have hnb:∀b,ap L b→¬ap Δ b:=fun b ⟨d,hd,e⟩ ⟨d',hd',e'⟩=>hap.2.2 d hd d' hd' b e e'
 have hmono:∀x,S x→S x∨ap L x:=fun _ h=>.inl h
 have hNN':∀{N:List (Operand×A)},bC S w a N→bC (fun x=>S x∨ap L x) w a N:=by
  intro N
  induction N with
  |nil=>exact fun h=>h
  |cons p N ih=>obtain⟨x,r⟩:=p;exact fun h=>⟨A.mono hmono hK r h.1,ih h.2⟩
 have hd':∀x,(S x∨ap L x)→x < w.heap.size:=fun x hx=>hx.elim (hd x) (fun e=>(hO.own x (hfL x e)).2)
 have hlent:∀d∈L,d.holds (fun x=>S x∨ap L x) w∧∀b,d.foot=some b→(S b∨ap L b):=fun d hd=>⟨bU hmono hK d (fun _ _=>rfl) (hO.holds d (hmL d hd)),fun b e=>.inr ⟨d,hd,e⟩⟩
 have hOΔ':aQ Δ (fun x=>S x∨ap L x) w:=hO.re ⟨fun e he=>bU hmono hK e (fun _ _=>rfl) (hO.holds e (hmΔ e he)),fun x hx=>⟨fun h=>h.elim (hO.own x (hfΔ x hx)).1 (fun e=>hnb x e hx),(hO.own x (hfΔ x hx)).2⟩,hap.2.1⟩ hfΔ fun x (hx:S x∨ap L x)=>hx.imp id (hfL x)
 refine h.2 ro _ w a next Q hd' (hN _ w a hlent (hNN' hNN)) hOΔ' fun x S' w' v' h1 h2 h3 h4=>?_
 obtain⟨f1,f2⟩:=hf x
 have hbk:∀b,ap L b→w'.heap[b]? =w.heap[b]? :=fun b hb=>h1.keep b (hO.own b (hfL b hb)).2 (hO.far b (hfL b hb)).1 (hnb b hb)
 have hSb:∀y,S y→¬ap L y:=fun y hy e=>(hO.own y (hfL y e)).1 hy
 have hKw:fW S w w':=fun y hy=>h1.keep y (hd y hy) (hO.sees y hy) (fun hx=>(hO.own y (hfΔ y hx)).1 hy)
 refine k x (fun y=>S' y∧¬ap L y) w' v' ⟨fun y hy=>⟨h1.sub y (.inl hy),hSb y hy⟩,fun y hy=>?_,fun y hy=>h1.dom y hy.1,h1.size,fun y hy ha hx=>h1.keep y hy ha (fun hh=>hx (hfΔ y hh)),h1.os,h1.tape,h1.output,h1.subA,h1.oldA,h1.Z⟩ ((oR _ f1).1 h2) ⟨fun d hd=>?_,fun y ⟨d,hd,e⟩=>?_,List.pairwise_append.2 ⟨hap.1,h3.apart,fun d hd d' hd' y e e'=>?_⟩,fun y ⟨d,hd,e⟩=>?_,fun y hy=>h3.sees y hy.1,h3.domA,h3.domZ⟩ fun y ⟨d,hd,e⟩=>?_
 ·
  rcases h1.new y hy.1 with(hh |hh) |hh |hh
  ·exact .inl hh
  ·exact absurd hh hy.2
  ·exact .inr (.inl hh)
  ·exact .inr (.inr (hfΔ y hh))
 ·
  rcases List.mem_append.1 hd with hd |hd
  ·exact bU (fun y hy=>⟨h1.sub y (.inl hy),hSb y hy⟩) hKw d (fun b e=>hbk b ⟨d,hd,e⟩) (hO.holds d (hmL d hd))
  ·exact nz d (f2 d hd) (h3.holds d hd)
 ·
  rcases List.mem_append.1 hd with hd |hd
  ·have hy:ap L y:=⟨d,hd,e⟩;exact⟨fun h=>h.2 hy,Nat.lt_of_lt_of_le (hO.own y (hfL y hy)).2 h1.size⟩
  ·have:=h3.own y ⟨d,hd,e⟩;exact⟨fun h=>this.1 h.1,this.2⟩
 ·
  have hy:ap L y:=⟨d,hd,e⟩;rcases h4 y ⟨d',hd',e'⟩ with hh |hh
  ·exact hnb y hy hh
  ·have:=(hO.own y (hfL y hy)).2;omega
 ·
  rcases List.mem_append.1 hd with hd |hd
  ·have hy:ap L y:=⟨d,hd,e⟩;have hfar:=hO.far y (hfL y hy);exact⟨fun ha=>(h1.oldA y ha).elim hfar.1 fun h2=>by have:=(hO.own y (hfL y hy)).2;omega,by rw [h1.Z];exact hfar.2⟩
  ·exact h3.far y ⟨d,hd,e⟩
 ·
  rcases List.mem_append.1 hd with hd |hd
  ·exact .inl (hfL y ⟨d,hd,e⟩)
  ·exact(h4 y ⟨d,hd,e⟩).imp (hfΔ y) id
theorem RB{c:Cx}{C:Code}{Q:Exit→Act→VW→Prop}{Γ Γ1:Ga}{L Δ:List D}{Z:Type}(G:Z→Ga)(E:Z→List D)
 (hΓ:∀(S:FS) (w:World) (a:Act),(∀d∈L,d.holds S w∧∀b,d.foot=some b→S b)→(∀s r,lk Γ s=some r→r.holds S w (a.tmps.getD s undef))→∀s r,lk Γ1 s=some r→r.holds S w (a.tmps.getD s undef))
 (hf:∀z,(∀s r,lk (G z) s=some r→r.flat=true)∧∀d∈E z,d.flat=true)
 (h:∀S w,JC ⟨c.P,c.N,S,w,ap Δ,c.rd,c.dfs,c.M⟩ C (fun e a v=>e= .normal∧∃z,St ⟨c.P,c.N,S,w,ap Δ,c.rd,c.dfs,c.M⟩ (G z) (E z) a v) Γ1 Δ)
 (k:∀z,JN c (Q .normal) (G z) (L++E z)):JC c C Q Γ (L++Δ):=by
 intro a w st
 obtain⟨q1,q2,S,q3,q4,hO,q6⟩:=st
 have hd:∀b,S b→b < w.heap.size:=q3.dom
 have hap:=List.pairwise_append.1 hO.apart
 have hK:fW S w w:=fun _ _=>rfl
 have hmL:∀d∈L,d∈L++Δ:=fun d hd=>List.mem_append.2 (.inl hd)
 have hmΔ:∀d∈Δ,d∈L++Δ:=fun d hd=>List.mem_append.2 (.inr hd)
 have hfL:∀b,ap L b→ap (L++Δ) b:=fun b ⟨d,hd,e⟩=>⟨d,hmL d hd,e⟩
 have hfΔ:∀b,ap Δ b→ap (L++Δ) b:=fun b ⟨d,hd,e⟩=>⟨d,hmΔ d hd,e⟩
 have hnb:∀b,ap L b→¬ap Δ b:=fun b ⟨d,hd,e⟩ ⟨d',hd',e'⟩=>hap.2.2 d hd d' hd' b e e'
 have hmono:∀x,S x→S x∨ap L x:=fun _ h=>.inl h
 have hd':∀x,(S x∨ap L x)→x < w.heap.size:=fun x hx=>hx.elim (hd x) (fun e=>(hO.own x (hfL x e)).2)
 have hlent:∀d∈L,d.holds (fun x=>S x∨ap L x) w∧∀b,d.foot=some b→(S b∨ap L b):=fun d hd=>⟨bU hmono hK d (fun _ _=>rfl) (hO.holds d (hmL d hd)),fun b e=>.inr ⟨d,hd,e⟩⟩
 have hOΔ':aQ Δ (fun x=>S x∨ap L x) w:=hO.re ⟨fun e he=>bU hmono hK e (fun _ _=>rfl) (hO.holds e (hmΔ e he)),fun x hx=>⟨fun h=>h.elim (hO.own x (hfΔ x hx)).1 (fun e=>hnb x e hx),(hO.own x (hfΔ x hx)).2⟩,hap.2.1⟩ hfΔ fun x (hx:S x∨ap L x)=>hx.imp id (hfL x)
 refine mP (fun e a' v' q=>?_) (h (fun x=>S x∨ap L x) w a w ⟨q1,q2,_,bp.refl hd',fun b hb=>.inl hb,hOΔ',hΓ _ _ a hlent fun s r hl=>A.mono hmono hK r (q6 s r hl)⟩)
 obtain⟨rfl,z,g1,g2,S',h1,h4,h3,g6⟩:=q
 obtain⟨f1,f2⟩:=hf z
 have hbk:∀b,ap L b→v'.heap[b]? =w.heap[b]? :=fun b hb=>h1.keep b (hO.own b (hfL b hb)).2 (hO.far b (hfL b hb)).1 (hnb b hb)
 have hSb:∀y,S y→¬ap L y:=fun y hy e=>(hO.own y (hfL y e)).1 hy
 have hKw:fW S w v':=fun y hy=>h1.keep y (hd y hy) (hO.sees y hy) (fun hx=>(hO.own y (hfΔ y hx)).1 hy)
 have hst:bp (ap (L++Δ)) S w (fun y=>S' y∧¬ap L y) v':=by
  refine⟨fun y hy=>⟨h1.sub y (.inl hy),hSb y hy⟩,fun y hy=>?_,fun y hy=>h1.dom y hy.1,h1.size,fun y hy ha hx=>h1.keep y hy ha (fun hh=>hx (hfΔ y hh)),h1.os,h1.tape,h1.output,h1.subA,h1.oldA,h1.Z⟩;rcases h1.new y hy.1 with(hh |hh) |hh |hh
  ·exact .inl hh
  ·exact absurd hh hy.2
  ·exact .inr (.inl hh)
  ·exact .inr (.inr (hfΔ y hh))
 refine k z a' v' ⟨g1,g2,_,q3.trans hst (fun b hb=>q4 b hb),fun y ⟨d,hd,e⟩=>?_,⟨fun d hd=>?_,fun y ⟨d,hd,e⟩=>?_,List.pairwise_append.2 ⟨hap.1,h3.apart,fun d hd d' hd' y e e'=>?_⟩,fun y ⟨d,hd,e⟩=>?_,fun y hy=>h3.sees y hy.1,h3.domA,h3.domZ⟩,fun s r hl=>(oR _ (f1 s r hl)).1 (g6 s r hl)⟩
 ·
  rcases List.mem_append.1 hd with hd |hd
  ·exact q4 y (hfL y ⟨d,hd,e⟩)
  ·rcases h4 y ⟨d,hd,e⟩ with hh |hh
   ·exact q4 y (hfΔ y hh)
   ·exact .inr (Nat.le_trans q3.size hh)
 ·
  rcases List.mem_append.1 hd with hd |hd
  ·exact bU (fun y hy=>⟨h1.sub y (.inl hy),hSb y hy⟩) hKw d (fun b e=>hbk b ⟨d,hd,e⟩) (hO.holds d (hmL d hd))
  ·exact nz d (f2 d hd) (h3.holds d hd)
 ·
  rcases List.mem_append.1 hd with hd |hd
  ·have hy:ap L y:=⟨d,hd,e⟩;exact⟨fun h=>h.2 hy,Nat.lt_of_lt_of_le (hO.own y (hfL y hy)).2 h1.size⟩
  ·have:=h3.own y ⟨d,hd,e⟩;exact⟨fun h=>this.1 h.1,this.2⟩
 ·
  have hy:ap L y:=⟨d,hd,e⟩;rcases h4 y ⟨d',hd',e'⟩ with hh |hh
  ·exact hnb y hy hh
  ·exact Nat.lt_irrefl _ (Nat.lt_of_lt_of_le (hO.own y (hfL y hy)).2 hh)
 ·
  rcases List.mem_append.1 hd with hd |hd
  ·have hy:ap L y:=⟨d,hd,e⟩;have hfar:=hO.far y (hfL y hy);exact⟨fun ha=>(h1.oldA y ha).elim hfar.1 fun h2=>Nat.lt_irrefl _ (Nat.lt_of_lt_of_le (hO.own y (hfL y hy)).2 h2),by rw [h1.Z];exact hfar.2⟩
  ·exact h3.far y ⟨d,hd,e⟩
end
section
variable {c:Cx}{Γ:Ga}{pre:List D}{T:TypeId}{z:Value×(Nat→Value)}{ls:List (List Int)}
end
section
variable {P:Program}{M:Md P}{N:Nat}{S:FS}{w0:VW}{X:Nat→Prop}{ops:Array Oper}{o:Oper}{l:List Oper}{Q:Exit→Act→VW→Prop}{Γ:Ga}{Δ Δ1 F:List D}{g:Nat}{vs:List Value}{as:List A}{fn:Func}{R:Ending→VW→Prop}{Y:Type}{R1:Y→A×List D}
end
end K
end Go.Proofs.YtlmopgkkijhllaaGreat
set_option linter.unusedVariables false
namespace Go.Proofs.YtlmopgkkijhllaaGreat
namespace K
open Go
end K
end Go.Proofs.YtlmopgkkijhllaaGreat
set_option linter.unusedVariables false
namespace Go.Proofs.YtlmopgkkijhllaaGreat
namespace K
open Go
section
variable {c:Cx}{Γ:Ga}{u:Ty}{v:Value}{T:TypeId}{F:List D}
end
end K
end Go.Proofs.YtlmopgkkijhllaaGreat
set_option linter.unusedVariables false
namespace Go.Proofs.YtlmopgkkijhllaaGreat
namespace K
open Go
section
variable {c:Cx}{P:Program}{M:Md P}{o:Oper}{N N':List (Operand×A)}{Δ:List D}{T1 T2:TypeId}{t1 t2:Ty}{l1:List t1.den}{l2:List t2.den}{d:Int}{S:FS}{w:World}{v a b:Value}
end
end K
end Go.Proofs.YtlmopgkkijhllaaGreat
set_option linter.unusedVariables false
namespace Go.Proofs.YtlmopgkkijhllaaGreat
namespace K
open Go
@[reducible] def Ub{α β:Type}(x:α×β):α×(β ⊕ Value):=(x.1,.inl x.2)
section
variable {c:Cx}{Γ:Ga}{u r:Ty}{v:Value}{T:TypeId}{F:List D}
end
end K
end Go.Proofs.YtlmopgkkijhllaaGreat
set_option linter.unusedVariables false
set_option linter.unusedSimpArgs false
namespace Go.Proofs.YtlmopgkkijhllaaGreat
namespace K
open Go
section
variable {P:Program}{M:Md P}{o:Oper}{x y z:Operand}{T T':TypeId}{v u:Value}
end
end K
end Go.Proofs.YtlmopgkkijhllaaGreat
set_option linter.unusedVariables false
namespace Go.Proofs.YtlmopgkkijhllaaGreat
namespace K
open Go
structure Kn{P:Program}(M:Md P)(b o:Nat)(cs:List Value):Prop where
 mem:∀w,M.kf w→∃c T fz,w.heap[b]? =some (.cells c T fz)∧(c.toList.drop o).take cs.length=cs
 pk:∀j,j < cs.length→M.pk ⟨.cell ⟨b,o+j,none⟩,false,false⟩
theorem Kn.sub{P:Program}{M:Md P}{b o:Nat}{cs:List Value}(h:Kn M b o cs)(k n:Nat){ds:List Value}(hd:(cs.drop k).take n=ds)(hk:k+n≤cs.length):Kn M b (o+k) ds:=by
 subst hd;have hl:((cs.drop k).take n).length=n:=by simp;omega
 refine⟨fun w hw=>?_,fun j hj=>?_⟩
 ·obtain⟨c,T,fz,h1,h2⟩:=h.mem w hw;refine⟨c,T,fz,h1,?_⟩;rw [hl];conv=>rhs;rw [←h2]
  rw [List.drop_take,List.take_take,Nat.min_eq_left (by omega),List.drop_drop]
 ·rw [hl] at hj;rw [Nat.add_assoc];exact h.pk (k+j) (by omega)
section
variable {P:Program}{M:Md P}{o:Oper}{x:Operand}{TT:TypeId}{t u:Ty}{b k:Nat}{cs:List Value}
theorem qh{S:FS}{w:World}{d:t.den}{v p:Value}(h:(A.rep (.mo p cs t) d).holds S w v):v=p∧rd S w t d cs:=by
 obtain⟨c0,⟨rfl,_,h3⟩,e⟩:=h;exact⟨e,h3⟩
theorem uG{S:FS}{w:World}{d:t.den}{p:Addr}(h:rd S w t d cs):(A.rep (.mo (.pointer (some p)) cs t) d).holds S w (.pointer (some p)):=⟨[.pointer (some p)],⟨rfl,rfl,h⟩,rfl⟩
theorem kZ{p:Addr}{d:t.den}(ho:o.op= .nilCheck x):bo M o [(x,.rep (.mo (.pointer (some p)) cs t) d)] [] (fun _:Unit=>(.rep (.mo (.pointer (some p)) cs t) d,[])):=
 bo.val0 (hns:=fun S w a hN=>C6 ho (.inl ⟨_,(qh hN.1).1⟩)) fun S w a hN=>⟨a.eval x,by simp [execOp,ho,(qh hN.1).1],hN.1⟩
theorem gx{off f:Nat}{d:t.den}(ho:o.op= .fieldAddr TT x f)(hf:aU P TT f 0):bo M o [(x,.rep (.mo (.pointer (some ⟨b,off,none⟩)) cs t) d)] [] (fun _:Unit=>(.rep (.mo (.pointer (some ⟨b,off,none⟩)) cs t) d,[])):=
 bo.val0 (hns:=fun _ _ a _=>hf.nsx ho a.eval) fun S w a hN=>⟨a.eval x,by simp [execOp,ho,(qh hN.1).1,hf.run w b off],hN.1⟩
theorem ix{off f:Nat}{d:t.den}{z:u.den}(n:Nat)(g:Bool){ds:List Value}(ho:o.op= .fieldAddr TT x f)(hf:aU P TT f k)(hget:nS t d k n g=some ⟨u,z⟩)(hd:(cs.drop k).take n=ds):
 bo M o [(x,.rep (.mo (.pointer (some ⟨b,off,none⟩)) cs t) d)] [] (fun _:Unit=>(.rep (.mo (.pointer (some ⟨b,off+k,none⟩)) ds u) z,[])):=
 bo.val0 (hns:=fun _ _ a _=>hf.nsx ho a.eval) fun S w a hN=>by
  obtain⟨e,h3⟩:=qh hN.1
  obtain⟨q1,q2,q3,q4⟩:=pL t h3 hget
  rw [hd] at q1
  exact⟨.pointer (some ⟨b,off+k,none⟩),by simp [execOp,ho,e,hf.run w b off],uG q1⟩
theorem jj{c0:Value}{d:t.den}(ho:o.op= .load TT x)(ht:dY P TT 1 false)(hK:Kn M b k [c0])(hc:t.cells=1)(hag:t.isAgg=false):
 bo M o [(x,.rep (.mo (.pointer (some ⟨b,k,none⟩)) [c0] t) d)] [] (fun _:Unit=>(FG t d,[])):=by
 refine⟨by simp only [nd,ho],fun rd S v a next Q hd hN hO k'=>fun v1 hr hkf=>?_⟩
 have hd1:∀b,S b→b < v1.heap.size:=fun b hb=>Nat.lt_of_lt_of_le (hd b hb) hr.size
 have hN1:=bC.rely hd hO.sees hr hN
 have hO1:=hO.rely hd hr
 have e1:o.semAt rd a.eval=execOp a.eval o:=Oper.semAt_eq _ _ _ fun c e=>by rw [ho] at e;cases e
 rw [e1]
 have key:∃b' off' c T fz u,a.eval x= .pointer (some ⟨b',off',none⟩)∧v1.heap[b']? =some (.cells c T fz)∧off'+1≤c.size∧(c.toList.drop off').take 1=[u]∧(FG t d).holds S v1 u∧M.pk ⟨.cell ⟨b',off',none⟩,false,false⟩:=by
  obtain⟨e,h3⟩:=qh hN1.1;obtain⟨c,T,fz,g1,g2⟩:=hK.mem _ hkf;have l:((c.toList.drop k).take 1).length=1:=by rw [show(1:Nat)=[c0].length from rfl,g2]
  have hle:k+1≤c.size:=by
   simp only [List.length_take,List.length_drop,Array.length_toList] at l;omega
  have hh:=jp (t:=t) h3;rw [hag] at hh;exact⟨b,k,c,T,fz,c0,e,g1,hle,g2,hh,by have:=hK.pk 0 Nat.one_pos;simpa using this⟩
 obtain⟨b',off',c,T,fz,u,e,h2,hle,hu,hh,hs⟩:=key
 have hlv:(loadVar TT ⟨b',off',none⟩).run P v1= .ok u v1:=by
  rw [fJ ht (fun _=>rfl) h2 hle,hu];simp [mk]
 have hr1:(execOp a.eval o).run P v1= .ok (.value u) v1:=by simp [execOp,ho,e,Instr.loadAt,Instr.sureAddr,hlv]
 have hc1:v1.toWorld.cell? ⟨b',off',none⟩=some u:=by
  have hlt:off' < c.size:=by omega
  rw [List.drop_eq_getElem_cons (by simpa using hlt)] at hu;simp at hu;simp [World.cell?,h2,Array.getElem?_eq_getElem hlt,hu]
 have he:(execOp a.eval o).events P v1 #[]= #[⟨.cell ⟨b',off',none⟩,false,false⟩]:=by
  have h0:(isAgg TT).events P v1 #[]= #[]:=events_isAgg ..;simp [execOp,ho,e,Instr.loadAt,Instr.sureAddr,loadVar,ht.agg,hc1,h0,events_load]
 refine⟨?_,?_⟩
 ·
  unfold IQ;rw [hr1,he];refine⟨(eF.refl v1),fun ev hev=>?_⟩;simp at hev;subst hev;exact .inr hs
 ·
  rw [hr1];exact k' () S v1 u (bp.rely hd hr) hh hO1 fun b hb=>.inl hb
theorem wy{p:Value}{d:t.den}(ho:o.op= .move x):bo M o [(x,.rep (.mo p cs t) d)] [] (fun _:Unit=>(.eq p,[])):=
 bo.val0 fun S w a hN=>⟨a.eval x,by simp [execOp,ho],(qh hN.1).1⟩
theorem wA{c0:Value}(ho:o.op= .load TT x)(ht:dY P TT 1 false)(hK:Kn M b k [c0]):
 bo M o [(x,.eq (.pointer (some ⟨b,k,none⟩)))] [] (fun _:Unit=>(.eq c0,[])):=by
 refine⟨by simp only [nd,ho],fun rd S v a next Q hd hN hO k'=>fun v1 hr hkf=>?_⟩
 have hN1:=bC.rely hd hO.sees hr hN
 have hO1:=hO.rely hd hr
 have e1:o.semAt rd a.eval=execOp a.eval o:=Oper.semAt_eq _ _ _ fun c e=>by rw [ho] at e;cases e
 rw [e1]
 have e:a.eval x= .pointer (some ⟨b,k,none⟩):=hN1.1
 obtain⟨c,T,fz,h2,hu⟩:=hK.mem _ hkf
 have l:((c.toList.drop k).take 1).length=1:=by rw [show(1:Nat)=[c0].length from rfl,hu]
 have hle:k+1≤c.size:=by
  simp only [List.length_take,List.length_drop,Array.length_toList] at l;omega
 have hlv:(loadVar TT ⟨b,k,none⟩).run P v1= .ok c0 v1:=by
  rw [fJ ht (fun _=>rfl) h2 hle,show(1:Nat)=[c0].length from rfl,hu];simp [mk]
 have hr1:(execOp a.eval o).run P v1= .ok (.value c0) v1:=by simp [execOp,ho,e,Instr.loadAt,Instr.sureAddr,hlv]
 have hc1:v1.toWorld.cell? ⟨b,k,none⟩=some c0:=by
  have hlt:k < c.size:=by omega
  have hu:(c.toList.drop k).take 1=[c0]:=hu;rw [List.drop_eq_getElem_cons (by simpa using hlt)] at hu;simp at hu;simp [World.cell?,h2,Array.getElem?_eq_getElem hlt,hu]
 have he:(execOp a.eval o).events P v1 #[]= #[⟨.cell ⟨b,k,none⟩,false,false⟩]:=by
  have h0:(isAgg TT).events P v1 #[]= #[]:=events_isAgg ..;simp [execOp,ho,e,Instr.loadAt,Instr.sureAddr,loadVar,ht.agg,hc1,h0,events_load]
 refine⟨?_,?_⟩
 ·
  unfold IQ;rw [hr1,he];refine⟨(eF.refl v1),fun ev hev=>?_⟩;simp at hev;subst hev;exact .inr (by have:=hK.pk 0 Nat.one_pos;simpa using this)
 ·
  rw [hr1];exact k' () S v1 c0 (bp.rely hd hr) rfl hO1 fun b hb=>.inl hb
end
end K
end Go.Proofs.YtlmopgkkijhllaaGreat
set_option linter.unusedVariables false
namespace Go.Proofs.YtlmopgkkijhllaaGreat
namespace K
open Go
def J3{α:Type}:Int ⊕ α→Bool
 | .inl _=>true
 | .inr _=>false
def PS{α:Type}:Int ⊕ α→Int
 | .inl n=>n
 | .inr _=>0
def Uf{α:Type}:Int ⊕ List α→List α
 | .inl _=>[]
 | .inr l=>l
def Ix{α β:Type}(d:Int ⊕ α)(f:Int→β)(g:α→β):β:=match d with
 | .inl n=>f n
 | .inr l=>g l
section
variable {P:Program}{M:Md P}{o:Oper}{x y:Operand}{T T' t0 t1:TypeId}{t:Ty}
theorem Be{S:FS}{w:World}{d:Int ⊕ List t.den}{v:Value}(h:(A.rep (.pl t0 t1 (.slice t)) d).holds S w v):(∃n,d= .inl n∧v= .iface t0 (.agg #[.int .i64 n]))∨∃l s,d= .inr l∧v= .iface t1 (.agg #[s])∧rd S w (.slice t) l [s]:=by
 obtain⟨cs,h1,h2⟩:=h;cases d with
 |inl n=>
  have h1:cs=_:=h1;subst h1;exact .inl ⟨n,rfl,h2⟩
 |inr l=>
  obtain⟨s,h1,h3⟩:=h1;subst h1;exact .inr ⟨l,s,rfl,h2,h3⟩
theorem Kp{n:Int}{fs:Array Field}(ho:o.op= .makeInterface T x)(hT:P.underlying T=some (.struct fs)):bo M o [(x,.agg (.eq (.int .i64 n)))] [] (fun _:Unit=>(.rep (.pl T t1 (.slice t)) (.inl n),[])):=
 .val0 fun S w a hN=>by
  have e:a.eval x= .agg #[.int .i64 n]:=by
   obtain⟨cs,h1,h2⟩:=hN.1;simp_all [A.cells]
  exact⟨.iface T (.agg #[.int .i64 n]),by simp [execOp,ho,e,Instr.makeInterface,run_underlying hT],[.iface T (.agg #[.int .i64 n])],rfl,rfl⟩
theorem Ko{l:List t.den}{fs:Array Field}(ho:o.op= .makeInterface T x)(hT:P.underlying T=some (.struct fs)):bo M o [(x,.agg (.rep (.slice t) l))] [] (fun _:Unit=>(.rep (.pl t0 T (.slice t)) (.inr l),[])):=
 .val0 fun S w a hN=>by
  obtain⟨cs,h1,h2⟩:=hN.1
  have h1:rd S w (.slice t) l cs:=h1
  have hl:=aN (.slice t) h1
  obtain⟨s,rfl⟩:=List.length_eq_one_iff.1 hl
  have e:a.eval x= .agg #[s]:=h2
  exact⟨.iface T (.agg #[s]),by simp [execOp,ho,e,Instr.makeInterface,run_underlying hT],[.iface T (.agg #[s])],⟨s,rfl,h1⟩,rfl⟩
structure IM(P:Program)(T:TypeId)(z:Value):Prop where
 und:∃fs,P.underlying T=some (.struct fs)
 zero:∀w,(zeroValue T).run P w= .ok z w
theorem lM{u z:Value}(h:IM P T z)(w:World):(Instr.typeAssert (.iface t0 u) T' T true).run P w= .ok (.tuple #[if t0=T then u else z,.bool (decide (t0=T))]) w:=by
 obtain⟨fs,hu⟩:=h.und;unfold Instr.typeAssert;simp only [Sem.run_bind,run_underlying hu,Result.andThen_ok];by_cases e:t0=T
 ·simp [e]
 ·simp [e,h.zero]
theorem C3{d:Int ⊕ List t.den}(ho:o.op= .typeAssert x T' T true)(h:IM P T (.agg #[.int .i64 0]))(hne:T≠t1):
 bo M o [(x,.rep (.pl T t1 (.slice t)) d)] [] (fun _:Unit=>(.tup (.pair (.agg (.eq (.int .i64 (PS d)))) (.pair (.eq (.bool (J3 d))) .any)),[])):=
 .val0 fun S w a hN=>by
  rcases Be hN.1 with⟨n,rfl,e⟩ |⟨l,s,rfl,e,h3⟩
  ·
   exact⟨.tuple #[.agg #[.int .i64 n],.bool true],by simp [execOp,ho,e,lM h],[_,_],rfl,_,_,rfl,⟨[_],⟨rfl,rfl⟩,rfl⟩,_,_,rfl,rfl,rfl⟩
  ·
   exact⟨.tuple #[.agg #[.int .i64 0],.bool false],by simp [execOp,ho,e,lM h,hne.symm],[_,_],rfl,_,_,rfl,⟨[_],⟨rfl,rfl⟩,rfl⟩,_,_,rfl,rfl,rfl⟩
theorem Ku{d:Int ⊕ List t.den}(ho:o.op= .typeAssert x T' T true)(h:IM P T (.agg #[.slice none 0 0]))(hne:t0≠T):
 bo M o [(x,.rep (.pl t0 T (.slice t)) d)] [] (fun _:Unit=>(.tup (.pair (.agg (.rep (.slice t) (Uf d))) (.pair (.eq (.bool (!J3 d))) .any)),[])):=
 .val0 fun S w a hN=>by
  rcases Be hN.1 with⟨n,rfl,e⟩ |⟨l,s,rfl,e,h3⟩
  ·
   exact⟨.tuple #[.agg #[.slice none 0 0],.bool false],by simp [execOp,ho,e,lM h,hne],[_,_],rfl,_,_,rfl,⟨[.slice none 0 0],.inl ⟨none,0,rfl,rfl⟩,rfl⟩,_,_,rfl,rfl,rfl⟩
  ·
   exact⟨.tuple #[.agg #[s],.bool true],by simp [execOp,ho,e,lM h],[_,_],rfl,_,_,rfl,⟨[s],h3,rfl⟩,_,_,rfl,rfl,rfl⟩
def D7(P:Program)(T:TypeId)(name:String)(f:Nat):Prop:=∀u w,(callMethod (.iface T (.agg #[u])) name #[]).runT P w #[]=(.ok (.enter f #[.agg #[u]]) w, #[])
theorem Kq{f0 f1:Nat}{name:String}{d:Int ⊕ List t.den}{r:A}{c:Call}{ts:Array TypeId}(ho:o.op= .call c)(hc:c={ callee:=.invoke x name,args:= #[],argTypes:=ts })
 (h0:D7 P t0 name f0) (h1:D7 P t1 name f1) (hr0:∀n,d= .inl n→bQ M f0 [.agg (.eq (.int .i64 n))] [] (fun _:Unit=>(r,[]))) (hr1:∀l,d= .inr l→bQ M f1 [.agg (.rep (.slice t) l)] [] (fun _:Unit=>(r,[]))):bo M o [(x,.rep (.pl t0 t1 (.slice t)) d)] [] (fun _:Unit=>(r,[])):=by
 have hnd:nd o.op=true:=by simp only [nd, *]
 refine⟨hnd,fun ro S w a next Q hd hN hO k=>?_⟩
 rcases Be hN.1 with⟨n,e0,e1⟩ |⟨l,s,e0,e1,h3⟩
 ·
  have hrun:∀w:World,(execOp a.eval o).runT P w #[]=(.ok (.enter f0 #[.agg #[.int .i64 n]]) w, #[]):=fun w=>by
   have e2:(callMethod (a.eval x) name #[]).runT P w #[]=(.ok (.enter f0 #[.agg #[.int .i64 n]]) w, #[]):=by
    rw [e1];exact h0 _ _
   rw [←e2];simp [execOp,ho,hc,resolve,invoke]
  refine Aa hnd hrun fun v1 hrel=>?_;refine(hr0 n e0 .normal (fun e=>nomatch e) S v1 [.agg #[.int .i64 n]] (fun b hb=>Nat.lt_of_lt_of_le (hd b hb) hrel.size) ⟨_,_,rfl,⟨[_],⟨rfl,rfl⟩,rfl⟩,rfl⟩ (hO.rely hd hrel)).mono ?_;rintro e w' ⟨x,S',v,rfl,h1,h2,h3,h4⟩;exact k x S' w' v ((bp.rely hd hrel).trans h1 fun b hb=>.inl hb) h2 h3 fun b hb=>(h4 b hb).imp id (Nat.le_trans hrel.size)
 ·
  have hrun:∀w:World,(execOp a.eval o).runT P w #[]=(.ok (.enter f1 #[.agg #[s]]) w, #[]):=fun w=>by
   have e2:(callMethod (a.eval x) name #[]).runT P w #[]=(.ok (.enter f1 #[.agg #[s]]) w, #[]):=by
    rw [e1];exact h1 _ _
   rw [←e2];simp [execOp,ho,hc,resolve,invoke]
  refine Aa hnd hrun fun v1 hrel=>?_;have h3':rd S v1 (.slice t) l [s]:=dP (fun _ h=>h) (fp hd hO.sees hrel) (.slice t) h3;refine(hr1 l e0 .normal (fun e=>nomatch e) S v1 [.agg #[s]] (fun b hb=>Nat.lt_of_lt_of_le (hd b hb) hrel.size) ⟨_,_,rfl,⟨[s],h3',rfl⟩,rfl⟩ (hO.rely hd hrel)).mono ?_;rintro e w' ⟨x,S',v,rfl,h1,h2,h3,h4⟩;exact k x S' w' v ((bp.rely hd hrel).trans h1 fun b hb=>.inl hb) h2 h3 fun b hb=>(h4 b hb).imp id (Nat.le_trans hrel.size)
theorem bQ.agI{f:Nat}{n:Int}{Δ:List D}{X:Type}{R:X→A×List D}(h:de P f [.rep (.agg (.int .i64)) n] Δ R):bQ M f [.agg (.eq (.int .i64 n))] Δ R:=fun kk he S w vs hd h2 ho=>h M kk he S w vs hd (by
 obtain⟨v,vs',e,⟨cs,⟨g1,_⟩,g2⟩,h3⟩:=h2
 exact⟨v,vs',e,⟨cs,g1,g2⟩,h3⟩) ho
theorem bQ.agS{f:Nat}{l:List t.den}{Δ:List D}{X:Type}{R:X→A×List D}(h:de P f [.rep (.agg (.slice t)) l] Δ R):bQ M f [.agg (.rep (.slice t) l)] Δ R:=fun kk he S w vs hd h2 ho=>h M kk he S w vs hd (by
 obtain⟨v,vs',e,⟨cs,g1,g2⟩,h3⟩:=h2
 exact⟨v,vs',e,⟨cs,g1,g2⟩,h3⟩) ho
end
end K
