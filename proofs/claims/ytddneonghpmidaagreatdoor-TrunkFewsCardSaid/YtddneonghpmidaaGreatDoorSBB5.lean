import Derived.Test.YtddneonghpmidaaGreatDoorSBB4
import Derived.Conc.Holds
import Derived.ChangeSame
import Derived.ChangeSlices
import Derived.JoinedOf
import Derived.JoinedAt
import Derived.RowKit3
import Derived.SizedLaws
import Derived.Carry
import Derived.Laws.Externs
import Derived.Laws.OwnMore
import Derived.Conc.Events
import Derived.Lib.UnsafeStr
import Derived.Lib.Builder
import Derived.Lib.BytesEntry
import Derived.Lib.AppendStr
import Derived.Lib.MakeNoZero
set_option linter.unusedVariables false
set_option linter.unusedSimpArgs false
namespace Go.Proofs.YtddneonghpmidaaGreatDoor
namespace K
open Go Go.ChangeShapes Go.WideShapes Go.ChangeAt Go.RowKit
@[reducible] def vw(W:World):VW:=⟨W,fun _=>False,fun _=>False⟩
section
variable {H:Type}{enc:TypeId×Value→H}{P:Program}{M:Md P}
theorem HL{f:Func}{s:ChangeSpec}{apart fresh handsOn again:Bool}{W W':World}{args:Array Value}{v:Value}{ds gs:List (DataW H)}{before pa pv:List MemPlace}
 (hW:DataW.Whole enc P f.params.toList s.vars apart W args.toList ds gs before)
 (hres:∀(b:Nat) (sp:Nat→Bool) (hd:Bool),DataW.TrodAll enc P W' b sp hd f.resultTypes.toList (v.resultList f.resultTypes.size) (s.fn H (ds++gs)).results [])
 (hargs:∀sp:Nat→Bool,(∀p∈before,sp p.block=true)→DataW.TrodAll enc P W' 0 sp true f.params.toList args.toList (s.fn H (ds++gs)).args pa)
 (hvars:∀sp:Nat→Bool,(∀p∈before,sp p.block=true)→DataW.TrodVars enc P W' sp s.vars (s.fn H (ds++gs)).vars pv)
 (hps:before=pa++pv) (hk:W.keptBut W' (· ∈before)) (hfz:∀a:Addr,a.block < W.heap.size→W'.frozen? a=W.frozen? a)
 (hok:∀(j:Nat) (t:TypeId) (r:Value),f.resultTypes[j]? =some t→(v.resultList f.resultTypes.size)[j]? =some r→Value.okWide P W' .any 0 t r):
 s.post enc P f apart fresh handsOn again W args v W':=by
 have hlt:∀p∈before,p.block < W.heap.size:=fun p hp=>hW.lt p hp
 have hold:∀p∈before,(fun b=>decide (b < W.heap.size)) p.block=true:=fun p hp=>by simpa using hlt p hp
 refine⟨ds,gs,before,[],pa,pv,hW,hres _ _ _,hargs _ hold,hvars _ hold,World.keptBut_mono (fun p hp=>⟨hp,?_⟩) hk,fun _=>?_⟩
 ·
  rw [hps,List.mem_append] at hp;exact Or.inr hp
 ·
  obtain⟨_,_,_,_,_,hz,hn⟩:=hW;refine⟨hok,_,_,([]++pa)++pv,⟨[]++pa,pv,trodAll_append (hargs _ (fun _ _=>rfl)) (hres _ _ _),hvars _ (fun _ _=>rfl),rfl,?_,?_⟩,?_⟩
  ·intro b off hp;have hp':MemPlace.cell b off∈before:=by rw [hps];simpa using hp
   rw [hfz _ (hlt _ hp')];exact hz b off hp'
  ·intro ha;have:=hn ha;rw [hps] at this;simpa using this
  ·intro p hp _;rw [hps];simpa using hp
theorem FB{S S':FS}{W:World}{W':VW}{may:MemPlace→Prop}(h:bV (aE []) S (vw W) S' W'):W.keptBut W' may∧∀a:Addr,a.block < W.heap.size→W'.frozen? a=W.frozen? a:=by
 have hk:∀b,b < W.heap.size→W'.heap[b]? =W.heap[b]? :=fun b hb=>h.keep b hb (fun hx=>hx) (fun hx=>fw hx);refine⟨⟨h.os,h.output,fun i hi=>by rw [hk i hi];exact(World.keptBut_refl W may).2.2 i hi⟩,fun a ha=>?_⟩;unfold World.frozen?;rw [hk _ ha]
end
def MT(P:Program):Ty→TypeId ⊕ (List Field×Nat)→Prop
 | .int k,.inl T=>P.underlying T=some (.int k)
 | .bool,.inl T=>P.underlying T=some .bool
 | .str,.inl T=>P.underlying T=some .string
 | .slice t,.inl T=>∃e,P.underlying T=some (.slice e)∧P.cellsOf e=t.cells∧MT P t (.inl e)
 | .agg t,.inl T=>∃fs:Array Field,P.underlying T=some (.struct fs)∧P.cellsOf T=t.cells∧MT P t (.inr (fs.toList,0))
 | .pair t u,.inr (f::fs,off)=>f.offset=off∧P.cellsOf f.type=t.cells∧MT P t (.inl f.type)∧
  ((∃g,fs=[g]∧g.offset=off+t.cells∧P.cellsOf g.type=u.cells∧MT P u (.inl g.type))∨MT P u (.inr (fs,off+t.cells)))
 |_,_=>False
theorem MT.pos{P:Program}:∀(t:Ty) {s:TypeId ⊕ (List Field×Nat)},MT P t s→0 < t.cells
 | .int _,_,_=>by simp [Ty.cells]
 | .bool,_,_=>by simp [Ty.cells]
 | .slice _,_,_=>by simp [Ty.cells]
 | .agg t,.inl T,⟨_,_,_,h⟩=>MT.pos t h
 | .pair t u,.inr (f::fs,off),⟨_,_,h,_⟩=>by have:=MT.pos t h;simp only [Ty.cells];omega
 | .agg _,.inr _,h=>h.elim
 | .pair _ _,.inl _,h=>h.elim
 | .pair _ _,.inr ([],_),h=>h.elim
 | .val,.inl _,h=>h.elim
 | .val,.inr _,h=>h.elim
 | .arr _ _,.inl _,h=>h.elim
 | .arr _ _,.inr _,h=>h.elim
 | .ptr _,.inl _,h=>h.elim
 | .ptr _,.inr _,h=>h.elim
 | .tag _ _,.inl _,h=>h.elim
 | .tag _ _,.inr _,h=>h.elim
 | .ign,.inl _,h=>h.elim
 | .ign,.inr _,h=>h.elim
 | .alt _,.inl _,h=>h.elim
 | .alt _,.inr _,h=>h.elim
 | .lst _,.inl _,h=>h.elim
 | .lst _,.inr _,h=>h.elim
 | .str,_,_=>by simp [Ty.cells]
theorem add_mk{b off i:Nat}:Addr.add ⟨b,off,none⟩ i=⟨b,off+i,none⟩:=by
 unfold Addr.add;by_cases h:i=0
 ·subst h;simp
 ·simp [h]
theorem MY{a:Addr}{b off i:Nat}(h:a.add (0 * i)=⟨b,off,none⟩):a=⟨b,off,none⟩:=by
 unfold Addr.add at h;rwa [if_pos (Nat.zero_mul i)] at h
theorem ym{W:World}{base n:Nat}{a:Addr}{row:List Value}(hn:0 < n)(h:W.cells? base a n=some row):
 ∃b off c T fz,a=⟨b,off,none⟩∧W.heap[b]? =some (.cells c T fz)∧row=(c.toList.drop off).take n:=by
 unfold World.cells? at h
 split at h
 ·
  have hl:=mapM_some_length h;have hg:=mapM_some_get h;rw [List.length_range] at hl;have h0:=hg 0 0 (by simp [hn]);obtain⟨b,off,sp⟩:=a;rw [List.getElem?_eq_getElem (by omega)] at h0;unfold World.cell? at h0;split at h0
  ·rename_i c T fz hb;split at h0
   ·cases h0
   rename_i hsp
   have hsp':sp=none:=by cases sp with
    |none=>rfl
    |some x=>simp [Addr.add] at hsp
   subst hsp';have hb':W.heap[b]? =some (.cells c T fz):=hb;refine⟨b,off,c,T,fz,rfl,hb',?_⟩;apply List.ext_getElem?;intro i;by_cases hi:i < n
   ·have:=hg i i (by simp [hi]);rw [←this,List.getElem?_take,if_pos hi,List.getElem?_drop,Array.getElem?_toList];rw [add_mk];simp [World.cell?,hb']
   ·rw [List.getElem?_take,if_neg hi,List.getElem?_eq_none (by omega)]
  ·cases h0
 ·
  cases h
theorem Es{α:Type}{R:α→List Value→Prop}{m:Nat}{cl:List Value}:∀{len off:Nat},(∀i,i < len→∃d,R d ((cl.drop (off+i * m)).take m))→∃l:List α,l.length=len∧cM R l ((cl.drop off).take (len * m))
 |0,_,_=>⟨[],rfl,by simp [cM]⟩
 |len+1,off,h=>by
  obtain⟨d,hd⟩:=h 0 (by omega)
  obtain⟨l,hl,hr⟩:=Es (R:=R) (m:=m) (cl:=cl) (len:=len) (off:=off+m) (fun i hi=>by
   have:=h (i+1) (by omega)
   rwa [Nat.succ_mul,show off+(i * m+m)=off+m+i * m from by omega] at this)
  refine⟨d::l,by simp [hl],_,_,?_,hd,hr⟩
  rw [Nat.succ_mul,Nat.add_comm (len * m) m,List.take_add,List.drop_drop]
  simp
section
variable {H:Type}{enc:TypeId×Value→H}{P:Program}{M:Md P}
theorem C9{W:World}{S:FS}:∀(t:Ty),
 (∀T aS cs (x:DataW H×List MemPlace),MT P t (.inl T)→DataW.trod enc P W 0 (fun _=>true) true aS T cs=some x→(∀p∈x.2,S p.block)→∃d:t.den,rd S W t d cs)∧
 (∀(fs:List Field) (off n:Nat) (cs:List Value) (xs:List (DataW H×List MemPlace)),MT P t (.inr (fs,off))→cs.length=off+t.cells→xs.length=fs.length→
  (∀(i:Nat) f,fs[i]? =some f→DataW.trod enc P W 0 (fun _=>true) true n f.type ((cs.drop f.offset).take (P.cellsOf f.type))=xs[i]?)→(∀y∈xs,∀p∈y.2,S p.block)→∃d:t.den,rd S W t d (cs.drop off)):=by
 intro t
 induction t with
 |int k=>
  refine⟨fun T aS cs x hm h _=>?_,fun fs off n cs xs hm=>by cases fs <;> exact hm.elim⟩;obtain⟨n,rfl,_,_⟩:=DataW.trod_int hm h;exact⟨n,rfl⟩
 |bool=>
  refine⟨fun T aS cs x hm h _=>?_,fun fs off n cs xs hm=>by cases fs <;> exact hm.elim⟩;obtain⟨n,rfl,_⟩:=DataW.trod_bool hm h;exact⟨n,rfl⟩
 |slice t ih=>
  refine⟨fun T aS cs x hm h hS=>?_,fun fs off n cs xs hm=>by cases fs <;> exact hm.elim⟩;obtain⟨e,he,hce,hme⟩:=hm;have hpos:=MT.pos t hme;rcases DataW.trod_slice he h with⟨rfl,_⟩ |⟨a,len,cap,elems,rest,n,_,rfl,rfl,_,hl,_,hlen,hel,_,_⟩
  ·exact⟨[],.inl ⟨none,0,rfl,rfl⟩⟩
  ·cases len with
   |zero=>exact⟨[],.inl ⟨some a,cap,rfl,rfl⟩⟩
   |succ len=>
    rw [hce] at hel
    have row:∀i,i < len+1→∃r y,W.cells? 0 (a.add (i * t.cells)) t.cells=some r∧DataW.trod enc P W 0 (fun _=>true) true n e r=some y∧y∈elems:=fun i hi=>by
     have:=hel i hi;rw [List.getElem?_eq_getElem (by omega)] at this;obtain⟨r,e1,e2⟩:=Option.bind_eq_some_iff.1 this;exact⟨r,_,e1,e2,List.getElem_mem _⟩
    obtain⟨r0,y0,e0,_,_⟩:=row 0 (by omega);obtain⟨b,off,c,T',fz,ha,hb,_⟩:=ym hpos e0;have ha':=MY ha;subst ha'
    obtain⟨l,hl1,hl2⟩:=Es (R:=rd S W t) (m:=t.cells) (cl:=c.toList) (len:=len+1) (off:=off) (fun i hi=>by
     obtain⟨r,y,e1,e2,hy⟩:=row i hi;obtain⟨b',off',c',T2,fz',ha2,hb2,hr⟩:=ym hpos e1;rw [add_mk,Addr.mk.injEq] at ha2;obtain⟨rfl,rfl,_⟩:=ha2;rw [hb] at hb2;cases hb2;subst hr;exact ih.1 e n _ y hme e2 (fun p hp=>hS p (List.mem_append.2 (.inr (List.mem_flatMap.2 ⟨y,List.mem_append.2 (.inl hy),hp⟩)))))
    refine⟨l,.inr ⟨b,off,cap,c,T',fz,by rw [hl1],by rw [hl1];exact hl,?_,hb,by rw [hl1];exact hl2⟩⟩;have:=hS (.cell b (off+0)) (List.mem_append.2 (.inl (MemPlace.mem_row.2 ⟨0,Nat.mul_pos (by omega) (by omega),rfl⟩)));exact this
 |agg t ih=>
  refine⟨fun T aS cs x hm h hS=>?_,fun fs off n cs xs hm=>by cases fs <;> exact hm.elim⟩;obtain⟨fs,hf,hc,hmf⟩:=hm;obtain⟨xs,n,_,rfl,hl,hxl,hx⟩:=DataW.trod_struct hf h;obtain⟨d,hd⟩:=ih.2 fs.toList 0 n cs xs hmf (by omega) (by simpa using hxl) (fun i f hi=>hx i f (by simpa using hi)) (fun y hy p hp=>hS p (List.mem_flatMap.2 ⟨y,hy,hp⟩));exact⟨d,by simpa [rd] using hd⟩
 |pair t u iht ihu=>
  refine⟨fun T aS cs x hm=>hm.elim,fun fs off n cs xs hm hl hxl hx hS=>?_⟩;cases fs with
  |nil=>exact hm.elim
  |cons f fs=>
   obtain⟨h1,h2,h3,h4⟩:=hm;simp only [Ty.cells] at hl;cases xs with
   |nil=>simp at hxl
   |cons y ys=>
    have e0:=hx 0 f rfl;rw [h1,h2] at e0;obtain⟨d1,hd1⟩:=iht.1 f.type n _ y h3 e0 (hS y (by simp))
    have hrest:∃d:u.den,rd S W u d (cs.drop (off+t.cells)):=by
     rcases h4 with⟨g,rfl,g1,g2,g3⟩ |h4
     ·cases ys with
      |nil=>simp at hxl
      |cons z zs=>
       have e1:=hx 1 g rfl;rw [g1,g2] at e1;obtain⟨d2,hd2⟩:=ihu.1 g.type n _ z g3 e1 (hS z (by simp));rw [List.take_of_length_le (by rw [List.length_drop];omega)] at hd2;exact⟨d2,hd2⟩
     ·exact ihu.2 fs (off+t.cells) n cs ys h4 (by omega) (by simpa using hxl) (fun i g hi=>hx (i+1) g hi) (fun z hz=>hS z (by simp [hz]))
    obtain⟨d2,hd2⟩:=hrest;refine⟨(d1,d2),_,_,?_,hd1,hd2⟩;rw [←List.drop_drop,List.take_append_drop]
 |val=>exact⟨fun T aS cs x hm=>hm.elim,fun fs off n cs xs hm=>by cases fs <;> exact hm.elim⟩
 |arr _ _ _=>exact⟨fun T aS cs x hm=>hm.elim,fun fs off n cs xs hm=>by cases fs <;> exact hm.elim⟩
 |ptr _ _=>exact⟨fun T aS cs x hm=>hm.elim,fun fs off n cs xs hm=>by cases fs <;> exact hm.elim⟩
 |tag _ _=>exact⟨fun T aS cs x hm=>hm.elim,fun fs off n cs xs hm=>by cases fs <;> exact hm.elim⟩
 |ign=>exact⟨fun T aS cs x hm=>hm.elim,fun fs off n cs xs hm=>by cases fs <;> exact hm.elim⟩
 |alt _ _=>exact⟨fun T aS cs x hm=>hm.elim,fun fs off n cs xs hm=>by cases fs <;> exact hm.elim⟩
 |lst _ _=>exact⟨fun T aS cs x hm=>hm.elim,fun fs off n cs xs hm=>by cases fs <;> exact hm.elim⟩
 |str=>
  refine⟨fun T aS cs x hm h _=>?_,fun fs off n cs xs hm=>by cases fs <;> exact hm.elim⟩;obtain⟨s,rfl,_,_⟩:=DataW.trod_string hm h;exact⟨s,rfl⟩
theorem IY{W:World}{S:FS}{base:Nat}{t:Ty}{T:TypeId}{v:Value}{d:t.den}(hm:MT P t (.inl T))(hv:Value.okWide P W .any base T v)(h:rd S W t d v.cells.toList):(A.rep t d).holds S W v:=by
 refine⟨_,h,?_⟩;cases t with
 |int k=>obtain⟨n,rfl⟩:=okWide_int hm hv;rfl
 |bool=>obtain⟨n,rfl⟩:=okWide_bool hm hv;rfl
 |slice t=>obtain⟨e,he,_⟩:=hm;obtain⟨a,l,c,rfl⟩:=okWide_slice he hv;rfl
 |agg t=>obtain⟨fs,hf,_⟩:=hm;obtain⟨cs,rfl,_⟩:=okWide_struct hf hv;simp [mk,Ty.isAgg,Value.cells]
 |val=>exact hm.elim
 |pair _ _=>exact hm.elim
 |arr _ _=>exact hm.elim
 |ptr _=>exact hm.elim
 |tag _ _=>exact hm.elim
 |ign=>exact hm.elim
 |alt _=>exact hm.elim
 |lst _=>exact hm.elim
 |str=>obtain⟨s,rfl⟩:=okWide_string hm hv;rfl
theorem Ae{W:World}{sp:Nat→Bool}:∀{ts:List TypeId} {vs:List Value} {ds:List (DataW H)} {ps:List MemPlace},DataW.TrodAll enc P W 0 sp true ts vs ds ps→ds.length=ts.length
 |[],[],[],_,_=>rfl
 |_::_,_::_,_::_,_,h=>by
  obtain⟨q,r,h1,h2,_⟩:=h
  simp [Ae h2]
 |[],_::_,_,_,h=>h.elim
 |[],[],_::_,_,h=>h.elim
 |_::_,[],_,_,h=>h.elim
 |_::_,_::_,[],_,h=>h.elim
def Lk:List (TypeId×Ty)→List A→Prop
 |[],as=>as=[]
 |p::l,as=>∃d as',as= .rep p.2 d::as'∧Lk l as'
theorem EW{W:World}{S:FS}{base:Nat}:∀{ts:List (TypeId×Ty)} {vs:List Value} {ds:List (DataW H)} {ps:List MemPlace},(∀p∈ts,MT P p.2 (.inl p.1))→(∀(j:Nat) t v,(ts.map (·.1))[j]? =some t→vs[j]? =some v→Value.okWide P W .any base t v)→
 DataW.TrodAll enc P W 0 (fun _=>true) true (ts.map (·.1)) vs ds ps→(∀p∈ps,S p.block)→∃as,Lk ts as∧gr S W as vs
 |[],[],[],_,_,_,_,_=>⟨[],rfl,rfl⟩
 |p::ts,v::vs,d::ds,ps,hm,hv,h,hS=>by
  obtain⟨q,r,⟨aS,h1⟩,h2,rfl⟩:=h
  obtain⟨a,ha⟩:=(C9 p.2).1 p.1 aS _ _ (hm p (by simp)) h1 (fun x hx=>hS x (List.mem_append.2 (.inl hx)))
  obtain⟨as,hl,h3⟩:=EW (ts:=ts) (fun x hx=>hm x (by simp [hx])) (fun j t w h h'=>hv (j+1) t w h h') h2 (fun x hx=>hS x (List.mem_append.2 (.inr hx)))
  exact⟨.rep p.2 a::as,⟨a,as,rfl,hl⟩,v,vs,rfl,IY (hm p (by simp)) (hv 0 _ _ rfl rfl) ha,h3⟩
 |[],_::_,_,_,_,_,h,_=>h.elim
 |[],[],_::_,_,_,_,h,_=>h.elim
 |_::_,[],_,_,_,_,h,_=>h.elim
 |_::_,_::_,[],_,_,_,h,_=>h.elim
theorem BJ(laid:laidOutB P=true){W W':World}{sp:Nat→Bool}(hk:∀b,b < W.heap.size→W'.heap[b]? =W.heap[b]?):∀{ts:List TypeId} {vs:List Value} {ds:List (DataW H)} {ps:List MemPlace},(∀T∈ts,P.readableRec T=true∧T < P.types.size)→
 DataW.TrodAll enc P W 0 (fun _=>true) true ts vs ds ps→(∀p∈ps,p.block < W.heap.size∧sp p.block=true)→DataW.TrodAll enc P W' 0 sp true ts vs ds ps
 |[],[],[],_,_,h,_=>h
 |T::ts,v::vs,d::ds,ps,hT,h,hp=>by
  obtain⟨q,r,h1,h2,rfl⟩:=h
  obtain⟨t1,t2⟩:=hT T (by simp)
  refine⟨q,r,WideElems.Trod_stays laid t1 t2 h1 (fun p hq=>?_) (fun p hq=>(hp p (List.mem_append.2 (.inl hq))).2),BJ laid hk (fun x hx=>hT x (by simp [hx])) h2 (fun p hq=>hp p (List.mem_append.2 (.inr hq))),rfl⟩
  have hb:=hk _ (hp p (List.mem_append.2 (.inl hq))).1
  cases p with
  |cell b off=>have hb:W'.heap[b]? =W.heap[b]? :=hb;simp only [World.sameAt,World.cell?,hb]
  |map b=>exact hb
 |[],_::_,_,_,_,h,_=>h.elim
 |[],[],_::_,_,_,h,_=>h.elim
 |_::_,[],_,_,_,h,_=>h.elim
 |_::_,_::_,[],_,_,h,_=>h.elim
end
end K
end Go.Proofs.YtddneonghpmidaaGreatDoor
namespace Go.Proofs.YtddneonghpmidaaGreatDoor
namespace K
open Go
section
variable {c:Cx}{ops:Array Oper}{l:List Oper}{Q:Exit→Act→VW→Prop}{Γ:Ga}{Δ:List D}{r:A}{d s j:Nat}{C':Code}{o oj:Oper}{b g:Bool}{x y z:Operand}
theorem nt(h:JC c C' Q Γ Δ):JO c ops [] (cE (C'.wk c.M c.rd Q) Q) Γ Δ:=ax (ag h)
theorem sr{id:Nat}{l:List Oper}(h:JO c l.toArray l (cE (C'.wk c.M c.rd Q) Q) Γ Δ):JC c (.seq (.region id l.toArray false) C') Q Γ Δ:=ar (ab h)
theorem sk(h:JC c C' Q Γ Δ):JC c .skip (cE (C'.wk c.M c.rd Q) Q) Γ Δ:=cT (ag h)
theorem tn(h:JC c C' Q Γ Δ):JN c (cE (C'.wk c.M c.rd Q) Q .normal) Γ Δ:=ag h
theorem fr(k:Nat){e:D}(hj:JO c ops l Q Γ (e::Δ.eraseIdx k))(h:Δ[k]? =some e:=by exact rfl):JO c ops l Q Γ Δ:=bI k h hj
section
variable {C1 C2:Code}{p:Prop}[Decidable p]{α β:Type}{X Y:Option α}{K:α→Option β}{v:β}
theorem ci(h:(if p then X else Y).bind K=some v)(ht:X.bind K=some v→JC c C1 Q Γ Δ)(hf:Y.bind K=some v→JC c C2 Q Γ Δ)(hl:lk Γ s=some (.eq (.bool (decide p))):=by exact rfl):JC c (.cond (.tmp s) C1 C2) Q Γ Δ:=bK hl (fun hb=>ht (cF (oe hb) h)) (fun hb=>hf (bM (nr hb) h))
theorem cn(h:(if¬p then X else Y).bind K=some v)(ht:X.bind K=some v→JC c C1 Q Γ Δ)(hf:Y.bind K=some v→JC c C2 Q Γ Δ)(hl:lk Γ s=some (.eq (.bool (!decide p))):=by exact rfl):JC c (.cond (.tmp s) C1 C2) Q Γ Δ:=bK hl (fun hb=>ht (cF (NG hb) h)) (fun hb=>hf (bM (A2 hb) h))
theorem cv(h:(if b=true then X else Y).bind K=some v)(ht:X.bind K=some v→JC c C1 Q Γ Δ)(hf:Y.bind K=some v→JC c C2 Q Γ Δ)(hl:lk Γ s=some (.eq (.bool b)):=by exact rfl):JC c (.cond (.tmp s) C1 C2) Q Γ Δ:=bK hl (fun hb=>ht (cF (CE hb) h)) (fun hb=>hf (bM (CG hb) h))
theorem cw(h:(if¬(b=true) then X else Y).bind K=some v)(ht:X.bind K=some v→JC c C1 Q Γ Δ)(hf:Y.bind K=some v→JC c C2 Q Γ Δ)(hl:lk Γ s=some (.eq (.bool (!b))):=by exact rfl):JC c (.cond (.tmp s) C1 C2) Q Γ Δ:=bK hl (fun hb=>ht (cF (Dq hb) h)) (fun hb=>hf (bM (wj hb) h))
end
theorem mq{t:Nat}{ty:TypeId}{pos:String}{af:Array Edge}(h:JO c ops l Q ((d,r)::Γ) Δ)(hdN:Nat.blt d c.N=true:=by exact rfl)(hl:lk Γ t=some r:=by exact rfl):JO c ops (⟨some d,.move (.tmp t),ty,pos,af,none⟩::l) Q Γ Δ:=aC hdN hl h
theorem aq{t:Nat}{ty:TypeId}{pos:String}{af:Array Edge}(h:JO c ops l Q ((d,r)::Γ) Δ)(hdN:Nat.blt d c.N=true:=by exact rfl)(hl:lk Γ t=some r:=by exact rfl):JO c ops (⟨some d,.assign (.tmp t),ty,pos,af,none⟩::l) Q Γ Δ:=dk hdN hl h
theorem gn(h:JO c ops l Q ((d,.eq undef)::Γ) Δ)(hg:o.guard=some (j,g):=by exact rfl)(hj:ops[j]? =some oj:=by exact rfl)(hs:oj.dst=some s:=by exact rfl)(hl:lk Γ s=some (.eq (.bool b)):=by exact rfl)(hb:(b == g)=false:=by exact rfl)(hd:o.dst=some d:=by exact rfl)(hdN:Nat.blt d c.N=true:=by exact rfl):JO c ops (o::l) Q Γ Δ:=zK hg hj hs hl hb hd hdN h
theorem cq{v:Value}{ty:TypeId}{pos:String}{af:Array Edge}(h:JO c ops l Q ((d,.eq v)::Γ) Δ)(hdN:Nat.blt d c.N=true:=by exact rfl):JO c ops (⟨some d,.assign (.const v),ty,pos,af,none⟩::l) Q Γ Δ:=dJ hdN h
theorem pf{ty:TypeId}{pos:String}{af:Array Edge}(h:JO c ops l Q ((d,r)::Γ) Δ)(hdN:Nat.blt d c.N=true:=by exact rfl)(hh:fo Γ [(x,.eq (.bool false)),(z,r)]:=by exact⟨rfl,rfl,trivial⟩):JO c ops (⟨some d,.pick x y z,ty,pos,af,none⟩::l) Q Γ Δ:=aF hdN (ll rfl) hh h
theorem pt{ty:TypeId}{pos:String}{af:Array Edge}(h:JO c ops l Q ((d,r)::Γ) Δ)(hdN:Nat.blt d c.N=true:=by exact rfl)(hh:fo Γ [(x,.eq (.bool true)),(y,r)]:=by exact⟨rfl,rfl,trivial⟩):JO c ops (⟨some d,.pick x y z,ty,pos,af,none⟩::l) Q Γ Δ:=aF hdN (lj rfl) hh h
theorem gm(h:JO c ops l Q ((d,r)::Γ) Δ)(hg:o.guard=some (j,g):=by exact rfl)(hj:ops[j]? =some oj:=by exact rfl)(hs:oj.dst=some s:=by exact rfl)(hl:lk Γ s=some (.eq (.bool g)):=by exact rfl)(hd:o.dst=some d:=by exact rfl)(hdN:Nat.blt d c.N=true:=by exact rfl)(ho:o.op= .move x:=by exact rfl)(hh:fo Γ [(x,r)]:=by exact⟨rfl,trivial⟩):JO c ops (o::l) Q Γ Δ:=nv hg hj hs hl hd hdN (aN ho) hh h
theorem ja{N:List (Operand×A)}{op:Op}{ty:TypeId}{pos:String}{af:Array Edge}(ht:bG c.M ⟨some d,op,ty,pos,af,none⟩ N [] (fun _:Unit=>(r,[])))(h:JO c ops l Q ((d,r)::Γ) Δ)(hdN:Nat.blt d c.N=true:=by exact rfl)(hh:fo Γ N:=by exact⟨rfl,trivial⟩):JO c ops (⟨some d,op,ty,pos,af,none⟩::l) Q Γ Δ:=aF hdN ht hh h
theorem ka{N:List (Operand×A)}{F:List D}{e e':D}(ht:bG c.M o N [e] (fun _:Unit=>(r,[e'])))(h:JO c ops l Q ((d,r)::Γ) (e'::F))(hg:o.guard=none:=by exact rfl)(hd:o.dst=some d:=by exact rfl)(hdN:Nat.blt d c.N=true:=by exact rfl)(hh:fo Γ N:=by exact⟨rfl,trivial⟩):JO c ops (o::l) Q Γ (e::F):=bX hg hd hdN ht hh h
theorem ga{N:List (Operand×A)}(ht:bG c.M o N [] (fun _:Unit=>(r,[])))(h:JO c ops l Q ((d,r)::Γ) Δ)(hg:o.guard=some (j,g):=by exact rfl)(hj:ops[j]? =some oj:=by exact rfl)(hs:oj.dst=some s:=by exact rfl)(hl:lk Γ s=some (.eq (.bool g)):=by exact rfl)(hd:o.dst=some d:=by exact rfl)(hdN:Nat.blt d c.N=true:=by exact rfl)(hh:fo Γ N:=by exact⟨rfl,trivial⟩):JO c ops (o::l) Q Γ Δ:=nv hg hj hs hl hd hdN ht hh h
theorem jb{N:List (Operand×A)}{op:Op}{ty:TypeId}{pos:String}{af:Array Edge}(ht:bG c.M ⟨some d,op,ty,pos,af,none⟩ N [] (fun _:Unit=>(r,[])))(h:JO c ops l Q ((d,r)::Γ) Δ)(hdN:Nat.blt d c.N=true:=by exact rfl)(hh:fo Γ N:=by exact⟨rfl,rfl,trivial⟩):JO c ops (⟨some d,op,ty,pos,af,none⟩::l) Q Γ Δ:=aF hdN ht hh h
theorem kb{N:List (Operand×A)}{F:List D}{e e':D}(ht:bG c.M o N [e] (fun _:Unit=>(r,[e'])))(h:JO c ops l Q ((d,r)::Γ) (e'::F))(hg:o.guard=none:=by exact rfl)(hd:o.dst=some d:=by exact rfl)(hdN:Nat.blt d c.N=true:=by exact rfl)(hh:fo Γ N:=by exact⟨rfl,rfl,trivial⟩):JO c ops (o::l) Q Γ (e::F):=bX hg hd hdN ht hh h
theorem gb{N:List (Operand×A)}(ht:bG c.M o N [] (fun _:Unit=>(r,[])))(h:JO c ops l Q ((d,r)::Γ) Δ)(hg:o.guard=some (j,g):=by exact rfl)(hj:ops[j]? =some oj:=by exact rfl)(hs:oj.dst=some s:=by exact rfl)(hl:lk Γ s=some (.eq (.bool g)):=by exact rfl)(hd:o.dst=some d:=by exact rfl)(hdN:Nat.blt d c.N=true:=by exact rfl)(hh:fo Γ N:=by exact⟨rfl,rfl,trivial⟩):JO c ops (o::l) Q Γ Δ:=nv hg hj hs hl hd hdN ht hh h
theorem jc{N:List (Operand×A)}{op:Op}{ty:TypeId}{pos:String}{af:Array Edge}(ht:bG c.M ⟨some d,op,ty,pos,af,none⟩ N [] (fun _:Unit=>(r,[])))(h:JO c ops l Q ((d,r)::Γ) Δ)(hdN:Nat.blt d c.N=true:=by exact rfl)(hh:fo Γ N:=by exact⟨rfl,rfl,rfl,trivial⟩):JO c ops (⟨some d,op,ty,pos,af,none⟩::l) Q Γ Δ:=aF hdN ht hh h
theorem kc{N:List (Operand×A)}{F:List D}{e e':D}(ht:bG c.M o N [e] (fun _:Unit=>(r,[e'])))(h:JO c ops l Q ((d,r)::Γ) (e'::F))(hg:o.guard=none:=by exact rfl)(hd:o.dst=some d:=by exact rfl)(hdN:Nat.blt d c.N=true:=by exact rfl)(hh:fo Γ N:=by exact⟨rfl,rfl,rfl,trivial⟩):JO c ops (o::l) Q Γ (e::F):=bX hg hd hdN ht hh h
theorem gc{N:List (Operand×A)}(ht:bG c.M o N [] (fun _:Unit=>(r,[])))(h:JO c ops l Q ((d,r)::Γ) Δ)(hg:o.guard=some (j,g):=by exact rfl)(hj:ops[j]? =some oj:=by exact rfl)(hs:oj.dst=some s:=by exact rfl)(hl:lk Γ s=some (.eq (.bool g)):=by exact rfl)(hd:o.dst=some d:=by exact rfl)(hdN:Nat.blt d c.N=true:=by exact rfl)(hh:fo Γ N:=by exact⟨rfl,rfl,rfl,trivial⟩):JO c ops (o::l) Q Γ Δ:=nv hg hj hs hl hd hdN ht hh h
end
section
variable {c:Cx}{Q:Exit→Act→VW→Prop}{Γ Γ0:Ga}{Δ:List D}{full l:List Oper}{acc:List DE}{id d j s:Nat}{r:A}{g b m:Bool}{o oj:Oper}{x:Operand}
theorem dg(h:DN c id full Q Γ0 Δ (acc++[⟨o,d,[(.tmp s,.eq (.bool b))],.eq undef,none,false,fun _=>[]⟩]) l ((d,.eq undef)::Γ) m)(hg:o.guard=some (j,g):=by exact rfl)(hj:full.toArray[j]? =some oj:=by exact rfl)(hs:oj.dst=some s:=by exact rfl)(hl:lk Γ s=some (.eq (.bool b)):=by exact rfl)(hb:(b == g)=false:=by exact rfl)(hd:o.dst=some d:=by exact rfl)(hdN:Nat.blt d c.N=true:=by exact rfl):DN c id full Q Γ0 Δ acc (o::l) Γ m:=Nj hg hj hs hl hb hd hdN h
theorem dm(h:DN c id full Q Γ0 Δ (acc++[⟨o,d,[(x,r)],r,none,false,fun _=>[]⟩]) l ((d,r)::Γ) m)(hg:o.guard=none:=by exact rfl)(hd:o.dst=some d:=by exact rfl)(hdN:Nat.blt d c.N=true:=by exact rfl)(ho:o.op= .move x:=by exact rfl)(hh:fo Γ [(x,r)]:=by exact⟨rfl,trivial⟩):DN c id full Q Γ0 Δ acc (o::l) Γ m:=dt hg hd hdN (aN ho) hh h
theorem da{N:List (Operand×A)}(ht:bG c.M o N [] (fun _:Unit=>(r,[])))(h:DN c id full Q Γ0 Δ (acc++[⟨o,d,N,r,none,false,fun _=>[]⟩]) l ((d,r)::Γ) m)(hg:o.guard=none:=by exact rfl)(hd:o.dst=some d:=by exact rfl)(hdN:Nat.blt d c.N=true:=by exact rfl)(hh:fo Γ N:=by exact⟨rfl,trivial⟩):DN c id full Q Γ0 Δ acc (o::l) Γ m:=dt hg hd hdN ht hh h
theorem ea(k:Nat){e:D}{N:List (Operand×A)}(ht:bG c.M o N [e] (fun _:Unit=>(r,[e])))(h:DN c id full Q Γ0 Δ (acc++[⟨o,d,N,r,some (k,false),false,fun _=>[]⟩]) l ((d,r)::Γ) m)(hk:Δ[k]? =some e:=by exact rfl)(hg:o.guard=none:=by exact rfl)(hd:o.dst=some d:=by exact rfl)(hdN:Nat.blt d c.N=true:=by exact rfl)(hh:fo Γ N:=by exact⟨rfl,trivial⟩):DN c id full Q Γ0 Δ acc (o::l) Γ m:=o0 k hk hg hd hdN ht hh h
theorem db{N:List (Operand×A)}(ht:bG c.M o N [] (fun _:Unit=>(r,[])))(h:DN c id full Q Γ0 Δ (acc++[⟨o,d,N,r,none,false,fun _=>[]⟩]) l ((d,r)::Γ) m)(hg:o.guard=none:=by exact rfl)(hd:o.dst=some d:=by exact rfl)(hdN:Nat.blt d c.N=true:=by exact rfl)(hh:fo Γ N:=by exact⟨rfl,rfl,trivial⟩):DN c id full Q Γ0 Δ acc (o::l) Γ m:=dt hg hd hdN ht hh h
theorem eb(k:Nat){e:D}{N:List (Operand×A)}(ht:bG c.M o N [e] (fun _:Unit=>(r,[e])))(h:DN c id full Q Γ0 Δ (acc++[⟨o,d,N,r,some (k,false),false,fun _=>[]⟩]) l ((d,r)::Γ) m)(hk:Δ[k]? =some e:=by exact rfl)(hg:o.guard=none:=by exact rfl)(hd:o.dst=some d:=by exact rfl)(hdN:Nat.blt d c.N=true:=by exact rfl)(hh:fo Γ N:=by exact⟨rfl,rfl,trivial⟩):DN c id full Q Γ0 Δ acc (o::l) Γ m:=o0 k hk hg hd hdN ht hh h
theorem dc{N:List (Operand×A)}(ht:bG c.M o N [] (fun _:Unit=>(r,[])))(h:DN c id full Q Γ0 Δ (acc++[⟨o,d,N,r,none,false,fun _=>[]⟩]) l ((d,r)::Γ) m)(hg:o.guard=none:=by exact rfl)(hd:o.dst=some d:=by exact rfl)(hdN:Nat.blt d c.N=true:=by exact rfl)(hh:fo Γ N:=by exact⟨rfl,rfl,rfl,trivial⟩):DN c id full Q Γ0 Δ acc (o::l) Γ m:=dt hg hd hdN ht hh h
theorem ec(k:Nat){e:D}{N:List (Operand×A)}(ht:bG c.M o N [e] (fun _:Unit=>(r,[e])))(h:DN c id full Q Γ0 Δ (acc++[⟨o,d,N,r,some (k,false),false,fun _=>[]⟩]) l ((d,r)::Γ) m)(hk:Δ[k]? =some e:=by exact rfl)(hg:o.guard=none:=by exact rfl)(hd:o.dst=some d:=by exact rfl)(hdN:Nat.blt d c.N=true:=by exact rfl)(hh:fo Γ N:=by exact⟨rfl,rfl,rfl,trivial⟩):DN c id full Q Γ0 Δ acc (o::l) Γ m:=o0 k hk hg hd hdN ht hh h
theorem Nn{Δ':List D}(hck:chk full acc=true)(hm:c.P.follows .mixedOrders=true)(hΔ:qe.keepFrom acc 0 Δ++na acc=Δ')(h:JO c full.toArray l Q Γ Δ'):DN c id full Q Γ0 Δ acc l Γ m:=Nl hck hm (hΔ▸h)
end
abbrev I(e:Int):A:=.eq (.int .i64 e)
abbrev Pt(b:Nat):A:=.eq (.pointer (some ⟨b,0,none⟩))
abbrev Ri(l:(Ty.slice (.int .i64)).den):A:=.rep (.slice (.int .i64)) l
section
variable {c:Cx}{ops:Array Oper}{l:List Oper}{Q:Exit→Act→VW→Prop}{Γ:Ga}{Δ F:List D}{r:A}{d s j:Nat}{C C':Code}{o oj:Oper}{b g m:Bool}{x y z:Operand}{T U:TypeId}{M M1 M2 M3:Act→VW→Prop}{id:Nat}{acc:List DE}{full:List Oper}{Γ0:Ga}
theorem jz{Z:Type}{G:Z→Ga}{E:Z→List D}{p:Z→Prop}(z:Z)(hp:p z)(ks:List Nat)(hs:Ky (G z) Γ:=by repeat (first |exact trivial |refine⟨rfl,?_⟩))(hk:g7 Δ ks=some (E z):=by exact rfl)(hn:ks.Nodup:=by decide):JN c (fun a w=>∃z,p z∧St c (G z) (E z) a w) Γ Δ:=jm z hp (SE.fin ks hs hk hn)
theorem nl(h:JN c M Γ Δ):JO c ops [] (cE M Q) Γ Δ:=ax (ag h)
theorem rx(h:JN c (Q .ret) Γ Δ):JC c .ret (cE M Q) Γ Δ:=bJ (eJ h)
theorem br(h:JN c (Q .ret) Γ Δ):JN c (ny id (cE M (cE M1 Q)) .ret) Γ Δ:=mL (eJ (eJ h))
theorem bn(h:JN c M Γ Δ):JN c (ny id (cE M Q) .normal) Γ Δ:=bT (ag h)
theorem gu(h:JO c ops l Q ((d,.eq undef)::Γ) Δ)(hg:o.guard=some (j,g):=by exact rfl)(hj:ops[j]? =some oj:=by exact rfl)(hs:oj.dst=some s:=by exact rfl)(hl:lk Γ s=some (.eq undef):=by exact rfl)(hd:o.dst=some d:=by exact rfl)(hdN:Nat.blt d c.N=true:=by exact rfl):JO c ops (o::l) Q Γ Δ:=Nb hg hj hs hl hd hdN h
theorem df(hm:c.P.follows .mixedOrders=true)(h:JO c full.toArray l Q Γ Δ)(hck:chk full acc=true:=by kernel_rfl)(ht:m=true:=by rfl):DN c id full Q Γ0 Δ acc l Γ m:=uD hck hm h ht
theorem bx(h:∀b:Nat,JO c ops l Q ((d,.eq (.pointer (some ⟨b,0,none⟩)))::Γ) (.obj b T r::Δ))(hg:o.guard=none:=by exact rfl)(hd:o.dst=some d:=by exact rfl)(hdN:Nat.blt d c.N=true:=by exact rfl)(ho:o.op= .box T x:=by exact rfl)(hh:fo Γ [(x,r)]:=by exact⟨rfl,trivial⟩)(hs:r.stor:=by exact rfl):JO c ops (o::l) Q Γ Δ:=aD hg hd hdN (pi ho hs) hh h
theorem lo{k off n:Nat}{T0:TypeId}{a0:A}(ht:dM c.P T n b)(h:JO c ops l Q ((d,r)::Γ) (.obj k T0 a0::F))(hg:o.guard=none:=by exact rfl)(hd:o.dst=some d:=by exact rfl)(hdN:Nat.blt d c.N=true:=by exact rfl)(ho:o.op= .load T x:=by exact rfl)(hh:fo Γ [(x,.eq (.pointer (some ⟨k,off,none⟩)))]:=by exact⟨rfl,trivial⟩)(hget:a0.get off n b=some r:=by exact rfl)(hn:b=false→n=1:=by first |exact fun _=>rfl |exact fun h=>nomatch h):JO c ops (o::l) Q Γ (.obj k T0 a0::F):=bX hg hd hdN (ah ho ht hn hget) hh h
theorem fl{k off n f:Nat}{ty:TypeId}{pos:String}{af:Array Edge}(hf:aZ c.P T f n)(h:JO c ops l Q ((d,.eq (.pointer (some ⟨k,off+n,none⟩)))::Γ) Δ)(hdN:Nat.blt d c.N=true:=by exact rfl)(hh:fo Γ [(x,.eq (.pointer (some ⟨k,off,none⟩)))]:=by exact⟨rfl,trivial⟩):JO c ops (⟨some d,.fieldAddr T x f,ty,pos,af,none⟩::l) Q Γ Δ:=aF hdN (av rfl hf) hh h
theorem xr{i t:Nat}{a0:A}{ty:TypeId}{pos:String}{af:Array Edge}(h:JO c ops l Q ((d,r)::Γ) Δ)(hdN:Nat.blt d c.N=true:=by exact rfl)(hl:lk Γ t=some (.tup a0):=by exact rfl)(hi:tK a0 i=some r:=by exact rfl):JO c ops (⟨some d,.extract (.tmp t) i,ty,pos,af,none⟩::l) Q Γ Δ:=aF hdN (fH rfl hi) ⟨hl,trivial⟩ h
theorem ol{t:Ty}{q:List t.den}{e:TypeId}{ty:TypeId}{pos:String}{af:Array Edge}(hT:c.P.underlying T=some (.slice e))(h:JO c ops l Q ((d,.eq (.int .i64 q.length))::Γ) Δ)(hdN:Nat.blt d c.N=true:=by exact rfl)(hh:fo Γ [(x,.rep (.slice t) q)]:=by exact⟨rfl,trivial⟩):JO c ops (⟨some d,.call { callee:=.builtin .len,args:= #[x],argTypes:= #[T] },ty,pos,af,none⟩::l) Q Γ Δ:=aF hdN (jq rfl rfl hT) hh h
end
section
variable {P:Program}{M:Md P}{S:FS}{w0:VW}{Γ:Ga}{Δ Δ0:List D}{N:Nat}{fn:Func}{R:Unit→A×List D}{r r':A}
theorem ra(hr:yv P Γ Δ fn.results.toList [r]:=by exact⟨rfl,trivial⟩)(hR:R ()=(bp [r],Δ.take 0):=by exact rfl):JN ⟨P,N,S,w0,aE Δ0,none,[],M⟩ (cN P fn (dY S w0 Δ0 R) .ret) Γ Δ:=aL () [_] 0 hr hR
theorem rb(hr:yv P Γ Δ fn.results.toList [r,r']:=by exact⟨rfl,rfl,trivial⟩)(hR:R ()=(bp [r,r'],Δ.take 0):=by exact rfl):JN ⟨P,N,S,w0,aE Δ0,none,[],M⟩ (cN P fn (dY S w0 Δ0 R) .ret) Γ Δ:=aL () [_,_] 0 hr hR
end
def kY(vs:Nat→Value):Nat→List (List Int)→List D
 |_,[]=>[]
 |j,l::ls=>.sl (vs j) 3 (.int .i64) l::kY vs (j+1) ls
def eB(vs:Nat→Value):Nat→List (List Int)→List Value
 |_,[]=>[]
 |j,_::ls=>vs j::eB vs (j+1) ls
def nP(vs:Nat→Value)(i:Nat)(v:Value):Nat→Value:=fun j=>if j=i then v else vs j
theorem g9{vs:Nat→Value}:∀{ls:List (List Int)} {j:Nat},(eB vs j ls).length=ls.length
 |[],_=>rfl
 |_::ls,_=>by rw [eB,List.length_cons,g9,List.length_cons]
theorem m4{vs:Nat→Value}:∀{ls:List (List Int)} {j:Nat},(kY vs j ls).length=ls.length
 |[],_=>rfl
 |_::ls,_=>by rw [kY,List.length_cons,m4,List.length_cons]
theorem mS{vs:Nat→Value}:∀{ls:List (List Int)} {j i:Nat},(eB vs j ls)[i]? =(ls[i]?).map fun _=>vs (j+i)
 |[],_,_=>by simp [eB]
 |_::ls,j,0=>by simp [eB]
 |_::ls,j,i+1=>by
  rw [eB,List.getElem?_cons_succ,List.getElem?_cons_succ,mS,show j+1+i=j+(i+1) by omega]
theorem qN{vs:Nat→Value}:∀{ls:List (List Int)} {j i:Nat},(kY vs j ls)[i]? =(ls[i]?).map fun x=>D.sl (vs (j+i)) 3 (.int .i64) x
 |[],_,_=>by simp [kY]
 |_::ls,j,0=>by simp [kY]
 |_::ls,j,i+1=>by
  rw [kY,List.getElem?_cons_succ,List.getElem?_cons_succ,qN,show j+1+i=j+(i+1) by omega]
theorem Hg{vs:Nat→Value}{v:Value}{ls:List (List Int)}{l:List Int}:eB (nP vs ls.length v) 0 (ls++[l])=eB vs 0 ls++[v]:=by
 apply List.ext_getElem?;intro i;rw [mS,Nat.zero_add];rcases Nat.lt_trichotomy i ls.length with h |h |h
 ·rw [List.getElem?_append_left h,List.getElem?_append_left (by rw [g9];exact h),mS,Nat.zero_add,List.getElem?_eq_getElem h];simp only [Option.map_some,nP];rw [if_neg (by omega)]
 ·subst h;rw [List.getElem?_append_right (Nat.le_refl _),List.getElem?_append_right (by rw [g9];exact Nat.le_refl _),g9,Nat.sub_self];simp [nP]
 ·rw [List.getElem?_eq_none (by simp;omega),List.getElem?_eq_none (by simp [g9];omega)];rfl
theorem HQ{vs:Nat→Value}{v:Value}{ls:List (List Int)}{l:List Int}:kY (nP vs ls.length v) 0 (ls++[l])=kY vs 0 ls++[.sl v 3 (.int .i64) l]:=by
 apply List.ext_getElem?;intro i;rw [qN,Nat.zero_add];rcases Nat.lt_trichotomy i ls.length with h |h |h
 ·rw [List.getElem?_append_left h,List.getElem?_append_left (by rw [m4];exact h),qN,Nat.zero_add,List.getElem?_eq_getElem h];simp only [Option.map_some,nP];rw [if_neg (by omega)]
 ·subst h;rw [List.getElem?_append_right (Nat.le_refl _),List.getElem?_append_right (by rw [m4];exact Nat.le_refl _),m4,Nat.sub_self];simp [nP]
 ·rw [List.getElem?_eq_none (by simp;omega),List.getElem?_eq_none (by simp [m4];omega)];rfl
theorem HC{L:List D}{a:Nat}{y:D}(h:a < L.length):(L.set a y).Perm (y::L.eraseIdx a):=by
 have:=iY (Δ:=L.set a y) a y (by rw [List.getElem?_set];simp [h]);rw [List.eraseIdx_set_eq] at this;exact this
section
variable {c:Cx}{ops:Array Oper}{l:List Oper}{Q:Exit→Act→VW→Prop}{Γ Γ':Ga}{Δ Δ' F:List D}
theorem ky{junk:List D}(hs:Ky Γ' Γ)(hp:Δ.Perm (Δ'++junk)):SE c Γ Δ Γ' Δ':=fun a w h=>by
 obtain⟨h1,h2,S,h3,h4,h5,h6⟩:=h.perm hp
 have hm:∀d∈Δ',d∈Δ'++junk:=fun d hd=>List.mem_append.2 (.inl hd)
 exact⟨h1,h2,S,h3,fun b ⟨d,hd,e⟩=>h4 b ⟨d,hm d hd,e⟩,h5.part,fun s r hl=>h6 s r (hs.lk hl)⟩
theorem fE(hp:Δ.Perm Δ'):SE c Γ Δ Γ Δ':=fun _ _ h=>h.perm hp
theorem Ef{S S':FS}{w:World}{vs:Nat→Value}(hSS:∀b,S b→S' b):∀{ls:List (List Int)} {j:Nat} {cs:List Value},(∀d∈kY vs j ls,d.holds S w∧∀b,d.foot=some b→S' b)→cM (rd S w .val) (eB vs j ls) cs→cM (rd S' w (.slice (.int .i64))) ls cs
 |[],_,_,_,h=>h
 |l::ls,j,cs,hd,h=>by
  obtain⟨c1,c2,rfl,⟨rfl,_⟩,h2⟩:=h
  refine⟨[vs j],c2,rfl,?_,Ef hSS (fun d hm=>hd d (List.mem_cons_of_mem _ hm)) h2⟩
  obtain⟨g1,g2⟩:=hd _ (List.mem_cons_self ..)
  rcases g1 with⟨e,rfl⟩ |⟨b,cap,cc,e,q1,q1',q2,q3,q4⟩
  ·
   rw [e];exact .inl ⟨none,0,rfl,rfl⟩
  ·
   have hb:S' b:=g2 b (by rw [D.foot,e];rfl)
   rw [e]
   refine .inr ⟨b,0,cap,cc,3,(0,0),rfl,q1,hb,q2,?_⟩
   rw [List.drop_zero]
   exact bF (fun _ _ h=>eE hSS (fun _ _=>rfl) (.int .i64) h) q4
theorem GQ{z:Value}{vs:Nat→Value}{ls:List (List Int)}{T:TypeId}:SE c Γ (.sl z T .val (eB vs 0 ls)::(kY vs 0 ls++F)) Γ (.sl z T (.slice (.int .i64)) ls::F):=fun a w h=>by
 obtain⟨h1,h2,S,h3,h4,h5,h6⟩:=h
 have hK:ip S w w:=fun _ _=>rfl
 have hp:=List.pairwise_cons.1 h5.apart
 obtain⟨pO,pF,pOF⟩:=List.pairwise_append.1 hp.2
 have hmO:∀d∈kY vs 0 ls,d∈D.sl z T .val (eB vs 0 ls)::(kY vs 0 ls++F):=fun d hd=>List.mem_cons_of_mem _ (List.mem_append.2 (.inl hd))
 have hmF:∀d∈F,d∈D.sl z T .val (eB vs 0 ls)::(kY vs 0 ls++F):=fun d hd=>List.mem_cons_of_mem _ (List.mem_append.2 (.inr hd))
 have hft:∀b,aE (kY vs 0 ls) b→aE (D.sl z T .val (eB vs 0 ls)::(kY vs 0 ls++F)) b:=fun b ⟨d,hd,e⟩=>⟨d,hmO d hd,e⟩
 refine⟨h1,h2,fun x=>S x∨aE (kY vs 0 ls) x,⟨fun x hx=>.inl (h3.sub x hx),fun x hx=>?_,fun x hx=>?_,h3.size,h3.keep,h3.os,h3.tape,h3.output,h3.subA,h3.oldA,h3.Z⟩,fun x ⟨e,he,hb⟩=>?_,h5.re ⟨fun e he=>?_,fun x ⟨e,he,hb⟩=>?_,?_⟩ (fun x ⟨e,he,hb⟩=>by
  rcases List.mem_cons.1 he with rfl |he
  ·
   exact⟨_,List.mem_cons_self ..,hb⟩
  ·
   exact⟨e,hmF e he,hb⟩) (fun x (hx:S x∨aE (kY vs 0 ls) x)=>hx.imp id (hft x)),fun s r hl=>A.mono (fun _ h=>.inl h) hK r (h6 s r hl)⟩
 ·
  rcases hx with hx |hx
  ·
   exact h3.new x hx
  ·
   exact .inr ((h4 x (hft x hx)).symm)
 ·
  rcases hx with hx |hx
  ·
   exact h3.dom x hx
  ·
   exact(h5.own x (hft x hx)).2
 ·
  rcases List.mem_cons.1 he with rfl |he
  ·
   exact h4 x ⟨_,List.mem_cons_self ..,hb⟩
  ·
   exact h4 x ⟨e,hmF e he,hb⟩
 ·
  rcases List.mem_cons.1 he with rfl |he
  ·
   rcases h5.holds _ (List.mem_cons_self ..) with⟨e,hl⟩ |⟨b,cap,cc,e,q1,q1',q2,q3,q4⟩
   ·
    refine .inl ⟨e,?_⟩
    have:=congrArg List.length hl
    rw [g9] at this
    exact List.eq_nil_of_length_eq_zero this
   ·
    rw [g9] at e q1 q4
    refine .inr ⟨b,cap,cc,e,q1,q1',q2,q3,?_⟩
    exact Ef (S:=S) (fun _ h=>.inl h) (fun d hd=>⟨h5.holds d (hmO d hd),fun b hb=>.inr ⟨d,hd,hb⟩⟩) q4
  ·
   exact cm (fun _ h=>.inl h) hK e (fun _ _=>rfl) (h5.holds e (hmF e he))
 ·
  have hx:aE (D.sl z T .val (eB vs 0 ls)::(kY vs 0 ls++F)) x∧¬aE (kY vs 0 ls) x:=by
   rcases List.mem_cons.1 he with rfl |he
   ·exact⟨⟨_,List.mem_cons_self ..,hb⟩,fun⟨d,hd,hb'⟩=>hp.1 d (List.mem_append.2 (.inl hd)) x hb hb'⟩
   ·exact⟨⟨e,hmF e he,hb⟩,fun⟨d,hd,hb'⟩=>pOF d hd e he x hb' hb⟩
  have h7:=h5.own x hx.1;exact⟨fun h=>h.elim h7.1 hx.2,h7.2⟩
 ·exact List.pairwise_cons.2 ⟨fun d hd b e=>hp.1 d (List.mem_append.2 (.inr hd)) b e,pF⟩
end
theorem I5{z:Value}{vs:Nat→Value}{ls:List (List Int)}{T:TypeId}{S:FS}{w:World}(h5:ij (.sl z T .val (eB vs 0 ls)::kY vs 0 ls) S w):ij [.sl z T (.slice (.int .i64)) ls] (fun x=>S x∨aE (kY vs 0 ls) x) w:=by
 have hp:=List.pairwise_cons.1 h5.apart;refine⟨fun e he=>?_,fun x ⟨e,he,hb⟩=>?_,List.pairwise_singleton _ _⟩
 ·simp only [List.mem_cons,List.not_mem_nil,or_false] at he;subst he;rcases h5.holds _ (List.mem_cons_self ..) with⟨e,hl⟩ |⟨b,cap,cc,e,q1,q1',q2,q3,q4⟩
  ·refine .inl ⟨e,?_⟩;have:=congrArg List.length hl;rw [g9] at this;exact List.eq_nil_of_length_eq_zero this
  ·rw [g9] at e q1 q4;refine .inr ⟨b,cap,cc,e,q1,q1',q2,q3,?_⟩;exact Ef (S:=S) (fun _ h=>.inl h) (fun d hd=>⟨h5.holds d (List.mem_cons_of_mem _ hd),fun b hb=>.inr ⟨d,hd,hb⟩⟩) q4
 ·simp only [List.mem_cons,List.not_mem_nil,or_false] at he;subst he;have h7:=h5.own x ⟨_,List.mem_cons_self ..,hb⟩;exact⟨fun h=>h.elim h7.1 fun⟨d,hd,hb'⟩=>hp.1 d hd x hb hb',h7.2⟩
theorem PX{P:Program}{f:Nat}{as:List A}{T:TypeId}{r:List (List Int)}(h:bZ P f as [] (fun z:Value×(Nat→Value)=>(bp [.eq z.1],.sl z.1 T .val (eB z.2 0 r)::kY z.2 0 r))):
 bZ P f as [] (fun z:Value=>(bp [.eq z],[.sl z T (.slice (.int .i64)) r])):=fun M k ke S w vs hd hall hO=>(h M k ke S w vs hd hall hO).mono fun _ _ hh=>by
 obtain⟨x,S',v,he,g1,g2,g3,g4⟩:=hh
 have hft:∀b,aE (kY x.2 0 r) b→aE (.sl x.1 T .val (eB x.2 0 r)::kY x.2 0 r) b:=fun b ⟨d,hd,e⟩=>⟨d,List.mem_cons_of_mem _ hd,e⟩
 refine⟨x.1,fun b=>S' b∨aE (kY x.2 0 r) b,v,he,⟨fun b hb=>.inl (g1.sub b hb),fun b hb=>?_,fun b hb=>?_,g1.size,g1.keep,g1.os,g1.tape,g1.output,g1.subA,g1.oldA,g1.Z⟩,g2,g3.re (I5 g3.p) (fun b ⟨d,hd,e⟩=>by
  rw [List.mem_singleton.1 hd] at e
  exact⟨_,List.mem_cons_self ..,e⟩) (fun b (hb:S' b∨aE (kY x.2 0 r) b)=>hb.imp id (hft b)),fun b ⟨d,hd,e⟩=>?_⟩
 ·
  rcases hb with hb |hb
  ·
   exact g1.new b hb
  ·
   exact .inr ((g4 b (hft b hb)).symm)
 ·
  rcases hb with hb |hb
  ·
   exact g1.dom b hb
  ·
   exact(g3.own b (hft b hb)).2
 ·
  simp only [List.mem_cons,List.not_mem_nil,or_false] at hd
  subst hd
  exact g4 b ⟨_,List.mem_cons_self ..,e⟩
theorem kT{vs:Nat→Value}{ls:List (List Int)}{i:Int}{x:List Int}(h:aP ls i=some x):aP (eB vs 0 ls) i=some (vs i.toNat):=by
 unfold aP at h⊢;split
 ·rename_i h0;rw [if_pos h0] at h;rw [mS,h,Nat.zero_add];rfl
 ·rename_i h0;rw [if_neg h0] at h;cases h
theorem qS{α:Type}{l:List α}{i:Int}{x:α}(h:aP l i=some x):0≤i∧l[i.toNat]? =some x:=by
 unfold aP at h;split at h
 ·exact⟨‹_›,h⟩
 ·cases h
theorem my{L:List D}:L.Perm (L++[]):=by rw [List.append_nil]
def LA:Value→Bool
 | .nilIface=>true
 | .iface _ _=>true
 |_=>false
def wy:Value→Bool
 | .iface _ _=>true
 |_=>false
section
variable {P:Program}{M:Md P}{o:Oper}{x y:Operand}{T T':TypeId}
theorem nU{n:Int}{fs:Array Field}(ho:o.op= .makeInterface T x)(hT:P.underlying T=some (.struct fs)):bG M o [(x,.agg (.eq (.int .i64 n)))] [] (fun _:Unit=>(.eq (.iface T (.agg #[.int .i64 n])),[])):=
 .val0 fun S w a hN=>by
  have e:a.eval x= .agg #[.int .i64 n]:=by
   obtain⟨cs,h1,h2⟩:=hN.1;simp_all [A.cells]
  refine⟨_,?_,rfl⟩;simp [execOp,ho,e,Instr.makeInterface,run_underlying hT]
end
section
variable {P:Program}{M:Md P}{o:Oper}{x y:Operand}{T e:TypeId}{t:Ty}
end
section
variable {c:Cx}{ops:Array Oper}{Q:Exit→Act→VW→Prop}{Γ:Ga}{Δ:List D}{n:Nat}{L:List Bool}
theorem KN{P:Program}{M:Md P}{v:VW}{a:Act}{o:Oper}{K:Act→VW→Prop}{r:Result Next}(hh:G0 M v o a K (cE K Q) r):G0 M v o a K Q r:=by
 cases r with
 |ok x w'=>
  cases x <;> simp only [G0] at hh⊢ <;> first
   |exact hh
   |exact nC.mono hh (fun e v'' he=>by cases e <;> exact he)
   |exact qz.mono hh (fun e v'' he=>by cases e <;> exact he)
 |halt x w'=>cases x <;> simp only [G0] at hh⊢ <;> exact hh
theorem Cm{o:Oper}{i:Nat}{K:Act→VW→Prop}{a:Act}{w:VW}(ho:ops[i]? =some o)(st:St c Γ Δ a w)(h:JO c ops [o] (cE K Q) Γ Δ):po c.M c.rd ops Q i K a w:=by
 have h1:=h a w st;unfold po;rw [ho];simp only [GZ] at h1⊢;split
 ·rename_i hw;rw [if_pos hw] at h1;have h2:o.wk c.M c.rd a w K (cE K Q):=h1;exact fun v1 hr=>⟨(h2 v1 hr).1,KN (h2 v1 hr).2⟩
 ·rename_i hw;rw [if_neg hw] at h1;exact h1
def JD(c:Cx)(ops:Array Oper)(Q:Exit→Act→VW→Prop)(n:Nat)(L:List Bool)(Γ:Ga)(Δ:List D):Prop:=∀a w,St c Γ Δ a w→ix c.M c.rd .any ops Q n L.toArray a w
def ct(c:Cx)(ops:Array Oper)(Q:Exit→Act→VW→Prop)(n:Nat)(L:List Bool)(Γ:Ga)(Δ:List D):List Nat→Prop
 |[]=>True
 |i::l=>(∃o,ops[i]? =some o∧JO c ops [o] (cE (fun a w=>ix c.M c.rd .any ops Q n (L.set i true).toArray a w) Q) Γ Δ)∧ct c ops Q n L Γ Δ l
theorem ct.mem{l:List Nat}(h:ct c ops Q n L Γ Δ l):∀i∈l,∃o,ops[i]? =some o∧JO c ops [o] (cE (fun a w=>ix c.M c.rd .any ops Q n (L.set i true).toArray a w) Q) Γ Δ:=by
 induction l with
 |nil=>intro i hi;simp at hi
 |cons x l ih=>
  intro i hi;rcases List.mem_cons.1 hi with rfl |hi
  ·exact h.1
  ·exact ih h.2 i hi
theorem J5{id:Nat}(hm:c.P.follows .mixedOrders=true)(hn:ops.size=n)(h:JD c ops Q n (List.replicate n false) Γ Δ):JC c (.region id ops true) Q Γ Δ:=fun a w st=>nh hm fun v1 hr=>by
 have:=h a _ (st.drew hr)
 rw [hn]
 rwa [List.toArray_replicate] at this
theorem JD.step(rdy:List Nat)(hr:Region.ready .any ops L.toArray=rdy)(hne:rdy.isEmpty=false)(h:ct c ops Q n L Γ Δ rdy):JD c ops Q (n+1) L Γ Δ:=fun a w st=>by
 subst hr
 refine⟨fun e=>(by rw [e] at hne;simp at hne),fun i hi=>?_⟩
 obtain⟨o,ho,hj⟩:=h.mem i hi
 have:=Cm ho st hj
 simpa using this
theorem JD.nil(hr:Region.ready .any ops L.toArray=[])(h:JN c (Q .normal) Γ Δ):JD c ops Q 0 L Γ Δ:=fun a w st=>⟨hr,h a w st⟩
theorem wZ{I:Type}{Ge:I→Ga}{De:I→List D}{id:Nat}(hm:c.P.follows .mixedOrders=true)(hn:ops.size=n)
 (h:∀J:Nat→List Bool→Ga→List D→Prop,J=JD c ops Q→(∀i,J 0 L (Ge i) (De i))→J n (List.replicate n false) Γ Δ) (hr:Region.ready .any ops L.toArray=[]) (he:∀i,JN c (Q .normal) (Ge i) (De i)):JC c (.region id ops true) Q Γ Δ:=
 J5 hm hn (h _ rfl fun i=>JD.nil hr (he i))
theorem ct.cons{i:Nat}{o:Oper}{l:List Nat}(ho:ops[i]? =some o)(h:JO c ops [o] (cE (fun a w=>ix c.M c.rd .any ops Q n (L.set i true).toArray a w) Q) Γ Δ)(hl:ct c ops Q n L Γ Δ l):ct c ops Q n L Γ Δ (i::l):=⟨⟨o,ho,h⟩,hl⟩
theorem JD.to{M:Exit→Act→VW→Prop}(h:JD c ops Q n L Γ Δ):JN c (cE (fun a w=>ix c.M c.rd .any ops Q n L.toArray a w) M .normal) Γ Δ:=fun a w st=>h a w st
theorem aB{M:Exit→Act→VW→Prop}{Γ':Ga}{Δ':List D}(j:JD c ops Q n L Γ' Δ')(ks:List Nat)(hs:Ky Γ' Γ)(hk:g7 Δ ks=some Δ':=by rfl)(hn:ks.Nodup:=by decide):JO c ops [] (cE (fun a w=>ix c.M c.rd .any ops Q n L.toArray a w) M) Γ Δ:=ax (bi (SE.fin ks hs hk hn) j.to)
end
theorem au{G G':Prop}(k:G')(h:G'→G:=by
 intro k
 repeat (first
  |refine nt ?_ |refine mq ?_ |refine sr ?_ |refine aq ?_ |refine cq ?_ |refine gn ?_ |refine gm ?_ |refine sk ?_ |with_reducible refine tn ?_ |refine pf ?_ |refine pt ?_ |refine xr ?_ |refine gu ?_
  |refine ax ?_ |with_reducible refine ag ?_ |with_reducible refine cy ?_ |with_reducible refine eJ ?_ |with_reducible refine bT ?_ |with_reducible refine mL ?_ |with_reducible refine dW ?_ |refine bJ ?_ |refine jp ?_ |refine cT ?_ |refine ar ?_)
 exact k):G:=h k
end K
end Go.Proofs.YtddneonghpmidaaGreatDoor
set_option linter.unusedVariables false
namespace Go.Proofs.YtddneonghpmidaaGreatDoor
namespace K
open Go
section
variable {P:Program}{M:Md P}{o:Oper}{x y:Operand}{T T' e:TypeId}{t:Ty}
theorem uI{N m:Nat}{g:Bool}{l:List t.den}{k:IntKind}{i:Int}{d:t.den}(ho:o.op= .index T x y)(hT:P.underlying T=some (.array N e))(hz:dM P e m g)(hm:t.cells=m)(hag:t.isAgg=g)(hg:g=false→m=1)(hl:aP l i=some d):
 bG M o [(x,.rep (.arr N t) l),(y,.eq (.int k i))] [] (fun _:Unit=>(Kv t d,[])):=
 .val0 fun S w a hN=>by
  subst hm
  obtain⟨cs,⟨h1,h2⟩,h3⟩:=hN.1
  have e1:a.eval x= .agg cs.toArray:=h3
  have e2:a.eval y= .int k i:=hN.2.1
  obtain⟨g0,g1,g2⟩:=cz hl
  rw [h1] at g1
  obtain⟨r1,r2⟩:=kE (fun _ _ h=>aM t h) h2 g2
  have r3:=aM t r1
  refine⟨mk g ((cs.drop (i.toNat * t.cells)).take t.cells),?_,?_⟩
  ·
   have hp:(part e cs.toArray (i.toNat * t.cells)).run P w= .ok (mk g ((cs.drop (i.toNat * t.cells)).take t.cells)) w:=by
    unfold part;cases g with
    |true=>
     simp only [Sem.run_bind,hz.agg,Result.andThen_ok,if_true,hz.size,Sem.run_pure];simp only [mk,if_true,Result.ok.injEq,and_true,Value.agg.injEq];apply Array.ext';simp [List.extract_eq_take_drop,Nat.add_sub_cancel_left]
    |false=>
     have h1c:=hg rfl;have hlt:i.toNat * t.cells < cs.length:=by omega
     have e9:(cs.drop (i.toNat * t.cells)).take t.cells=[cs[i.toNat * t.cells]]:=by rw [List.drop_eq_getElem_cons hlt,List.take_cons (by omega),show t.cells - 1=0 by omega,List.take_zero]
     have e8:cs.toArray[i.toNat * t.cells]? =some cs[i.toNat * t.cells]:=by simp [hlt]
     rw [e9];simp only [Sem.run_bind,hz.agg,Result.andThen_ok,e8];rfl
   have h1':(Instr.index T (.agg cs.toArray) (.int k i)).run P w= .ok (mk g ((cs.drop (i.toNat * t.cells)).take t.cells)) w:=by
    unfold Instr.index;simp only [asIntOf,Sem.run_bind,Sem.run_pure,Result.andThen_ok,run_underlying hT,g0,g1,and_self,if_true,hz.size,hp]
   simp only [execOp,ho,e1,e2,Sem.run_bind,h1',Result.andThen_ok,Sem.run_pure]
  ·rw [←hag];exact lZ r1
theorem xG{α:Type}{cs y:List α}{off W a c:Nat}(h:a+c≤W):
 cs.take off++(((cs.drop off).take W).take a++y++((cs.drop off).take W).drop (a+c))++cs.drop (off+W)=cs.take (off+a)++y++cs.drop (off+a+c):=by
 rw [List.take_take,Nat.min_eq_left (by omega),List.take_add,List.drop_take,List.drop_drop]
 have e5:cs.drop (off+a+c)=(cs.drop (off+(a+c))).take (W - (a+c))++cs.drop (off+W):=by
  rw [←Nat.add_assoc];conv=>lhs;rw [←List.take_append_drop (W - (a+c)) (cs.drop (off+a+c))]
  rw [List.drop_drop];congr 2;omega
 rw [e5]
 simp only [List.append_assoc]
theorem oL{b off n N L k:Nat}{r:A}{i j:Int}{g:Bool}{T0:TypeId}{a0 a1:A}{l:List (List t.den)}{row:List t.den}{d:t.den}(ho:o.op= .store T x y)(ht:dM P T n g)(he:rE r t d)(hs:r.stor)(hget:a0.get off (N * (L * t.cells)) true=some (.rep (.arr N (.arr L t)) l))
 (hn:t.cells=n) (hk:k=off+i.toNat * (L * t.cells)+j.toNat * t.cells) (hl:aP l i=some row) (h0:0≤j) (hj:j < L) (hset:a0.set off (N * (L * t.cells)) true (.rep (.arr N (.arr L t)) (l.set i.toNat (row.set j.toNat d)))=some a1):
 bG M o [(x,.eq (.pointer (some ⟨b,k,none⟩))),(y,r)] [.obj b T0 a0] (fun _:Unit=>(.eq undef,[.obj b T0 a1])):=by
 refine jt ⟨by simp only [nd, *],fun S w a next hd hN hO kk=>?_⟩ (fun _ _ a _ _=>jJ (by simp only [uc, *]) a.eval) (fun d hd=>by first |(simp at hd;done) |(simp at hd;subst hd;trivial))
 subst hn hk
 have e1:a.eval x= .pointer (some ⟨b,off+i.toNat * (L * t.cells)+j.toNat * t.cells,none⟩):=hN.1
 obtain⟨p1,p2,_⟩:=gj hN.2.1 hs
 have p3:=he.cells p1
 have l3:=aM t p3
 obtain⟨cs,h3,h4⟩:=hO.holds _ (by simp:D.obj b T0 a0∈[D.obj b T0 a0])
 obtain⟨hnb,hbs⟩:=hO.own b (ko.2 rfl)
 have l0:=a0.cells_length h4
 obtain⟨g1,g2⟩:=kS a0 h4 hget
 obtain⟨cs',⟨q1,q2⟩,q3⟩:=g1
 have q4:(cs.drop off).take (N * (L * t.cells))=cs':=by simpa [mk] using q3
 subst q4
 obtain⟨i0,i1,i2⟩:=cz hl
 rw [q1] at i1
 have hi':i.toNat < N:=by omega
 have hj':j.toNat < L:=by omega
 obtain⟨w1,w2⟩:=kE (fun _ _ h=>aM (.arr L t) h) q2 i2
 have hle:i.toNat * (L * t.cells)+L * t.cells≤N * (L * t.cells):=by
  rw [←Nat.succ_mul];exact Nat.mul_le_mul_right _ hi'
 have hle2:j.toNat * t.cells+t.cells≤L * t.cells:=by
  rw [←Nat.succ_mul];exact Nat.mul_le_mul_right _ hj'
 generalize hseg:(cs.drop off).take (N * (L * t.cells))=seg at q2 w1 w2
 have hsl:seg.length=N * (L * t.cells):=by rw [←hseg];simp only [List.length_take,List.length_drop];omega
 have w1':rd S w (.arr L t) row ((seg.drop (i.toNat * (L * t.cells))).take (L * t.cells)):=w1
 have hrow:=jH (fun _ _ h=>aM t h) w1'.2 (i:=j.toNat) (by rw [w1'.1];exact hj') p3
 have hnew:rd S w (.arr L t) (row.set j.toNat d) (((seg.drop (i.toNat * (L * t.cells))).take (L * t.cells)).take (j.toNat * t.cells)++(a.eval y).cells.toList++((seg.drop (i.toNat * (L * t.cells))).take (L * t.cells)).drop (j.toNat * t.cells+t.cells)):=⟨by rw [List.length_set];exact w1'.1,hrow⟩
 have hall:=jH (fun _ _ h=>aM (.arr L t) h) q2 (i:=i.toNat) (by omega) hnew
 have hc1:=xG (cs:=seg) (y:=(a.eval y).cells.toList) (off:=i.toNat * (L * t.cells)) (W:=L * t.cells) (a:=j.toNat * t.cells) (c:=t.cells) hle2
 have hcell:(Ty.arr L t).cells=L * t.cells:=rfl
 rw [hcell] at hall
 rw [hc1] at hall
 have hlen:(seg.take (i.toNat * (L * t.cells)+j.toNat * t.cells)++(a.eval y).cells.toList++seg.drop (i.toNat * (L * t.cells)+j.toNat * t.cells+t.cells)).length=N * (L * t.cells):=by
  simp only [List.length_append,List.length_take,List.length_drop];omega
 obtain⟨s1,s2⟩:=mM a0 h4 (r:=.rep (.arr N (.arr L t)) (l.set i.toNat (row.set j.toNat d))) ⟨by rw [List.length_set];exact q1,hall⟩ hlen hset
 rw [←hseg,xG (by omega),←Nat.add_assoc off] at s1
 generalize hkk:off+i.toNat * (L * t.cells)+j.toNat * t.cells=kp at *
 have hst:=iP P b T0 kp (a.eval y).cells.toList 0 w cs.toArray h3 (fun v hv=>qB r p1 v hv) (by simp only [Nat.add_zero,List.size_toArray];omega)
 have hsz:(a.eval y).cells.size=t.cells:=by rw [←Array.length_toList];omega
 have hr:(execOp a.eval o).run P w= .ok .skip { w with heap:=w.heap.setIfInBounds b (.cells (cs.take kp++(a.eval y).cells.toList++cs.drop (kp+t.cells)).toArray T0 (0,0)) }:=by
  simp only [Nat.add_zero,l3] at hst;simp [execOp,ho,Instr.storeAt,e1,Instr.sureAddr,storeVar,ht.size,hsz,hst]
 rw [hr]
 have hK:ip S w { w with heap:=w.heap.setIfInBounds b (.cells (cs.take kp++(a.eval y).cells.toList++cs.drop (kp+t.cells)).toArray T0 (0,0)) }:=fun b' hb'=>by
  have hne:b≠b':=fun e=>hnb (by rw [e];exact hb');simp [Array.getElem?_setIfInBounds_ne hne]
 refine kk () S _ _ (nM hd (ko.2 rfl) _) rfl (fu ⟨_,by simp [hbs],A.cells_mono (fun _ h=>h) hK a1 s1⟩ ?_) (fun b' hb'=>.inl ?_)
 ·
  intro b' hb';simp only [D.foot,Option.some.injEq] at hb';subst hb';exact⟨hnb,by simpa using hbs⟩
 ·
  rw [ko] at hb'⊢;exact hb'
end
end K
end Go.Proofs.YtddneonghpmidaaGreatDoor
set_option linter.unusedVariables false
namespace Go.Proofs.YtddneonghpmidaaGreatDoor
namespace K
open Go
def pA{α:Type}:List α→Option (α×List α)
 |[]=>none
 |x::l=>some (x,l)
section
variable {P:Program}{M:Md P}{o:Oper}{x y:Operand}{T T' e:TypeId}{t:Ty}
theorem vj{S:FS}{w:World}{l:List t.den}{v:Value}(h:(A.rep (.lst t) l).holds S w v):∃p:Option Addr,v= .pointer p∧p.isNone=l.isEmpty∧∀x0 l0,l=x0::l0→(A.at (.agg (.pair t (.lst t))) (x0,l0)).holds S w v:=by
 obtain⟨cs,h1,h2⟩:=h;cases l with
 |nil=>
  have h1:cs=[.pointer none]:=h1;subst h1;exact⟨none,h2,rfl,fun _ _ h=>by cases h⟩
 |cons x0 l0=>
  obtain⟨b,off,c,T,fz,c1,c2,rfl,hb,hc,e2,g1,g2⟩:=h1;refine⟨some ⟨b,off,none⟩,h2,rfl,fun y0 m0 e=>?_⟩;cases e;have h2:v= .pointer (some ⟨b,off,none⟩):=h2;exact⟨b,off,c,T,fz,by rw [h2],hb,hc,c1,c2,e2,g1,g2⟩
theorem lY{l:List t.den}{d:t.den×List t.den}(ho:o.op= .nilCheck x)(hl:pA l=some d):bG M o [(x,.rep (.lst t) l)] [] (fun _:Unit=>(.at (.agg (.pair t (.lst t))) d,[])):=by
 cases l with
 |nil=>cases hl
 |cons x0 l0=>
  cases hl;refine bG.val0 (hns:=fun _ _ a h=>yY ho ?_) fun S w a h=>?_
  ·obtain⟨p,e1,e2,e3⟩:=vj h.1;cases p with
   |none=>cases e2
   |some p=>exact⟨a.eval x,by simp [execOp,ho,e1],e3 _ _ rfl⟩
  ·obtain⟨p,e1,e2,_⟩:=vj h.1;cases p with
   |none=>cases e2
   |some p=>exact .inl ⟨_,e1⟩
theorem yK{w:World}{d:Nat}(hT:P.underlying T=some (.pointer e))(p:Option Addr):(Op.equalIn (d+1) T (.pointer p) (.pointer none)).run P w= .ok p.isNone w:=by
 cases p <;> simp [Op.equalIn,run_underlying hT]
theorem AV{n:Nat}(hT:P.underlying T=some (.pointer e))(p:Option Addr):Ns P (Op.equalIn (n+1) T (.pointer p) (.pointer none)):=by
 unfold Op.equalIn;refine cV hT ?_;cases p <;> trivial
theorem H6{l:List t.den}(ho:o.op= .binOp .eql T x y T')(hT:P.underlying T=some (.pointer e)):
 bG M o [(x,.rep (.lst t) l),(y,.eq (.pointer none))] [] (fun _:Unit=>(.eq (.bool l.isEmpty),[])):=by
 refine jt ⟨by simp only [nd, *],fun S w a next hd hN hO k=>?_⟩ (fun S w a hN _=>?_) (fun d hd=>by simp at hd)
 ·
  obtain⟨p,e1,e3,_⟩:=vj hN.1;have e2:a.eval y= .pointer none:=hN.2.1
  have hrun:(execOp a.eval o).run P w= .ok (.value (.bool l.isEmpty)) w:=by
   have h2:(do eqGuard .eql T x y (.pointer p) (.pointer none);binOp .eql T (.pointer p) (.pointer none):Sem Value).run P w= .ok (.bool l.isEmpty) w:=by
    simp [eqGuard,binOp,Op.equal,Op.maxDepth,yK (d:=9999) hT p,e3]
   simp only [Sem.run_bind] at h2;simp only [execOp,ho,e1,e2,Sem.run_bind,h2];rfl
  rw [hrun];exact k () S w _ (jy.refl hd) rfl hO (fun b hb=>.inl hb)
 ·
  obtain⟨p,e1,e3,_⟩:=vj hN.1;refine vo ho ?_;have e2:a.eval y= .pointer none:=hN.2.1;rw [e1,e2];exact ai (AV (n:=9999) hT p) fun _=>bC
end
theorem MZ{P:Program}{M:Md P}{N l p q:Nat}{rec:Loop}{cA cB:Code}(hcA:rec.assign=cA)(hcB:rec.body=cB){as bs:A}{Δ:List D}{Γ:Ga}{X:Type}{R:X→A×List D}(hp:rec.params= #[p,q])(hN:rec.tmps.size=N)(hpN:p < N∧q < N∧p≠q)(hΓ:vf rec.tmps Γ)
 (h:∀S w,JC ⟨P,N,S,w,aE (.raw l (.loop rec)::Δ),some l,[],M⟩ cA (cE (qJ M l cB (lW P l (dY S w (.raw l (.loop rec)::Δ) R))) (fun _ _ _=>False)) ((p,as)::(q,bs)::Γ) (.raw l (.loop rec)::Δ)):
 YT M l [as,bs] (.raw l (.loop rec)::Δ) R:=by
 subst hcA hcB
 exact PH hp hN hpN.1 hpN.2.1 hpN.2.2 hΓ h
end K
end Go.Proofs.YtddneonghpmidaaGreatDoor
set_option linter.unusedVariables false
namespace Go.Proofs.YtddneonghpmidaaGreatDoor
namespace K
open Go
section
variable {P:Program}{M:Md P}{o:Oper}{x y:Operand}{Δ:List D}{X:Type}{R:X→A×List D}
theorem Ej{S:FS}{w:World}{a:Act}:∀{xs:List Operand} {rs:List A},xs.length=rs.length→bz S w a (xs.zip rs)→A.holds.holdsAll S w (vA rs) (xs.map a.eval)
 |[],[],_,_=>rfl
 |x::xs,r::rs,h,hN=>⟨_,_,rfl,hN.1,Ej (by simpa using h) hN.2⟩
 |[],_::_,h,_=>by simp at h
 |_::_,[],h,_=>by simp at h
theorem yq{S:FS}{w:World}:∀{rs:List A} {vs:List Value},A.holds.holdsAll S w (vA rs) vs→gr S w rs vs
 |[],_,h=>h
 |_::_,_,⟨v,vs',e,h1,h2⟩=>⟨v,vs',e,h1,yq h2⟩
theorem gr.app{S:FS}{w:World}:∀{a1 a2:List A} {v1 v2:List Value},gr S w a1 v1→gr S w a2 v2→gr S w (a1++a2) (v1++v2)
 |[],_,v1,_,h1,h2=>by
  have:v1=[]:=h1
  subst this
  exact h2
 |_::_,_,_,_,⟨v,vs',e,h1,h3⟩,h2=>by
  subst e
  exact⟨v,_,rfl,h1,gr.app h3 h2⟩
theorem K7{f:Nat}(xs:List Operand)(rs:List A)(ho:o.op= .makeFunc (.func f) xs.toArray #[])(h1:xs.length=rs.length):bG M o (xs.zip rs) [] (fun _:Unit=>(.fn f (vA rs),[])):=
 .val0 fun S w a hN=>by
  refine⟨.func (.func f) (xs.map a.eval).toArray #[],?_,_,rfl,Ej h1 hN⟩
  simp [execOp,ho,Instr.makeFunc]
theorem If{f:Nat}{fs ags:List A}{c:Call}(xs:List Operand){ts:Array TypeId}(ho:o.op= .call c)(hc:c={ callee:=.value x,args:=xs.toArray,argTypes:=ts })(hf:ae P f)(hlen:xs.length=ags.length)
 (h:dD M f (fs++ags) Δ R):bG M o ((x,.fn f (vA fs))::xs.zip ags) Δ R:=by
 have hnd:nd o.op=true:=by simp only [nd, *]
 refine⟨hnd,fun rd S v a next Q hd hN hO k=>?_⟩
 obtain⟨vs,e1,h2⟩:=hN.1
 have hall:∀v1,cd v v1→gr S v1 (fs++ags) (vs++xs.map a.eval):=fun v1 hr=>
  gr.app (gr.rely (kL hd hO.sees hr) (yq h2)) (gr.of hlen (bz.rely hd hO.sees hr hN.2))
 refine zA (args:=(vs++xs.map a.eval).toArray) hnd (by simp [execOp,ho,hc,resolve,e1,Deferred.ofValue,invoke]) hf fun v1 hr=>?_
 refine(h .normal (fun e=>nomatch e) S v1 _ (fun b hb=>Nat.lt_of_lt_of_le (hd b hb) hr.size) (hall v1 hr) (hO.rely hd hr)).mono ?_
 rintro e w' ⟨x,S',u,rfl,h1,h2,h3,h4⟩
 exact k x S' w' u ((bV.rely hd hr).trans h1 fun b hb=>.inl hb) h2 h3 fun b hb=>(h4 b hb).imp id (Nat.le_trans hr.size)
end
end K
end Go.Proofs.YtddneonghpmidaaGreatDoor
set_option linter.unusedVariables false
namespace Go.Proofs.YtddneonghpmidaaGreatDoor
namespace K
open Go
structure f7(P:Program)(f:Nat)(e:Array Value→Sem Value):Prop where
 run:∀args w,(callFunc f args).run P w=((e args).run P w).andThen fun v w'=>.ok (.value v) w'
 ns:∀args,Ns P (e args)→Ns P (callFunc f args)
theorem f7.of{P:Program}{f:Nat}{fn:Func}{e:Array Value→Sem Value}(hf:P.funcs[f]? =some fn)(hname:(fn.name == "runtime.NumGoroutine")=false)(hb:fn.body.isNone=true)(hn:Extern.findNext fn=none)(he:Extern.find fn=some e):f7 P f e:=by
 refine⟨run_callFunc_extern hf hname hb hn he,fun args h=>?_⟩
 show Ns P ((match P.funcs[f]? with
  |none=>stuck "call: no such function"
  |some fn=>_:Sem Next))
 rw [hf];simp only [hname,hb,Bool.false_eq_true,if_false,if_true,hn,he];exact ai (⟨rfl,trivial⟩:Ns P (mark (.extern f))) fun _=>ai h fun _=>trivial
theorem pj{α:Type}{P:Program}{s:Sem α}(h:Ns P s=True):Ns P s:=h▸trivial
theorem Im{α:Type}{P:Program}{s:Sem α}(h:Ns P s=(true=true∧∀_:Nat,True)):Ns P s:=h▸⟨rfl,fun _=>trivial⟩
theorem AP{α:Type}{P:Program}{s:Sem α}(h:Ns P s=(true=true∧True)):Ns P s:=h▸⟨rfl,trivial⟩
section
variable {P:Program}{M:Md P}{o:Oper}{x y:Operand}{T:TypeId}{Δ:List D}{X:Type}{R:X→A×List D}{f:Nat}{e:Array Value→Sem Value}{c:Call}{ts:Array TypeId}
theorem lw{xs:List Operand}{vs:List Value}{a:Act}(ho:o.op= .call c)(hc:c={ callee:=.value (.func f),args:=xs.toArray,argTypes:=ts })(hv:xs.map a.eval=vs):execOp a.eval o=callFunc f vs.toArray:=by
 have e1:a.eval (.func f)= .func (.func f) #[] #[]:=rfl;subst hv;simp [execOp,ho,hc,resolve,e1,Deferred.ofValue,invoke]
theorem i9{S:FS}{w:World}{a:Act}:∀{xs:List Operand} {vs:List Value},xs.length=vs.length→bz S w a (xs.zip (vs.map .eq))→xs.map a.eval=vs
 |[],[],_,_=>rfl
 |x::xs,v::vs,h,hN=>by
  have h1:a.eval x=v:=hN.1
  rw [List.map_cons,h1,i9 (by simpa using h) hN.2]
 |[],_::_,h,_=>by simp at h
 |_::_,[],h,_=>by simp at h
theorem Ib(H:f7 P f e)(xs:List Operand)(vs:List Value)(ho:o.op= .call c)(hc:c={ callee:=.value (.func f),args:=xs.toArray,argTypes:=ts })(hl:xs.length=vs.length){v:Value}
 (hr:∀w,(e vs.toArray).run P w= .ok v w) (hns:Ns P (e vs.toArray)):bG M o (xs.zip (vs.map .eq)) [] (fun _:Unit=>(.eq v,[])):=
 .val0 (hnd:=by simp only [nd, *]) (hns:=fun _ _ a hN=>by rw [lw ho hc (i9 hl hN)];exact H.ns _ hns) fun S w a hN=>⟨v,by rw [lw ho hc (i9 hl hN),H.run,hr];rfl,rfl⟩
theorem Ia{d:D}(H:f7 P f e)(xs:List Operand)(vs:List Value)(ho:o.op= .call c)(hc:c={ callee:=.value (.func f),args:=xs.toArray,argTypes:=ts })(hl:xs.length=vs.length){v:Value}
 (hr:∀S w,d.holds S w→(e vs.toArray).run P w= .ok v w) (hns:Ns P (e vs.toArray)) (hcm:d.calmP):bG M o (xs.zip (vs.map .eq)) [d] (fun _:Unit=>(.eq v,[d])):=
 .val1 (hnd:=by simp only [nd, *]) (hns:=fun _ _ a hN=>by rw [lw ho hc (i9 hl hN)];exact H.ns _ hns) (hcm:=hcm) fun S w a hN hd=>⟨v,by rw [lw ho hc (i9 hl hN),H.run,hr S w hd];rfl,rfl⟩
theorem H9{u:Value}{v:Nat→Value}(H:f7 P f e)(xs:List Operand)(vs:List Value)(ho:o.op= .call c)(hc:c={ callee:=.value (.func f),args:=xs.toArray,argTypes:=ts })(hl:xs.length=vs.length)
 (hr:∀w,(e vs.toArray).run P w= .ok (v w.heap.size) (w.alloc (.cells #[u] T))) (hu:bB u=true) (hns:Ns P (e vs.toArray)):bG M o (xs.zip (vs.map .eq)) [] (fun b:Nat=>(.eq (v b),[.obj b T (.eq u)])):=by
 refine jt ⟨by simp only [nd, *],fun S w a next hd hN _ k=>?_⟩ (fun _ _ a hN _=>by rw [lw ho hc (i9 hl hN)];exact H.ns _ hns) (fun d hd=>by simp at hd)
 have hr':(execOp a.eval o).run P w= .ok (.value (v w.heap.size)) (w.alloc (.cells #[u] T)):=by rw [lw ho hc (i9 hl hN),H.run,hr];rfl
 rw [hr']
 refine k w.heap.size S _ _ (gd hd _) rfl (fu ⟨[u],heap_alloc_new w _,rfl,hu⟩ ?_) ?_
 ·
  intro b hb;simp only [D.foot,Option.some.injEq] at hb;subst hb;exact⟨fun h=>by have:=hd _ h;omega,by simp⟩
 ·
  intro b hb;rw [ko] at hb;subst hb;exact .inr (Nat.le_refl _)
theorem Bg{xs:List Operand}{vs:List Value}{a:Act}{name:String}{rv:Value}(ho:o.op= .call c)(hc:c={ callee:=.invoke x name,args:=xs.toArray,argTypes:=ts })(hx:a.eval x=rv)(hv:xs.map a.eval=vs):
 execOp a.eval o=callMethod rv name vs.toArray:=by
 subst hv hx
 simp only [execOp,ho,hc,resolve]
 simp [invoke]
 rw [List.take_of_length_le (by simp)]
theorem C3{T:TypeId}{u rv:Value}{name:String}{args:Array Value}{w:World}(hm:(method (P.types.size+Made.depth) T u name).run P w= .ok (f,rv) w):(callMethod (.iface T u) name args).run P w=(callFunc f (#[rv]++args)).run P w:=by
 show((method (P.types.size+Made.depth) T u name) >>=fun p=>callFunc p.1 (#[p.2]++args)).run P w=_;rw [Sem.run_bind,hm];rfl
theorem AI{T:TypeId}{u rv v:Value}{name:String}(H:f7 P f e)(xs:List Operand)(vs:List Value)(ho:o.op= .call c)(hc:c={ callee:=.invoke x name,args:=xs.toArray,argTypes:=ts })(hl:xs.length=vs.length)
 (hm:∀w,(method (P.types.size+Made.depth) T u name).run P w= .ok (f,rv) w) (hr:∀w,(e (#[rv]++vs.toArray)).run P w= .ok v w) (hns:Ns P (callMethod (.iface T u) name vs.toArray)):
 bG M o ((x,.eq (.iface T u))::xs.zip (vs.map .eq)) [] (fun _:Unit=>(.eq v,[])):=
 .val0 (hnd:=by simp only [nd, *]) (hns:=fun _ _ a hN=>by rw [Bg ho hc hN.1 (i9 hl hN.2)];exact hns) fun S w a hN=>
  ⟨v,by rw [Bg ho hc hN.1 (i9 hl hN.2),C3 (hm w),H.run,hr];rfl,rfl⟩
theorem F7{v:Value}{ms:Array (String×TypeId)}(hT:P.underlying T=some (.interface ms))(hv:LA v=true):Ns P (binOp .eql T v .nilIface):=by
 cases v with
 |nilIface=>exact ai (show Ns P (Op.equalIn (9999+1) T .nilIface .nilIface) by unfold Op.equalIn;exact cV hT trivial) fun _=>bC
 |iface t u=>exact ai (show Ns P (Op.equalIn (9999+1) T (.iface t u) .nilIface) by unfold Op.equalIn;exact cV hT trivial) fun _=>bC
 |_=>cases hv
theorem sO{v:Value}{T':TypeId}{ms:Array (String×TypeId)}(ho:o.op= .binOp .eql T x (.const .nilIface) T')(hT:P.underlying T=some (.interface ms))(hv:LA v=true):bG M o [(x,.eq v),(.const .nilIface,.eq .nilIface)] [] (fun _:Unit=>(.eq (.bool (!wy v)),[])):=
 i8 (hns:=F7 hT hv) ho fun w=>by
  cases v with
  |nilIface=>
   have h:∀d:Nat,(Op.equalIn (d+1) T .nilIface .nilIface).run P w= .ok true w:=fun d=>by simp [Op.equalIn,run_underlying hT]
   simp [eqGuard,binOp,Op.equal,Op.maxDepth,h 9999,wy]
  |iface t u=>
   have h:∀d:Nat,(Op.equalIn (d+1) T (.iface t u) .nilIface).run P w= .ok false w:=fun d=>by simp [Op.equalIn,run_underlying hT]
   simp [eqGuard,binOp,Op.equal,Op.maxDepth,h 9999,wy]
  |_=>cases hv
theorem H8{T e:TypeId}{p:Option Addr}(ho:o.op= .makeInterface T x)(hT:P.underlying T=some (.pointer e)):bG M o [(x,.eq (.pointer p))] [] (fun _:Unit=>(.eq (.iface T (.pointer p)),[])):=
 .val0 fun S w a hN=>by
  have e:a.eval x= .pointer p:=hN.1
  refine⟨_,?_,rfl⟩
  simp [execOp,ho,e,Instr.makeInterface,run_underlying hT]
theorem MV{S:FS}{w:World}{u a b c:Value}(ha:bB a=true)(hb:bB b=true)(hc:bB c=true)(h:(A.eq (.agg #[a,b,c])).holds S w u):(A.agg (.pair (.eq a) (.pair (.eq b) (.eq c)))).holds S w u:=
 ⟨[a,b,c],⟨[a],[b,c],rfl,⟨rfl,ha⟩,[b],[c],rfl,⟨rfl,hb⟩,rfl,hc⟩,h⟩
theorem zF{S:FS}{w:World}{u a b c:Value}(h:(A.agg (.pair (.eq a) (.pair (.eq b) (.eq c)))).holds S w u):u= .agg #[a,b,c]:=by
 obtain⟨cs,⟨c1,c2,rfl,⟨rfl,_⟩,c3,c4,rfl,⟨rfl,_⟩,rfl,_⟩,rfl⟩:=h;rfl
end
theorem GT{c:Cx}{ops:Array Oper}{o oj:Oper}{l:List Oper}{Q:Exit→Act→VW→Prop}{Γ:Ga}{Δ:List D}{N:List (Operand×A)}{d j s:Nat}{g:Bool}{X:Type}{R:X→A×List D}(pre:List D)(hg:o.guard=some (j,g))(hj:ops[j]? =some oj)(hs:oj.dst=some s)(hl:lk Γ s=some (.eq (.bool g)))
 (hd:o.dst=some d) (hdN:Nat.blt d c.N=true) (ht:bG c.M o N Δ R) (hh:fo Γ N) (h:∀x,JO c ops l Q ((d,(R x).1)::Γ) (pre++(R x).2)):JO c ops (o::l) Q Γ (pre++Δ):=by
 have h1:JO c ops (o::l) Q Γ (Δ++pre):=bO (fun _ _ h=>by rw [qC hg hj hs hl h];simp) hd hdN ht hh (fun x a w st=>h x a w (st.perm List.perm_append_comm))
 exact fun a w st=>h1 a w (st.perm List.perm_append_comm)
end K
end Go.Proofs.YtddneonghpmidaaGreatDoor
set_option linter.unusedVariables false
namespace Go.Proofs.YtddneonghpmidaaGreatDoor
namespace K
open Go
theorem GW{c:Cx}{C:Code}{Q:Exit→Act→VW→Prop}{Γ:Ga}{F:List D}{v:Value}{T:TypeId}{t:Ty}{l:List t.den}(hl:l≠[])(h:∀b cap,v= .slice (some ⟨b,0,none⟩) l.length cap→l.length≤cap→JC c C Q Γ (.sl v T t l::F)):JC c C Q Γ (.sl v T t l::F):=by
 intro a w st;obtain⟨_,_,S,_,_,h5,_⟩:=id st;rcases h5.holds _ (List.mem_cons_self ..) with⟨rfl,rfl⟩ |⟨b,cap,cc,rfl,h1,_⟩
 ·exact absurd rfl hl
 ·exact h b cap rfl h1 a w st
section
variable {P:Program}{M:Md P}{o:Oper}{x y z q:Operand}{T T' e:TypeId}{r r':A}{t:Ty}
theorem sN{lo hi mx:Option Operand}{u v:Value}{vl vh vm:Option Value}{N:List (Operand×A)}(ho:o.op= .slice T x lo hi mx)(hN:∀S w a,bz S w a N→a.eval x=u∧lo.map a.eval=vl∧hi.map a.eval=vh∧mx.map a.eval=vm)
 (hT:P.underlying T=some (.slice e)) (hr:∀w,(Instr.slice T u vl vh vm).run P w= .ok v w):bG M o N [] (fun _:Unit=>(.eq v,[])):=
 .val0 fun S w a h=>by
  obtain⟨e1,e2,e3,e4⟩:=hN S w a h
  have hel:P.elem T=e:=by simp [Program.elem,hT]
  have hu:P.underlying T=some (.slice (P.elem T)):=by rw [hel];exact hT
  refine⟨v,?_,rfl⟩
  simp [execOp,ho,e1,e2,e3,e4,run_sliceAt_slice w T _ _ _ _ hu,hr]
section
variable {a:Option Addr}{n cap m:Nat}{k k' k'':IntKind}{i j i':Int}{g:Bool}
theorem CU(hT:P.underlying T=some (.slice e)):P.underlying T=some (.slice (P.elem T)):=by
 have hel:P.elem T=e:=by simp [Program.elem,hT]
 rw [hel];exact hT
theorem R2(hT:P.underlying T=some (.slice e)):P.elem T=e:=by simp [Program.elem,hT]
theorem wd(ho:o.op= .slice T x none (some y) none)(hT:P.underlying T=some (.slice e))(he:dM P e m g)(h0:0≤i)(h1:i≤cap):
 bG M o [(x,.eq (.slice a n cap)),(y,.eq (.int k i))] [] (fun _:Unit=>(.eq (sliced a 0 i.toNat cap m),[])):=
 sN (vl:=none) (vh:=some (.int k i)) (vm:=none) ho (fun S w a h=>⟨h.1,rfl,congrArg some h.2.1,rfl⟩) hT fun w=>by
  have:=run_slice_h (P:=P) w T a n cap (CU hT) k i h0 h1
  simpa [R2 hT,he.size] using this
theorem Dl(ho:o.op= .slice T x (some y) none none)(hT:P.underlying T=some (.slice e))(he:dM P e m g)(h0:0≤i)(h1:i≤n):
 bG M o [(x,.eq (.slice a n cap)),(y,.eq (.int k i))] [] (fun _:Unit=>(.eq (sliced a i.toNat n cap m),[])):=
 sN (vl:=some (.int k i)) (vh:=none) (vm:=none) ho (fun S w a h=>⟨h.1,congrArg some h.2.1,rfl,rfl⟩) hT fun w=>by
  have:=run_slice_l (P:=P) w T a n cap (CU hT) k i h0 h1
  simpa [R2 hT,he.size] using this
theorem AD(ho:o.op= .slice T x (some y) (some z) none)(hT:P.underlying T=some (.slice e))(he:dM P e m g)(h0:0≤i)(h1:i≤j)(h2:j≤cap):
 bG M o [(x,.eq (.slice a n cap)),(y,.eq (.int k i)),(z,.eq (.int k' j))] [] (fun _:Unit=>(.eq (sliced a i.toNat j.toNat cap m),[])):=
 sN (vl:=some (.int k i)) (vh:=some (.int k' j)) (vm:=none) ho (fun S w a h=>⟨h.1,congrArg some h.2.1,congrArg some h.2.2.1,rfl⟩) hT fun w=>by
  have:=run_slice_lh (P:=P) w T a n cap (CU hT) k k' i j h0 h1 h2
  simpa [R2 hT,he.size] using this
theorem yV(ho:o.op= .slice T x (some y) (some z) (some q))(hT:P.underlying T=some (.slice e))(he:dM P e m g)(h0:0≤i)(h1:i≤j)(h2:j≤i')(h3:i'≤cap):
 bG M o [(x,.eq (.slice a n cap)),(y,.eq (.int k i)),(z,.eq (.int k' j)),(q,.eq (.int k'' i'))] [] (fun _:Unit=>(.eq (sliced a i.toNat j.toNat i'.toNat m),[])):=
 sN (vl:=some (.int k i)) (vh:=some (.int k' j)) (vm:=some (.int k'' i')) ho (fun S w a h=>⟨h.1,congrArg some h.2.1,congrArg some h.2.2.1,congrArg some h.2.2.2.1⟩) hT fun w=>by
  have:=run_slice_lhm (P:=P) w T a n cap (CU hT) k k' k'' i j i' h0 h1 h2 h3
  simpa [R2 hT,he.size] using this
end
theorem En{b i cap m:Nat}:sliced (some ⟨b,0,none⟩) 0 i cap m= .slice (some ⟨b,0,none⟩) i cap:=by
 unfold sliced;split <;> simp [Addr.add]
theorem yX{b cap i j:Nat}{l:List t.den}{bytes:Nat}{c:Call}(ho:o.op= .call c)(hc:c={ callee:=.builtin .append,args:= #[x,y],argTypes:= #[T,T] })(hT:mJ P T e t.cells bytes)(hij:i≤j)(hj:j≤l.length)(hcap:l.length≤cap):
 bG M o [(x,.eq (.slice (some ⟨b,0,none⟩) i cap)),(y,.eq (sliced (some ⟨b,0,none⟩) j l.length cap t.cells))] [.sl (.slice (some ⟨b,0,none⟩) l.length cap) e t l]
  (fun _:Unit=>(.eq (.slice (some ⟨b,0,none⟩) (l.take i++l.drop j).length cap),[.sl (.slice (some ⟨b,0,none⟩) (l.take i++l.drop j).length cap) e t (l.take i++l.drop j)])):=by
 have hlen':(l.take i++l.drop j).length=i+(l.length - j):=by simp;omega
 rw [hlen']
 refine jt ⟨by simp only [nd, *],fun S w a next hd hN hO k=>?_⟩ (fun S w a hN hO=>wo ho hc hT.und (by
  have e1:a.eval x=_:=hN.1;rw [e1];exact⟨_,_,_,rfl⟩) (by
  have e2:a.eval y=_:=hN.2.1;rw [e2];exact⟨_,_,_,rfl⟩)) (fun d hd=>by simp at hd;subst hd;trivial)
 have e1:a.eval x= .slice (some ⟨b,0,none⟩) i cap:=hN.1
 have e2:a.eval y=sliced (some ⟨b,0,none⟩) j l.length cap t.cells:=hN.2.1
 have hown:=hO.holds _ (by simp:D.sl (.slice (some ⟨b,0,none⟩) l.length cap) e t l∈[D.sl (.slice (some ⟨b,0,none⟩) l.length cap) e t l])
 rcases id hown with⟨h,_⟩ |⟨b',cap',cc,heq,h1,h1',h2,h3,h4⟩
 ·
  cases h
 cases heq
 obtain⟨inf,zv,q1,q2,q3,q4,q5⟩:=hT.ex
 have hln:=ig (fun _ _ h=>aM t h) h4
 have hlt:(l.take i).length=i:=by simp;omega
 have t1:=vT (fun _ _ h=>aM t h) i h4
 have t2:=vV (fun _ _ h=>aM t h) j h4
 rw [List.take_take,Nat.min_eq_left (Nat.mul_le_mul_right _ (by omega))] at t1
 have hown':(D.sl (.slice (some ⟨b,0,none⟩) i cap) e t (l.take i)).holds S w:=.inr ⟨b,cap,cc,by rw [hlt],by omega,h1',h2,h3,by rw [hlt];exact t1⟩
 obtain⟨xs,hrow,hrd⟩:=rN.1 hown'
 rw [hlt] at hrow
 have hle:((cc.toList.take (l.length * t.cells)).drop (j * t.cells)).length=(l.length - j) * t.cells:=(ig (fun _ _ h=>aM t h) t2).trans (by rw [List.length_drop])
 have hone:=qK (fun _ _ h=>vS t h) t2
 obtain⟨w',g1,g2,g3⟩:=run_append_fits (P:=P) w 0 T o.type e inf t.cells hT.und q1 q3 b i cap xs hrow (if cap=j then⟨b,0,none⟩ else⟨b,j * t.cells,none⟩) (l.length - j) (cap - j) _ hle (fun n u hu=>by
  split
  ·rename_i hcj;have:((cc.toList.take (l.length * t.cells)).drop (j * t.cells)).length=0:=by rw [hle,show l.length - j=0 by omega,Nat.zero_mul]
   rw [List.length_eq_zero_iff.1 this] at hu;cases hu
  ·rw [eA];rw [List.getElem?_drop,List.getElem?_take] at hu;split at hu
   ·rw [Array.getElem?_toList] at hu;simp [World.cell?,h2,hu]
   ·cases hu) (fun u hu=>by rw [HT];exact hone u hu) (by omega)
 have hr:(execOp a.eval o).run P w= .ok (.value (.slice (some ⟨b,0,none⟩) (i+(l.length - j)) cap)) w':=by
  have hsl:sliced (some ⟨b,0,none⟩) j l.length cap t.cells= .slice (some (if cap=j then⟨b,0,none⟩ else⟨b,j * t.cells,none⟩)) (l.length - j) (cap - j):=by
   unfold sliced;split
   ·rfl
   ·simp [eA]
  simp [execOp,ho,hc,resolve,invoke,builtin,e1,e2,hsl,g1]
 have hX:∀b',some b=some b'→aE [D.sl (.slice (some ⟨b,0,none⟩) l.length cap) e t l] b':=fun b' h=>dI.2 (by cases h;rfl)
 have hK:ip S w w':=fun b' hb'=>g3.block b' (hd b' hb') (fun h=>(hO.own b' (hX b' h.symm)).1 hb')
 rw [hr]
 refine k () S w' _ (rJ hd hX g3) rfl (fu (rN.2 ⟨xs++_,by rw [hlen'];exact g2,lP (bF (fun _ _ h=>eE (fun _ h=>h) hK t h) hrd) (bF (fun _ _ h=>eE (fun _ h=>h) hK t h) t2)⟩) ?_) ?_
 ·
  intro b' hb';have hb'':b=b':=by simpa [D.foot,Value.ownBlock] using hb'
  subst hb'';exact⟨(hO.own b (hX b rfl)).1,(g2.lt b rfl).2⟩
 ·
  intro b' hb';have hb'':b=b':=by simpa [D.foot,Value.ownBlock] using dI.1 hb'
  subst hb'';exact .inl (hX b rfl)
theorem AM{b cap n:Nat}{l:List t.den}{z:Value}{c:Call}(ho:o.op= .call c)(hc:c={ callee:=.builtin .clear,args:= #[x],argTypes:= #[T] })(hT:P.underlying T=some (.slice e))(h1:t.cells=1)(hz:∀w,(zeroValue e).run P w= .ok z w)(hzc:z.cells= #[z])(hzo:bB z=true)
 (hn:l.length < n) (hcap:n≤cap):
 bG M o [(x,.eq (sliced (some ⟨b,0,none⟩) l.length n cap 1))] [.sl (.slice (some ⟨b,0,none⟩) l.length cap) e t l] (fun _:Unit=>(.eq (.tuple #[]),[.sl (.slice (some ⟨b,0,none⟩) l.length cap) e t l])):=by
 refine jt ⟨by simp only [nd, *],fun S w a next hd hN hO k=>?_⟩ (fun S w a hN hO=>jJ (by simp only [uc, *]) a.eval) (fun d hd=>by simp at hd;subst hd;trivial)
 have e1:a.eval x=sliced (some ⟨b,0,none⟩) l.length n cap 1:=hN.1
 have hown:=hO.holds _ (by simp:D.sl (.slice (some ⟨b,0,none⟩) l.length cap) e t l∈[D.sl (.slice (some ⟨b,0,none⟩) l.length cap) e t l])
 rcases id hown with⟨h,_⟩ |⟨b',cap',cc,heq,h2,h2',h3,h4,h5⟩
 ·
  cases h
 cases heq
 have hsl:sliced (some ⟨b,0,none⟩) l.length n cap 1= .slice (some ⟨b,l.length,none⟩) (n - l.length) (cap - l.length):=by
  unfold sliced;rw [if_neg (by omega)];simp [eA]
 have hzl:(Builtin.zeroCells z.cells (n - l.length)).toList=List.replicate (n - l.length) z:=by
  rw [hzc];simp [Builtin.zeroCells];apply List.ext_getElem
  ·simp
  ·intro i h1 h2;simp [Nat.mod_one]
 rw [h1] at h4 h5
 rw [Nat.mul_one] at h4 h5
 have hst:=iP P b e l.length (List.replicate (n - l.length) z) 0 w cc h3 (fun v hv=>by rw [List.eq_of_mem_replicate hv];exact hzo) (by simp;omega)
 simp only [Nat.add_zero,List.length_replicate] at hst
 obtain⟨m,hm⟩:∃m,n - l.length=m+1:=⟨n - l.length - 1,by omega⟩
 have hr:(execOp a.eval o).run P w= .ok (.value (.tuple #[])) { w with heap:=w.heap.setIfInBounds b (.cells (cc.toList.take l.length++List.replicate (n - l.length) z++cc.toList.drop (l.length+(n - l.length))).toArray e (0,0)) }:=by
  rw [hm] at hst hzl⊢;simp [execOp,ho,hc,resolve,invoke,builtin,e1,hsl,hm,Builtin.clear_,run_underlying hT,hz,hzl,hst]
 have hb:=hO.own b (dI.2 rfl)
 rw [hr]
 have hK:ip S w { w with heap:=w.heap.setIfInBounds b (.cells (cc.toList.take l.length++List.replicate (n - l.length) z++cc.toList.drop (l.length+(n - l.length))).toArray e (0,0)) }:=fun b' hb'=>by
  have hne:b≠b':=fun e=>hb.1 (by rw [e];exact hb');simp [Array.getElem?_setIfInBounds_ne hne]
 refine k () S _ _ (nM hd (dI.2 rfl) _) rfl (fu (.inr ⟨b,cap,(cc.toList.take l.length++List.replicate (n - l.length) z++cc.toList.drop (l.length+(n - l.length))).toArray,rfl,h2,h2',Array.getElem?_setIfInBounds_self_of_lt hb.2,?_,?_⟩) fun b' h=>?_) (fun b' hb'=>.inl hb')
 ·
  simp [h1];omega
 ·
  rw [h1,Nat.mul_one]
  have:((cc.toList.take l.length++List.replicate (n - l.length) z++cc.toList.drop (l.length+(n - l.length))).toArray.toList).take l.length=cc.toList.take l.length:=by
   rw [List.toList_toArray,List.append_assoc];rw [List.take_append_of_le_length (by simp;omega),List.take_take,Nat.min_self]
  rw [this];exact bF (fun _ _ h=>eE (fun _ h=>h) hK t h) h5
 ·
  cases h;exact⟨hb.1,by simpa using hb.2⟩
end
end K
end Go.Proofs.YtddneonghpmidaaGreatDoor
set_option linter.unusedVariables false
namespace Go.Proofs.YtddneonghpmidaaGreatDoor
namespace K
open Go
theorem tC{c:Cx}{C:Code}{Q:Exit→Act→VW→Prop}{Γ:Ga}{Δ F:List D}{Z:Type}(G:Z→Ga)(E:Z→List D)
 (h:∀S w,JC ⟨c.P,c.N,S,w,aE Δ,c.rd,c.dfs,c.M⟩ C (fun e a v=>e= .normal∧∃z,St ⟨c.P,c.N,S,w,aE Δ,c.rd,c.dfs,c.M⟩ (G z) (E z) a v) Γ Δ)
 (k:∀z,JN c (Q .normal) (G z) (E z++F)):JC c C Q Γ (Δ++F):=by
 intro a w st
 obtain⟨h1,h2,S,h3,h4,h5,h6⟩:=st
 have hin:∀b,aE Δ b→aE (Δ++F) b:=fun b ⟨e,he,hb⟩=>⟨e,List.mem_append.2 (.inl he),hb⟩
 have hX:∀b,aE Δ b→c.X b∨c.w0.heap.size≤b:=fun b hb=>h4 b (hin b hb)
 refine mQ (fun e a' v' q=>?_) (h S w a w ⟨h1,h2,S,bV.refl h3.dom,fun b hb=>.inl hb,h5.part,h6⟩)
 obtain⟨rfl,z,g1,g2,S',g3,g4,g5,g6⟩:=q
 refine k z a' v' ⟨g1,g2,S',h3.trans g3 hX,fun b ⟨e,he,hb⟩=>?_,h5.frame h3.dom g3 g5 g4,g6⟩
 rcases List.mem_append.1 he with he |he
 ·
  rcases g4 b ⟨e,he,hb⟩ with hh |hh
  ·exact hX b hh
  ·exact .inr (Nat.le_trans h3.size hh)
 ·
  exact h4 b ⟨e,List.mem_append.2 (.inr he),hb⟩
def fD(T:TypeId)(z:Value×(Nat→Value))(ls:List (List Int)):List D:=.sl z.1 T .val (eB z.2 0 ls)::kY z.2 0 ls
theorem HS{n j:Nat}:eB (fun _=>.slice none 0 0) j (List.replicate n [])=List.replicate n (.slice none 0 0):=by
 induction n generalizing j with
 |zero=>rfl
 |succ n ih=>rw [List.replicate_succ,List.replicate_succ,eB,ih]
theorem KH{vs:Nat→Value}{ls:List (List Int)}{i:Nat}{v:Value}{l:List Int}(h:i < ls.length):eB (nP vs i v) 0 (ls.set i l)=(eB vs 0 ls).set i v:=by
 apply List.ext_getElem?;intro j;rw [mS,Nat.zero_add,List.getElem?_set,List.getElem?_set,g9,mS,Nat.zero_add];unfold nP;by_cases e:i=j
 ·subst e;simp [h]
 ·rw [if_neg e,if_neg e,if_neg (fun e'=>e e'.symm)]
theorem Hh{vs:Nat→Value}{ls:List (List Int)}{i:Nat}{l:List Int}:eB vs 0 (ls.set i l)=eB vs 0 ls:=by
 apply List.ext_getElem?;intro j;rw [mS,Nat.zero_add,List.getElem?_set,mS,Nat.zero_add];by_cases e:i=j
 ·subst e;by_cases hi:i < ls.length
  ·simp [hi]
  ·simp [hi,List.getElem?_eq_none (Nat.le_of_not_lt hi)]
 ·rw [if_neg e]
theorem EA{vs:Nat→Value}{ls:List (List Int)}{i:Nat}{v:Value}{l:List Int}(h:i < ls.length):kY (nP vs i v) 0 (ls.set i l)=(kY vs 0 ls).set i (.sl v 3 (.int .i64) l):=by
 apply List.ext_getElem?;intro j;rw [qN,Nat.zero_add,List.getElem?_set,List.getElem?_set,m4,qN,Nat.zero_add];unfold nP;by_cases e:i=j
 ·subst e;simp [h]
 ·rw [if_neg e,if_neg e,if_neg (fun e'=>e e'.symm)]
theorem FD{vs:Nat→Value}{i:Nat}:nP vs i (vs i)=vs:=by
 funext j;unfold nP;split
 ·rename_i e;rw [e]
 ·rfl
section
variable {c:Cx}{Γ Γ':Ga}{Δ Δ' F pre:List D}{T:TypeId}{z:Value×(Nat→Value)}{ls:List (List Int)}{i:Nat}{l l':List Int}{v v':Value}
theorem M7(n:Nat):∀j,SE c Γ Δ Γ (kY (fun _=>.slice none 0 0) j (List.replicate n [])++Δ):=by
 induction n with
 |zero=>exact fun _=>fun _ _ h=>h
 |succ n ih=>exact fun j=>SE.trans (ih (j+1)) (SE.nil 3 (.int .i64))
theorem BN{n:Nat}:SE c Γ (.sl v T .val (List.replicate n (.slice none 0 0))::F) Γ (F++fD T (v,fun _=>.slice none 0 0) (List.replicate n [])):=by
 refine SE.trans (M7 n 0) (fE ?_);unfold fD;rw [HS];exact(List.perm_middle.trans (List.Perm.cons _ List.perm_append_comm)).trans List.perm_middle.symm
theorem uA(h:ls[i]? =some l):SE c Γ (pre++fD T z ls) Γ (.sl (z.2 i) 3 (.int .i64) l:: .sl z.1 T .val (eB z.2 0 ls)::(pre++(kY z.2 0 ls).eraseIdx i)):=by
 refine fE ?_;have h1:=iY (Δ:=kY z.2 0 ls) i (.sl (z.2 i) 3 (.int .i64) l) (by rw [qN,h,Nat.zero_add];rfl);unfold fD;refine(List.Perm.append_left pre (List.Perm.cons _ h1)).trans ?_;refine List.perm_middle.trans ?_;refine(List.Perm.cons _ List.perm_middle).trans ?_;exact List.Perm.swap _ _ _
theorem A7{L:List D}{d:D}{e:D}(hi:i < L.length):(d::e::(pre++L.eraseIdx i)).Perm (pre++e::L.set i d):=by
 refine(List.Perm.swap _ _ _).trans ?_;refine List.Perm.trans ?_ List.perm_middle.symm;refine List.Perm.cons _ ?_;refine List.perm_middle.symm.trans ?_;exact List.Perm.append_left pre (HC hi).symm
theorem wV(h:ls[i]? =some l):SE c Γ (.sl v' 3 (.int .i64) l':: .sl z.1 T .val ((eB z.2 0 ls).set i v')::(pre++(kY z.2 0 ls).eraseIdx i)) Γ (pre++fD T (z.1,nP z.2 i v') (ls.set i l')):=by
 have hi:=(List.getElem?_eq_some_iff.1 h).1;refine fE ?_;unfold fD;rw [KH hi,EA hi];exact A7 (by rw [m4];exact hi)
theorem BP(h:ls[i]? =some l):SE c Γ (.sl (z.2 i) 3 (.int .i64) l':: .sl z.1 T .val (eB z.2 0 ls)::(pre++(kY z.2 0 ls).eraseIdx i)) Γ (pre++fD T z (ls.set i l')):=by
 have hi:=(List.getElem?_eq_some_iff.1 h).1;have e:=EA (vs:=z.2) (v:=z.2 i) (l:=l') hi;rw [FD] at e;refine fE ?_;unfold fD;rw [Hh,e];exact A7 (by rw [m4];exact hi)
theorem BO:SE c Γ (pre++fD T z ls) Γ (.sl z.1 T (.slice (.int .i64)) ls::pre):=by
 refine SE.trans (fE ?_) (GQ (z:=z.1) (vs:=z.2) (ls:=ls) (F:=pre));unfold fD;exact List.perm_middle.trans (List.Perm.cons _ List.perm_append_comm)
theorem yu:SE c Γ (.sl v' 3 (.int .i64) l':: .sl v T .val (eB z.2 0 ls++[v'])::(pre++kY z.2 0 ls)) Γ (pre++fD T (v,nP z.2 ls.length v') (ls++[l'])):=by
 refine fE ?_;unfold fD;rw [Hg,HQ];refine(List.Perm.swap _ _ _).trans ?_;refine List.Perm.trans ?_ List.perm_middle.symm;refine List.Perm.cons _ ?_;rw [←List.append_assoc];exact List.perm_append_comm (l₁:=[_])
end
end K
end Go.Proofs.YtddneonghpmidaaGreatDoor
set_option linter.unusedVariables false
set_option linter.unusedSimpArgs false
namespace Go.Proofs.YtddneonghpmidaaGreatDoor
namespace K
open Go
theorem J0{P:Program}{M:Md P}{o:Oper}{N:List (Operand×A)}{Δ:List D}{X:Type}{R:X→A×List D}(h:si P o N Δ R)
 (hev:∀(S:FS) (w:World) (a:Act),(∀b,S b→b < w.heap.size)→bz S w a N→ij Δ S w→∃y w',(execOp a.eval o).run P w= .ok y w'∧∀e∈(execOp a.eval o).events P w #[],lI w.heap.size (aE Δ) S w'.heap.size e):bG M o N Δ R:=by
 refine⟨h.1,fun rd S v a next Q hd hN hO k v1 hr=>?_⟩
 have hd1:∀b,S b→b < v1.heap.size:=fun b hb=>Nat.lt_of_lt_of_le (hd b hb) hr.size
 have hN1:=bz.rely hd hO.sees hr hN
 have hO1:=hO.rely hd hr
 have e1:o.semAt rd a.eval=execOp a.eval o:=Oper.semAt_eq _ _ _ fun c e=>by have:=h.1;rw [e] at this;cases this
 rw [e1]
 obtain⟨y,w',hrun,hev⟩:=hev S v1 a hd1 hN1 hO1.p
 have hstep:=h.2 S v1 a (fun a' w1=>w1=w'→(∃S',jy (aE Δ) S v1 S' w1)∧next a' (v1.upd w1)) hd1 hN1 hO1.p fun x S' w1 u g1 g2 g3 g4 e=>by
  refine⟨⟨S',g1⟩,k x S' (v1.upd w1) u ((bV.rely (X:=aE Δ) hd hr).trans (bV.of g1) fun b hb=>.inl hb) g2 (hO1.of g1 g3 g4) fun b hb=>(g4 b hb).imp id fun h=>Nat.le_trans hr.size h⟩
 rw [hrun] at hstep⊢
 have fin:∀a',(∃S',jy (aE Δ) S v1 S' w')∧next a' (v1.upd w')→Sg P v1 (execOp a.eval o)∧next a' (v1.upd w'):=fun a' ⟨⟨S',g1⟩,g2⟩=>by
  refine⟨?_,g2⟩;unfold Sg;rw [hrun];refine⟨fun b hb hz=>g1.keep b hb fun hf=>?_,g1.size,g1.os,g1.tape,g1.output,fun e he=>?_⟩
  ·exact hz.elim (hO1.far b hf).1 (hO1.far b hf).2
  ·have:=hev e he;unfold lI at this;unfold oZ
   have good:∀b:Nat,(v1.heap.size≤b∨aE Δ b∨(S b∧e.write=false))→¬v1.A b∧(e.write=true→¬v1.Z b):=fun b hb=>by
    rcases hb with hb |hb |⟨hb,hw⟩
    ·exact⟨fun ha=>by have:=hO1.domA b ha;omega,fun _ hz=>by have:=hO1.domZ b hz;omega⟩
    ·exact⟨(hO1.far b hb).1,fun _=>(hO1.far b hb).2⟩
    ·exact⟨hO1.sees b hb,fun h=>by rw [hw] at h;cases h⟩
   split at this
   ·rename_i ad hl;try rw [hl]
    exact⟨this.1,this.2.1,(good _ this.2.2).1,(good _ this.2.2).2⟩
   ·rename_i r hl;try rw [hl]
    exact⟨this.1,this.2.1,(good _ this.2.2).1,(good _ this.2.2).2⟩
   ·rename_i m hl;try rw [hl]
    exact this
   ·exact this.elim
 cases y with
 |value u=>exact fin _ (hstep rfl)
 |skip=>exact fin _ (hstep rfl)
 |_=>exact hstep.elim
theorem bG.val1e{P:Program}{M:Md P}{o:Oper}{N:List (Operand×A)}{r:A}{e:D}
 (h:∀(S:FS) (w:World) (a:Act),bz S w a N→e.holds S w→∃v,(execOp a.eval o).run P w= .ok (.value v) w∧r.holds S w v∧(execOp a.eval o).events P w #[]= #[]) (hnd:nd o.op=true:=by simp only [nd, *]):bG M o N [e] (fun _:Unit=>(r,[e])):=by
 refine J0 ⟨hnd,fun S w a next hd hN ho k=>?_⟩ (fun S w a hd hN ho=>?_)
 ·
  obtain⟨v,hv,hr,_⟩:=h S w a hN (ho.holds e (by simp));rw [hv];exact k () S w v (jy.refl hd) hr ho (fun b hb=>.inl hb)
 ·
  obtain⟨v,hv,hr,he⟩:=h S w a hN (ho.holds e (by simp));exact⟨_,_,hv,fun e h=>by rw [he] at h;simp at h⟩
def uG:Value→Value
 | .slice a _ _=>.pointer a
 |_=>undef
section
variable {P:Program}{M:Md P}{o:Oper}{x y z:Operand}{T T' e:TypeId}{r r':A}{t:Ty}
theorem xM{S:FS}{w:World}{b:Nat}{TE:TypeId}{a0:A}(h:(D.obj b TE a0).holds S w):w.shape? b=some (TE,a0.n):=by
 obtain⟨cs,h1,h2⟩:=h;have:=a0.cells_length h2;simp [World.shape?,h1,this]
theorem Dj{b:Nat}{TE u:TypeId}{a0:A}{j:TypeInfo}(ho:o.op= .convert T T' x)(hs:P.underlying T=some (.pointer u))(hd:P.underlying T'=some .unsafePointer)(ht:P.info? u=some j)(hj:j.size≠0)(hn:Nat.blt 0 a0.n=true):
 bG M o [(x,.eq (.pointer (some ⟨b,0,none⟩)))] [.obj b TE a0] (fun _:Unit=>(.eq (.pointer (some ⟨b,0,none⟩)),[.obj b TE a0])):=
 .val1e fun S w a hN h=>by
  have e1:a.eval x= .pointer (some ⟨b,0,none⟩):=hN.1
  have hsh:=xM h
  have hr:=Lib.run_to_unsafe (P:=P) w (src:=T) (dst:=T') ⟨b,0,none⟩ hs hd ht hj hsh (Nat.blt_eq▸hn:0 < a0.n)
  refine⟨_,by simp only [execOp,ho,e1,Sem.run_bind,hr];rfl,rfl,?_⟩
  simp only [execOp,ho,e1,Sem.events_bind,hr,Result.evThen_ok,Sem.events_pure]
  have h0:0 < a0.n:=Nat.blt_eq▸hn
  simp [convert,run_underlying hs,run_underlying hd,Conv.unsafePointer,Conv.seenAt,viewAt,cellsIn,hsh,sizeOf,typeInfo,ht,hj]
  try (intro h;omega)
theorem yW{b:Nat}{TE u:TypeId}{a0:A}{j:TypeInfo}(ho:o.op= .convert T T' x)(hs:P.underlying T=some .unsafePointer)(hd:P.underlying T'=some (.pointer u))(ht:P.info? u=some j)(hl:liesAt P P.depth TE (a0.n / P.cellsOf TE) 0 u 1=true):
 bG M o [(x,.eq (.pointer (some ⟨b,0,none⟩)))] [.obj b TE a0] (fun _:Unit=>(.eq (.pointer (some ⟨b,0,none⟩)),[.obj b TE a0])):=
 .val1e fun S w a hN h=>by
  have e1:a.eval x= .pointer (some ⟨b,0,none⟩):=hN.1
  have hsh:=xM h
  have hr:=Lib.run_from_unsafe (P:=P) w (src:=T) (dst:=T') ⟨b,0,none⟩ hs hd ht hsh hl
  refine⟨_,by simp only [execOp,ho,e1,Sem.run_bind,hr];rfl,rfl,?_⟩
  simp only [execOp,ho,e1,Sem.events_bind,hr,Result.evThen_ok,Sem.events_pure]
  simp [convert,run_underlying hs,run_underlying hd,Conv.unsafePointer,Conv.seenAt,viewAt,hsh,variablesAt,hl,sizeOf,typeInfo,ht]
theorem H5{p:Addr}{u:TypeId}{j:TypeInfo}(ho:o.op= .binOp .neq T x y T')(hs:P.underlying T=some (.pointer u))(ht:P.info? u=some j)(hns:Ns P (binOp .neq T (.pointer (some p)) (.pointer (some p)))):
 bG M o [(x,.eq (.pointer (some p))),(y,.eq (.pointer (some p)))] [] (fun _:Unit=>(.eq (.bool false),[])):=
 i8 (hns:=hns) ho fun w=>by simp [eqGuard,Lib.run_neq_ptr_same w p hs ht]
theorem sS{T T2 t:TypeId}{b:Option Addr}{n c:Nat}{s:ByteArray}(hT:P.underlying T=some (.slice e))(hT2:P.underlying T2=some .string):Ns P (Builtin.append_ #[T,T2] t #[.slice b n c,.string s]):=by
 have noroom:Ns P (mark .noRoom):=⟨rfl,trivial⟩
 unfold Builtin.append_
 refine cV hT (ai c6 fun sz=>cV hT2 ?_)
 refine t9 (p:=n+s.size≤c) ?_ ?_
 ·
  refine ai (show Ns P (Builtin.firstCells sz s.size (.string s)) from gf) fun new=>?_
  cases b with
  |none=>exact bC
  |some a=>exact ai (iu _ _) fun _=>bC
 ·
  refine ai ek fun i=>?_
  have tail:Ns P (do
   let newCap←choose (.appendCap (n+s.size) c e)
   askRoom (newCap * (←typeInfo e).bytes)
   let old←Builtin.firstCells sz n (.slice b n c)
   let new←Builtin.firstCells sz s.size (.string s)
   let rest:=Builtin.zeroCells (←zeroValue e).cells (newCap - (n+s.size))
   pure (.slice (some (←newRow e (old++new++rest))) (n+s.size) newCap):Sem Value):=
   ai fK fun _=>ai ek fun _=>ai mD fun _=>ai gf fun _=>ai gf fun _=>ai eU fun _=>ai nV fun _=>bC
  have mid:Ns P (do
   if Builtin.nextslicecap (n+s.size) c * (←typeInfo e).bytes > 2 ^ 48 then(do
    if !(←Builtin.mayShare sz n s.size b (.string s)) then mark .noRoom
    unsupported (.resourceLimit "append: a slice or a string whose bytes no memory bears"))
   let newCap←choose (.appendCap (n+s.size) c e)
   askRoom (newCap * (←typeInfo e).bytes)
   let old←Builtin.firstCells sz n (.slice b n c)
   let new←Builtin.firstCells sz s.size (.string s)
   let rest:=Builtin.zeroCells (←zeroValue e).cells (newCap - (n+s.size))
   pure (.slice (some (←newRow e (old++new++rest))) (n+s.size) newCap):Sem Value):=by
   refine ai ek fun i=>?_
   split
   ·
    refine ai (AO (fun x=>?_) (fun x=>?_)) fun _=>tail
    ·
     split
     ·
      exact qR fun _=>sY
     ·
      exact sY
    ·
     split
     ·
      exact ai noroom fun _=>pN
     ·
      exact pN
   ·
    exact tail
  exact t9 (p:=((n+s.size:Nat):Int) > IntKind.i64.max∧(false=true∨i.bytes=0)) (ai eQ fun _=>mid) mid
def sE(s:ByteArray):List Int:=s.data.toList.map fun b=>(b.toNat:Int)
theorem Ap(s:ByteArray):(sE s).length=s.size:=by simp [sE]
theorem Eu{S:FS}{w:World}:∀(l:List UInt8),cM (rd S w (.int .u8)) (l.map fun b=>(b.toNat:Int)) (Lib.byteCells l)
 |[]=>rfl
 |b::l=>⟨[_],_,rfl,rfl,Eu l⟩
theorem AN{v:Value}{T2:TypeId}{l:List Int}{s:ByteArray}{c:Call}(ho:o.op= .call c)(hc:c={ callee:=.builtin .append,args:= #[x,y],argTypes:= #[T,T2] })(hT:mJ P T e 1 1)(hT2:P.underlying T2=some .string)
 (hz:(P.info? e).bind (·.zero)=some (.int .u8 0)) (he:e≠0) (hl:bq (l.length+s.size)):bG M o [(x,.eq v),(y,.eq (.string s))] [.sl v e (.int .u8) l] (fun v':Value=>(.eq v',[.sl v' e (.int .u8) (l++sE s)])):=by
 refine jt ⟨by simp only [nd, *],fun S w a next hd hN hO k=>?_⟩ (fun S w a hN hO=>?_) (fun d hd=>by simp at hd;subst hd;trivial)
 ·
  have e1:a.eval x=v:=hN.1;have e2:a.eval y= .string s:=hN.2.1;have hown:=hO.holds _ (by simp:D.sl v e (.int .u8) l∈[D.sl v e (.int .u8) l]);obtain⟨xs,hrow,hrd⟩:=rN.1 hown;obtain⟨i,zv,q1,q2,q3,q4,q5⟩:=hT.ex;have hz':i.zero=some (.int .u8 0):=by rw [q1] at hz;exact hz
  unfold bq at hl;obtain⟨v',w',g1,g2,g3,_⟩:=Lib.run_append_own_string (P:=P) w 0 T T2 o.type e i hT.und hT2 q1 hz' q3 q4 v l.length xs hrow s (by unfold maxLen;omega) (by omega) (Nat.zero_le _)
  have hr:(execOp a.eval o).run P w= .ok (.value v') w':=by
   simp [execOp,ho,hc,resolve,invoke,builtin,e1,e2,g1]
  have hX:∀b,v.ownBlock=some b→aE [D.sl v e (.int .u8) l] b:=fun b h=>dI.2 h;have hlen':(l++sE s).length=l.length+s.size:=by rw [List.length_append,Ap]
  have hb5:∀b,v'.ownBlock=some b→v.ownBlock=some b∨w.heap.size≤b:=by
   have hOF:ij [D.sl v e (.int .u8) l] (fun _=>False) w:=⟨fun d hd=>by
    simp at hd;subst hd;rcases hown with h |⟨b,cap,c,h1,h2,h3,h4,h5,h6⟩
    ·exact .inl h
    ·exact .inr ⟨b,cap,c,h1,h2,h3,h4,h5,bF (fun _ _ h=>sL (.int .u8) rfl h) h6⟩,fun b hb=>⟨fun h=>h,(hO.own b hb).2⟩,hO.apart⟩
   have hc':∀d∈[D.sl v e (.int .u8) l],d.calmP:=fun d hd=>by simp at hd;subst hd;trivial
   have hown0:=(oC hOF).holds _ (by simp:D.sl v e (.int .u8) l∈[D.sl v e (.int .u8) l]);obtain⟨xs0,hrow0,_⟩:=rN.1 hown0;obtain⟨v2,w2,k1,k2,k3,_⟩:=Lib.run_append_own_string (P:=P) (lF (fun _=>False) [D.sl v e (.int .u8) l] w) 0 T T2 o.type e i hT.und hT2 q1 hz' q3 q4 v l.length xs0 hrow0 s (by unfold maxLen;omega) (by omega) (Nat.zero_le _);obtain⟨b0,n0,c0,hv⟩:=tR hown;have hns:Ns P (Builtin.append_ #[T,T2] o.type #[v,.string s]):=by rw [hv];exact sS hT.und hT2
   obtain⟨w3,r1,_⟩:=CP hns (vI hOF hc') k1;rw [g1] at r1;cases r1;intro b hb;rcases Nat.lt_or_ge b w.heap.size with hlt |hge
   ·refine .inl ?_;apply Classical.byContradiction;intro hne;have hw2:=k3.block b (by simp [lF];exact hlt) (fun h=>hne h.symm)
    have hbad:(lF (fun _=>False) [D.sl v e (.int .u8) l] w).heap[b]? =some (.cells #[] 0 (0,0)):=by
     have hnf:¬aE [D.sl v e (.int .u8) l] b:=fun h=>hne (dI.1 h);rw [nN,Array.getElem?_eq_getElem hlt];simp [hnf]
    rw [hbad] at hw2;rcases k2.2 with⟨rfl,_⟩ |⟨g,cap,cur,rfl,_,k4,_⟩
    ·cases hb
    ·cases hb;rw [k4] at hw2;cases hw2;exact he rfl
   ·exact .inr hge
  have hK:ip S w w':=fun b hb=>g3.block b (hd b hb) (fun h=>(hO.own b (hX b h.symm)).1 hb);rw [hr];refine k v' S w' v' (rJ hd hX g3) rfl (fu (rN.2 ⟨xs++Lib.strCells s,by rw [hlen'];exact g2,lP (bF (fun _ _ h=>sL (.int .u8) rfl h) hrd) (Eu s.data.toList)⟩) ?_) ?_
  ·intro b hb;have hb':v'.ownBlock=some b:=hb;refine⟨fun hS=>?_,(g2.lt b hb).2⟩;rcases hb5 b hb' with h5 |h5
   ·exact(hO.own b (hX b h5)).1 hS
   ·have:=hd _ hS;omega
  ·intro b hb;have hb':v'.ownBlock=some b:=dI.1 hb;rcases hb5 b hb' with h5 |h5
   ·exact .inl (hX b h5)
   ·exact .inr h5
 ·
  have e1:a.eval x=v:=hN.1;have e2:a.eval y= .string s:=hN.2.1;have hown:=hO.holds _ (by simp:D.sl v e (.int .u8) l∈[D.sl v e (.int .u8) l]);obtain⟨b,n,c',rfl⟩:=tR hown;unfold execOp;rw [ho,hc];have e3: #[x,y].map a.eval= #[a.eval x,a.eval y]:=by simp
  have key:Ns P (builtin .append #[T,T2] o.type (#[x,y].map fun | .const _=>true |_=>false) (#[x,y].map a.eval)):=by
   rw [e3,e1,e2];exact jO (sS hT.und hT2)
  exact key
theorem Rm{P:Program}{w:World}{ts:Array TypeId}{ty:TypeId}{a:Addr}{n c:Nat}{es:Array Event}(hc:c≠0):(Builtin.unsafeSliceData_ ts ty #[.slice (some a) n c]).events P w es=es:=by
 obtain⟨k,rfl⟩:∃k,c=k+1:=⟨c - 1,by omega⟩;rfl
theorem OO{P:Program}{w:World}{ts:Array TypeId}{ty:TypeId}{n c:Nat}{es:Array Event}:(Builtin.unsafeSliceData_ ts ty #[.slice none n c]).events P w es=es:=rfl
theorem KL{pt it ty:TypeId}:Builtin.unsafeString_ #[pt,it] ty #[.pointer none,.int .i64 0]=
 (do
  let n←asInt (.int .i64 0)
  if n < 0 then runtimePanic (.error "unsafe.String: len out of range")
  if n > IntKind.i64.max then unsupported (.unsafePointer "String: a length above the largest int")
  if n=0 then pure (.string .empty)
  else runtimePanic (.error "unsafe.String: ptr is nil and len is not zero")):=rfl
theorem Hl{pt it ty:TypeId}{a:Addr}{m:Int}:Builtin.unsafeString_ #[pt,it] ty #[.pointer (some a),.int .i64 m]=
 (do
  let n←asInt (.int .i64 m)
  if n < 0 then runtimePanic (.error "unsafe.String: len out of range")
  if n > IntKind.i64.max then unsupported (.unsafePointer "String: a length above the largest int")
  if n=0 then pure (.string .empty)
  else if←variablesAt a (←elemOf pt) n.toNat then do
   let s←loadBytes a .empty n.toNat
   freeze a n.toNat
   pure (.string s)
  else unsupported (.unsafePointer "String: not so many bytes at ptr")):=rfl
theorem AG{v:Value}{l:List Int}{c:Call}(ho:o.op= .call c)(hc:c={ callee:=.builtin .unsafeSliceData,args:= #[x],argTypes:= #[T] })(hl:l=[]→v= .slice none 0 0):
 bG M o [(x,.eq v)] [.sl v e (.int .u8) l] (fun _:Unit=>(.eq (uG v),[.sl v e (.int .u8) l])):=
 .val1e fun S w a hN h=>by
  have e1:a.eval x=v:=hN.1
  rcases h with⟨rfl,rfl⟩ |⟨b,cap,cc,rfl,h1,h2,h3,h4,h5⟩
  ·
   exact⟨_,by simp [execOp,ho,hc,resolve,invoke,builtin,e1,Lib.run_unsafeSliceData_nil];rfl,rfl,by simp [execOp,ho,hc,resolve,invoke,builtin,e1,OO]⟩
  ·
   have hl0:l≠[]:=fun h=>by have:=hl h;cases this
   have:0 < l.length:=List.length_pos_iff.2 hl0
   have hcap:cap≠0:=by omega
   exact⟨_,by simp [execOp,ho,hc,resolve,invoke,builtin,e1,Lib.run_unsafeSliceData_row w _ _ _ _ _ hcap];rfl,rfl,by simp [execOp,ho,hc,resolve,invoke,builtin,e1,Rm hcap]⟩
theorem HE{P:Program}(w:World)(b:Nat):∀(l:List Int) (off:Nat) (acc:ByteArray),(∀j u,l[j]? =some u→w.cell? ⟨b,off+j,none⟩=some (.int .u8 u))→
 (loadBytes ⟨b,off,none⟩ acc l.length).run P w= .ok ⟨acc.data++(Lib.bytesOf l).toArray⟩ w∧∀es,∀ev∈(loadBytes ⟨b,off,none⟩ acc l.length).events P w es,ev∈es∨∃k,ev=⟨.cell ⟨b,k,none⟩,false,false⟩
 |[],off,acc,_=>⟨by simp [loadBytes,Lib.bytesOf],fun es ev h=>.inl (by simpa [loadBytes] using h)⟩
 |u::l,off,acc,h=>by
  have h0:w.cell? ⟨b,off,none⟩=some (.int .u8 u):=h 0 u rfl
  obtain⟨i1,i2⟩:=HE w b l (off+1) (acc.push u.toNat.toUInt8) (fun j y hy=>by
   have:=h (j+1) y (by simpa using hy)
   rw [show off+1+j=off+(j+1) by omega];exact this)
  have ha:(⟨b,off,none⟩:Addr).add 1=⟨b,off+1,none⟩:=eA ..
  refine⟨?_,fun es ev hev=>?_⟩
  ·
   simp only [List.length_cons,loadBytes,Sem.run_bind,run_load,h0,Result.andThen,ha]
   rw [i1]
   congr 1
   apply ByteArray.ext
   simp [ByteArray.push,Lib.bytesOf]
  ·
   simp only [List.length_cons,loadBytes,Sem.events_bind,run_load,h0,Result.evThen_ok,events_load,ha] at hev
   rcases i2 _ ev hev with h |h
   ·
    rcases Array.mem_push.1 h with h |h
    ·
     exact .inl h
    ·
     exact .inr ⟨off,h⟩
   ·
    exact .inr h
def rI(l:List Int):ByteArray:=⟨(Lib.bytesOf l).toArray⟩
theorem Av{S:FS}{w:World}:∀{l:List Int} {cs:List Value},cM (rd S w (.int .u8)) l cs→cs=l.map fun u=>.int .u8 u
 |[],_,h=>h
 |u::l,_,⟨c1,c2,h1,h2,h3⟩=>by
  have h2:c1=[.int .u8 u]:=h2
  have:=Av h3
  subst h1 h2 this
  rfl
theorem wc{v:Value}{T2:TypeId}{l:List Int}{c:Call}(ho:o.op= .call c)(hc:c={ callee:=.builtin .unsafeString,args:= #[x,y],argTypes:= #[T,T2] })(hT:P.underlying T=some (.pointer e))(hce:P.cellsOf e=1)(hl:l=[]→v= .slice none 0 0):
 bG M o [(x,.eq (uG v)),(y,.eq (.int .i64 l.length))] [.sl v e (.int .u8) l] (fun _:Unit=>(.eq (.string (rI l)),[])):=by
 have key:∀(S:FS) (w:World) (a:Act),(∀b,S b→b < w.heap.size)→bz S w a [(x,.eq (uG v)),(y,.eq (.int .i64 l.length))]→ij [.sl v e (.int .u8) l] S w→
  ∃w',(execOp a.eval o).run P w= .ok (.value (.string (rI l))) w'∧jy (aE [.sl v e (.int .u8) l]) S w S w'∧∀ev∈(execOp a.eval o).events P w #[],lI w.heap.size (aE [.sl v e (.int .u8) l]) S w'.heap.size ev:=by
  intro S w a hd hN hO
  have e1:a.eval x=uG v:=hN.1
  have e2:a.eval y= .int .i64 l.length:=hN.2.1
  rcases hO.holds _ (by simp:D.sl v e (.int .u8) l∈[D.sl v e (.int .u8) l]) with⟨rfl,rfl⟩ |⟨b,cap,cc,rfl,h1,h2,h3,h4,h5⟩
  ·
   have hr:=Lib.run_unsafeString_none (P:=P) w T T2 o.type none;have hs:rI []= .empty:=rfl;refine⟨w,by simp [execOp,ho,hc,resolve,invoke,builtin,e1,e2,uG,hr,hs],jy.refl hd,fun ev hev=>?_⟩;simp [execOp,ho,hc,resolve,invoke,builtin,e1,e2,uG,KL,asInt,asIntOf,show IntKind.i64.max=9223372036854775807 from rfl] at hev
  ·
   have hl0:l≠[]:=fun h=>by have:=hl h;cases this
   have hp:0 < l.length:=List.length_pos_iff.2 hl0;have hc1:=Av h5;simp only [Ty.cells,Nat.mul_one] at hc1 h4;have hsh:w.shape? b=some (e,cap):=by simp [World.shape?,h3,h4]
   have hcell:∀j u,l[j]? =some u→w.cell? ⟨b,0+j,none⟩=some (.int .u8 u):=fun j u hj=>by
    have hjl:=(List.getElem?_eq_some_iff.1 hj).1;have:(cc.toList.take l.length)[j]? =some (.int .u8 u):=by rw [hc1,List.getElem?_map,hj];rfl
    rw [List.getElem?_take,if_pos hjl,Array.getElem?_toList] at this;simp [World.cell?,h3,this]
   obtain⟨g1,g2⟩:=HE (P:=P) w b l 0 .empty hcell;have hlies:=Lib.liesAt_bytes (P:=P) hce (cap / P.cellsOf e) l.length (by rw [hce];simpa using h1);have hne:l.length≠0:=by omega
   have hmax:IntKind.i64.max=9223372036854775807:=rfl;have h63:¬(9223372036854775807:Int) < (l.length:Int):=by unfold maxLen at h2;omega
   have hneg:¬(l.length:Int) < 0:=by omega
   have hstr:(⟨ByteArray.empty.data++(Lib.bytesOf l).toArray⟩:ByteArray)=rI l:=by simp [rI]
   rw [hstr] at g1
   have hr:(Builtin.unsafeString_ #[T,T2] o.type #[.pointer (some ⟨b,0,none⟩),.int .i64 l.length]).run P w= .ok (.string (rI l)) (w.freeze ⟨b,0,none⟩ l.length):=by
    rw [Hl];simp [asInt,asIntOf,hmax,h63,hneg,hne,hl0,variablesAt,hsh,elemOf,run_underlying hT,hlies,g1]
   have hb:aE [D.sl (.slice (some ⟨b,0,none⟩) l.length cap) e (.int .u8) l] b:=dI.2 rfl;have hbs:=(hO.own b hb).2;refine⟨w.freeze ⟨b,0,none⟩ l.length,by simp [execOp,ho,hc,resolve,invoke,builtin,e1,e2,uG,hr],?_,fun ev hev=>?_⟩
   ·unfold World.freeze;split
    ·exact jy.refl hd
    ·exact⟨fun _ h=>h,fun _ h=>.inl h,fun b h=>by simpa using hd b h,by simp,fun b' _ hx=>by
      have hne:b≠b':=fun e=>hx (by rw [←e];exact hb);simp only [Array.getElem?_modify];rw [if_neg hne],rfl,rfl,rfl⟩
   ·have hev':ev∈(loadBytes ⟨b,0,none⟩ .empty l.length).events P w #[]:=by
     simpa [execOp,ho,hc,resolve,invoke,builtin,e1,e2,uG,Hl,asInt,asIntOf,hmax,h63,hneg,hne,hl0,variablesAt,hsh,elemOf,run_underlying hT,hlies,g1] using hev
    rcases g2 _ ev hev' with h |⟨kk,rfl⟩
    ·simp at h
    ·have hsz:(w.freeze ⟨b,0,none⟩ l.length).heap.size=w.heap.size:=by
      unfold World.freeze;split <;> simp
     exact⟨rfl,by rw [hsz];exact hbs,.inr (.inl hb)⟩
 refine J0 ⟨by simp only [nd, *],fun S w a next hd hN hO k=>?_⟩ fun S w a hd hN hO=>?_
 ·
  obtain⟨w',hr,hs,_⟩:=key S w a hd hN hO;rw [hr];exact k () S w' _ hs rfl ⟨fun d h=>by simp at h,fun b ⟨d,h,_⟩=>by simp at h,.nil⟩ (fun b ⟨d,h,_⟩=>by simp at h)
 ·
  obtain⟨w',hr,_,he⟩:=key S w a hd hN hO;exact⟨_,w',hr,he⟩
theorem FV{l:List t.den}{k:IntKind}{i:Int}{g:Bool}(ho:o.op= .slice T x (some y) none none)(hT:P.underlying T=some (.slice e))(he:dM P e t.cells g)(h0:0≤i)(h1:i≤l.length):
 bG M o [(x,.rep (.slice t) l),(y,.eq (.int k i))] [] (fun _:Unit=>(.rep (.slice t) (l.drop i.toNat),[])):=
 .val0 fun S w a hN=>by
  obtain⟨b,cap,e1,hr⟩:=tZ hN.1
  have e2:a.eval y= .int k i:=hN.2.1
  refine⟨sliced b i.toNat l.length cap t.cells,?_,?_⟩
  ·
   have:=run_slice_l (P:=P) w T b l.length cap (CU hT) k i h0 h1
   simp [execOp,ho,e1,e2,run_sliceAt_slice w T _ _ _ _ (CU hT),this,R2 hT,he.size]
  ·
   have:=FN rfl hr (i:=i.toNat) (j:=l.length) (by omega) (Nat.le_refl _)
   rw [List.take_length] at this
   exact⟨_,this,rfl⟩
theorem Ie{a0:Option Addr}{n q:Nat}{c:Call}(ho:o.op= .call c)(hc:c={ callee:=.builtin .cap,args:= #[x],argTypes:= #[T] })(hT:P.underlying T=some (.slice e)):
 bG M o [(x,.eq (.slice a0 n q))] [] (fun _:Unit=>(.eq (.int .i64 q),[])):=
 .val0 fun S w a h=>by
  have e1:a.eval x= .slice a0 n q:=h.1
  exact⟨.int .i64 q,by simp [execOp,ho,hc,resolve,invoke,builtin,e1,Builtin.cap_,run_underlying hT,goInt],rfl⟩
theorem H7{a0:Option Addr}{n q:Nat}{c:Call}(ho:o.op= .call c)(hc:c={ callee:=.builtin .len,args:= #[x],argTypes:= #[T] })(hT:P.underlying T=some (.slice e)):
 bG M o [(x,.eq (.slice a0 n q))] [] (fun _:Unit=>(.eq (.int .i64 n),[])):=
 .val0 fun S w a h=>by
  have e1:a.eval x= .slice a0 n q:=h.1
  exact⟨.int .i64 n,by simp [execOp,ho,hc,resolve,invoke,builtin,e1,Builtin.len_,run_underlying hT,goInt],rfl⟩
theorem nS{s:ByteArray}{c:Call}(ho:o.op= .call c)(hc:c={ callee:=.builtin .len,args:= #[x],argTypes:= #[T] })(hT:P.underlying T=some .string):
 bG M o [(x,.eq (.string s))] [] (fun _:Unit=>(.eq (.int .i64 s.size),[])):=
 .val0 fun S w a h=>by
  have e1:a.eval x= .string s:=h.1
  exact⟨.int .i64 s.size,by simp [execOp,ho,hc,resolve,invoke,builtin,e1,Builtin.len_,run_underlying hT,goInt],rfl⟩
theorem K9{a0:Option Addr}{q:Nat}{T1:TypeId}{c:Call}{g:Bool}{m:Nat}(ho:o.op= .call c)(hc:c={ callee:=.builtin .copy,args:= #[x,y],argTypes:= #[T,T1] })(hT:P.underlying T=some (.slice e))(he:dM P e m g):
 bG M o [(x,.eq (.slice a0 0 q)),(y,.eq (.slice none 0 0))] [] (fun _:Unit=>(.eq (.int .i64 0),[])):=
 .val0 fun S w a h=>by
  have e1:a.eval x= .slice a0 0 q:=h.1
  have e2:a.eval y= .slice none 0 0:=h.2.1
  exact⟨.int .i64 0,by cases a0 <;> simp [execOp,ho,hc,resolve,invoke,builtin,e1,e2,Builtin.copy_,run_underlying hT,goInt,he.size,Builtin.lenOf,Builtin.firstCells,storeCells,loadCells,loadCellsFrom],rfl⟩
theorem H3{f n:Nat}{ps:Array TypeId}{c:Call}{ts:Array TypeId}(H:f7 P f (Extern.BytealgMakeNoZero.makeNoZero ps #[T]))(ho:o.op= .call c)(hc:c={ callee:=.value (.func f),args:= #[x],argTypes:=ts })(hT:P.underlying T=some (.slice e))(hn:n≤281474976710656):
 bG M o [(x,.eq (.int .i64 n))] [] (fun bc:Nat×Nat=>(.eq (.slice (some ⟨bc.1,0,none⟩) n bc.2),[.sl (.slice (some ⟨bc.1,0,none⟩) 0 bc.2) e (.int .u8) []])):=by
 have hns:Ns P (Extern.BytealgMakeNoZero.makeNoZero ps #[T] #[.int .i64 n]):=by
  have hdef:Extern.BytealgMakeNoZero.makeNoZero ps #[T] #[.int .i64 n]=
   (do
    let .slice elem←underlying T |stuck "bytealg.MakeNoZero: slice type expected"
    if(n:Int) < 0 || (n:Int) > 2 ^ 48 then runtimePanic (.error "makeslice: len out of range")
    let cap←choose (.appendCap (n:Int).toNat 0 elem)
    askRoom cap
    let bytes←choose (.extern "internal/bytealg.MakeNoZero.bytes" 0)
    let a←newRow elem (Extern.BytealgMakeNoZero.digits cap bytes #[])
    pure (.slice (some a) (n:Int).toNat cap)):=rfl
  rw [hdef]
  refine cV hT ?_
  dsimp only
  have tail:Ns P (do
   let cap←choose (.appendCap (n:Int).toNat 0 e)
   askRoom cap
   let bytes←choose (.extern "internal/bytealg.MakeNoZero.bytes" 0)
   let a←newRow e (Extern.BytealgMakeNoZero.digits cap bytes #[])
   pure (.slice (some a) (n:Int).toNat cap):Sem Value):=ai fK fun _=>ai mD fun _=>ai fK fun _=>ai nV fun _=>bC
  split
  ·
   exact ai eQ fun _=>tail
  ·
   exact tail
 have hx:∀{S:FS} {w:World} {a:Act},bz S w a [(x,.eq (.int .i64 n))]→execOp a.eval o=callFunc f #[.int .i64 n]:=fun {S w a} hN=>by
  have e1:a.eval x= .int .i64 n:=hN.1
  exact lw (xs:=[x]) (vs:=[.int .i64 n]) ho hc (by simp [e1])
 refine jt ⟨by simp only [nd, *],fun S w a next hd hN _ k=>?_⟩ (fun _ _ a hN _=>by rw [hx hN];exact H.ns _ hns) (fun d hd=>by simp at hd)
 obtain⟨cs,hr,h1,h2⟩:=Lib.run_makeNoZero (P:=P) w ps T e hT n hn
 have hr':(execOp a.eval o).run P w= .ok (.value (.slice (some ⟨w.heap.size,0,none⟩) n cs.size)) (w.drew.drew.alloc (.cells cs e)):=by rw [hx hN,H.run,hr];rfl
 rw [hr']
 have st:=gd (X:=aE []) (S:=S) (w:=w.drew.drew) hd (.cells cs e)
 have hst:jy (aE []) S w S (w.drew.drew.alloc (.cells cs e)):=⟨st.sub,st.new,st.dom,st.size,st.keep,st.os,st.tape,st.output⟩
 refine k (w.heap.size,cs.size) S _ _ hst rfl (fu (.inr ⟨w.heap.size,cs.size,cs,rfl,Nat.zero_le _,h2 (by unfold maxLen;omega),heap_alloc_new w.drew.drew _,by simp,rfl⟩) ?_) ?_
 ·
  intro b hb
  have hb:some w.heap.size=some b:=hb
  cases hb
  exact⟨fun h=>by have:=hd _ h;omega,by simp⟩
 ·
  intro b hb
  have hb:some w.heap.size=some b:=dI.1 hb
  cases hb
  exact .inr (Nat.le_refl _)
end
theorem Hy{S:FS}{w:World}{v:Value}{T:TypeId}{t:Ty}{l:List t.den}(h:(D.sl v T t l).holds S w):bB v=true:=by
 rcases h with⟨rfl,_⟩ |⟨b,cap,c,rfl,_⟩ <;> rfl
theorem fA{c:Cx}{ops:Array Oper}{l:List Oper}{Q:Exit→Act→VW→Prop}{Γ:Ga}{F:List D}{v:Value}{T:TypeId}{t:Ty}{d:List t.den}(h:bB v=true→JO c ops l Q Γ (.sl v T t d::F)):JO c ops l Q Γ (.sl v T t d::F):=by
 intro a w st;obtain⟨_,_,S,_,_,h5,_⟩:=id st;exact h (Hy (h5.holds _ (List.mem_cons_self ..))) a w st
theorem wY{c:Cx}{C:Code}{Q:Exit→Act→VW→Prop}{Γ:Ga}{F:List D}{v:Value}{T:TypeId}{t:Ty}{d:List t.den}(k:Nat)(hk:F[k]? =some (.sl v T t d))(h:bB v=true→JC c C Q Γ F):JC c C Q Γ F:=by
 intro a w st;obtain⟨_,_,S,_,_,h5,_⟩:=id st;exact h (Hy (h5.holds _ (List.mem_of_getElem? hk))) a w st
end K
