import Derived.Test.YtflilincnacbpaaGreatVTB4
import Derived.Laws.Externs
import Derived.Laws.OwnMore
import Derived.Conc.Events
import Derived.Lib.UnsafeStr
import Derived.Lib.Builder
import Derived.Lib.BytesEntry
import Derived.Lib.AppendStr
import Derived.Lib.MakeNoZero
import Derived.Laws.Strings
import Derived.Laws.Strings2
import Derived.Laws.Strings3
import Derived.Laws.DeepStrings4
import Derived.Laws.RangeString
import Derived.Laws.BytesString
open Nat
open List hiding mem_of_getElem?
open Array hiding mem_of_getElem? mk
set_option linter.unusedVariables false
set_option linter.unusedSimpArgs false
namespace Go.Proofs.YtflilincnacbpaaGreat
namespace K
open Go
def kg(vs:Nat->Value):Nat->List (List Int)->List D
 |_,[]=>[]
 |j,l::ls=>.sl (vs j) 3 (.int .i64) l::kg vs (j+1) ls
def jl(vs:Nat->Value):Nat->List (List Int)->List Value
 |_,[]=>[]
 |j,_::ls=>vs j::jl vs (j+1) ls
def jp(vs:Nat->Value)(i:Nat)(v:Value):Nat->Value:=λj=>if j=i then v else vs j
theorem iS{vs:Nat->Value}:∀{ls:List (List Int)} {j:Nat},(jl vs j ls).length=ls.length
 |[],_=>rfl
 |_::ls,_=>by rw [jl,length_cons,iS,length_cons]
theorem lX{vs:Nat->Value}:∀{ls:List (List Int)} {j:Nat},(kg vs j ls).length=ls.length
 |[],_=>rfl
 |_::ls,_=>by rw [kg,length_cons,lX,length_cons]
theorem lT{vs:Nat->Value}:∀{ls:List (List Int)} {j i:Nat},(jl vs j ls)[i]? =(ls[i]?).map λ_=>vs (j+i)
 |[],_,_=>by simp [jl]
 |_::ls,j,0=>by simp [jl]
 |_::ls,j,i+1=>by
  rw [jl,getElem?_cons_succ,getElem?_cons_succ,lT,show j+1+i=j+(i+1) by omega]
theorem nu{vs:Nat->Value}:∀{ls:List (List Int)} {j i:Nat},(kg vs j ls)[i]? =(ls[i]?).map λx=>D.sl (vs (j+i)) 3 (.int .i64) x
 |[],_,_=>by simp [kg]
 |_::ls,j,0=>by simp [kg]
 |_::ls,j,i+1=>by
  rw [kg,getElem?_cons_succ,getElem?_cons_succ,nu,show j+1+i=j+(i+1) by omega]
theorem G9{vs:Nat->Value}{v:Value}{ls:List (List Int)}{l:List Int}:jl (jp vs ls.length v) 0 (ls++[l])=jl vs 0 ls++[v]:=by
 apply List.ext_getElem?;intro i;rw [lT,Nat.zero_add];rcases Nat.lt_trichotomy i ls.length with h |h |h
 .rw [List.getElem?_append_left h,List.getElem?_append_left (by rw [iS];exact h),lT,Nat.zero_add,List.getElem?_eq_getElem h];simp only [Option.map_some,jp];rw [if_neg (by omega)]
 .subst h;rw [List.getElem?_append_right (Nat.le_refl _),List.getElem?_append_right (by rw [iS];exact Nat.le_refl _),iS,Nat.sub_self];simp [jp]
 .rw [List.getElem?_eq_none (by simp;omega),List.getElem?_eq_none (by simp [iS];omega)];rfl
theorem HU{vs:Nat->Value}{v:Value}{ls:List (List Int)}{l:List Int}:kg (jp vs ls.length v) 0 (ls++[l])=kg vs 0 ls++[.sl v 3 (.int .i64) l]:=by
 apply List.ext_getElem?;intro i;rw [nu,Nat.zero_add];rcases Nat.lt_trichotomy i ls.length with h |h |h
 .rw [List.getElem?_append_left h,List.getElem?_append_left (by rw [lX];exact h),nu,Nat.zero_add,List.getElem?_eq_getElem h];simp only [Option.map_some,jp];rw [if_neg (by omega)]
 .subst h;rw [List.getElem?_append_right (Nat.le_refl _),List.getElem?_append_right (by rw [lX];exact Nat.le_refl _),lX,Nat.sub_self];simp [jp]
 .rw [List.getElem?_eq_none (by simp;omega),List.getElem?_eq_none (by simp [lX];omega)];rfl
theorem zD{L:List D}{a:Nat}{y:D}(h:a < L.length):(L.set a y).Perm (y::L.eraseIdx a):=by
 grind [f6,List.eraseIdx_set_eq]
section
variable {c:Cx}{ops:Array Oper}{l:List Oper}{Q:Exit->Act->VW->Prop}{Γ Γ':Ga}{Δ Δ' F:List D}
theorem jj{junk:List D}(hs:GH Γ' Γ)(hp:Δ.Perm (Δ'++junk)):SE c Γ Δ Γ' Δ':=λa w h=>by
 obtain⟨h1,h2,S,h3,h4,h5,h6⟩:=h.perm hp
 have hm:∀d∈Δ',d∈Δ'++junk:=λd hd=>List.mem_append.2 (.inl hd)
 exact⟨h1,h2,S,h3,λb ⟨d,hd,e⟩=>h4 b ⟨d,hm d hd,e⟩,h5.part,λs r hl=>h6 s r (hs.lk hl)⟩
theorem SE.pp(hp:Δ.Perm Δ'):SE c Γ Δ Γ Δ':=λ_ _ h=>h.perm hp
theorem G8{S S':FS}{w:World}{vs:Nat->Value}(hSS:∀b,S b->S' b):∀{ls:List (List Int)} {j:Nat} {cs:List Value},(∀d∈kg vs j ls,d.holds S w/\∀b,d.foot=some b->S' b)->dA (rd S w .val) (jl vs j ls) cs->dA (rd S' w (.slice (.int .i64))) ls cs
 |[],_,_,_,h=>h
 |l::ls,j,cs,hd,h=>by
  obtain⟨c1,c2,rfl,⟨rfl,_⟩,h2⟩:=h
  refine⟨[vs j],c2,rfl,?_,G8 hSS (λd hm=>hd d (mem_cons_of_mem _ hm)) h2⟩
  obtain⟨g1,g2⟩:=hd _ (mem_cons_self ..)
  rcases g1 with⟨e,rfl⟩ |⟨b,cap,cc,e,q1,q1',q2,q3,q4⟩
  .
   rw [e];exact .inl ⟨none,0,rfl,rfl⟩
  .
   have hb:S' b:=g2 b (by rw [D.foot,e];rfl)
   rw [e]
   refine .inr ⟨b,0,cap,cc,3,(0,0),rfl,q1,hb,q2,?_⟩
   rw [drop_zero]
   exact cH (λ_ _ h=>dS hSS (λ_ _=>rfl) (.int .i64) h) q4
theorem Gm{z:Value}{vs:Nat->Value}{ls:List (List Int)}{T:TypeId}:SE c Γ (.sl z T .val (jl vs 0 ls)::(kg vs 0 ls++F)) Γ (.sl z T (.slice (.int .i64)) ls::F):=λa w h=>by
 obtain⟨h1,h2,S,h3,h4,h5,h6⟩:=h
 have hK:gr S w w:=λ_ _=>rfl
 have hp:=pairwise_cons.1 h5.apart
 obtain⟨pO,pF,pOF⟩:=pairwise_append.1 hp.2
 have hmO:∀d∈kg vs 0 ls,d∈D.sl z T .val (jl vs 0 ls)::(kg vs 0 ls++F):=λd hd=>mem_cons_of_mem _ (List.mem_append.2 (.inl hd))
 have hmF:∀d∈F,d∈D.sl z T .val (jl vs 0 ls)::(kg vs 0 ls++F):=λd hd=>mem_cons_of_mem _ (List.mem_append.2 (.inr hd))
 have hft:∀b,av (kg vs 0 ls) b->av (D.sl z T .val (jl vs 0 ls)::(kg vs 0 ls++F)) b:=λb ⟨d,hd,e⟩=>⟨d,hmO d hd,e⟩
 refine⟨h1,h2,λx=>S x\/av (kg vs 0 ls) x,⟨λx hx=>.inl (h3.sub x hx),λx hx=>?_,λx hx=>?_,h3.size,h3.keep,h3.os,h3.tape,h3.output,h3.subA,h3.oldA,h3.Z⟩,λx ⟨e,he,hb⟩=>?_,h5.re ⟨λe he=>?_,λx ⟨e,he,hb⟩=>?_,?_⟩ (λx ⟨e,he,hb⟩=>by
  rcases mem_cons.1 he with rfl |he
  .
   exact⟨_,mem_cons_self ..,hb⟩
  .
   exact⟨e,hmF e he,hb⟩) (λx (hx:S x\/av (kg vs 0 ls) x)=>hx.imp id (hft x)),λs r hl=>A.mono (λ_ h=>.inl h) hK r (h6 s r hl)⟩
 .
  rcases hx with hx |hx
  .
   exact h3.new x hx
  grind
 .
  rcases hx with hx |hx
  .
   exact h3.dom x hx
  .
   exact(h5.own x (hft x hx)).2
 .
  rcases mem_cons.1 he with rfl |he
  .
   exact h4 x ⟨_,mem_cons_self ..,hb⟩
  .
   exact h4 x ⟨e,hmF e he,hb⟩
 .
  rcases mem_cons.1 he with rfl |he
  .
   rcases h5.holds _ (mem_cons_self ..) with⟨e,hl⟩ |⟨b,cap,cc,e,q1,q1',q2,q3,q4⟩
   .
    refine .inl ⟨e,?_⟩
    have:=congrArg length hl
    rw [iS] at this
    simp_all
   .
    rw [iS] at e q1 q4
    refine .inr ⟨b,cap,cc,e,q1,q1',q2,q3,?_⟩
    exact G8 (S:=S) (λ_ h=>.inl h) (λd hd=>⟨h5.holds d (hmO d hd),λb hb=>.inr ⟨d,hd,hb⟩⟩) q4
  .
   exact cp (λ_ h=>.inl h) hK e (λ_ _=>rfl) (h5.holds e (hmF e he))
 .
  have hx:av (D.sl z T .val (jl vs 0 ls)::(kg vs 0 ls++F)) x/\¬av (kg vs 0 ls) x:=by
   rcases mem_cons.1 he with rfl |he
   .exact⟨⟨_,mem_cons_self ..,hb⟩,λ⟨d,hd,hb'⟩=>hp.1 d (List.mem_append.2 (.inl hd)) x hb hb'⟩
   .exact⟨⟨e,hmF e he,hb⟩,λ⟨d,hd,hb'⟩=>pOF d hd e he x hb' hb⟩
  have h7:=h5.own x hx.1;simp_all
 .exact pairwise_cons.2 ⟨λd hd b e=>hp.1 d (List.mem_append.2 (.inr hd)) b e,pF⟩
end
theorem I2{z:Value}{vs:Nat->Value}{ls:List (List Int)}{T:TypeId}{S:FS}{w:World}(h5:gR (.sl z T .val (jl vs 0 ls)::kg vs 0 ls) S w):gR [.sl z T (.slice (.int .i64)) ls] (λx=>S x\/av (kg vs 0 ls) x) w:=by
 have hp:=pairwise_cons.1 h5.apart;refine⟨λe he=>?_,λx ⟨e,he,hb⟩=>?_,pairwise_singleton _ _⟩
 .simp only [mem_cons,not_mem_nil,or_false] at he;subst he;rcases h5.holds _ (mem_cons_self ..) with⟨e,hl⟩ |⟨b,cap,cc,e,q1,q1',q2,q3,q4⟩
  .refine .inl ⟨e,?_⟩;have:=congrArg length hl;rw [iS] at this;simp_all
  .rw [iS] at e q1 q4;refine .inr ⟨b,cap,cc,e,q1,q1',q2,q3,?_⟩;exact G8 (S:=S) (λ_ h=>.inl h) (λd hd=>⟨h5.holds d (mem_cons_of_mem _ hd),λb hb=>.inr ⟨d,hd,hb⟩⟩) q4
 .simp only [mem_cons,not_mem_nil,or_false] at he;subst he;have h7:=h5.own x ⟨_,mem_cons_self ..,hb⟩;exact⟨λh=>h.elim h7.1 λ⟨d,hd,hb'⟩=>hp.1 d hd x hb hb',h7.2⟩
theorem Qz{P:Program}{f:Nat}{as:List A}{T:TypeId}{r:List (List Int)}(h:dG P f as [] (λz:Value×(Nat->Value)=>(bO [.eq z.1],.sl z.1 T .val (jl z.2 0 r)::kg z.2 0 r))):
 dG P f as [] (λz:Value=>(bO [.eq z],[.sl z T (.slice (.int .i64)) r])):=λM k ke S w vs hd hall hO=>(h M k ke S w vs hd hall hO).mono λ_ _ hh=>by
 obtain⟨x,S',v,he,g1,g2,g3,g4⟩:=hh
 have hft:∀b,av (kg x.2 0 r) b->av (.sl x.1 T .val (jl x.2 0 r)::kg x.2 0 r) b:=λb ⟨d,hd,e⟩=>⟨d,mem_cons_of_mem _ hd,e⟩
 refine⟨x.1,λb=>S' b\/av (kg x.2 0 r) b,v,he,⟨λb hb=>.inl (g1.sub b hb),λb hb=>?_,λb hb=>?_,g1.size,g1.keep,g1.os,g1.tape,g1.output,g1.subA,g1.oldA,g1.Z⟩,g2,g3.re (I2 g3.p) (λb ⟨d,hd,e⟩=>by
  rw [List.mem_singleton.1 hd] at e
  exact⟨_,mem_cons_self ..,e⟩) (λb (hb:S' b\/av (kg x.2 0 r) b)=>hb.imp id (hft b)),λb ⟨d,hd,e⟩=>?_⟩
 .
  rcases hb with hb |hb
  .
   exact g1.new b hb
  grind
 .
  rcases hb with hb |hb
  .
   exact g1.dom b hb
  .
   exact(g3.own b (hft b hb)).2
 .
  simp only [mem_cons,not_mem_nil,or_false] at hd
  subst hd
  exact g4 b ⟨_,mem_cons_self ..,e⟩
theorem pe{vs:Nat->Value}{ls:List (List Int)}{i:Int}{x:List Int}(h:aG ls i=some x):aG (jl vs 0 ls) i=some (vs i.toNat):=by
 simp_all [aG,if_pos,lT,Nat.zero_add,if_neg]
theorem mf{α:Type}{l:List α}{i:Int}{x:α}(h:aG l i=some x):0≤i/\l[i.toNat]? =some x:=by
 simp_all [aG]
theorem uN{L:List D}:L.Perm (L++[]):=by simp_all
section
variable {P:Program}{M:Md P}{o:Oper}{x y:Operand}{T T':TypeId}
end
section
variable {P:Program}{M:Md P}{o:Oper}{x y:Operand}{T e:TypeId}{t:Ty}
end
section
variable {c:Cx}{ops:Array Oper}{Q:Exit->Act->VW->Prop}{Γ:Ga}{Δ:List D}{n:Nat}{L:List Bool}
theorem KG{P:Program}{M:Md P}{v:VW}{a:Act}{o:Oper}{K:Act->VW->Prop}{r:Result Next}(hh:GE M v o a K (bQ K Q) r):GE M v o a K Q r:=by
 cases r with
 |ok x w'=>
  cases x <;> simp only [GE] at hh⊢ <;> first
   |exact hh
   |exact jC.mono hh (λe v'' he=>by cases e <;> exact he)
   |exact o5.mono hh (λe v'' he=>by cases e <;> exact he)
 |halt x w'=>cases x <;> simp only [GE] at hh⊢ <;> exact hh
theorem By{o:Oper}{i:Nat}{K:Act->VW->Prop}{a:Act}{w:VW}(ho:ops[i]? =some o)(st:St c Γ Δ a w)(h:JO c ops [o] (bQ K Q) Γ Δ):nV c.M c.rd ops Q i K a w:=by
 have h1:=h a w st;unfold nV;rw [ho];simp only [E3] at h1⊢;split
 .rename_i hw;rw [if_pos hw] at h1;have h2:o.wk c.M c.rd a w K (bQ K Q):=h1;exact λv1 hr hk=>⟨(h2 v1 hr hk).1,KG (h2 v1 hr hk).2⟩
 .rename_i hw;rw [if_neg hw] at h1;exact h1
def JD(c:Cx)(ops:Array Oper)(Q:Exit->Act->VW->Prop)(n:Nat)(L:List Bool)(Γ:Ga)(Δ:List D):Prop:=∀a w,St c Γ Δ a w->fN c.M c.rd .any ops Q n L.toArray a w
def On(c:Cx)(ops:Array Oper)(Q:Exit->Act->VW->Prop)(n:Nat)(L:List Bool)(Γ:Ga)(Δ:List D):List Nat->Prop
 |[]=>True
 |i::l=>(∃o,ops[i]? =some o/\JO c ops [o] (bQ (λa w=>fN c.M c.rd .any ops Q n (L.set i true).toArray a w) Q) Γ Δ)/\On c ops Q n L Γ Δ l
theorem On.mem{l:List Nat}(h:On c ops Q n L Γ Δ l):∀i∈l,∃o,ops[i]? =some o/\JO c ops [o] (bQ (λa w=>fN c.M c.rd .any ops Q n (L.set i true).toArray a w) Q) Γ Δ:=by
 induction l with
 |nil=>simp_all
 |cons x l ih=>
  intro i hi;rcases mem_cons.1 hi with rfl |hi
  .exact h.1
  .exact ih h.2 i hi
theorem JU{id:Nat}(hm:c.P.follows .mixedOrders=true)(hn:ops.size=n)(h:JD c ops Q n (List.replicate n false) Γ Δ):JC c (.region id ops true) Q Γ Δ:=λa w st=>pR hm λv1 hr=>by
 have:=h a _ (st.drew hr)
 rw [hn]
 rwa [toArray_replicate] at this
theorem JD.step(rdy:List Nat)(hr:Region.ready .any ops L.toArray=rdy)(hne:rdy.isEmpty=false)(h:On c ops Q n L Γ Δ rdy):JD c ops Q (n+1) L Γ Δ:=λa w st=>by
 subst hr
 refine⟨λe=>(by simp_all),λi hi=>?_⟩
 obtain⟨o,ho,hj⟩:=h.mem i hi
 grind [By]
theorem JD.nil(hr:Region.ready .any ops L.toArray=[])(h:JN c (Q .normal) Γ Δ):JD c ops Q 0 L Γ Δ:=λa w st=>⟨hr,h a w st⟩
theorem JW{I:Type}{Ge:I->Ga}{De:I->List D}{id:Nat}(hm:c.P.follows .mixedOrders=true)(hn:ops.size=n)
 (h:∀J:Nat->List Bool->Ga->List D->Prop,J=JD c ops Q->(∀i,J 0 L (Ge i) (De i))->J n (List.replicate n false) Γ Δ) (hr:Region.ready .any ops L.toArray=[]) (he:∀i,JN c (Q .normal) (Ge i) (De i)):JC c (.region id ops true) Q Γ Δ:=
 JU hm hn (h _ rfl λi=>JD.nil hr (he i))
theorem On.cons{i:Nat}{o:Oper}{l:List Nat}(ho:ops[i]? =some o)(h:JO c ops [o] (bQ (λa w=>fN c.M c.rd .any ops Q n (L.set i true).toArray a w) Q) Γ Δ)(hl:On c ops Q n L Γ Δ l):On c ops Q n L Γ Δ (i::l):=⟨⟨o,ho,h⟩,hl⟩
theorem JD.to{M:Exit->Act->VW->Prop}(h:JD c ops Q n L Γ Δ):JN c (bQ (λa w=>fN c.M c.rd .any ops Q n L.toArray a w) M .normal) Γ Δ:=λa w st=>h a w st
theorem Vm{M:Exit->Act->VW->Prop}{Γ':Ga}{Δ':List D}(j:JD c ops Q n L Γ' Δ')(ks:List Nat)(hs:GH Γ' Γ)(hk:fx Δ ks=some Δ':=by rfl)(hn:ks.Nodup:=by decide):JO c ops [] (bQ (λa w=>fN c.M c.rd .any ops Q n L.toArray a w) M) Γ Δ:=aD (bK (SE.fin ks hs hk hn) j.to)
end
end K
end Go.Proofs.YtflilincnacbpaaGreat
set_option linter.unusedVariables false
namespace Go.Proofs.YtflilincnacbpaaGreat
namespace K
open Go
section
variable {P:Program}{M:Md P}{o:Oper}{x y:Operand}{T T' e:TypeId}{t:Ty}
theorem oD{N m:Nat}{g:Bool}{l:List t.den}{k:IntKind}{i:Int}{d:t.den}(ho:o.op= .index T x y)(hT:P.underlying T=some (.array N e))(hz:eu P e m g)(hm:t.cells=m)(hag:t.isAgg=g)(hg:g=false->m=1)(hl:aG l i=some d):
 bB M o [(x,.rep (.arr N t) l),(y,.eq (.int k i))] [] (λ_:Unit=>(GF t d,[])):=
 .val0 λS w a hN=>by
  subst hm
  obtain⟨cs,⟨h1,h2⟩,h3⟩:=hN.1
  have e1:a.eval x= .agg cs.toArray:=h3
  have e2:a.eval y= .int k i:=hN.2.1
  obtain⟨g0,g1,g2⟩:=cP hl
  rw [h1] at g1
  obtain⟨r1,r2⟩:=jq (λ_ _ h=>aN t h) h2 g2
  have r3:=aN t r1
  refine⟨mk g ((cs.drop (i.toNat * t.cells)).take t.cells),?_,?_⟩
  .
   have hp:(part e cs.toArray (i.toNat * t.cells)).run P w= .ok (mk g ((cs.drop (i.toNat * t.cells)).take t.cells)) w:=by
    unfold part;cases g with
    |true=>
     simp only [Sem.run_bind,hz.agg,Result.andThen_ok,if_true,hz.size,Sem.run_pure];simp only [mk,if_true,Result.ok.injEq,and_true,Value.agg.injEq];simp_all
    |false=>
     have h1c:=hg rfl;have hlt:i.toNat * t.cells < cs.length:=by omega
     have e9:(cs.drop (i.toNat * t.cells)).take t.cells=[cs[i.toNat * t.cells]]:=by grind [drop_eq_getElem_cons,take_cons]
     have e8:cs.toArray[i.toNat * t.cells]? =some cs[i.toNat * t.cells]:=by simp [hlt]
     rw [e9];simp only [Sem.run_bind,hz.agg,Result.andThen_ok,e8];rfl
   have h1':(Instr.index T (.agg cs.toArray) (.int k i)).run P w= .ok (mk g ((cs.drop (i.toNat * t.cells)).take t.cells)) w:=by
    unfold Instr.index;simp only [asIntOf,Sem.run_bind,Sem.run_pure,Result.andThen_ok,run_underlying hT,g0,g1,and_self,if_true,hz.size,hp]
   simp_all [execOp,Sem.run_bind,Result.andThen_ok,Sem.run_pure]
  grind [ju]
end
end K
end Go.Proofs.YtflilincnacbpaaGreat
set_option linter.unusedVariables false
namespace Go.Proofs.YtflilincnacbpaaGreat
namespace K
open Go
section
variable {P:Program}{M:Md P}{o:Oper}{x y:Operand}{T T' e:TypeId}{t:Ty}
end
end K
end Go.Proofs.YtflilincnacbpaaGreat
set_option linter.unusedVariables false
namespace Go.Proofs.YtflilincnacbpaaGreat
namespace K
open Go
section
variable {P:Program}{M:Md P}{o:Oper}{x y:Operand}{Δ:List D}{X:Type}{R:X->A×List D}
theorem fM.app{S:FS}{w:World}:∀{a1 a2:List A} {v1 v2:List Value},fM S w a1 v1->fM S w a2 v2->fM S w (a1++a2) (v1++v2)
 |[],_,v1,_,h1,h2=>by
  have:v1=[]:=h1
  simp_all
 |_::_,_,_,_,⟨v,vs',e,h1,h3⟩,h2=>by
  subst e
  exact⟨v,_,rfl,h1,fM.app h3 h2⟩
end
end K
end Go.Proofs.YtflilincnacbpaaGreat
set_option linter.unusedVariables false
namespace Go.Proofs.YtflilincnacbpaaGreat
namespace K
open Go
structure Oo(P:Program)(f:Nat)(e:Array Value->Sem Value):Prop where
 run:∀args w,(callFunc f args).run P w=((e args).run P w).andThen λv w'=>.ok (.value v) w'
 ns:∀args,Ns P (e args)->Ns P (callFunc f args)
theorem Oo.of{P:Program}{f:Nat}{fn:Func}{e:Array Value->Sem Value}(hf:P.funcs[f]? =some fn)(hname:(fn.name == "runtime.NumGoroutine")=false)(hb:fn.body.isNone=true)(hn:Extern.findNext fn=none)(he:Extern.find fn=some e):Oo P f e:=by
 refine⟨run_callFunc_extern hf hname hb hn he,λargs h=>?_⟩
 show Ns P ((match P.funcs[f]? with
  |none=>stuck "call: no such function"
  |some fn=>_:Sem Next))
 rw [hf];simp only [hname,hb,Bool.false_eq_true,if_false,if_true,hn,he];exact aj (⟨rfl,trivial⟩:Ns P (mark (.extern f))) λ_=>aj h λ_=>trivial
section
variable {P:Program}{M:Md P}{o:Oper}{x y:Operand}{T:TypeId}{Δ:List D}{X:Type}{R:X->A×List D}{f:Nat}{e:Array Value->Sem Value}{c:Call}{ts:Array TypeId}
end
end K
end Go.Proofs.YtflilincnacbpaaGreat
set_option linter.unusedVariables false
namespace Go.Proofs.YtflilincnacbpaaGreat
namespace K
open Go
section
variable {P:Program}{M:Md P}{o:Oper}{x y z q:Operand}{T T' e:TypeId}{r r':A}{t:Ty}
section
variable {a:Option Addr}{n cap m:Nat}{k k' k'':IntKind}{i j i':Int}{g:Bool}
end
end
end K
end Go.Proofs.YtflilincnacbpaaGreat
set_option linter.unusedVariables false
namespace Go.Proofs.YtflilincnacbpaaGreat
namespace K
open Go
theorem Bd{c:Cx}{C:Code}{Q:Exit->Act->VW->Prop}{Γ:Ga}{Δ F:List D}{Z:Type}(G:Z->Ga)(E:Z->List D)
 (h:∀S w,JC ⟨c.P,c.N,S,w,av Δ,c.rd,c.dfs,c.M⟩ C (λe a v=>e= .normal/\∃z,St ⟨c.P,c.N,S,w,av Δ,c.rd,c.dfs,c.M⟩ (G z) (E z) a v) Γ Δ)
 (k:∀z,JN c (Q .normal) (G z) (E z++F)):JC c C Q Γ (Δ++F):=by
 intro a w st
 obtain⟨h1,h2,S,h3,h4,h5,h6⟩:=st
 have hin:∀b,av Δ b->av (Δ++F) b:=λb ⟨e,he,hb⟩=>⟨e,List.mem_append.2 (.inl he),hb⟩
 have hX:∀b,av Δ b->c.X b\/c.w0.heap.size≤b:=λb hb=>h4 b (hin b hb)
 refine nj (λe a' v' q=>?_) (h S w a w ⟨h1,h2,S,bD.refl h3.dom,λb hb=>.inl hb,h5.part,h6⟩)
 obtain⟨rfl,z,g1,g2,S',g3,g4,g5,g6⟩:=q
 refine k z a' v' ⟨g1,g2,S',h3.trans g3 hX,λb ⟨e,he,hb⟩=>?_,h5.frame h3.dom g3 g5 g4,g6⟩
 rcases List.mem_append.1 he with he |he
 .
  rcases g4 b ⟨e,he,hb⟩ with hh |hh
  .simp_all
  .exact .inr (Nat.le_trans h3.size hh)
 .
  exact h4 b ⟨e,List.mem_append.2 (.inr he),hb⟩
def j9(T:TypeId)(z:Value×(Nat->Value))(ls:List (List Int)):List D:=.sl z.1 T .val (jl z.2 0 ls)::kg z.2 0 ls
theorem HV{n j:Nat}:jl (λ_=>.slice none 0 0) j (List.replicate n [])=List.replicate n (.slice none 0 0):=by
 induction n generalizing j with
 |zero=>rfl
 |succ n ih=>simp_all [List.replicate_succ,jl]
theorem KF{vs:Nat->Value}{ls:List (List Int)}{i:Nat}{v:Value}{l:List Int}(h:i < ls.length):jl (jp vs i v) 0 (ls.set i l)=(jl vs 0 ls).set i v:=by
 apply List.ext_getElem?;intro j;rw [lT,Nat.zero_add,List.getElem?_set,List.getElem?_set,iS,lT,Nat.zero_add];unfold jp;grind
theorem Ha{vs:Nat->Value}{ls:List (List Int)}{i:Nat}{l:List Int}:jl vs 0 (ls.set i l)=jl vs 0 ls:=by
 apply List.ext_getElem?;intro j;rw [lT,Nat.zero_add,List.getElem?_set,lT,Nat.zero_add];by_cases e:i=j
 .subst e;by_cases hi:i < ls.length
  .simp [hi]
  .simp [hi,List.getElem?_eq_none (Nat.le_of_not_lt hi)]
 .rw [if_neg e]
theorem DK{vs:Nat->Value}{ls:List (List Int)}{i:Nat}{v:Value}{l:List Int}(h:i < ls.length):kg (jp vs i v) 0 (ls.set i l)=(kg vs 0 ls).set i (.sl v 3 (.int .i64) l):=by
 apply List.ext_getElem?;intro j;rw [nu,Nat.zero_add,List.getElem?_set,List.getElem?_set,lX,nu,Nat.zero_add];unfold jp;grind
theorem Fb{vs:Nat->Value}{i:Nat}:jp vs i (vs i)=vs:=by
 funext j;unfold jp;split
 .rename_i e;rw [e]
 .rfl
section
variable {c:Cx}{Γ Γ':Ga}{Δ Δ' F pre:List D}{T:TypeId}{z:Value×(Nat->Value)}{ls:List (List Int)}{i:Nat}{l l':List Int}{v v':Value}
theorem Nv(n:Nat):∀j,SE c Γ Δ Γ (kg (λ_=>.slice none 0 0) j (List.replicate n [])++Δ):=by
 induction n with
 |zero=>exact λ_=>λ_ _ h=>h
 |succ n ih=>exact λj=>SE.trans (ih (j+1)) (SE.nil 3 (.int .i64))
theorem A3{n:Nat}:SE c Γ (.sl v T .val (List.replicate n (.slice none 0 0))::F) Γ (F++j9 T (v,λ_=>.slice none 0 0) (List.replicate n [])):=by
 refine SE.trans (Nv n 0) (SE.pp ?_);unfold j9;rw [HV];exact(perm_middle.trans (List.Perm.cons _ perm_append_comm)).trans perm_middle.symm
theorem Gk(h:ls[i]? =some l):SE c Γ (pre++j9 T z ls) Γ (.sl (z.2 i) 3 (.int .i64) l:: .sl z.1 T .val (jl z.2 0 ls)::(pre++(kg z.2 0 ls).eraseIdx i)):=by
 refine SE.pp ?_;have h1:=f6 (Δ:=kg z.2 0 ls) i (.sl (z.2 i) 3 (.int .i64) l) (by rw [nu,h,Nat.zero_add];rfl);unfold j9;refine(List.Perm.append_left pre (List.Perm.cons _ h1)).trans ?_;refine perm_middle.trans ?_;grind [perm_middle,trans]
theorem IO{L:List D}{d:D}{e:D}(hi:i < L.length):(d::e::(pre++L.eraseIdx i)).Perm (pre++e::L.set i d):=by
 refine(List.Perm.swap _ _ _).trans ?_;refine List.Perm.trans ?_ perm_middle.symm;refine List.Perm.cons _ ?_;refine perm_middle.symm.trans ?_;exact List.Perm.append_left pre (zD hi).symm
theorem Dk(h:ls[i]? =some l):SE c Γ (.sl v' 3 (.int .i64) l':: .sl z.1 T .val ((jl z.2 0 ls).set i v')::(pre++(kg z.2 0 ls).eraseIdx i)) Γ (pre++j9 T (z.1,jp z.2 i v') (ls.set i l')):=by
 grind [List.getElem?_eq_some_iff,SE.pp,j9,KF,DK,IO,lX]
theorem A4:SE c Γ (pre++j9 T z ls) Γ (.sl z.1 T (.slice (.int .i64)) ls::pre):=by
 refine SE.trans (SE.pp ?_) (Gm (z:=z.1) (vs:=z.2) (ls:=ls) (F:=pre));grind [j9,perm_append_comm]
theorem Gj:SE c Γ (.sl v' 3 (.int .i64) l':: .sl v T .val (jl z.2 0 ls++[v'])::(pre++kg z.2 0 ls)) Γ (pre++j9 T (v,jp z.2 ls.length v') (ls++[l'])):=by
 refine SE.pp ?_;unfold j9;rw [G9,HU];refine(List.Perm.swap _ _ _).trans ?_;refine List.Perm.trans ?_ perm_middle.symm;refine List.Perm.cons _ ?_;rw [<-List.append_assoc];exact perm_append_comm (l₁:=[_])
end
end K
end Go.Proofs.YtflilincnacbpaaGreat
set_option linter.unusedVariables false
set_option linter.unusedSimpArgs false
namespace Go.Proofs.YtflilincnacbpaaGreat
namespace K
open Go
section
variable {P:Program}{M:Md P}{o:Oper}{x y z:Operand}{T T' e:TypeId}{r r':A}{t:Ty}
end
theorem Hy{S:FS}{w:World}{v:Value}{T:TypeId}{t:Ty}{l:List t.den}(h:(D.sl v T t l).holds S w):be v=true:=by
 rcases h with⟨rfl,_⟩ |⟨b,cap,c,rfl,_⟩ <;> rfl
theorem rY{c:Cx}{ops:Array Oper}{l:List Oper}{Q:Exit->Act->VW->Prop}{Γ:Ga}{F:List D}{v:Value}{T:TypeId}{t:Ty}{d:List t.den}(h:be v=true->JO c ops l Q Γ (.sl v T t d::F)):JO c ops l Q Γ (.sl v T t d::F):=by
 intro a w st;obtain⟨_,_,S,_,_,h5,_⟩:=id st;exact h (Hy (h5.holds _ (mem_cons_self ..))) a w st
theorem S7{c:Cx}{C:Code}{Q:Exit->Act->VW->Prop}{Γ:Ga}{F:List D}{v:Value}{T:TypeId}{t:Ty}{d:List t.den}(k:Nat)(hk:F[k]? =some (.sl v T t d))(h:be v=true->JC c C Q Γ F):JC c C Q Γ F:=by
 intro a w st;obtain⟨_,_,S,_,_,h5,_⟩:=id st;exact h (Hy (h5.holds _ (List.mem_of_getElem? hk))) a w st
end K
end Go.Proofs.YtflilincnacbpaaGreat
set_option linter.unusedVariables false
namespace Go.Proofs.YtflilincnacbpaaGreat
namespace K
open Go
section
variable {P:Program}{M:Md P}{o:Oper}{Δ:List D}{X:Type}{R:X->A×List D}
theorem SY{L:List D}{N N':List (Operand×A)}(h:bB M o N' Δ R)(hN:∀S w a,(∀d∈L,d.holds S w/\∀b,d.foot=some b->S b)->bI S w a N->bI S w a N')
 (hf:∀x,(R x).1.flat=true/\∀d∈(R x).2,d.flat=true):bB M o N (L++Δ) (λx=>((R x).1,L++(R x).2)):=by
 refine⟨h.1,λro S w a next Q hd hNN hO k=>?_⟩
 have hap:=pairwise_append.1 hO.apart
 have hK:gr S w w:=λ_ _=>rfl
 have hmL:∀d∈L,d∈L++Δ:=λd hd=>List.mem_append.2 (.inl hd)
 have hmΔ:∀d∈Δ,d∈L++Δ:=λd hd=>List.mem_append.2 (.inr hd)
 have hfL:∀b,av L b->av (L++Δ) b:=λb ⟨d,hd,e⟩=>⟨d,hmL d hd,e⟩
 have hfΔ:∀b,av Δ b->av (L++Δ) b:=λb ⟨d,hd,e⟩=>⟨d,hmΔ d hd,e⟩
 have hnb:∀b,av L b->¬av Δ b:=λb ⟨d,hd,e⟩ ⟨d',hd',e'⟩=>hap.2.2 d hd d' hd' b e e'
 have hmono:∀x,S x->S x\/av L x:=λ_ h=>.inl h
 have hNN':∀{N:List (Operand×A)},bI S w a N->bI (λx=>S x\/av L x) w a N:=by
  intro N
  induction N with
  |nil=>exact λh=>h
  |cons p N ih=>obtain⟨x,r⟩:=p;exact λh=>⟨A.mono hmono hK r h.1,ih h.2⟩
 have hd':∀x,(S x\/av L x)->x < w.heap.size:=λx hx=>hx.elim (hd x) (λe=>(hO.own x (hfL x e)).2)
 have hlent:∀d∈L,d.holds (λx=>S x\/av L x) w/\∀b,d.foot=some b->(S b\/av L b):=λd hd=>⟨cp hmono hK d (λ_ _=>rfl) (hO.holds d (hmL d hd)),λb e=>.inr ⟨d,hd,e⟩⟩
 have hOΔ':aS Δ (λx=>S x\/av L x) w:=hO.re ⟨λe he=>cp hmono hK e (λ_ _=>rfl) (hO.holds e (hmΔ e he)),λx hx=>⟨λh=>h.elim (hO.own x (hfΔ x hx)).1 (λe=>hnb x e hx),(hO.own x (hfΔ x hx)).2⟩,hap.2.1⟩ hfΔ λx (hx:S x\/av L x)=>hx.imp id (hfL x)
 refine h.2 ro _ w a next Q hd' (hN _ w a hlent (hNN' hNN)) hOΔ' λx S' w' v' h1 h2 h3 h4=>?_
 obtain⟨f1,f2⟩:=hf x
 have hbk:∀b,av L b->w'.heap[b]? =w.heap[b]? :=λb hb=>h1.keep b (hO.own b (hfL b hb)).2 (hO.far b (hfL b hb)).1 (hnb b hb)
 have hSb:∀y,S y->¬av L y:=λy hy e=>(hO.own y (hfL y e)).1 hy
 have hKw:gr S w w':=λy hy=>h1.keep y (hd y hy) (hO.sees y hy) (λhx=>(hO.own y (hfΔ y hx)).1 hy)
 refine k x (λy=>S' y/\¬av L y) w' v' ⟨λy hy=>⟨h1.sub y (.inl hy),hSb y hy⟩,λy hy=>?_,λy hy=>h1.dom y hy.1,h1.size,λy hy ha hx=>h1.keep y hy ha (λhh=>hx (hfΔ y hh)),h1.os,h1.tape,h1.output,h1.subA,h1.oldA,h1.Z⟩ ((o8 _ f1).1 h2) ⟨λd hd=>?_,λy ⟨d,hd,e⟩=>?_,pairwise_append.2 ⟨hap.1,h3.apart,λd hd d' hd' y e e'=>?_⟩,λy ⟨d,hd,e⟩=>?_,λy hy=>h3.sees y hy.1,h3.domA,h3.domZ⟩ λy ⟨d,hd,e⟩=>?_
 .
  rcases h1.new y hy.1 with(hh |hh) |hh |hh
  .simp_all
  .simp_all
  .omega
  simp_all
 .
  rcases List.mem_append.1 hd with hd |hd
  .exact cp (λy hy=>⟨h1.sub y (.inl hy),hSb y hy⟩) hKw d (λb e=>hbk b ⟨d,hd,e⟩) (hO.holds d (hmL d hd))
  .exact nM d (f2 d hd) (h3.holds d hd)
 .
  rcases List.mem_append.1 hd with hd |hd
  .grind [av,Nat.lt_of_lt_of_le]
  .have:=h3.own y ⟨d,hd,e⟩;simp_all
 .
  have hy:av L y:=⟨d,hd,e⟩;rcases h4 y ⟨d',hd',e'⟩ with hh |hh
  .simp_all
  grind
 .
  rcases List.mem_append.1 hd with hd |hd
  .have hy:av L y:=⟨d,hd,e⟩;have hfar:=hO.far y (hfL y hy);exact⟨λha=>(h1.oldA y ha).elim hfar.1 λh2=>by grind,by rw [h1.Z];grind⟩
  .exact h3.far y ⟨d,hd,e⟩
 .
  rcases List.mem_append.1 hd with hd |hd
  .exact .inl (hfL y ⟨d,hd,e⟩)
  .exact(h4 y ⟨d,hd,e⟩).imp (hfΔ y) id
theorem TC{c:Cx}{C:Code}{Q:Exit->Act->VW->Prop}{Γ Γ1:Ga}{L Δ:List D}{Z:Type}(G:Z->Ga)(E:Z->List D)
 (hΓ:∀(S:FS) (w:World) (a:Act),(∀d∈L,d.holds S w/\∀b,d.foot=some b->S b)->(∀s r,lk Γ s=some r->r.holds S w (a.tmps.getD s undef))->∀s r,lk Γ1 s=some r->r.holds S w (a.tmps.getD s undef))
 (hf:∀z,(∀s r,lk (G z) s=some r->r.flat=true)/\∀d∈E z,d.flat=true)
 (h:∀S w,JC ⟨c.P,c.N,S,w,av Δ,c.rd,c.dfs,c.M⟩ C (λe a v=>e= .normal/\∃z,St ⟨c.P,c.N,S,w,av Δ,c.rd,c.dfs,c.M⟩ (G z) (E z) a v) Γ1 Δ)
 (k:∀z,JN c (Q .normal) (G z) (L++E z)):JC c C Q Γ (L++Δ):=by
 intro a w st
 obtain⟨q1,q2,S,q3,q4,hO,q6⟩:=st
 have hd:∀b,S b->b < w.heap.size:=q3.dom
 have hap:=pairwise_append.1 hO.apart
 have hK:gr S w w:=λ_ _=>rfl
 have hmL:∀d∈L,d∈L++Δ:=λd hd=>List.mem_append.2 (.inl hd)
 have hmΔ:∀d∈Δ,d∈L++Δ:=λd hd=>List.mem_append.2 (.inr hd)
 have hfL:∀b,av L b->av (L++Δ) b:=λb ⟨d,hd,e⟩=>⟨d,hmL d hd,e⟩
 have hfΔ:∀b,av Δ b->av (L++Δ) b:=λb ⟨d,hd,e⟩=>⟨d,hmΔ d hd,e⟩
 have hnb:∀b,av L b->¬av Δ b:=λb ⟨d,hd,e⟩ ⟨d',hd',e'⟩=>hap.2.2 d hd d' hd' b e e'
 have hmono:∀x,S x->S x\/av L x:=λ_ h=>.inl h
 have hd':∀x,(S x\/av L x)->x < w.heap.size:=λx hx=>hx.elim (hd x) (λe=>(hO.own x (hfL x e)).2)
 have hlent:∀d∈L,d.holds (λx=>S x\/av L x) w/\∀b,d.foot=some b->(S b\/av L b):=λd hd=>⟨cp hmono hK d (λ_ _=>rfl) (hO.holds d (hmL d hd)),λb e=>.inr ⟨d,hd,e⟩⟩
 have hOΔ':aS Δ (λx=>S x\/av L x) w:=hO.re ⟨λe he=>cp hmono hK e (λ_ _=>rfl) (hO.holds e (hmΔ e he)),λx hx=>⟨λh=>h.elim (hO.own x (hfΔ x hx)).1 (λe=>hnb x e hx),(hO.own x (hfΔ x hx)).2⟩,hap.2.1⟩ hfΔ λx (hx:S x\/av L x)=>hx.imp id (hfL x)
 refine nj (λe a' v' q=>?_) (h (λx=>S x\/av L x) w a w ⟨q1,q2,_,bD.refl hd',λb hb=>.inl hb,hOΔ',hΓ _ _ a hlent λs r hl=>A.mono hmono hK r (q6 s r hl)⟩)
 obtain⟨rfl,z,g1,g2,S',h1,h4,h3,g6⟩:=q
 obtain⟨f1,f2⟩:=hf z
 have hbk:∀b,av L b->v'.heap[b]? =w.heap[b]? :=λb hb=>h1.keep b (hO.own b (hfL b hb)).2 (hO.far b (hfL b hb)).1 (hnb b hb)
 have hSb:∀y,S y->¬av L y:=λy hy e=>(hO.own y (hfL y e)).1 hy
 have hKw:gr S w v':=λy hy=>h1.keep y (hd y hy) (hO.sees y hy) (λhx=>(hO.own y (hfΔ y hx)).1 hy)
 have hst:bD (av (L++Δ)) S w (λy=>S' y/\¬av L y) v':=by
  refine⟨λy hy=>⟨h1.sub y (.inl hy),hSb y hy⟩,λy hy=>?_,λy hy=>h1.dom y hy.1,h1.size,λy hy ha hx=>h1.keep y hy ha (λhh=>hx (hfΔ y hh)),h1.os,h1.tape,h1.output,h1.subA,h1.oldA,h1.Z⟩;rcases h1.new y hy.1 with(hh |hh) |hh |hh
  .grind
  .grind
  .grind
  grind
 refine k z a' v' ⟨g1,g2,_,q3.trans hst (λb hb=>q4 b hb),λy ⟨d,hd,e⟩=>?_,⟨λd hd=>?_,λy ⟨d,hd,e⟩=>?_,pairwise_append.2 ⟨hap.1,h3.apart,λd hd d' hd' y e e'=>?_⟩,λy ⟨d,hd,e⟩=>?_,λy hy=>h3.sees y hy.1,h3.domA,h3.domZ⟩,λs r hl=>(o8 _ (f1 s r hl)).1 (g6 s r hl)⟩
 .
  rcases List.mem_append.1 hd with hd |hd
  .exact q4 y (hfL y ⟨d,hd,e⟩)
  .rcases h4 y ⟨d,hd,e⟩ with hh |hh
   .grind
   .exact .inr (Nat.le_trans q3.size hh)
 .
  rcases List.mem_append.1 hd with hd |hd
  .exact cp (λy hy=>⟨h1.sub y (.inl hy),hSb y hy⟩) hKw d (λb e=>hbk b ⟨d,hd,e⟩) (hO.holds d (hmL d hd))
  .exact nM d (f2 d hd) (h3.holds d hd)
 .
  rcases List.mem_append.1 hd with hd |hd
  .grind [av,Nat.lt_of_lt_of_le]
  .have:=h3.own y ⟨d,hd,e⟩;grind
 .
  have hy:av L y:=⟨d,hd,e⟩;rcases h4 y ⟨d',hd',e'⟩ with hh |hh
  .grind
  grind
 .
  rcases List.mem_append.1 hd with hd |hd
  .have hy:av L y:=⟨d,hd,e⟩;have hfar:=hO.far y (hfL y hy);exact⟨λha=>(h1.oldA y ha).elim hfar.1 λh2=>Nat.lt_irrefl _ (Nat.lt_of_lt_of_le (hO.own y (hfL y hy)).2 h2),by rw [h1.Z];grind⟩
  .exact h3.far y ⟨d,hd,e⟩
end
section
variable {c:Cx}{Γ:Ga}{pre:List D}{T:TypeId}{z:Value×(Nat->Value)}{ls:List (List Int)}
end
section
variable {P:Program}{M:Md P}{N:Nat}{S:FS}{w0:VW}{X:Nat->Prop}{ops:Array Oper}{o:Oper}{l:List Oper}{Q:Exit->Act->VW->Prop}{Γ:Ga}{Δ Δ1 F:List D}{g:Nat}{vs:List Value}{as:List A}{fn:Func}{R:Ending->VW->Prop}{Y:Type}{R1:Y->A×List D}
end
end K
end Go.Proofs.YtflilincnacbpaaGreat
set_option linter.unusedVariables false
namespace Go.Proofs.YtflilincnacbpaaGreat
namespace K
open Go
end K
end Go.Proofs.YtflilincnacbpaaGreat
set_option linter.unusedVariables false
namespace Go.Proofs.YtflilincnacbpaaGreat
namespace K
open Go
section
variable {c:Cx}{Γ:Ga}{u:Ty}{v:Value}{T:TypeId}{F:List D}
end
end K
end Go.Proofs.YtflilincnacbpaaGreat
set_option linter.unusedVariables false
namespace Go.Proofs.YtflilincnacbpaaGreat
namespace K
open Go
section
variable {c:Cx}{P:Program}{M:Md P}{o:Oper}{N N':List (Operand×A)}{Δ:List D}{T1 T2:TypeId}{t1 t2:Ty}{l1:List t1.den}{l2:List t2.den}{d:Int}{S:FS}{w:World}{v a b:Value}
end
end K
end Go.Proofs.YtflilincnacbpaaGreat
set_option linter.unusedVariables false
namespace Go.Proofs.YtflilincnacbpaaGreat
namespace K
open Go
@[reducible] def Vj{α β:Type}(x:α×β):α×(β ⊕ Value):=(x.1,.inl x.2)
section
variable {c:Cx}{Γ:Ga}{u r:Ty}{v:Value}{T:TypeId}{F:List D}
end
end K
end Go.Proofs.YtflilincnacbpaaGreat
set_option linter.unusedVariables false
set_option linter.unusedSimpArgs false
namespace Go.Proofs.YtflilincnacbpaaGreat
namespace K
open Go
section
variable {P:Program}{M:Md P}{o:Oper}{x y z:Operand}{T T':TypeId}{v u:Value}
end
end K
end Go.Proofs.YtflilincnacbpaaGreat
set_option linter.unusedVariables false
namespace Go.Proofs.YtflilincnacbpaaGreat
namespace K
open Go
structure Kn{P:Program}(M:Md P)(b o:Nat)(cs:List Value):Prop where
 mem:∀w,M.kf w->∃c T fz,w.heap[b]? =some (.cells c T fz)/\(c.toList.drop o).take cs.length=cs
 pk:∀j,j < cs.length->M.pk ⟨.cell ⟨b,o+j,none⟩,false,false⟩
theorem Kn.sub{P:Program}{M:Md P}{b o:Nat}{cs:List Value}(h:Kn M b o cs)(k n:Nat){ds:List Value}(hd:(cs.drop k).take n=ds)(hk:k+n≤cs.length):Kn M b (o+k) ds:=by
 subst hd;have hl:((cs.drop k).take n).length=n:=by simp;omega
 refine⟨λw hw=>?_,λj hj=>?_⟩
 .obtain⟨c,T,fz,h1,h2⟩:=h.mem w hw;grind [drop_take,Nat.min_eq_left,drop_drop]
 .rw [hl] at hj;rw [Nat.add_assoc];exact h.pk (k+j) (by omega)
section
variable {P:Program}{M:Md P}{o:Oper}{x:Operand}{TT:TypeId}{t u:Ty}{b k:Nat}{cs:List Value}
theorem qA{S:FS}{w:World}{d:t.den}{v p:Value}(h:(A.rep (.mo p cs t) d).holds S w v):v=p/\rd S w t d cs:=by
 obtain⟨c0,⟨rfl,_,h3⟩,e⟩:=h;exact⟨e,h3⟩
theorem uY{S:FS}{w:World}{d:t.den}{p:Addr}(h:rd S w t d cs):(A.rep (.mo (.pointer (some p)) cs t) d).holds S w (.pointer (some p)):=⟨[.pointer (some p)],⟨rfl,rfl,h⟩,rfl⟩
theorem lr{p:Addr}{d:t.den}(ho:o.op= .nilCheck x):bB M o [(x,.rep (.mo (.pointer (some p)) cs t) d)] [] (λ_:Unit=>(.rep (.mo (.pointer (some p)) cs t) d,[])):=
 bB.val0 (hns:=λS w a hN=>DY ho (.inl ⟨_,(qA hN.1).1⟩)) λS w a hN=>⟨a.eval x,by simp [execOp,ho,(qA hN.1).1],hN.1⟩
theorem gV{off f:Nat}{d:t.den}(ho:o.op= .fieldAddr TT x f)(hf:aV P TT f 0):bB M o [(x,.rep (.mo (.pointer (some ⟨b,off,none⟩)) cs t) d)] [] (λ_:Unit=>(.rep (.mo (.pointer (some ⟨b,off,none⟩)) cs t) d,[])):=
 bB.val0 (hns:=λ_ _ a _=>hf.nsx ho a.eval) λS w a hN=>⟨a.eval x,by simp [execOp,ho,(qA hN.1).1,hf.run w b off],hN.1⟩
theorem iI{off f:Nat}{d:t.den}{z:u.den}(n:Nat)(g:Bool){ds:List Value}(ho:o.op= .fieldAddr TT x f)(hf:aV P TT f k)(hget:nO t d k n g=some ⟨u,z⟩)(hd:(cs.drop k).take n=ds):
 bB M o [(x,.rep (.mo (.pointer (some ⟨b,off,none⟩)) cs t) d)] [] (λ_:Unit=>(.rep (.mo (.pointer (some ⟨b,off+k,none⟩)) ds u) z,[])):=
 bB.val0 (hns:=λ_ _ a _=>hf.nsx ho a.eval) λS w a hN=>by
  obtain⟨e,h3⟩:=qA hN.1
  obtain⟨q1,q2,q3,q4⟩:=np t h3 hget
  rw [hd] at q1
  exact⟨.pointer (some ⟨b,off+k,none⟩),by simp [execOp,ho,e,hf.run w b off],uY q1⟩
theorem jr{c0:Value}{d:t.den}(ho:o.op= .load TT x)(ht:eu P TT 1 false)(hK:Kn M b k [c0])(hc:t.cells=1)(hag:t.isAgg=false):
 bB M o [(x,.rep (.mo (.pointer (some ⟨b,k,none⟩)) [c0] t) d)] [] (λ_:Unit=>(GF t d,[])):=by
 refine⟨by simp_all [nd],λrd S v a next Q hd hN hO k'=>λv1 hr hkf=>?_⟩
 have hd1:∀b,S b->b < v1.heap.size:=λb hb=>Nat.lt_of_lt_of_le (hd b hb) hr.size
 have hN1:=bI.rely hd hO.sees hr hN
 have hO1:=hO.rely hd hr
 have e1:o.semAt rd a.eval=execOp a.eval o:=Oper.semAt_eq _ _ _ λc e=>by simp_all
 rw [e1]
 have key:∃b' off' c T fz u,a.eval x= .pointer (some ⟨b',off',none⟩)/\v1.heap[b']? =some (.cells c T fz)/\off'+1≤c.size/\(c.toList.drop off').take 1=[u]/\(GF t d).holds S v1 u/\M.pk ⟨.cell ⟨b',off',none⟩,false,false⟩:=by
  obtain⟨e,h3⟩:=qA hN1.1;obtain⟨c,T,fz,g1,g2⟩:=hK.mem _ hkf;have l:((c.toList.drop k).take 1).length=1:=by simp_all
  have hle:k+1≤c.size:=by
   grind
  have hh:=ju (t:=t) h3;rw [hag] at hh;exact⟨b,k,c,T,fz,c0,e,g1,hle,g2,hh,by have:=hK.pk 0 Nat.one_pos;omega⟩
 obtain⟨b',off',c,T,fz,u,e,h2,hle,hu,hh,hs⟩:=key
 have hlv:(loadVar TT ⟨b',off',none⟩).run P v1= .ok u v1:=by
  rw [fZ ht (λ_=>rfl) h2 hle,hu];simp [mk]
 have hr1:(execOp a.eval o).run P v1= .ok (.value u) v1:=by simp_all [execOp,Instr.loadAt,Instr.sureAddr]
 have hc1:v1.toWorld.cell? ⟨b',off',none⟩=some u:=by
  grind [drop_eq_getElem_cons,World.cell?,Array.getElem?_eq_getElem]
 have he:(execOp a.eval o).events P v1 #[]= #[⟨.cell ⟨b',off',none⟩,false,false⟩]:=by
  have h0:(isAgg TT).events P v1 #[]= #[]:=events_isAgg ..;simp [execOp,ho,e,Instr.loadAt,Instr.sureAddr,loadVar,ht.agg,hc1,h0,events_load]
 refine⟨?_,?_⟩
 .
  unfold JG;rw [hr1,he];refine⟨(eP.refl v1),λev hev=>?_⟩;simp_all
 .
  rw [hr1];exact k' () S v1 u (bD.rely hd hr) hh hO1 λb hb=>.inl hb
theorem wQ{p:Value}{d:t.den}(ho:o.op= .move x):bB M o [(x,.rep (.mo p cs t) d)] [] (λ_:Unit=>(.eq p,[])):=
 bB.val0 λS w a hN=>⟨a.eval x,by simp [execOp,ho],(qA hN.1).1⟩
theorem wS{c0:Value}(ho:o.op= .load TT x)(ht:eu P TT 1 false)(hK:Kn M b k [c0]):
 bB M o [(x,.eq (.pointer (some ⟨b,k,none⟩)))] [] (λ_:Unit=>(.eq c0,[])):=by
 refine⟨by simp_all [nd],λrd S v a next Q hd hN hO k'=>λv1 hr hkf=>?_⟩
 have hN1:=bI.rely hd hO.sees hr hN
 have hO1:=hO.rely hd hr
 have e1:o.semAt rd a.eval=execOp a.eval o:=Oper.semAt_eq _ _ _ λc e=>by simp_all
 rw [e1]
 have e:a.eval x= .pointer (some ⟨b,k,none⟩):=hN1.1
 obtain⟨c,T,fz,h2,hu⟩:=hK.mem _ hkf
 have l:((c.toList.drop k).take 1).length=1:=by simp_all
 have hle:k+1≤c.size:=by
  grind
 have hlv:(loadVar TT ⟨b,k,none⟩).run P v1= .ok c0 v1:=by
  rw [fZ ht (λ_=>rfl) h2 hle,show(1:Nat)=[c0].length from rfl,hu];simp [mk]
 have hr1:(execOp a.eval o).run P v1= .ok (.value c0) v1:=by simp_all [execOp,Instr.loadAt,Instr.sureAddr]
 have hc1:v1.toWorld.cell? ⟨b,k,none⟩=some c0:=by
  grind [drop_eq_getElem_cons,World.cell?,Array.getElem?_eq_getElem]
 have he:(execOp a.eval o).events P v1 #[]= #[⟨.cell ⟨b,k,none⟩,false,false⟩]:=by
  have h0:(isAgg TT).events P v1 #[]= #[]:=events_isAgg ..;simp [execOp,ho,e,Instr.loadAt,Instr.sureAddr,loadVar,ht.agg,hc1,h0,events_load]
 refine⟨?_,?_⟩
 .
  unfold JG;rw [hr1,he];refine⟨(eP.refl v1),λev hev=>?_⟩;simp at hev;subst hev;exact .inr (by have:=hK.pk 0 Nat.one_pos;omega)
 .
  rw [hr1];exact k' () S v1 c0 (bD.rely hd hr) rfl hO1 λb hb=>.inl hb
end
end K
end Go.Proofs.YtflilincnacbpaaGreat
set_option linter.unusedVariables false
namespace Go.Proofs.YtflilincnacbpaaGreat
namespace K
open Go
def K6{α:Type}:Int ⊕ α->Bool
 | .inl _=>true
 | .inr _=>false
def Q2{α:Type}:Int ⊕ α->Int
 | .inl n=>n
 | .inr _=>0
def Vq{α:Type}:Int ⊕ List α->List α
 | .inl _=>[]
 | .inr l=>l
def Jn{α β:Type}(d:Int ⊕ α)(f:Int->β)(g:α->β):β:=match d with
 | .inl n=>f n
 | .inr l=>g l
section
variable {P:Program}{M:Md P}{o:Oper}{x y:Operand}{T T' t0 t1:TypeId}{t:Ty}
theorem BS{S:FS}{w:World}{d:Int ⊕ List t.den}{v:Value}(h:(A.rep (.pl t0 t1 (.slice t)) d).holds S w v):(∃n,d= .inl n/\v= .iface t0 (.agg #[.int .i64 n]))\/∃l s,d= .inr l/\v= .iface t1 (.agg #[s])/\rd S w (.slice t) l [s]:=by
 obtain⟨cs,h1,h2⟩:=h;cases d with
 |inl n=>
  have h1:cs=_:=h1;subst h1;exact .inl ⟨n,rfl,h2⟩
 |inr l=>
  obtain⟨s,h1,h3⟩:=h1;subst h1;exact .inr ⟨l,s,rfl,h2,h3⟩
theorem Le{n:Int}{fs:Array Field}(ho:o.op= .makeInterface T x)(hT:P.underlying T=some (.struct fs)):bB M o [(x,.agg (.eq (.int .i64 n)))] [] (λ_:Unit=>(.rep (.pl T t1 (.slice t)) (.inl n),[])):=
 .val0 λS w a hN=>by
  have e:a.eval x= .agg #[.int .i64 n]:=by
   obtain⟨cs,h1,h2⟩:=hN.1;simp_all [A.cells]
  exact⟨.iface T (.agg #[.int .i64 n]),by simp_all [execOp,Instr.makeInterface,run_underlying],[.iface T (.agg #[.int .i64 n])],rfl,rfl⟩
theorem Ld{l:List t.den}{fs:Array Field}(ho:o.op= .makeInterface T x)(hT:P.underlying T=some (.struct fs)):bB M o [(x,.agg (.rep (.slice t) l))] [] (λ_:Unit=>(.rep (.pl t0 T (.slice t)) (.inr l),[])):=
 .val0 λS w a hN=>by
  obtain⟨cs,h1,h2⟩:=hN.1
  have h1:rd S w (.slice t) l cs:=h1
  have hl:=aN (.slice t) h1
  obtain⟨s,rfl⟩:=length_eq_one_iff.1 hl
  have e:a.eval x= .agg #[s]:=h2
  exact⟨.iface T (.agg #[s]),by simp_all [execOp,Instr.makeInterface,run_underlying],[.iface T (.agg #[s])],⟨s,rfl,h1⟩,rfl⟩
structure JA(P:Program)(T:TypeId)(z:Value):Prop where
 und:∃fs,P.underlying T=some (.struct fs)
 zero:∀w,(zeroValue T).run P w= .ok z w
theorem lW{u z:Value}(h:JA P T z)(w:World):(Instr.typeAssert (.iface t0 u) T' T true).run P w= .ok (.tuple #[if t0=T then u else z,.bool (decide (t0=T))]) w:=by
 obtain⟨fs,hu⟩:=h.und;unfold Instr.typeAssert;simp only [Sem.run_bind,run_underlying hu,Result.andThen_ok];by_cases e:t0=T
 .simp [e]
 .simp [e,h.zero]
theorem DT{d:Int ⊕ List t.den}(ho:o.op= .typeAssert x T' T true)(h:JA P T (.agg #[.int .i64 0]))(hne:T≠t1):
 bB M o [(x,.rep (.pl T t1 (.slice t)) d)] [] (λ_:Unit=>(.tup (.pair (.agg (.eq (.int .i64 (Q2 d)))) (.pair (.eq (.bool (K6 d))) .any)),[])):=
 .val0 λS w a hN=>by
  rcases BS hN.1 with⟨n,rfl,e⟩ |⟨l,s,rfl,e,h3⟩
  .
   exact⟨.tuple #[.agg #[.int .i64 n],.bool true],by simp [execOp,ho,e,lW h],[_,_],rfl,_,_,rfl,⟨[_],⟨rfl,rfl⟩,rfl⟩,_,_,rfl,rfl,rfl⟩
  .
   exact⟨.tuple #[.agg #[.int .i64 0],.bool false],by simp [execOp,ho,e,lW h,hne.symm],[_,_],rfl,_,_,rfl,⟨[_],⟨rfl,rfl⟩,rfl⟩,_,_,rfl,rfl,rfl⟩
theorem Ln{d:Int ⊕ List t.den}(ho:o.op= .typeAssert x T' T true)(h:JA P T (.agg #[.slice none 0 0]))(hne:t0≠T):
 bB M o [(x,.rep (.pl t0 T (.slice t)) d)] [] (λ_:Unit=>(.tup (.pair (.agg (.rep (.slice t) (Vq d))) (.pair (.eq (.bool (!K6 d))) .any)),[])):=
 .val0 λS w a hN=>by
  rcases BS hN.1 with⟨n,rfl,e⟩ |⟨l,s,rfl,e,h3⟩
  .
   exact⟨.tuple #[.agg #[.slice none 0 0],.bool false],by simp [execOp,ho,e,lW h,hne],[_,_],rfl,_,_,rfl,⟨[.slice none 0 0],.inl ⟨none,0,rfl,rfl⟩,rfl⟩,_,_,rfl,rfl,rfl⟩
  .
   exact⟨.tuple #[.agg #[s],.bool true],by simp [execOp,ho,e,lW h],[_,_],rfl,_,_,rfl,⟨[s],h3,rfl⟩,_,_,rfl,rfl,rfl⟩
def EO(P:Program)(T:TypeId)(name:String)(f:Nat):Prop:=∀u w,(callMethod (.iface T (.agg #[u])) name #[]).runT P w #[]=(.ok (.enter f #[.agg #[u]]) w, #[])
theorem Lh{f0 f1:Nat}{name:String}{d:Int ⊕ List t.den}{r:A}{c:Call}{ts:Array TypeId}(ho:o.op= .call c)(hc:c={ callee:=.invoke x name,args:= #[],argTypes:=ts })
 (h0:EO P t0 name f0) (h1:EO P t1 name f1) (hr0:∀n,d= .inl n->cz M f0 [.agg (.eq (.int .i64 n))] [] (λ_:Unit=>(r,[]))) (hr1:∀l,d= .inr l->cz M f1 [.agg (.rep (.slice t) l)] [] (λ_:Unit=>(r,[]))):bB M o [(x,.rep (.pl t0 t1 (.slice t)) d)] [] (λ_:Unit=>(r,[])):=by
 have hnd:nd o.op=true:=by grind [nd]
 refine⟨hnd,λro S w a next Q hd hN hO k=>?_⟩
 rcases BS hN.1 with⟨n,e0,e1⟩ |⟨l,s,e0,e1,h3⟩
 .
  have hrun:∀w:World,(execOp a.eval o).runT P w #[]=(.ok (.enter f0 #[.agg #[.int .i64 n]]) w, #[]):=λw=>by
   have e2:(callMethod (a.eval x) name #[]).runT P w #[]=(.ok (.enter f0 #[.agg #[.int .i64 n]]) w, #[]):=by
    rw [e1];exact h0 _ _
   simp_all [execOp,resolve,invoke]
  refine AN hnd hrun λv1 hrel=>?_;refine(hr0 n e0 .normal (λe=>nomatch e) S v1 [.agg #[.int .i64 n]] (λb hb=>Nat.lt_of_lt_of_le (hd b hb) hrel.size) ⟨_,_,rfl,⟨[_],⟨rfl,rfl⟩,rfl⟩,rfl⟩ (hO.rely hd hrel)).mono ?_;rintro e w' ⟨x,S',v,rfl,h1,h2,h3,h4⟩;exact k x S' w' v ((bD.rely hd hrel).trans h1 λb hb=>.inl hb) h2 h3 λb hb=>(h4 b hb).imp id (Nat.le_trans hrel.size)
 .
  have hrun:∀w:World,(execOp a.eval o).runT P w #[]=(.ok (.enter f1 #[.agg #[s]]) w, #[]):=λw=>by
   have e2:(callMethod (a.eval x) name #[]).runT P w #[]=(.ok (.enter f1 #[.agg #[s]]) w, #[]):=by
    rw [e1];exact h1 _ _
   simp_all [execOp,resolve,invoke]
  refine AN hnd hrun λv1 hrel=>?_;have h3':rd S v1 (.slice t) l [s]:=dS (λ_ h=>h) (fG hd hO.sees hrel) (.slice t) h3;refine(hr1 l e0 .normal (λe=>nomatch e) S v1 [.agg #[s]] (λb hb=>Nat.lt_of_lt_of_le (hd b hb) hrel.size) ⟨_,_,rfl,⟨[s],h3',rfl⟩,rfl⟩ (hO.rely hd hrel)).mono ?_;rintro e w' ⟨x,S',v,rfl,h1,h2,h3,h4⟩;exact k x S' w' v ((bD.rely hd hrel).trans h1 λb hb=>.inl hb) h2 h3 λb hb=>(h4 b hb).imp id (Nat.le_trans hrel.size)
theorem cz.agI{f:Nat}{n:Int}{Δ:List D}{X:Type}{R:X->A×List D}(h:dG P f [.rep (.agg (.int .i64)) n] Δ R):cz M f [.agg (.eq (.int .i64 n))] Δ R:=λkk he S w vs hd h2 ho=>h M kk he S w vs hd (by
 obtain⟨v,vs',e,⟨cs,⟨g1,_⟩,g2⟩,h3⟩:=h2
 exact⟨v,vs',e,⟨cs,g1,g2⟩,h3⟩) ho
theorem cz.agS{f:Nat}{l:List t.den}{Δ:List D}{X:Type}{R:X->A×List D}(h:dG P f [.rep (.agg (.slice t)) l] Δ R):cz M f [.agg (.rep (.slice t) l)] Δ R:=λkk he S w vs hd h2 ho=>h M kk he S w vs hd (by
 obtain⟨v,vs',e,⟨cs,g1,g2⟩,h3⟩:=h2
 exact⟨v,vs',e,⟨cs,g1,g2⟩,h3⟩) ho
end
end K
